import PyProof.Rows.All
import Wide.All
import OpenK.AllK
import Wide.FinOn
import HandS.ForMost
import HandS.Zip
import HandS.IsInst
import HandS.TryOnly
import HandS.ExcOwn
import HandS.WordsExc
import HandS.CallSlots
import HandS.ExcIs
import HandS.Wide
import HandS.TupAny
import HandS.TupMul
import HandS.Style
import HandS.Conv
import HandS.TupLe
import HandS.SortOrd
import HandS.SortRule
import HandS.TupSets
import PyProof.Rows.IntBool
import HandS.SortKw
import KE.SortKeyHeap
import KE.KMinBuiltin
import HandS.HeadHook1
import HandS.Defaults
import HandS.HeadHook4
import HandS.HeadEnd
import HandS.Head2
import HandS.Codes
import HandS.Head0
import HandS.Head1
import PySem.Challenge.RW_badbytes_k14_reading
set_option Elab.async false
set_option linter.all false
set_option maxRecDepth 100000
/-! Pu, part 1: a small language of pure Python over trees of data, and its evaluator. -/
namespace Pu
open PySem PySem.Spec PyProof.Rows

/-- data: a tree -/
abbrev D := PyData
/-- an answer: a value, an exception of the own class c, or nothing said -/
inductive Rs (α : Type) where
  | ok (a : α) | exc (c : Nat) | bad
def Rs.bd {α β : Type} (r : Rs α) (f : α → Rs β) : Rs β := match r with
  | .ok a => f a
  | .exc c => .exc c
  | .bad => .bad
@[simp] theorem bdk {α β : Type} {a : α} {f : α → Rs β} : (Rs.ok a).bd f = f a := rfl
@[simp] theorem bdx {α β : Type} {c : Nat} {f : α → Rs β} : (Rs.exc c : Rs α).bd f = .exc c := rfl
@[simp] theorem bdb {α β : Type} {f : α → Rs β} : (Rs.bad : Rs α).bd f = .bad := rfl
/-- no value has more items -/
def cap : Nat := 16777216
inductive Op2 where
  | add | sub | mul | fdiv | mod | pow
inductive Cm where
  | eq | ne | lt | le | gt | ge | is_ | isnot | in_ | notin
inductive Ty where
  | int | bool | str | tuple | list
  deriving DecidableEq
/-- built-in functions of one argument -/
inductive Bl where
  | len | all | any | min | max | sum | tuple | list | sorted
  deriving DecidableEq
inductive Bl2 where
  | min | max
  deriving DecidableEq
inductive Mt where
  | index
  deriving DecidableEq
/-- targets of a for: a name, a tuple of names -/
inductive Tg where
  | name (i : Nat) | tup (is : List Nat)
mutual
inductive Ex where
  | non | bl (b : Bool) | int (i : Int) | str (s : Str)
  | var (i : Nat) | own (i : Nat) | glob (k : Nat)
  | tup (es : Exs) | lst (es : Exs)
  | op (o : Op2) (a b : Ex) | neg (a : Ex)
  | cmp (c : Cm) (a b : Ex) | chain (c d : Cm) (a b e : Ex)
  | and (a b : Ex) | or (a b : Ex) | not (a : Ex)
  | ite (c a b : Ex)
  | call (f : Nat) (es : Exs)
  | bi (b : Bl) (a : Ex) | bi2 (b : Bl2) (a c : Ex)
  | isa (a : Ex) (t : Ty) | isx (i c : Nat)
  | idx (a i : Ex) | slc (a : Ex) (lo hi : Eo)
  | comp (elt : Ex) (tg : Tg) (it : Itr) (cond : Eo)
  | comp2 (elt : Ex) (tg : Tg) (it : Itr) (tg1 : Tg) (it1 : Itr)
  | lrange (a b : Ex)
  | mth (m : Mt) (a b : Ex)
  | lrep (es : Exs) (n : Ex) | rev (a : Ex)
  | callv (gs : List Nat) (i : Nat) (es : Exs)
  | sortLen (a : Ex)
  | minLen (a : Ex)
  | fld (i f : Nat)
inductive Exs where
  | nil | cons (e : Ex) (es : Exs)
inductive Eo where
  | no | one (e : Ex)
inductive Itr where
  | seq (e : Ex) | range1 (e : Ex) | range2 (a b : Ex) | enum (e : Ex) | zip (a b : Ex)
end
/-- a parallel assignment's parts: the place, is it a new list of one's own, the expression -/
inductive Ps where
  | nil | cons (i : Nat) (o : Bool) (e : Ex) (r : Ps)
  /-- a new object of the class c, by its __init__ m -/
  | mk (i c m : Nat) (es : Exs) (r : Ps)
/-- expressions in which objects may change -/
inductive Xe where
  | pur (e : Ex)
  /-- the object in slot i, its method m -/
  | meth (i c m : Nat) (es : Exs)
  /-- the object in slot i, its method m gives a new object, of which the method n is called -/
  | meth2 (i c m n : Nat) (es : Exs)
  /-- a def f whose argument at p is the object in slot i -/
  | callo (f p i : Nat) (es : Exs)
  | op (o : Op2) (a b : Xe) | cmp (c : Cm) (a b : Xe) | and (a b : Xe) | or (a b : Xe) | not (a : Xe) | bi (b : Bl) (a : Xe)
  | nil | cons (a r : Xe) | lst (a : Xe)
/-- targets of a parallel assignment: a name, an attribute -/
inductive Tx1 where
  | sl (i : Nat) | at_ (i f : Nat)
/-- statements in which objects may change -/
inductive Xs where
  | set (i : Nat) (e : Xe) | ret (e : Xe) | reto (i : Nat) | ex (e : Xe)
  | fset (i f : Nat) (e : Ex) | px (ts : List Tx1) (es : Exs)
  | mk (i c m : Nat) (es : Exs) | mkx (c m : Nat) (es : Exs) | cpy (i j c m : Nat)
mutual
inductive S where
  | set (i : Nat) (e : Ex) | seto (i : Nat) (e : Ex)
  | par (ps : Ps) | unp (is : List Nat) (e : Ex)
  | app (i : Nat) (e : Ex) | ext (i : Nat) (e : Ex)
  | ex (e : Ex) | ret (e : Ex) | ret0
  | ite (c : Ex) (a b : Ss)
  | for_ (tg : Tg) (it : Itr) (b : Ss) | while_ (c : Ex) (b : Ss)
  | raise (c : Nat) | try_ (b : Ss) (c : Nat) (sl : Option Nat) (h : Ss)
  | brk | cont | pass | frz (i : Nat)
  | xs (x : Xs) | xite (c : Xe) (a b : Ss)
inductive Ss where
  | nil | cons (s : S) (ss : Ss)
end

/-! ### the operators over data -/
def lexLt := HT.lexLt
def intsOf : List D → Option (List Int)
  | [] => some []
  | .int i :: r => (intsOf r).map (i :: ·)
  | _ :: _ => none
def blsOf : List D → Option (List Bool)
  | [] => some []
  | .bool i :: r => (blsOf r).map (i :: ·)
  | _ :: _ => none
def op2 : Op2 → D → D → Rs D
  | .add, .int i, .int j => .ok (.int (i + j))
  | .add, .tuple a, .tuple b => if a.length + b.length ≤ cap then .ok (.tuple (a ++ b)) else .bad
  | .add, .list a, .list b => if a.length + b.length ≤ cap then .ok (.list (a ++ b)) else .bad
  | .sub, .int i, .int j => .ok (.int (i - j))
  | .mul, .int i, .int j => if (-(2 ^ 64) < i ∧ i < 2 ^ 64) ∨ (-(2 ^ 64) < j ∧ j < 2 ^ 64) then .ok (.int (i * j)) else .bad
  | .mul, .int i, .bool b => .ok (.int (i * if b = true then (1 : Int) else 0))
  | .mul, .tuple a, .int k => if a ≠ [] ∧ 0 ≤ k ∧ k ≤ 1000 ∧ a.length ≤ 1000 then .ok (.tuple (List.replicate k.toNat a).flatten) else .bad
  | .fdiv, .int i, .int j => if 0 < j ∧ j.natAbs.log2 < 9000 then .ok (.int (i / j)) else .bad
  | .mod, .int i, .int j => if 0 < j then .ok (.int (i % j)) else .bad
  | .pow, .int i, .int j => if 0 ≤ j ∧ j ≤ 1000000 ∧ i.natAbs < 2 ^ 64 then .ok (.int (i ^ j.toNat)) else .bad
  | _, _, _ => .bad
def flatD : D → Bool
  | .none | .bool _ | .int _ | .str _ => true
  | _ => false
def inD (x : D) (ds : List D) : Bool := ds.any fun y => PyData.eqv y x
def isD : D → D → Option Bool
  | .none, .none => some true
  | .none, _ => none
  | .bool a, .bool b => some (decide (a = b))
  | _, .none => some false
  | _, _ => none
def itemsD : D → Option (List D)
  | .tuple a | .list a => some a
  | _ => none
/-- data of a small depth, without a dict: may be compared -/
def okD : Nat → D → Bool
  | 0, _ => false
  | n + 1, d => match d with
    | .none | .bool _ | .int _ => true
    | .str x => PyData.canLay0 (.str x)
    | .list xs | .tuple xs => xs.all (okD n)
    | .dict _ => false
def cmpD : Cm → D → D → Option Bool
  | .eq, a, b => if okD 8 a = true ∧ okD 8 b = true then some (PyData.eqv a b) else none
  | .ne, a, b => if okD 8 a = true ∧ okD 8 b = true then some (!PyData.eqv a b) else none
  | .lt, .int i, .int j => some (decide (i < j))
  | .lt, .tuple a, .tuple b => match intsOf a, intsOf b with
    | some x, some y => some (lexLt x y)
    | _, _ => none
  | .le, .int i, .int j => some (decide (i ≤ j))
  | .gt, .int i, .int j => some (decide (j < i))
  | .ge, .int i, .int j => some (decide (j ≤ i))
  | .is_, a, b => isD a b
  | .isnot, a, b => (isD a b).map (!·)
  | .in_, a, b => match itemsD b with
    | some ds => if flatD a ∧ ds.all flatD then some (inD a ds) else none
    | none => none
  | .notin, a, b => match itemsD b with
    | some ds => if flatD a ∧ ds.all flatD then some (!inD a ds) else none
    | none => none
  | _, _, _ => none
def Rs.of {α : Type} (o : Option α) : Rs α := match o with
  | some a => .ok a
  | none => .bad
@[simp] theorem ofs {α : Type} {a : α} : Rs.of (some a) = .ok a := rfl
@[simp] theorem ofn {α : Type} : Rs.of (none : Option α) = .bad := rfl
def minI : List Int → Int
  | [] => 0
  | [x] => x
  | x :: y :: r => if x ≤ minI (y :: r) then x else minI (y :: r)
def maxI : List Int → Int
  | [] => 0
  | [x] => x
  | x :: y :: r => if maxI (y :: r) ≤ x then x else maxI (y :: r)
/-- tuples of whole numbers, in Python's order -/
def insR (x : List Int) : List (List Int) → List (List Int)
  | [] => [x]
  | y :: l => if HT.lexLt y x = true then y :: insR x l else x :: y :: l
def sortR : List (List Int) → List (List Int)
  | [] => []
  | x :: l => insR x (sortR l)
def rowsOf : List D → Option (List (List Int))
  | [] => some []
  | .tuple d :: r => match intsOf d with
    | some n => (rowsOf r).map (n :: ·)
    | none => none
  | _ :: _ => none
def repD (ds : List D) : D → Rs D
  | .int k => if 0 ≤ k ∧ k ≤ 1000 then .ok (.list (List.replicate k.toNat ds).flatten) else .bad
  | _ => .bad
def lenD : D → Nat
  | .tuple a => a.length
  | _ => 0
def isTupD : D → Bool
  | .tuple _ => true
  | _ => false
/-- by length, stably -/
def srtLen (ds : List D) : List D := ds.mergeSort fun a b => decide ((lenD a : Int) ≤ (lenD b : Int))
def sortLenD : D → Rs D
  | .list a => if a.all isTupD = true then .ok (.list (srtLen a)) else .bad
  | _ => .bad
/-- the first of the shortest -/
def minLenL : List D → Option D
  | [] => none
  | x :: r => match minLenL r with
    | none => some x
    | some y => if lenD x ≤ lenD y then some x else some y
def minLenD : D → Rs D
  | .list a => if a.all isTupD = true then Rs.of (minLenL a) else .bad
  | _ => .bad
def revD : D → Rs D
  | .list a => .ok (.list a.reverse)
  | _ => .bad
def biD : Bl → D → Rs D
  | .len, .tuple a | .len, .list a => .ok (.int a.length)
  | .all, .list a => match blsOf a with
    | some b => .ok (.bool (b.all id))
    | none => .bad
  | .any, .list a => match blsOf a with
    | some b => .ok (.bool (b.any id))
    | none => .bad
  | .min, .list a => match intsOf a with
    | some b => if b ≠ [] then .ok (.int (minI b)) else .bad
    | none => .bad
  | .max, .list a => match intsOf a with
    | some b => if b ≠ [] then .ok (.int (maxI b)) else .bad
    | none => .bad
  | .sum, .list a => match intsOf a with
    | some b => .ok (.int b.sum)
    | none => .bad
  | .tuple, .list a | .tuple, .tuple a => .ok (.tuple a)
  | .list, .list a | .list, .tuple a => .ok (.list a)
  | .sorted, .list a => match rowsOf a with
    | some b => if b.all (fun r => !r.isEmpty) = true then .ok (.list ((sortR b).map fun r => .tuple (r.map PyData.int))) else .bad
    | none => .bad
  | _, _ => .bad
def bi2D : Bl2 → D → D → Rs D
  | .min, .int i, .int j => .ok (.int (if j < i then j else i))
  | .max, .int i, .int j => .ok (.int (if i < j then j else i))
  | _, _, _ => .bad
def isaD : Ty → D → Rs D
  | t, .int _ => .ok (.bool (decide (t = .int)))
  | t, .bool _ => .ok (.bool (decide (t = .bool) || decide (t = .int)))
  | t, .str _ => .ok (.bool (decide (t = .str)))
  | t, .tuple _ => .ok (.bool (decide (t = .tuple)))
  | t, .list _ => .ok (.bool (decide (t = .list)))
  | _, .none => .ok (.bool false)
  | _, _ => .bad
def idxD : D → D → Rs D
  | .tuple a, .int i | .list a, .int i => match L2.atI a i with
    | some d => .ok d
    | none => .bad
  | _, _ => .bad
def cutD (xs : List D) (lo hi : Option Int) : List D := (xs.drop (HT.sIx xs.length 0 lo)).take (HT.sIx xs.length xs.length hi - HT.sIx xs.length 0 lo)
def slcD (d : D) (lo hi : Option Int) : Rs D := match d with
  | .tuple a => .ok (.tuple (cutD a lo hi))
  | .list a => .ok (.list (cutD a lo hi))
  | _ => .bad
def rangeL (a b : Int) : List D := (List.range (b - a).toNat).map fun (i : Nat) => .int (a + i)
/-- the place of the first item that is x -/
def findD (x : D) : List D → Option Nat
  | [] => none
  | y :: r => if PyData.eqv y x then some 0 else (findD x r).map (· + 1)
def mthD : Mt → D → D → Rs D
  | .index, .list a, x => if flatD x ∧ a.all flatD then (match findD x a with
      | some k => .ok (.int k)
      | none => .bad) else .bad
  | _, _, _ => .bad
def zipD : List D → List D → List D
  | x :: a, y :: b => .tuple [x, y] :: zipD a b
  | _, _ => []
def enumD : Nat → List D → List D
  | _, [] => []
  | i, x :: r => .tuple [.int i, x] :: enumD (i + 1) r
/-- is the class c one below (or at) b: the class 0 is all the others' base -/
def subC (c b : Nat) : Bool := decide (b = 0) || decide (c = b)

/-! ### the slots of a frame -/
inductive Slot where
  | no | cl (d : D) | ow (ds : List D) | ex (c : Nat)
  /-- an object of the frame's own: its class, its attributes -/
  | ob (c : Nat) (fs : List (Nat × D))
abbrev Env := List Slot
/-- is there a thing of the frame's own? -/
def Slot.holds : Slot → Bool
  | .ow _ | .ob _ _ => true
  | _ => false
/-- an object among the arguments, among the answers -/
def obD (c : Nat) (fs : List (Nat × D)) : D := .dict ((.none, .int c) :: fs.map fun p => (.int p.1, p.2))
def unOb1 : List (D × D) → Option (List (Nat × D))
  | [] => some []
  | (.int (.ofNat i), d) :: r => (unOb1 r).map fun l => (i, d) :: l
  | _ :: _ => none
def unOb : D → Option (Nat × List (Nat × D))
  | .dict ((.none, .int (.ofNat c)) :: r) => (unOb1 r).map fun l => (c, l)
  | _ => none
theorem unOb1_map : ∀ fs : List (Nat × D), unOb1 (fs.map fun p => (PyData.int p.1, p.2)) = some fs
  | [] => rfl
  | (i, d) :: r => by
    rw [List.map_cons]
    unfold unOb1
    rw [unOb1_map r]
    rfl
theorem unOb_ob (c : Nat) (fs : List (Nat × D)) : unOb (obD c fs) = some (c, fs) := by
  unfold unOb obD
  dsimp only
  rw [unOb1_map]
  rfl
theorem unOb1_eq : ∀ {r : List (D × D)} {fs : List (Nat × D)}, unOb1 r = some fs → r = fs.map fun p => (PyData.int p.1, p.2)
  | [], fs, h => by cases h; rfl
  | p :: r, fs, h => by
    unfold unOb1 at h
    split at h
    · rename_i e; cases e
    · rename_i i d r' e
      cases e
      rw [Option.map_eq_some_iff] at h
      obtain ⟨l, h1, h2⟩ := h
      subst h2
      rw [unOb1_eq h1]
      rfl
    · cases h
theorem unOb_eq {d : D} {c : Nat} {fs : List (Nat × D)} (h : unOb d = some (c, fs)) : d = obD c fs := by
  unfold unOb at h
  split at h
  · rw [Option.map_eq_some_iff] at h
    obtain ⟨l, h1, h2⟩ := h
    cases h2
    rw [unOb1_eq h1]
    rfl
  · cases h
/-- an attribute stored -/
def putN (f : Nat) (d : D) : List (Nat × D) → List (Nat × D)
  | [] => [(f, d)]
  | (g, e) :: r => if g = f then (f, d) :: r else (g, e) :: putN f d r
mutual
/-- the same data, by its form -/
def dbeq : D → D → Bool
  | .none, .none => true
  | .bool a, .bool b => a == b
  | .int a, .int b => decide (a = b)
  | .str a, .str b => decide (a = b)
  | .list a, .list b => dbeqs a b
  | .tuple a, .tuple b => dbeqs a b
  | _, _ => false
def dbeqs : List D → List D → Bool
  | [], [] => true
  | a :: r, b :: s => dbeq a b && dbeqs r s
  | _, _ => false
end
def fbeq : List (Nat × D) → List (Nat × D) → Bool
  | [], [] => true
  | (i, a) :: r, (j, b) :: s => decide (i = j) && dbeq a b && fbeq r s
  | _, _ => false
def setAll : List Nat → List D → Env → Env
  | i :: is, d :: ds, ρ => setAll is ds (ρ.set i (.cl d))
  | _, _, ρ => ρ
def bindTg : Tg → D → Env → Option Env
  | .name i, d, ρ => some (ρ.set i (.cl d))
  | .tup is, .tuple ds, ρ => if ds.length = is.length then some (setAll is ds ρ) else none
  | .tup _, _, _ => none
def wipeE : List Nat → Env → Env
  | [], ρ => ρ
  | i :: is, ρ => (wipeE is ρ).set i .no
def wipeOk (is : List Nat) (ρ : Env) : Bool := is.all fun i => match ρ[i]? with
  | some s => !s.holds
  | none => true
def Tg.slots : Tg → List Nat
  | .name i => [i]
  | .tup is => is
/-- a comprehension's turns: none is an item left out -/
def compL (f : D → Rs (Option D)) : List D → Rs (List D)
  | [] => .ok []
  | d :: ds => match f d with
    | .ok o => (match compL f ds with
      | .ok r => .ok (match o with
        | some v => v :: r
        | none => r)
      | _ => .bad)
    | _ => .bad
/-- two for: each turn of the outer one gives a list -/
def compL2 (f : D → Rs (List D)) : List D → Rs (List D)
  | [] => .ok []
  | d :: ds => match f d with
    | .ok a => (match compL2 f ds with
      | .ok r => .ok (a ++ r)
      | _ => .bad)
    | _ => .bad
def blR (r : Rs D) : Rs Bool := match r with
  | .ok (.bool b) => .ok b
  | .exc c => .exc c
  | _ => .bad

def asList : D → Rs (List D)
  | .list ds => .ok ds
  | _ => .bad
/-! ### the evaluator -/
section
variable (C : Nat → D) (G : Nat → List D → Rs D)
mutual
def evE : Ex → Env → Rs D
  | .non, _ => .ok .none
  | .bl b, _ => .ok (.bool b)
  | .int i, _ => .ok (.int i)
  | .str s, _ => .ok (.str s)
  | .var i, ρ => match ρ[i]? with
    | some (.cl d) => .ok d
    | _ => .bad
  | .own i, ρ => match ρ[i]? with
    | some (.ow ds) => .ok (.list ds)
    | _ => .bad
  | .glob k, _ => .ok (C k)
  | .tup es, ρ => (evEs es ρ).bd fun ds => if ds.length ≤ cap then .ok (.tuple ds) else .bad
  | .lst es, ρ => (evEs es ρ).bd fun ds => if ds.length ≤ cap then .ok (.list ds) else .bad
  | .op o a b, ρ => (evE a ρ).bd fun x => (evE b ρ).bd fun y => op2 o x y
  | .neg a, ρ => (evE a ρ).bd fun x => match x with
    | .int i => .ok (.int (-i))
    | _ => .bad
  | .cmp c a b, ρ => (evE a ρ).bd fun x => (evE b ρ).bd fun y => (Rs.of (cmpD c x y)).bd fun r => .ok (.bool r)
  | .chain c d a b e, ρ => (evE a ρ).bd fun x => (evE b ρ).bd fun y => (Rs.of (cmpD c x y)).bd fun r => if r = true then (evE e ρ).bd fun z => (Rs.of (cmpD d y z)).bd fun q => .ok (.bool q) else .ok (.bool false)
  | .and a b, ρ => (blR (evE a ρ)).bd fun r => if r = true then (blR (evE b ρ)).bd fun q => .ok (.bool q) else .ok (.bool false)
  | .or a b, ρ => (blR (evE a ρ)).bd fun r => if r = true then .ok (.bool true) else (blR (evE b ρ)).bd fun q => .ok (.bool q)
  | .not a, ρ => (blR (evE a ρ)).bd fun r => .ok (.bool (!r))
  | .ite c a b, ρ => (blR (evE c ρ)).bd fun r => if r = true then evE a ρ else evE b ρ
  | .call f es, ρ => (evEs es ρ).bd fun ds => G f ds
  | .bi b a, ρ => (evE a ρ).bd fun x => biD b x
  | .bi2 b a c, ρ => (evE a ρ).bd fun x => (evE c ρ).bd fun y => bi2D b x y
  | .isa a t, ρ => (evE a ρ).bd fun x => isaD t x
  | .isx i c, ρ => match ρ[i]? with
    | some (.ex d) => .ok (.bool (subC d c))
    | _ => .bad
  | .idx a i, ρ => (evE a ρ).bd fun x => (evE i ρ).bd fun y => idxD x y
  | .slc a lo hi, ρ => (evE a ρ).bd fun x => (evO lo ρ).bd fun l => (evO hi ρ).bd fun h => slcD x l h
  | .comp elt tg it cond, ρ => (evI it ρ).bd fun ds => if wipeOk tg.slots ρ = true then (compL (fun d => match bindTg tg d (wipeE tg.slots ρ) with
      | none => .bad
      | some ρ1 => (evC cond ρ1).bd fun b => if b = true then (evE elt ρ1).bd fun v => .ok (some v) else .ok none) ds).bd fun r => .ok (.list r) else .bad
  | .comp2 elt tg it tg1 it1, ρ => (evI it ρ).bd fun ds => if wipeOk (tg.slots ++ tg1.slots) ρ = true then (compL2 (fun d => match bindTg tg d (wipeE (tg.slots ++ tg1.slots) ρ) with
      | none => .bad
      | some ρ1 => (evI it1 ρ1).bd fun ds1 => compL (fun d1 => match bindTg tg1 d1 (wipeE tg1.slots ρ1) with
        | none => .bad
        | some ρ2 => (evE elt ρ2).bd fun v => .ok (some v)) ds1) ds).bd fun r => if r.length ≤ cap then .ok (.list r) else .bad
      else .bad
  | .lrange a b, ρ => (evE a ρ).bd fun x => (evE b ρ).bd fun y => match x, y with
    | .int i, .int j => if 0 ≤ i ∧ i ≤ 1000000 ∧ 0 ≤ j ∧ j ≤ 1000000 then .ok (.list (rangeL i j)) else .bad
    | _, _ => .bad
  | .mth m a b, ρ => (evE a ρ).bd fun x => match x with
    | .list ds => (evE b ρ).bd fun y => mthD m (.list ds) y
    | _ => .bad
  | .lrep es n, ρ => (evEs es ρ).bd fun ds => if ds.length ≤ 1000 then (evE n ρ).bd (repD ds) else .bad
  | .rev a, ρ => (evE a ρ).bd revD
  | .sortLen a, ρ => (evE a ρ).bd sortLenD
  | .minLen a, ρ => (evE a ρ).bd minLenD
  | .fld i f, ρ => match ρ[i]? with
    | some (.ob _ fs) => Rs.of (fs.lookup f)
    | _ => .bad
  | .callv gs i es, ρ => match ρ[i]? with
    | some (.cl (.int n)) => if 0 ≤ n then (match gs[n.toNat]? with
      | some f => (evEs es ρ).bd fun ds => G f ds
      | none => .bad) else .bad
    | _ => .bad
def evEs : Exs → Env → Rs (List D)
  | .nil, _ => .ok []
  | .cons e es, ρ => (evE e ρ).bd fun d => (evEs es ρ).bd fun ds => .ok (d :: ds)
/-- a part of a slice -/
def evO : Eo → Env → Rs (Option Int)
  | .no, _ => .ok none
  | .one e, ρ => (evE e ρ).bd fun d => match d with
    | .int i => .ok (some i)
    | _ => .bad
/-- a condition of a comprehension -/
def evC : Eo → Env → Rs Bool
  | .no, _ => .ok true
  | .one e, ρ => blR (evE e ρ)
/-- what a for walks -/
def evI : Itr → Env → Rs (List D)
  | .seq e, ρ => (evE e ρ).bd fun d => match itemsD d with
    | some ds => .ok ds
    | none => .bad
  | .range1 e, ρ => (evE e ρ).bd fun d => match d with
    | .int i => if -(2 ^ 62) ≤ i ∧ i ≤ 1000000 then .ok (rangeL 0 i) else .bad
    | _ => .bad
  | .range2 a b, ρ => (evE a ρ).bd fun x => (evE b ρ).bd fun y => match x, y with
    | .int i, .int j => if -(2 ^ 62) ≤ i ∧ i < 2 ^ 62 ∧ -(2 ^ 62) ≤ j ∧ j < 2 ^ 62 ∧ j - i ≤ 1000000 then .ok (rangeL i j) else .bad
    | _, _ => .bad
  | .enum e, ρ => (evE e ρ).bd fun d => match d with
    | .list ds => .ok (enumD 0 ds)
    | _ => .bad
  | .zip a b, ρ => (evE a ρ).bd fun x => (evE b ρ).bd fun y => match x, y with
    | .list u, .list v => .ok (zipD u v)
    | .tuple u, .tuple v => .ok (zipD u v)
    | _, _ => .bad
end
/-- how a statement ends -/
inductive Out where
  | next (ρ : Env) | ret (d : D) | brk (ρ : Env) | cont (ρ : Env) | exc (c : Nat) (ρ : Env) | bad
  /-- as ret, with what the slots then hold -/
  | retm (d : D) (ρ : Env)
def Out.seq (o : Out) (f : Env → Out) : Out := match o with
  | .next ρ => f ρ
  | o => o
def Rs.out {α : Type} (r : Rs α) (ρ : Env) (f : α → Out) : Out := match r with
  | .ok a => f a
  | .exc c => .exc c ρ
  | .bad => .bad
@[simp] theorem seqn {ρ : Env} {f : Env → Out} : (Out.next ρ).seq f = f ρ := rfl
@[simp] theorem seqr {d : D} {f : Env → Out} : (Out.ret d).seq f = .ret d := rfl
@[simp] theorem seqx {c : Nat} {ρ : Env} {f : Env → Out} : (Out.exc c ρ).seq f = .exc c ρ := rfl
@[simp] theorem seqb {ρ : Env} {f : Env → Out} : (Out.brk ρ).seq f = .brk ρ := rfl
@[simp] theorem seqc {ρ : Env} {f : Env → Out} : (Out.cont ρ).seq f = .cont ρ := rfl
@[simp] theorem seqm {d : D} {ρ : Env} {f : Env → Out} : (Out.retm d ρ).seq f = .retm d ρ := rfl
@[simp] theorem seqz {f : Env → Out} : Out.bad.seq f = .bad := rfl
@[simp] theorem outk {α : Type} {a : α} {ρ : Env} {f : α → Out} : (Rs.ok a).out ρ f = f a := rfl
@[simp] theorem outx {α : Type} {c : Nat} {ρ : Env} {f : α → Out} : (Rs.exc c : Rs α).out ρ f = .exc c ρ := rfl
@[simp] theorem outb {α : Type} {ρ : Env} {f : α → Out} : (Rs.bad : Rs α).out ρ f = .bad := rfl
@[simp] theorem blk {b : Bool} : blR (.ok (.bool b)) = .ok b := rfl
@[simp] theorem blx {c : Nat} : blR (.exc c) = .exc c := rfl
/-- a loop's turn ended -/
def Out.turn (g : Env → Out) : Out → Out
  | .next ρ => g ρ
  | .cont ρ => g ρ
  | .brk ρ => .next ρ
  | o => o
def forL (f : Env → Out) (tg : Tg) : List D → Env → Out
  | [], ρ => .next ρ
  | d :: ds, ρ => match bindTg tg d ρ with
    | none => .bad
    | some ρ1 => (f ρ1).turn fun ρ2 => forL f tg ds ρ2
def whileL (c : Env → Rs Bool) (f : Env → Out) : Nat → Env → Out
  | 0, _ => .bad
  | n + 1, ρ => (c ρ).out ρ fun b => if b = true then (f ρ).turn (fun ρ2 => whileL c f n ρ2) else .next ρ
def iteS (a b : Env → Out) (ρ : Env) (r : Bool) : Out := if r = true then a ρ else b ρ
@[simp] theorem iteS_t {a b : Env → Out} {ρ : Env} : iteS a b ρ true = a ρ := rfl
@[simp] theorem iteS_f {a b : Env → Out} {ρ : Env} : iteS a b ρ false = b ρ := rfl
def Ps.slots : Ps → List Nat
  | .nil => []
  | .cons i _ _ r => i :: r.slots
  | .mk i _ _ _ r => i :: r.slots
def noEx (ρ : Env) : Bool := ρ.all fun
  | .ex _ => false
  | _ => true
/-- behind an except suite: the exception is gone -/
def Out.suite (sl : Option Nat) : Out → Out
  | .next ρ => match sl with
    | none => if noEx ρ = true then .next ρ else .bad
    | some i => if noEx (ρ.set i .no) = true then .next (ρ.set i .no) else .bad
  | .ret d => .ret d
  | .retm d ρ => (match sl with
    | none => if noEx ρ = true then .retm d ρ else .bad
    | some i => if noEx (ρ.set i .no) = true then .retm d (ρ.set i .no) else .bad)
  | _ => .bad
/-- what an __init__ leaves -/
def prOb (c : Nat) : D → Rs Slot
  | .tuple [.none, o] => (match unOb o with
    | some (c', fs) => if c' = c ∧ fs.length ≤ 100 then .ok (.ob c fs) else .bad
    | none => .bad)
  | _ => .bad
def prt : Bool → D → Rs Slot
  | false, d => .ok (.cl d)
  | true, .list xs => .ok (.ow xs)
  | true, _ => .bad
def evP : Ps → Env → Rs (List Slot)
  | .nil, _ => .ok []
  | .cons _ o e r, ρ => ((evE C G e ρ).bd (prt o)).bd fun s => (evP r ρ).bd fun ss => .ok (s :: ss)
  | .mk _ c m es r, ρ => ((evEs C G es ρ).bd fun ds => (G m (obD c [] :: ds)).bd (prOb c)).bd fun s => (evP r ρ).bd fun ss => .ok (s :: ss)
def setPs : List Nat → List Slot → Env → Env
  | i :: is, s :: ss, ρ => (setPs is ss ρ).set i s
  | _, _, ρ => ρ
def evB (c : Ex) (ρ : Env) : Rs Bool := blR (evE C G c ρ)
def fuel : Nat := 2000
/-- an answer, with what the slots then hold -/
inductive Rx where
  | ok (d : D) (ρ : Env) | exc (c : Nat) (ρ : Env) | bad
def Rx.bd (r : Rx) (f : D → Env → Rx) : Rx := match r with
  | .ok d ρ => f d ρ
  | .exc c ρ => .exc c ρ
  | .bad => .bad
def Rs.rx (r : Rs D) (ρ : Env) : Rx := match r with
  | .ok d => .ok d ρ
  | .exc c => .exc c ρ
  | .bad => .bad
def Rx.out (r : Rx) (f : D → Env → Out) : Out := match r with
  | .ok d ρ => f d ρ
  | .exc c ρ => .exc c ρ
  | .bad => .bad
@[simp] theorem rxk {d : D} {ρ : Env} {f : D → Env → Rx} : (Rx.ok d ρ).bd f = f d ρ := rfl
@[simp] theorem rxx {c : Nat} {ρ : Env} {f : D → Env → Rx} : (Rx.exc c ρ).bd f = .exc c ρ := rfl
@[simp] theorem rxb {f : D → Env → Rx} : Rx.bad.bd f = .bad := rfl
@[simp] theorem srk {d : D} {ρ : Env} : (Rs.ok d).rx ρ = .ok d ρ := rfl
@[simp] theorem srx {c : Nat} {ρ : Env} : (Rs.exc c : Rs D).rx ρ = .exc c ρ := rfl
@[simp] theorem srb {ρ : Env} : (Rs.bad : Rs D).rx ρ = .bad := rfl
@[simp] theorem rok {d : D} {ρ : Env} {f : D → Env → Out} : (Rx.ok d ρ).out f = f d ρ := rfl
@[simp] theorem rox {c : Nat} {ρ : Env} {f : D → Env → Out} : (Rx.exc c ρ).out f = .exc c ρ := rfl
@[simp] theorem rob {f : D → Env → Out} : Rx.bad.out f = .bad := rfl
/-- a method's answer: what it gives, the object behind it -/
def prM (ρ : Env) (i c : Nat) : Rs D → Rx
  | .ok (.tuple [.dict _, _]) => .bad
  | .ok (.tuple [d, o]) => (match unOb o with
    | some (c', fs) => if c' = c ∧ fs.length ≤ 100 then .ok d (ρ.set i (.ob c fs)) else .bad
    | none => .bad)
  | .exc x => .exc x ρ
  | _ => .bad
/-- a method's answer that is a new object of its class: its attributes, those of the object behind it -/
def prN (c : Nat) : Rs D → Rs (List (Nat × D) × List (Nat × D))
  | .ok (.tuple [d, o]) => (match unOb d, unOb o with
    | some (c1, fs1), some (c2, fs2) => if c1 = c ∧ c2 = c ∧ fs1.length ≤ 100 ∧ fs2.length ≤ 100 then .ok (fs1, fs2) else .bad
    | _, _ => .bad)
  | .exc x => .exc x
  | _ => .bad
def insAt {α : Type} : Nat → α → List α → List α
  | 0, x, l => x :: l
  | _ + 1, x, [] => [x]
  | n + 1, x, y :: l => y :: insAt n x l
def blX (r : Rx) (f : Bool → Env → Rx) : Rx := match r with
  | .ok (.bool b) ρ => f b ρ
  | .exc c ρ => .exc c ρ
  | _ => .bad
def consX : D → D → Rs D
  | d, .list ds => .ok (.list (d :: ds))
  | _, _ => .bad
def lstX : D → Rs D
  | .list ds => if ds.length ≤ cap then .ok (.list ds) else .bad
  | _ => .bad
def evX : Xe → Env → Rx
  | .pur e, ρ => (evE C G e ρ).rx ρ
  | .meth i c m es, ρ => match ρ[i]? with
    | some (.ob c' fs) => if c' = c then (match evEs C G es ρ with
      | .ok ds => prM ρ i c (G m (obD c fs :: ds))
      | .exc x => .exc x ρ
      | .bad => .bad) else .bad
    | _ => .bad
  | .meth2 i c m n es, ρ => match ρ[i]? with
    | some (.ob c' fs) => if c' = c then (match prN c (G m [obD c fs]) with
      | .ok (fs1, fs2) => (match evEs C G es (ρ.set i (.ob c fs2)) with
        | .ok ds => (match G n (obD c fs1 :: ds) with
          | .ok (.tuple [.dict _, _]) => .bad
          | .ok (.tuple [d, o]) => (match unOb o with
            | some (c3, fs3) => if c3 = c ∧ fs3.length ≤ 100 then .ok d (ρ.set i (.ob c fs2)) else .bad
            | none => .bad)
          | .exc x => .exc x (ρ.set i (.ob c fs2))
          | _ => .bad)
        | .exc x => .exc x (ρ.set i (.ob c fs2))
        | .bad => .bad)
      | .exc x => .exc x ρ
      | .bad => .bad) else .bad
    | _ => .bad
  | .callo f p i es, ρ => match ρ[i]? with
    | some (.ob c fs) => (match evEs C G es ρ with
      | .ok ds => prM ρ i c (G f (insAt p (obD c fs) ds))
      | .exc x => .exc x ρ
      | .bad => .bad)
    | _ => .bad
  | .op o a b, ρ => (evX a ρ).bd fun x ρ1 => (evX b ρ1).bd fun y ρ2 => (op2 o x y).rx ρ2
  | .cmp c a b, ρ => (evX a ρ).bd fun x ρ1 => (evX b ρ1).bd fun y ρ2 => ((Rs.of (cmpD c x y)).bd fun r => .ok (.bool r)).rx ρ2
  | .and a b, ρ => blX (evX a ρ) fun r ρ1 => if r = true then blX (evX b ρ1) fun q ρ2 => .ok (.bool q) ρ2 else .ok (.bool false) ρ1
  | .or a b, ρ => blX (evX a ρ) fun r ρ1 => if r = true then .ok (.bool true) ρ1 else blX (evX b ρ1) fun q ρ2 => .ok (.bool q) ρ2
  | .not a, ρ => blX (evX a ρ) fun r ρ1 => .ok (.bool (!r)) ρ1
  | .bi b a, ρ => (evX a ρ).bd fun x ρ1 => (biD b x).rx ρ1
  | .nil, ρ => .ok (.list []) ρ
  | .cons a r, ρ => (evX a ρ).bd fun d ρ1 => (evX r ρ1).bd fun l ρ2 => (consX d l).rx ρ2
  | .lst a, ρ => (evX a ρ).bd fun l ρ1 => (lstX l).rx ρ1
def setTs : List Tx1 → List D → Env → Option Env
  | [], [], ρ => some ρ
  | .sl i :: ts, d :: ds, ρ => setTs ts ds (ρ.set i (.cl d))
  | .at_ i f :: ts, d :: ds, ρ => match ρ[i]? with
    | some (.ob c fs) => if fs.length < 100 then setTs ts ds (ρ.set i (.ob c (putN f d fs))) else none
    | _ => none
  | _, _, _ => none
def evXs : Xs → Env → Out
  | .set i e, ρ => (evX C G e ρ).out fun d ρ1 => .next (ρ1.set i (.cl d))
  | .ret e, ρ => (evX C G e ρ).out fun d ρ1 => .retm d ρ1
  | .reto i, ρ => match ρ[i]? with
    | some (.ob c fs) => .retm (obD c fs) (ρ.set i .no)
    | _ => .bad
  | .ex e, ρ => (evX C G e ρ).out fun _ ρ1 => .next ρ1
  | .fset i f e, ρ => (evE C G e ρ).out ρ fun d => match ρ[i]? with
    | some (.ob c fs) => if fs.length < 100 then .next (ρ.set i (.ob c (putN f d fs))) else .bad
    | _ => .bad
  | .px ts es, ρ => (evEs C G es ρ).out ρ fun ds => match setTs ts ds ρ with
    | some ρ1 => .next ρ1
    | none => .bad
  | .mk i c m es, ρ => ((evEs C G es ρ).bd fun ds => (G m (obD c [] :: ds)).bd (prOb c)).out ρ fun s => .next (ρ.set i s)
  | .mkx c m es, ρ => ((evEs C G es ρ).bd fun ds => (G m (obD c [] :: ds)).bd (prOb c)).out ρ fun _ => .next ρ
  | .cpy i j c m, ρ => match ρ[j]? with
    | some (.ob c' fs) => if c' = c then (match prN c (G m [obD c fs]) with
      | .ok (fs1, fs2) => .next ((ρ.set j (.ob c fs2)).set i (.ob c fs1))
      | .exc x => .exc x ρ
      | .bad => .bad) else .bad
    | _ => .bad
def iteX (a b : Env → Out) (d : D) (ρ : Env) : Out := match d with
  | .bool true => a ρ
  | .bool false => b ρ
  | _ => .bad
mutual
def evS : S → Env → Out
  | .set i e, ρ => (evE C G e ρ).out ρ fun d => .next (ρ.set i (.cl d))
  | .seto i e, ρ => ((evE C G e ρ).bd asList).out ρ fun ds => .next (ρ.set i (.ow ds))
  | .par ps, ρ => (evP C G ps ρ).out ρ fun ss => .next (setPs ps.slots ss ρ)
  | .unp is e, ρ => (evE C G e ρ).out ρ fun d => match bindTg (.tup is) d ρ with
    | some ρ1 => .next ρ1
    | none => .bad
  | .app i e, ρ => match ρ[i]? with
    | some (.ow ds) => (evE C G e ρ).out ρ fun d => if ds.length < cap then .next (ρ.set i (.ow (ds ++ [d]))) else .bad
    | _ => .bad
  | .ext i e, ρ => match ρ[i]? with
    | some (.ow ds) => ((evE C G e ρ).bd asList).out ρ fun xs => if ds.length + xs.length ≤ cap then .next (ρ.set i (.ow (ds ++ xs))) else .bad
    | _ => .bad
  | .ex e, ρ => (evE C G e ρ).out ρ fun _ => .next ρ
  | .ret e, ρ => (evE C G e ρ).out ρ fun d => .ret d
  | .ret0, _ => .ret .none
  | .ite c a b, ρ => (blR (evE C G c ρ)).out ρ (iteS (evSs a) (evSs b) ρ)
  | .for_ tg it b, ρ => (evI C G it ρ).out ρ fun ds => forL (evSs b) tg ds ρ
  | .while_ c b, ρ => whileL (evB C G c) (evSs b) fuel ρ
  | .raise c, ρ => .exc c ρ
  | .try_ b c sl h, ρ => match evSs b ρ with
    | .exc d ρ1 => if subC d c = true then (match sl with
        | none => (evSs h ρ1).suite none
        | some i => (evSs h (ρ1.set i (.ex d))).suite (some i)) else .exc d ρ1
    | o => o
  | .brk, ρ => .brk ρ
  | .cont, ρ => .cont ρ
  | .pass, ρ => .next ρ
  | .frz i, ρ => match ρ[i]? with
    | some (.ow ds) => .next (ρ.set i (.cl (.list ds)))
    | _ => .bad
  | .xs x, ρ => evXs C G x ρ
  | .xite c a b, ρ => (evX C G c ρ).out (iteX (evSs a) (evSs b))
def evSs : Ss → Env → Out
  | .nil, ρ => .next ρ
  | .cons s ss, ρ => (evS s ρ).seq (evSs ss)
end
def noDict : D → Rs D
  | .dict _ => .bad
  | d => .ok d
/-- a def: n names, its body -/
def evD (n : Nat) (b : Ss) (args : List D) : Rs D := match evSs C G b (args.map Slot.cl ++ List.replicate (n - args.length) Slot.no) with
  | .next _ => .ok .none
  | .ret d => .ok d
  | .retm d _ => noDict d
  | .exc c _ => .exc c
  | _ => .bad
/-- behind a def with an object at p -/
def endO (p : Nat) (d : D) (ρ : Env) : Rs D := match ρ[p]? with
  | some (.ob c fs) => .ok (.tuple [d, obD c fs])
  | _ => .bad
def excO (p c : Nat) (fs : List (Nat × D)) (x : Nat) (ρ : Env) : Rs D := match ρ[p]? with
  | some (.ob c' fs') => if c' = c ∧ fbeq fs' fs = true then .exc x else .bad
  | _ => .bad
/-- a def with an object at p among its arguments -/
def evDo (n p : Nat) (b : Ss) (pre : List D) (c : Nat) (fs : List (Nat × D)) (post : List D) : Rs D := match evSs C G b (pre.map Slot.cl ++ Slot.ob c fs :: post.map Slot.cl ++ List.replicate (n - (pre.length + (post.length + 1))) Slot.no) with
  | .next ρ => endO p .none ρ
  | .retm d ρ => endO p d ρ
  | .exc x ρ => excO p c fs x ρ
  | _ => .bad
end
end Pu

set_option maxHeartbeats 4000000
/-! Pu, part 2: operators of the machine that the hand layer serves in part: tuple * 0 and 1, list + list of any kind. -/
namespace L2
open PySem PySem.Spec PyProof.Rows
theorem tuple_mulS (l : Addr) (items : Array Value) (n : Nat) (dd : Option Addr) (sl : Array (Option Value)) (u : Tok) :
    Meets (Builtin.«tuple.__mul__» ⟨[.ref l, .int 1 u], []⟩) (fun _ R s => s.heap.get? l = some { cls := .type "tuple", dict := dd, data := .seq items n, slots := sl } ∧ R (.ok (.ret (Value.ref l))) s) :=
  .of_wp fun prog w A R s h => by
    obtain ⟨hp, g, d, tk, os⟩ := s
    obtain ⟨hl, h⟩ := h
    have f1 := AutoSeq1.idx_int
    have c0 : (decide ((1 : Int) < -(2 ^ 63)) || decide ((1 : Int) ≥ 2 ^ 63)) = false := by decide
    have c1 : (items.isEmpty || (1 : Int) == 1) = true := by simp
    wp_walk using wpAny_loadPart' hl
    repeat (first
      | (refine wpAny_ite_false (decide_eq_false (by rw [c0]; exact Bool.false_ne_true)) ?_; wp_walk using wpAny_loadPart' hl)
      | (refine wpAny_ite_true (decide_eq_true (by rw [c1])) ?_; wp_walk using wpAny_loadPart' hl))
    exact ⟨_, rfl, h⟩
theorem tuple_mulN (l : Addr) (items : Array Value) (n : Nat) (dd : Option Addr) (sl : Array (Option Value)) (x : Int) (u : Tok) (c0 : (decide (x < -(2 ^ 63)) || decide (x ≥ 2 ^ 63)) = false) (c1 : (items.isEmpty || x == 1) = false) (c2 : (decide (x ≤ 0) || items.isEmpty) = true) :
    Meets (Builtin.«tuple.__mul__» ⟨[.ref l, .int x u], []⟩) (fun _ R s => s.heap.get? l = some { cls := .type "tuple", dict := dd, data := .seq items n, slots := sl } ∧
      R (.ok (.ret (Value.ref s.heap.objs.size))) { s with heap := s.heap.push { cls := Value.type "tuple", data := Data.seq #[] }, toks := s.toks }) :=
  .of_wp fun prog w A R s h => by
    obtain ⟨hp, g, d, tk, os⟩ := s
    obtain ⟨hl, h⟩ := h
    have f1 := AutoSeq1.idx_int
    wp_walk using wpAny_loadPart' hl
    repeat (first
      | (refine wpAny_ite_false (decide_eq_false (by rw [c0]; exact Bool.false_ne_true)) ?_; wp_walk using wpAny_loadPart' hl)
      | (refine wpAny_ite_false (decide_eq_false (by rw [c1]; exact Bool.false_ne_true)) ?_; wp_walk using wpAny_loadPart' hl)
      | (refine wpAny_ite_true (decide_eq_true (by rw [c2])) ?_; wp_walk using wpAny_loadPart' hl))
    exact ⟨_, rfl, h⟩
/-- tuple * k: k = 1 is the tuple itself, k = 0 a new empty one -/
def rRepA (K : PySem.W.Frag) : R2 := fun x y H Q => ∃ l k xs, x = .ref l ∧ y = .int k ∧ SqT K H l xs ∧ xs ≠ [] ∧ 0 ≤ k ∧ k ≤ 1000 ∧ xs.length ≤ 1000 ∧ (k = 1 → Q (.ref l) H) ∧
  (k ≠ 1 → ∀ p, H p = none → Q (.ref p) (upd H p (.tup (List.replicate k.toNat xs).flatten)))
section
variable {X : Cx}
theorem op_repA : OpR X (binaryOp .Mult) (rRepA X.K) := by
  intro pins s σ H x y v u Q I rx ry h
  obtain ⟨l, k, xs, ex, ey, hT, hne, h1, h2, hz, q1, q2⟩ := h
  by_cases k2 : 2 ≤ k
  · exact op_repT pins s σ H x y v u Q I rx ry ⟨l, k, xs, ex, ey, hT, hne, k2, h2, hz, q2 (by omega)⟩
  subst ex ey
  cases rx
  obtain ⟨t, rfl⟩ := ry
  obtain ⟨its, r, ⟨⟨cls, dd, data, sl⟩, ho, hc, n, hd⟩, hs⟩ := I.tuple hT
  simp only at hc hd
  subst hc hd
  have hle : its.length = xs.length := r.length.symm
  have hn : its ≠ [] := fun e => hne (by
    rw [e] at hle
    exact List.eq_nil_of_length_eq_zero hle.symm)
  have hi : its.toArray.isEmpty = false := by
    cases its with
    | nil => exact absurd rfl hn
    | cons a b => rfl
  by_cases k1 : k = 1
  · subst k1
    refine wpAny_binaryOp_repeat_ref (T := "tuple") (U := "int") (by decide) ⟨_, ho, rfl⟩ (fun s' => typeIs_int s' 1 t) noFill_tuple_mul F.fills_int_mul F.slot_int_rmul repeat_tuple F.slot_int_index.lookup
      (call_meets F.slot_int_rmul (typeIs_int s 1 t) F.entry_int_rmul (F.args_int_rmul_2 _ _) (int_rmul_tuple 1 t l its.toArray n dd sl)
        ⟨ho, rfl, ⟨_, ho, rfl⟩, call_meets F.slot_tuple_mul ⟨_, ho, rfl⟩ F.entry_tuple_mul (F.args_tuple_mul_2 _ _) (tuple_mulS l its.toArray n dd sl t) ⟨ho, ?_⟩⟩)
    exact ⟨.ref l, H, I, rfl, q1 rfl⟩
  · have k0 : k = 0 := by omega
    subst k0
    refine wpAny_binaryOp_repeat_ref (T := "tuple") (U := "int") (by decide) ⟨_, ho, rfl⟩ (fun s' => typeIs_int s' 0 t) noFill_tuple_mul F.fills_int_mul F.slot_int_rmul repeat_tuple F.slot_int_index.lookup
      (call_meets F.slot_int_rmul (typeIs_int s 0 t) F.entry_int_rmul (F.args_int_rmul_2 _ _) (int_rmul_tuple 0 t l its.toArray n dd sl)
        ⟨ho, rfl, ⟨_, ho, rfl⟩, call_meets F.slot_tuple_mul ⟨_, ho, rfl⟩ F.entry_tuple_mul (F.args_tuple_mul_2 _ _) (tuple_mulN l its.toArray n dd sl 0 t (by decide) (by rw [hi]; decide) (by simp)) ⟨ho, ?_⟩⟩)
    refine ⟨.ref s.heap.objs.size, _, I.laid (t' := s.toks) (o := .tup (List.replicate (0 : Int).toNat xs).flatten) (fun b ob q => Heap.get?_push_of_some _ q) (Nat.le_refl _) ?_, rfl, q2 k1 _ (I.hok.fresh (Nat.le_refl _))⟩
    exact ⟨by simp, [], .nil, IsTup.new _ _⟩
/-- list + list, of any kind -/
def rCatQ (K : PySem.W.Frag) : R2 := fun x y H Q => ∃ l b xs zs, x = .ref l ∧ y = .ref b ∧ SqL K H l xs ∧ SqL K H b zs ∧ xs.length + zs.length ≤ sizeLine ∧ ∀ p, H p = none → Q (.ref p) (upd H p (.lst (xs ++ zs)))
theorem op_catQ : OpR X (binaryOp .Add) (rCatQ X.K) := by
  intro pins s σ H x y v u Q I rx ry h
  obtain ⟨l, b, xs, zs, rfl, rfl, hH, hB, hz, q⟩ := h
  cases rx
  cases ry
  obtain ⟨its, r, p1, z1⟩ := I.list hH
  obtain ⟨its2, r2, p2, z2⟩ := I.list hB
  have l1 := r.length
  have l2 := r2.length
  obtain ⟨⟨cls, dd, data, sl⟩, ho, hc, n, hd⟩ := p1.isList
  obtain ⟨⟨cls2, dd2, data2, sl2⟩, ho2, hc2, n2, hd2⟩ := p2.isList
  simp only at hc hd hc2 hd2
  subst hc hd hc2 hd2
  have e : its.toArray ++ its2.toArray = (its ++ its2).toArray := by simp
  refine concat_meets ⟨_, ho, rfl⟩ ⟨_, ho2, rfl⟩ noFill_list_add seq_list_add PySem.F.slot_list_add PySem.F.entry_list_add (PySem.F.args_list_add_2 _ _) (list_addW l b its.toArray its2.toArray n n2 dd dd2 sl sl2 (by rw [List.size_toArray, List.size_toArray]; omega)) ⟨ho, ho2, ?_⟩
  rw [e]
  exact ⟨.ref _, _, I.lnew (t' := s.toks) (r.append r2) (by rw [List.length_append]; omega), rfl, q _ I.fresh⟩
end
end L2

set_option maxHeartbeats 4000000
/-! Pu, part 2b: sorted of a list of tuples of ints of any lengths; an int times a truth value. -/
namespace PuSrt
open PySem PySem.Spec PyProof.Rows Srt SrtO
section
variable {prog : Program} {w : World} {A : Around} {E : Value → Shared → Prop} {s : Shared} {Q : Bool → Shared → Prop}
theorem kat_ints {b fin : Bool} {xs ys : List Value} {ns ms : List Int} (i : Nat) (hx : IntsAre xs ns) (hy : IntsAre ys ms) (hf : fin = decide (ns.length < ms.length)) (h : Q (HT.lexLt ns ms) s) : PySem.W.KatLex prog w A b fin Q (xs.zip ys) i s := by
  induction hx generalizing ys ms i with
  | nil =>
    cases hy with
    | nil =>
      subst hf
      exact PySem.W.kat_nil h
    | cons q u hy =>
      subst hf
      exact PySem.W.kat_nil (by simpa [HT.lexLt] using h)
  | @cons p t xs ns hx ih =>
    cases hy with
    | nil =>
      subst hf
      exact PySem.W.kat_nil (by simpa [HT.lexLt] using h)
    | @cons q u ys ms hy =>
      show PySem.W.KatLex prog w A b fin Q ((Value.int p t, Value.int q u) :: xs.zip ys) i s
      refine PySem.W.kat_cons (wpAny_eqBool_int ?_)
      have hf' : fin = decide (ns.length < ms.length) := by
        rw [hf]
        simp
      by_cases e : p = q
      · subst e
        rw [beq_self_eq_true]
        have h' : Q (HT.lexLt ns ms) s := by
          have : HT.lexLt (p :: ns) (p :: ms) = HT.lexLt ns ms := by rw [HT.lexLt_cons, if_pos rfl]
          rwa [this] at h
        refine PySem.W.kat_yes ?_
        exact ih (i + 1) hy hf' h'
      · rw [show (p == q) = false from beq_eq_false_iff_ne.mpr e]
        refine PySem.W.kat_no (TS.oneLt_ints _ ?_)
        have : HT.lexLt (p :: ns) (q :: ms) = decide (p < q) := by rw [HT.lexLt_cons, if_neg e]
        rwa [this] at h
end
theorem lex_asym : ∀ (a b : List Int), HT.lexLt a b = true → HT.lexLt b a = false
  | [], [], h => by cases h
  | [], _ :: _, _ => rfl
  | _ :: _, [], h => by cases h
  | x :: a, y :: b, h => by
    rw [HT.lexLt_cons] at h ⊢
    by_cases e : x = y
    · subst e
      rw [if_pos rfl] at h ⊢
      exact lex_asym a b h
    · rw [if_neg e, decide_eq_true_eq] at h
      rw [if_neg (fun z => e z.symm)]
      exact decide_eq_false (by omega)
theorem lex_tr : ∀ (a b c : List Int), HT.lexLt b a = false → HT.lexLt c b = false → HT.lexLt c a = false
  | a, b, [], h1, h2 => by
    cases b with
    | cons y b => cases h2
    | nil =>
      cases a with
      | nil => rfl
      | cons x a => cases h1
  | [], b, z :: c, h1, h2 => rfl
  | x :: a, [], z :: c, h1, h2 => by cases h1
  | x :: a, y :: b, z :: c, h1, h2 => by
    rw [HT.lexLt_cons] at h1 h2 ⊢
    by_cases e1 : y = x
    · subst e1
      rw [if_pos rfl] at h1
      by_cases e2 : z = y
      · subst e2
        rw [if_pos rfl] at h2 ⊢
        exact lex_tr a b c h1 h2
      · rw [if_neg e2] at h2 ⊢
        exact h2
    · rw [if_neg e1, decide_eq_false_iff_not] at h1
      by_cases e2 : z = y
      · subst e2
        rw [if_neg e1]
        exact decide_eq_false (by omega)
      · rw [if_neg e2, decide_eq_false_iff_not] at h2
        rw [if_neg (by omega)]
        exact decide_eq_false (by omega)
theorem swo_lexL {α : Type} (k : α → List Int) : Swo fun v u => HT.lexLt (k v) (k u) := ⟨fun x y h => lex_asym _ _ h, fun x y z h1 h2 => lex_tr _ _ _ h1 h2⟩
section
variable {prog : Program} {w : World} {A : Around} {E : Value → Shared → Prop} {s : Shared}
theorem tup_cmp {vs : List Value} {k : Value → List Int} (hp : ∀ v ∈ vs, TS.TupInts s.heap v (k v)) : Cmp prog w A s (tuples' true) (fun p => p.1 ∈ vs) (lt2 fun v u => HT.lexLt (k v) (k u)) := by
  intro p q hm hm'
  have h1 := hp _ hm
  have h2 := hp _ hm'
  show wpAny (model prog w) A (keyLt' (tuples' true) p.1 q.1) (fun r s' => s' = s ∧ r = HT.lexLt (k p.1) (k q.1)) (fun _ _ => False) s
  generalize k p.1 = ns at h1 ⊢
  generalize k q.1 = ms at h2 ⊢
  obtain ⟨a, xs, e, ⟨o, ho, hc, n, hd⟩, i1⟩ := h1
  obtain ⟨a', xs', e', ⟨o', ho', hc', n', hd'⟩, i2⟩ := h2
  rw [e, e']
  refine PySem.W.kat_lt ho hd ho' hd' ?_
  refine kat_ints 0 i1 i2 ?_ ⟨rfl, rfl⟩
  have l1 := i1.length
  have l2 := i2.length
  rw [Array.length_toList] at l1 l2
  rw [l1, l2]
theorem tup_firsts {h : Heap} : ∀ {vs : List Value}, (∀ v ∈ vs, ∃ ns, TS.TupInts h v ns ∧ ns ≠ []) → ∃ fs : List Value, PySem.W.KatTups h vs fs ∧ fs.length = vs.length ∧ ∀ f ∈ fs, ∃ x t, f = Value.int x t
  | [], _ => ⟨[], PySem.W.KatTups.nil, rfl, fun _ hm => by simp at hm⟩
  | v :: vs, hp => by
    obtain ⟨fs, h1, h2, h3⟩ := tup_firsts (vs := vs) fun v' hm => hp v' (List.mem_cons_of_mem _ hm)
    obtain ⟨ns, ⟨a, xs, rfl, ⟨o, ho, hc, n, hd⟩, i⟩, hn⟩ := hp v List.mem_cons_self
    obtain ⟨y, ys, e⟩ : ∃ y ys, xs.toList = y :: ys := by
      cases q : xs.toList with
      | nil =>
        rw [q] at i
        cases i
        exact absurd rfl hn
      | cons y ys => exact ⟨y, ys, rfl⟩
    rw [e] at i
    obtain ⟨x, t, rfl⟩ : ∃ x t, y = Value.int x t := by
      cases i with
      | cons x t _ => exact ⟨x, t, rfl⟩
    have h0 : xs = (Value.int x t :: ys).toArray := by rw [← e]
    subst h0
    refine ⟨.int x t :: fs, PySem.W.KatTups.cons ho hc hd (by rfl) h1, by rw [List.length_cons, List.length_cons, h2], fun f hf => ?_⟩
    rcases List.mem_cons.mp hf with rfl | hf
    · exact ⟨x, t, rfl⟩
    · exact h3 f hf
theorem tups_sortableO {a : Addr} {vs : List Value} {k : Value → List Int} (h0 : 0 < vs.length) (hp : ∀ v ∈ vs, TS.TupInts s.heap v (k v) ∧ k v ≠ []) (ha : ∀ o, s.heap.get? a = some o → o.cls ≠ .type "tuple") : SortableO prog w A s a vs fun v u => HT.lexLt (k v) (k u) := by
  intro h' keep
  have hp' : ∀ v ∈ vs, TS.TupInts h' v (k v) := fun v hm => (hp v hm).1.keeps fun b o e c => keep b o (fun z => by subst z; exact ha o e c) e
  obtain ⟨fs, h1, h2, h3⟩ := tup_firsts fun v hm => ⟨_, hp' v hm, (hp v hm).2⟩
  refine ⟨tuples' true, fun Q E hq => ?_, tup_cmp hp'⟩
  refine PySem.W.kat_kind (T := .type "int") h1 (by omega) (fun f hm => ?_) (by rfl) ?_
  · obtain ⟨x, t, rfl⟩ := h3 f hm
    exact PySem.W.Looks.now
  · have e : (Value.type "int" != Value.type "tuple") = true := by first | decide +kernel | rfl | decide
    rw [e]
    exact hq
theorem sorted_tupsO {l : Addr} {vs : List Value} {k : Value → List Int} {Q : Value → Shared → Prop} (hl : s.heap.IsList l vs.toArray) (hz : vs.length ≤ sizeLine) (hp : ∀ v ∈ vs, TS.TupInts s.heap v (k v) ∧ k v ≠ [])
    (h : ∀ (h' : Heap) (d : Addr) (out : List Value), Srtd (fun v u => HT.lexLt (k v) (k u)) out → Stb (fun v u => HT.lexLt (k v) (k u)) out vs → (∀ b o, s.heap.get? b = some o → h'.get? b = some o) → s.heap.objs.size ≤ d → (∃ n, h'.get? d = some (seqObj "list" out.toArray n)) → Q (.ref d) { s with heap := h' }) :
    wpAny (model prog w) A (call (.builtin "sorted") [.ref l]) Q E s := by
  refine sorted_ord (swo_lexL k) hl hz (fun h2 h₁ a ha kk => ?_) fun out hs hb => ?_
  · refine tups_sortableO (s := { s with heap := h₁ }) (by omega) (fun v hm => ⟨(hp v hm).1.keeps fun b o e _ => (kk b o e).2, (hp v hm).2⟩) fun o e => ?_
    have e' : some o = some (seqObj "list" vs.toArray 0) := e.symm.trans ha
    cases e'
    intro c
    exact absurd (Value.type.inj c) (by decide)
  · exact h _ _ out hs hb (fun b o e => sortedAll_old e) (Nat.le_succ _) (sortedAll_at s.heap vs out.toArray)
end
open Pu (insR sortR)
theorem lex_anti : ∀ {a b : List Int}, HT.lexLt a b = false → HT.lexLt b a = false → a = b
  | [], [], _, _ => rfl
  | [], _ :: _, h, _ => by cases h
  | _ :: _, [], _, h => by cases h
  | x :: a, y :: b, h, g => by
    rw [HT.lexLt_cons] at h g
    by_cases e : x = y
    · subst e
      rw [if_pos rfl] at h g
      rw [lex_anti h g]
    · rw [if_neg e, decide_eq_false_iff_not] at h
      rw [if_neg (fun z => e z.symm), decide_eq_false_iff_not] at g
      omega
theorem insR_perm (x : List Int) : ∀ l, (insR x l).Perm (x :: l)
  | [] => .refl _
  | y :: l => by
    unfold insR
    split
    · exact ((insR_perm x l).cons y).trans (List.Perm.swap x y l)
    · exact .refl _
theorem sortR_perm : ∀ l, (sortR l).Perm l
  | [] => .refl _
  | x :: l => (insR_perm x (sortR l)).trans ((sortR_perm l).cons x)
theorem insR_srt (x : List Int) : ∀ l, Srtd HT.lexLt l → Srtd HT.lexLt (insR x l)
  | [], _ => List.pairwise_singleton _ _
  | y :: l, h => by
    have h' := List.pairwise_cons.mp h
    unfold insR
    split
    · rename_i c
      refine List.pairwise_cons.mpr ⟨fun z hz => ?_, insR_srt x l h'.2⟩
      rcases List.mem_cons.mp ((insR_perm x l).mem_iff.mp hz) with e | hz
      · subst e; exact lex_asym _ _ c
      · exact h'.1 z hz
    · rename_i c
      have c' : HT.lexLt y x = false := by simpa using c
      refine List.pairwise_cons.mpr ⟨fun z hz => ?_, h⟩
      rcases List.mem_cons.mp hz with e | hz
      · subst e; exact c'
      · exact lex_tr _ _ _ c' (h'.1 z hz)
theorem sortR_srt : ∀ l, Srtd HT.lexLt (sortR l)
  | [] => List.Pairwise.nil
  | x :: l => insR_srt x _ (sortR_srt l)
theorem srt_uniq : ∀ {l m : List (List Int)}, Srtd HT.lexLt l → Srtd HT.lexLt m → l.Perm m → l = m
  | [], m, _, _, p => (List.nil_perm.mp p).symm
  | x :: l, [], _, _, p => by have := p.length_eq; cases this
  | x :: l, y :: m, h1, h2, p => by
    have a := List.pairwise_cons.mp h1
    have b := List.pairwise_cons.mp h2
    have e : x = y := by
      rcases List.mem_cons.mp (p.mem_iff.mp List.mem_cons_self) with e | hx
      · exact e
      · rcases List.mem_cons.mp (p.mem_iff.mpr List.mem_cons_self) with e | hy
        · exact e.symm
        · exact lex_anti (b.1 x hx) (a.1 y hy)
    subst e
    rw [srt_uniq a.2 b.2 p.cons_inv]
end PuSrt
namespace L2
open PySem PySem.Spec PyProof.Rows
/-- the rows of a list of tuples of ints -/
inductive Rws (K : PySem.W.Frag) (H : Hp) : List V → List (List Int) → Prop
  | nil : Rws K H [] []
  | cons {x : V} {n : List Int} {xs : List V} {rows : List (List Int)} : TupI K H x n → n ≠ [] → Rws K H xs rows → Rws K H (x :: xs) (n :: rows)
theorem ints_uniq : ∀ {xs : List Value} {n m : List Int}, IntsAre xs n → IntsAre xs m → n = m
  | _, _, _, .nil, .nil => rfl
  | _, _, _, .cons _ _ h, .cons _ _ g => by rw [ints_uniq h g]
theorem tup_uniq {h : Heap} {v : Value} {n m : List Int} (a : TS.TupInts h v n) (b : TS.TupInts h v m) : n = m := by
  obtain ⟨p, xs, e, ⟨o, ho, _, c, hd⟩, i⟩ := a
  obtain ⟨p', xs', e', ⟨o', ho', _, c', hd'⟩, i'⟩ := b
  rw [e] at e'
  cases e'
  rw [ho] at ho'
  cases ho'
  rw [hd] at hd'
  injection hd' with hd' _
  subst hd'
  exact ints_uniq i i'
noncomputable def rowV (h : Heap) (v : Value) : List Int := by classical exact if z : ∃ n, TS.TupInts h v n then z.choose else []
theorem rowV_eq {h : Heap} {v : Value} {n : List Int} (a : TS.TupInts h v n) : rowV h v = n := by
  unfold rowV
  have z : ∃ n, TS.TupInts h v n := ⟨n, a⟩
  rw [dif_pos z]
  exact tup_uniq z.choose_spec a
/-- sorted(xs), xs a list of tuples of ints, none empty -/
def rSortR (K : PySem.W.Frag) : List V → Hp → VK → Prop := fun vs H Q => ∃ (a : Addr) (xs : List V) (rows : List (List Int)), vs = [V.ref a] ∧ SqL K H a xs ∧ Rws K H xs rows ∧
  ∀ ys rows' p, SrtO.Srtd HT.lexLt rows' → ys.length = rows'.length → (ys.zip rows').Perm (xs.zip rows) → H p = none → Q (.ref p) (upd H p (.lst ys))
section
variable {X : Cx}
theorem rws_raw {pins : List (Addr × Obj)} {σ : St} {H : Hp} {s : Shared} (I : Inv X pins σ H s) : ∀ {xs : List V} {rows : List (List Int)} {its : List Value}, Rws X.K H xs rows → Vals xs its → xs = its.map bkV ∧ rows = its.map (rowV s.heap) ∧ ∀ v ∈ its, TS.TupInts s.heap v (rowV s.heap v) ∧ rowV s.heap v ≠ [] ∧ ∃ a, v = Value.ref a
  | _, _, _, .nil, .nil => ⟨rfl, rfl, fun v hv => by cases hv⟩
  | _, _, _, .cons (n := n) ⟨t, e, ht⟩ hn r, .cons rv vs => by
    subst e
    cases rv
    obtain ⟨h1, h2, h3⟩ := rws_raw I r vs
    have q := tupI_raw I ht
    have e := rowV_eq q
    refine ⟨by rw [List.map_cons, ← h1]; rfl, by rw [List.map_cons, ← h2, e], fun v hv => ?_⟩
    rcases List.mem_cons.mp hv with z | hv
    · subst z
      rw [e]
      exact ⟨q, hn, _, rfl⟩
    · exact h3 v hv
theorem cr_sortR : CallR X (.builtin "sorted") (rSortR X.K) := by
  intro pins s σ H vs us Q I r h
  obtain ⟨a, xs, rows, rfl, hs, hx, q⟩ := h
  obtain ⟨its, rv, hl, hz⟩ := I.list hs
  rw [Vals.ref1 r]
  obtain ⟨e1, e2, e3⟩ := rws_raw I hx rv
  refine PuSrt.sorted_tupsO (k := rowV s.heap) hl.isList (by rw [← rv.length]; exact hz) (fun v hv => ⟨(e3 v hv).1, (e3 v hv).2.1⟩) fun h' d out h1 h2 kp hd hn => ?_
  have h3 : ∀ u ∈ out, ∃ a, u = Value.ref a := fun u hu => (e3 u (h2.perm.mem_iff.mp hu)).2.2
  obtain ⟨n, hn⟩ := hn
  have hlen : (out.map bkV).length = xs.length := by
    rw [e1, List.length_map, List.length_map]
    exact h2.perm.length_eq
  refine ⟨.ref d, upd H d (.lst (out.map bkV)), I.laid (t' := s.toks) kp hd ⟨?_, out, n, bkV_vals h3, hn⟩, rfl, q _ (out.map (rowV s.heap)) d ?_ (by rw [List.length_map, List.length_map]) ?_ (I.hok.fresh hd)⟩
  · rw [hlen]
    exact hz
  · exact List.pairwise_map.mpr h1
  · rw [e1, e2]
    have z : ∀ l : List Value, (l.map bkV).zip (l.map (rowV s.heap)) = l.map fun u => (bkV u, rowV s.heap u) := fun l => by
      induction l with
      | nil => rfl
      | cons u l ih => rw [List.map_cons, List.map_cons, List.zip_cons_cons, ih]; rfl
    rw [z, z]
    exact h2.perm.map _
/-- sorted(xs, key=len), xs a list of tuples -/
inductive Lens (K : PySem.W.Frag) (H : Hp) : List V → List Nat → Prop
  | nil : Lens K H [] []
  | cons {a : Addr} {ys xs : List V} {ns : List Nat} : SqT K H a ys → Lens K H xs ns → Lens K H (.ref a :: xs) (ys.length :: ns)
def LenAt (h : Heap) (v : Value) (b : V × Nat) : Prop := ∃ (t : Addr) (items : Array Value), v = .ref t ∧ b.1 = .ref t ∧ PyProof.Rows.IsTup h t items ∧ items.size = b.2 ∧ b.2 ≤ sizeLine
theorem lens_each {pins : List (Addr × Obj)} {σ : St} {H : Hp} {s : Shared} (I : Inv X pins σ H s) : ∀ {xs : List V} {ns : List Nat} {its : List Value}, Lens X.K H xs ns → Vals xs its → PySem.W.EachIs (LenAt s.heap) its (xs.zip ns) ∧ xs.length = ns.length
  | _, _, _, .nil, .nil => ⟨.nil, rfl⟩
  | _, _, _, .cons h r, .cons rv vs => by
    cases rv
    obtain ⟨its, r', pl, hz⟩ := I.tuple h
    obtain ⟨e1, e2⟩ := lens_each I r vs
    exact ⟨.cons ⟨_, _, rfl, rfl, pl, by rw [List.size_toArray, r'.length], hz⟩ e1, by rw [List.length_cons, List.length_cons, e2]⟩
theorem each_vals {h : Heap} : ∀ {out : List Value} {bs : List (V × Nat)}, PySem.W.EachIs (LenAt h) out bs → Vals (bs.map (·.1)) out
  | _, _, .nil => .nil
  | _, _, .cons ⟨t, _, e1, e2, _⟩ r => by
    rw [List.map_cons, e2, e1]
    exact .cons rfl (each_vals r)
theorem sortLen_run {pins : List (Addr × Obj)} {σ : St} {H : Hp} {s : Shared} {a : Addr} {xs : List V} {ns : List Nat} {Q : VK} (I : Inv X pins σ H s) (hs : SqL X.K H a xs) (hx : Lens X.K H xs ns) (hu : X.A.units + 64 < cLine)
    (q : ∀ p, H p = none → Q (.ref p) (upd H p (.lst (((xs.zip ns).mergeSort fun a b => decide ((a.2 : Int) ≤ (b.2 : Int))).map (·.1))))) :
    wpAny (model X.prog X.w) X.A (call (.builtin "sorted") [.ref a] [(Str.ofString "key", .builtin "len")]) (EP X pins σ Q) X.xe s := by
  obtain ⟨its, rv, hl, hz⟩ := I.list hs
  obtain ⟨e, el⟩ := lens_each I hx rv
  have hlen : (xs.zip ns).length = xs.length := by rw [List.length_zip]; omega
  refine PySem.W.sorted_key_data (b := false) (fun b : V × Nat => .int (b.2 : Int)) hl.isList e (PySem.W.AllAlike.of fun _ _ => by simp [PySem.W.alike]) (.inr fun d hd => ?_) (by rw [hlen]; exact hz) (fun b _ => ?_) (ksk_s1 _ _) (fun _ => ksk_l1 _ _) (fun _ => ksk_t4 "len" _) (fun v b hv hb h tk kp => ?_) fun out c h' tk kp fr hD ho eo => ?_
  · obtain ⟨b, _, rfl⟩ := List.mem_map.mp hd
    exact ⟨(by intro z; cases z), fun _ z => by cases z⟩
  · have hd : (PyData.int (b.2 : Int)).depth = 0 := by simp [PyData.depth]
    omega
  · obtain ⟨t, items, rfl, _, pl, hsz, hz2⟩ := hv
    have hn := line63
    exact len_tuple (pl.keeps kp) (by rw [hsz]; omega) ⟨h, _, rfl, fun _ _ e => e, by rw [hsz]; exact .int _ _⟩
  · rw [PySem.W.dataLe_int (fun b : V × Nat => (b.2 : Int))] at eo
    have hv := each_vals eo
    refine ⟨.ref _, upd H (s.heap.objs.size + 1) (.lst (((xs.zip ns).mergeSort fun a b => decide ((a.2 : Int) ≤ (b.2 : Int))).map (·.1))), I.laid (t' := tk) kp (Nat.le_succ _) ⟨?_, out, c, hv, hD⟩, rfl, q _ (I.hok.fresh (Nat.le_succ _))⟩
    rw [List.length_map, List.length_mergeSort, hlen]
    exact hz
/-- an int times a truth value -/
theorem op_mulIB : OpR X (binaryOp .Mult) (fun x y H Q => ∃ i k, x = .int i ∧ y = .bl k ∧ Q (.int (i * if k = true then (1 : Int) else 0)) H) := by
  intro pins s σ H x y v u Q I rx ry h
  obtain ⟨i, k, rfl, rfl, q⟩ := h
  obtain ⟨t, rfl⟩ := rx
  cases ry
  exact PySem.IntBool.mul_int_bool ⟨.int _, H, I.tok _, ⟨_, rfl⟩, q⟩
end
end L2

set_option maxHeartbeats 4000000
/-! Pu, part 2b: min(xs, key=len) over the heap alone: all that was there stays. -/
namespace PuMin
open PySem PySem.Spec PyProof.Rows
def Kp (h h' : Heap) : Prop := ∀ b o, h.get? b = some o → h'.get? b = some o
def MkEnd (k : Int) (s₁ : Shared) (v : Value) (s₂ : Shared) : Prop := ∃ h' tk t, s₂ = { s₁ with heap := h', toks := tk } ∧ v = .int k t ∧ Kp s₁.heap h'
section
variable {prog : Program} {w : World} {A : Around} {E : Value → Shared → Prop} {s : Shared} {h₀ : Heap} {l I S : Addr} {kid : String} {vs : List Value} {R : Result → Shared → Prop} {Q : Value → Shared → Prop}
theorem kp_at {h h' : Heap} (k : Kp h₀ h) (hk : ∀ b o, b ∉ [I] → h.get? b = some o → h'.get? b = some o) (n : h₀.get? I = none) : Kp h₀ h' := fun b o e => hk b o (fun q => by rw [List.mem_singleton.mp q, n] at e; cases e) (k b o e)
theorem kp_but {h h' : Heap} (k : Kp h₀ h) (hs : Heap.SameBut S h h') (n : h₀.get? S = none) : Kp h₀ h' := fun b o e => by
  have hb : b ≠ S := fun q => by rw [q, n] at e; cases e
  exact (hs.2 b hb).trans (k b o e)
theorem min_loop (kf : Nat → Int) (hh : A.handled = none) (hl : h₀.IsList l vs.toArray) (nS : h₀.get? S = none) (nI : h₀.get? I = none) (hSI : S ≠ I)
    (turn : ∀ (i : Nat) (v : Value), vs[i]? = some v → ∀ (h : Heap) (tk : Nat), Kp h₀ h →
      wpAny (model prog w) A.in1 (call (.builtin kid) [v]) (MkEnd (kf i) { s with heap := h, toks := tk }) (fun _ _ => False) { s with heap := h, toks := tk })
    (hR : ∀ i v h' tk', vs[i]? = some v → (∀ j, j < vs.length → kf i ≤ kf j ∧ (j < i → kf i < kf j)) → Kp h₀ h' → R (.ok (.ret v)) { s with heap := h', toks := tk' }) :
    ∀ (r j i : Nat) (h : Heap) (tk : Nat) (vb : Value) (tb : Tok) (c : Nat), vs.length - (j + 1) = r → j + 1 ≤ vs.length → Kp h₀ h →
      h.get? S = some (seqObj "list" #[vb, .int (kf i) tb] c) → h.IsListIter I l (j + 1) → vs[i]? = some vb → i ≤ j → (∀ j', j' ≤ j → kf i ≤ kf j' ∧ (j' < i → kf i < kf j')) →
      codeAny (model prog w) A (.builtin "min.loop" ⟨[.ref I, .builtin kid, .ref S], []⟩) R { s with heap := h, toks := tk } := by
  have hname : (toString "min" ++ toString ".loop" : String) = "min.loop" := by decide
  obtain ⟨ol, hol, hlr⟩ := id hl
  have hlI : l ≠ I := fun q => by rw [q, nI] at hol; cases hol
  have hl' : ∀ h, Kp h₀ h → h.IsList l vs.toArray := fun h k => ⟨ol, k _ _ hol, hlr⟩
  have W := Walks.list (prog := prog) (w := w) (A := A.in1) hh I l hlI vs.toArray
  have hsz : vs.toArray.size = vs.length := List.size_toArray ..
  intro r
  induction r with
  | zero =>
    intro j i h tk vb tb c hr hj K gS hit hvb hij hbest
    have hin : j + 1 = vs.length := by omega
    refine codeAny_builtin PySem.F.entry_min_loop ?_
    rw [Around.under_plainId PySem.F.plain_min_loop _]
    show wpAny _ A.in1 (seqItems? (.ref S) >>= _) _ _ _
    refine wpAny_bind (wpAny_seqItems gS rfl ?_)
    show wpAny _ A.in1 (tryCatch (pyNext (.ref I)) _ >>= _) _ _ _
    refine wpAny_bind (wpAny_tryCatch (W.done _ _ _ ⟨by rw [hsz, ← hin]; exact hit, hl' h K⟩ fun h' tk' hk' => ?_))
    have K1 := kp_at K hk' nI
    have hS' := hk' S _ (by simpa using hSI) gS
    have s1 := Heap.SameBut.update h' S (Obj.mapSeq fun _ => (#[] : Array Value))
    show wpAny _ A.in1 (updateSeq S (fun _ => #[]) >>= _) _ _ _
    refine wpAny_bind ?_
    refine wpAny_updateSeq hS' rfl (wpAny_bind (wpAny_letGo (wpAny_pure ?_)))
    exact hR i vb _ _ hvb (fun j' hj' => hbest j' (by omega)) (kp_but K1 s1 nS)
  | succ r ih =>
    intro j i h tk vb tb c hr hj K gS hit hvb hij hbest
    have hlt : j + 1 < vs.length := by omega
    refine codeAny_builtin PySem.F.entry_min_loop ?_
    rw [Around.under_plainId PySem.F.plain_min_loop _]
    show wpAny _ A.in1 (seqItems? (.ref S) >>= _) _ _ _
    refine wpAny_bind (wpAny_seqItems gS rfl ?_)
    show wpAny _ A.in1 (tryCatch (pyNext (.ref I)) _ >>= _) _ _ _
    refine wpAny_bind (wpAny_tryCatch (W.item (j + 1) _ _ _ (by rw [hsz]; exact hlt) ⟨hit, hl' h K⟩ fun v h' tk' hP hst' hk' => ?_))
    have hv : vs[j + 1]? = some v := by simpa using hP
    obtain ⟨oI', hoI', hoc, hod⟩ := id hst'.1
    have K1 := kp_at K hk' nI
    have gS1 := hk' S _ (by simpa using hSI) gS
    show wpAny _ A.in1 (tryCatch (holding [v] (call (.builtin kid) [v])) _ >>= _) _ _ _
    refine wpAny_bind (wpAny_tryCatch (wpAny_holding (wpAny_mono (turn (j + 1) v hv h' tk' K1) (fun x s'' he => ?_) fun _ _ hF => hF.elim)))
    obtain ⟨h2, tk2, t2, rfl, rfl, K12⟩ := he
    have K12 : Kp h' h2 := K12
    have K2 : Kp h₀ h2 := fun b o e => K12 b o (K1 b o e)
    have gS2 := K12 _ _ gS1
    have gI2 := K12 _ _ hoI'
    have hit2 : h2.IsListIter I l (j + 1 + 1) := ⟨oI', gI2, hoc, hod⟩
    show wpAny _ A.in1 (tryCatch (holding [v, .int (kf (j + 1)) t2] (richCompare .Lt (.int (kf (j + 1)) t2) (.int (kf i) tb) >>= _)) _ >>= _) _ _ _
    refine wpAny_bind (wpAny_tryCatch (wpAny_holding (wpAny_bind (CmpOf.ints_lt (prog := prog) (w := w) (A := A.in1) (P := fun i v => ∃ t, v = .int (kf i) t) kf (fun i v h => h) (j + 1) i _ _ _ _ _ ⟨t2, rfl⟩ ⟨tb, rfl⟩ ?_))))
    refine wpAny_bind (wpAny_holding (wpAny_truthy_bool ?_))
    refine wpAny_bind (wpAny_letGo (wpAny_pure ?_))
    by_cases hb' : kf (j + 1) < kf i
    · have s1 := Heap.SameBut.update h2 S (Obj.mapSeq fun _ => #[v, .int (kf (j + 1)) t2])
      obtain ⟨c2, hc2⟩ : ∃ c2, (h2.update S (Obj.mapSeq fun _ => #[v, .int (kf (j + 1)) t2])).get? S = some (seqObj "list" #[v, .int (kf (j + 1)) t2] c2) := ⟨_, get?_update_seq gS2 fun _ => #[v, .int (kf (j + 1)) t2]⟩
      simp only [hb', decide_true, if_true]
      refine wpAny_bind ?_
      refine wpAny_updateSeq gS2 rfl (wpAny_bind (wpAny_letGo ?_))
      rw [hname]
      refine wpAny_pure ⟨plainId_quiet PySem.F.plain_min_loop _, ih (j + 1) (j + 1) _ _ v t2 c2 (by omega) hlt (kp_but K2 s1 nS) hc2 ⟨oI', (s1.2 I hSI.symm).trans gI2, hoc, hod⟩ hv (Nat.le_refl _) fun j' hj' => ?_⟩
      by_cases e : j' = j + 1
      · subst e
        exact ⟨by omega, fun _ => by omega⟩
      · have hb1 := hbest j' (by omega)
        have hb2 := hb1.1
        exact ⟨by omega, fun _ => by omega⟩
    · simp only [hb', decide_false, Bool.false_eq_true, if_false]
      refine wpAny_bind (wpAny_letGo ?_)
      rw [hname]
      refine wpAny_pure ⟨plainId_quiet PySem.F.plain_min_loop _, ih (j + 1) i _ _ vb tb c (by omega) hlt K2 gS2 hit2 hvb (by omega) fun j' hj' => ?_⟩
      by_cases e : j' = j + 1
      · subst e
        exact ⟨by omega, fun _ => by omega⟩
      · exact hbest j' (by omega)
theorem min_key (kf : Nat → Int) (hh : A.handled = none) (hl : s.heap.IsList l vs.toArray) (hne : 0 < vs.length)
    (turn : ∀ (i : Nat) (v : Value), vs[i]? = some v → ∀ (h : Heap) (tk : Nat), Kp s.heap h →
      wpAny (model prog w) A.in1 (call (.builtin kid) [v]) (MkEnd (kf i) { s with heap := h, toks := tk }) (fun _ _ => False) { s with heap := h, toks := tk })
    (hQ : ∀ i v h' tk', vs[i]? = some v → (∀ j, j < vs.length → kf i ≤ kf j ∧ (j < i → kf i < kf j)) → Kp s.heap h' → Q v { s with heap := h', toks := tk' }) :
    wpAny (model prog w) A (call (.builtin "min") [.ref l] [(Str.ofString "key", .builtin kid)]) Q E s := by
  have hname : (toString "min" ++ toString ".loop" : String) = "min.loop" := by decide
  obtain ⟨ol, hol, hlr⟩ := id hl
  have hll : l < s.heap.objs.size := Heap.lt_size hol
  refine kmb_tree PySem.F.kind_min PySem.F.plain_min PySem.F.entry_min (kmb_min_key _ _) ?_
  show wpAny _ A.in1 (Builtin.Builtins.bindParams "min" ["key", "default"] 0 ⟨[], [(Str.ofString "key", .builtin kid)]⟩ >>= _) _ _ s
  refine wpAny_bind (wpAny_of_eq (show Builtin.Builtins.bindParams "min" ["key", "default"] 0 ⟨[], [(Str.ofString "key", .builtin kid)]⟩ = pure [some (.builtin kid), none] from rfl) ?_)
  refine wpAny_bind (wpAny_pure ?_)
  refine wpAny_bind (wpAny_pyIter_list hl ?_)
  refine wpAny_bind (wpAny_newList ?_ (Nat.zero_le _))
  rw [hname]
  have hS : (s.heap.push { cls := .type "list_iterator", data := .fields #[.ref l, .int 0 0] }).objs.size = s.heap.objs.size + 1 := size_push' ..
  have hlI : l ≠ s.heap.objs.size := Nat.ne_of_lt hll
  have hSI : (s.heap.push { cls := .type "list_iterator", data := .fields #[.ref l, .int 0 0] }).objs.size ≠ s.heap.objs.size := by rw [hS]; exact Nat.ne_of_gt (Nat.lt_succ_self _)
  have nI : s.heap.get? s.heap.objs.size = none := Heap.get?_none_of_le (Nat.le_refl _)
  have nS : s.heap.get? (s.heap.push { cls := .type "list_iterator", data := .fields #[.ref l, .int 0 0] }).objs.size = none := Heap.get?_none_of_le (by rw [hS]; exact Nat.le_succ _)
  refine wpAny_pure ⟨plainId_quiet PySem.F.plain_min_loop _, ?_⟩
  have KH : Kp s.heap ((s.heap.push { cls := .type "list_iterator", data := .fields #[.ref l, .int 0 0] }).push (seqObj "list" #[] 0)) := fun b x e => Heap.get?_push_of_some _ (Heap.get?_push_of_some _ e)
  have gI : ((s.heap.push { cls := .type "list_iterator", data := .fields #[.ref l, .int 0 0] }).push (seqObj "list" #[] 0)).get? s.heap.objs.size = some { cls := .type "list_iterator", data := .fields #[.ref l, .int 0 0] } :=
    Heap.get?_push_of_some _ (Heap.get?_push_size _ rfl)
  have gS : ((s.heap.push { cls := .type "list_iterator", data := .fields #[.ref l, .int 0 0] }).push (seqObj "list" #[] 0)).get? (s.heap.push { cls := .type "list_iterator", data := .fields #[.ref l, .int 0 0] }).objs.size = some (seqObj "list" #[] 0) := Heap.get?_push_size _ rfl
  have W := Walks.list (prog := prog) (w := w) (A := A.in1) hh s.heap.objs.size l hlI vs.toArray
  have hsz : vs.toArray.size = vs.length := List.size_toArray ..
  refine codeAny_builtin PySem.F.entry_min_loop ?_
  rw [Around.under_plainId PySem.F.plain_min_loop _]
  show wpAny _ A.in1 (seqItems? (.ref _) >>= _) _ _ _
  refine wpAny_bind (wpAny_seqItems gS rfl ?_)
  show wpAny _ A.in1 (tryCatch (pyNext (.ref s.heap.objs.size)) _ >>= _) _ _ _
  refine wpAny_bind (wpAny_tryCatch (W.item 0 _ _ _ (by rw [hsz]; exact hne) ⟨⟨_, gI, rfl, rfl⟩, ⟨ol, KH _ _ hol, hlr⟩⟩ fun v h' tk' hP hst' hk' => ?_))
  have hv : vs[0]? = some v := by simpa using hP
  obtain ⟨oI', hoI', hoc, hod⟩ := id hst'.1
  have K1 := kp_at KH hk' nI
  have gS1 := hk' _ _ (by simpa using hSI) gS
  show wpAny _ A.in1 (tryCatch (holding [v] (call (.builtin kid) [v])) _ >>= _) _ _ _
  refine wpAny_bind (wpAny_tryCatch (wpAny_holding (wpAny_mono (turn 0 v hv h' tk' K1) (fun x s'' he => ?_) fun _ _ hF => hF.elim)))
  obtain ⟨h2, tk2, t2, rfl, rfl, K12⟩ := he
  have K12 : Kp h' h2 := K12
  have K2 : Kp s.heap h2 := fun b o e => K12 b o (K1 b o e)
  have gS2 := K12 _ _ gS1
  have gI2 := K12 _ _ hoI'
  have s1 := Heap.SameBut.update h2 (s.heap.push { cls := .type "list_iterator", data := .fields #[.ref l, .int 0 0] }).objs.size (Obj.mapSeq fun _ => #[v, .int (kf 0) t2])
  obtain ⟨c2, hc2⟩ : ∃ c2, (h2.update (s.heap.push { cls := .type "list_iterator", data := .fields #[.ref l, .int 0 0] }).objs.size (Obj.mapSeq fun _ => #[v, .int (kf 0) t2])).get? (s.heap.push { cls := .type "list_iterator", data := .fields #[.ref l, .int 0 0] }).objs.size = some (seqObj "list" #[v, .int (kf 0) t2] c2) := ⟨_, get?_update_seq gS2 fun _ => #[v, .int (kf 0) t2]⟩
  show wpAny _ A.in1 (updateSeq (s.heap.push { cls := .type "list_iterator", data := .fields #[.ref l, .int 0 0] }).objs.size (fun _ => #[v, .int (kf 0) t2]) >>= _) _ _ _
  refine wpAny_bind ?_
  refine wpAny_updateSeq gS2 rfl ?_
  rw [hname]
  refine wpAny_pure ⟨plainId_quiet PySem.F.plain_min_loop _, min_loop kf hh hl nS nI hSI turn hQ _ 0 0 _ _ v t2 c2 rfl hne (kp_but K2 s1 nS) hc2 ⟨oI', (s1.2 _ hSI.symm).trans gI2, hoc, hod⟩ hv (Nat.le_refl _) fun j' hj' => ?_⟩
  have e : j' = 0 := by omega
  subst e
  exact ⟨by omega, fun h => absurd h (Nat.lt_irrefl _)⟩
end
end PuMin
namespace L2
open PySem PySem.Spec PyProof.Rows
section
variable {X : Cx}
/-- min(xs, key=len), xs a list of tuples, not empty -/
theorem minLen_run {pins : List (Addr × Obj)} {σ : St} {H : Hp} {s : Shared} {a : Addr} {xs : List V} {ns : List Nat} {Q : VK} (I : Inv X pins σ H s) (hs : SqL X.K H a xs) (hx : Lens X.K H xs ns) (hne : 0 < xs.length) (hh : X.A.handled = none)
    (q : ∀ (i : Nat) (v : V), xs[i]? = some v → (∀ j, j < ns.length → (ns.getD i 0 ≤ ns.getD j 0 ∧ (j < i → ns.getD i 0 < ns.getD j 0))) → Q v H) :
    wpAny (model X.prog X.w) X.A (call (.builtin "min") [.ref a] [(Str.ofString "key", .builtin "len")]) (EP X pins σ Q) X.xe s := by
  obtain ⟨its, rv, hl, hz⟩ := I.list hs
  obtain ⟨e, el⟩ := lens_each I hx rv
  have hlen : its.length = xs.length := rv.length.symm
  refine PuMin.min_key (fun i => ((ns.getD i 0 : Nat) : Int)) hh hl.isList (by omega) (fun i v hv h tk kp => ?_) fun i v h' tk' hv hb kp => ?_
  · have hi : i < its.length := (List.getElem?_eq_some_iff.mp hv).1
    obtain ⟨n, hn⟩ : ∃ n, ns[i]? = some n := ⟨_, List.getElem?_eq_getElem (by omega)⟩
    obtain ⟨x, hxi⟩ : ∃ x, xs[i]? = some x := ⟨_, List.getElem?_eq_getElem (by omega)⟩
    have hz2 : (v, (x, n)) ∈ its.zip (xs.zip ns) := List.mem_of_getElem? (i := i) (by rw [List.getElem?_zip_eq_some, List.getElem?_zip_eq_some]; exact ⟨hv, hxi, hn⟩)
    obtain ⟨t, items, rfl, _, pl, hsz, hz3⟩ := e.zip _ hz2
    have en : ns.getD i 0 = n := by simp [hn]
    rw [en]
    have h63 := line63
    exact len_tuple (pl.keeps kp) (by rw [hsz]; omega) ⟨h, _, _, rfl, by rw [hsz], fun _ _ e => e⟩
  · have hi : i < its.length := (List.getElem?_eq_some_iff.mp hv).1
    obtain ⟨x, hxi⟩ : ∃ x, xs[i]? = some x := ⟨_, List.getElem?_eq_getElem (by omega)⟩
    obtain ⟨u, eu, rx⟩ := rv.get hxi
    rw [hv] at eu
    cases eu
    refine ⟨x, H, I.kept (t' := tk') kp, rx, q i x hxi fun j hj => ?_⟩
    have := hb j (by omega)
    exact ⟨by omega, fun hji => by have := this.2 hji; omega⟩
end
end L2

/-! Pu, part 3: how data stands in the heap; the frame's slots and their data. -/
namespace Pu
open PySem PySem.Spec PyProof.Rows L2

/-- the heap without what is hidden -/
noncomputable def er (O : Addr → Prop) (H : Hp) : Hp := fun a => by classical exact if O a then none else H a
theorem er_out {O : Addr → Prop} {H : Hp} {a : Addr} (h : ¬ O a) : er O H a = H a := by unfold er; exact if_neg h
theorem er_some {O : Addr → Prop} {H : Hp} {a : Addr} {o : HO} (h : er O H a = some o) : ¬ O a ∧ H a = some o := by
  unfold er at h
  by_cases c : O a
  · rw [if_pos c] at h; cases h
  · rw [if_neg c] at h; exact ⟨c, h⟩
theorem same_er {O O' : Addr → Prop} {H H' : Hp} (s : ∀ a o, H a = some o → ¬ O a → H' a = some o ∧ ¬ O' a) : Same (er O H) (er O' H') := fun a o e => by
  obtain ⟨h1, h2⟩ := er_some e
  obtain ⟨h3, h4⟩ := s a o h2 h1
  rw [er_out h4]; exact h3
theorem same_erO {O : Addr → Prop} {H H' : Hp} (s : Same H H') : Same (er O H) (er O H') := same_er fun a o e n => ⟨s a o e, n⟩
theorem er_le {O : Addr → Prop} {H : Hp} : Same (er O H) H := fun a o e => (er_some e).2
theorem same_upd {H : Hp} {p : Addr} {o : HO} (h : H p = none) : Same H (upd H p o) := fun b x e => by
  rw [upd_ne (ne_of_none e h)]; exact e
theorem cap_line : cap = sizeLine := rfl

/-! ### data in the heap -/
mutual
inductive Rp (K : PySem.W.Frag) (H : Hp) : V → D → Prop
  | non : Rp K H .non .none
  | bl (b : Bool) : Rp K H (.bl b) (.bool b)
  | int (i : Int) : Rp K H (.int i) (.int i)
  | str (x : Str) : Rp K H (.str x) (.str x)
  | lst {a : Addr} {xs : List V} {ds : List D} : SqL K H a xs → xs.length ≤ cap → RpL K H xs ds → Rp K H (.ref a) (.list ds)
  | tup {a : Addr} {xs : List V} {ds : List D} : SqT K H a xs → xs.length ≤ cap → RpL K H xs ds → Rp K H (.ref a) (.tuple ds)
inductive RpL (K : PySem.W.Frag) (H : Hp) : List V → List D → Prop
  | nil : RpL K H [] []
  | cons {v : V} {vs : List V} {d : D} {ds : List D} : Rp K H v d → RpL K H vs ds → RpL K H (v :: vs) (d :: ds)
end
section
variable {K : PySem.W.Frag} {H H' : Hp}
theorem seqT_same {a : Addr} {xs : List V} (e : Same H H') (h : SqT K H a xs) : SqT K H' a xs := by
  rcases h with (h | ⟨o, h⟩) | h
  · exact .inl (.inl (e _ _ h))
  · exact .inl (.inr ⟨o, e _ _ h⟩)
  · exact .inr h
mutual
theorem Rp.mono (s : Same H H') : ∀ {d : D} {v : V}, Rp K H v d → Rp K H' v d
  | .none, _, .non => .non
  | .bool b, _, .bl _ => .bl b
  | .int i, _, .int _ => .int i
  | .str x, _, .str _ => .str x
  | .list ds, _, .lst h z l => .lst (s.seq h) z (RpL.mono s l)
  | .tuple ds, _, .tup h z l => .tup (seqT_same s h) z (RpL.mono s l)
theorem RpL.mono (s : Same H H') : ∀ {ds : List D} {vs : List V}, RpL K H vs ds → RpL K H' vs ds
  | [], _, .nil => .nil
  | _ :: _, _, .cons h t => .cons (Rp.mono s h) (RpL.mono s t)
end
mutual
theorem Rp.dp : ∀ {d : D} {v : V}, Rp K H v d → Dp K H v d
  | .none, _, .non => .non
  | .bool b, _, .bl _ => .bl b
  | .int i, _, .int _ => .int i
  | .str x, _, .str _ => .str x
  | .list ds, _, .lst h z l => .lst h (RpL.dp l)
  | .tuple ds, _, .tup h z l => .tup h (RpL.dp l)
theorem RpL.dp : ∀ {ds : List D} {vs : List V}, RpL K H vs ds → DpAll K H vs ds
  | [], _, .nil => .nil
  | _ :: _, _, .cons h t => .cons (Rp.dp h) (RpL.dp t)
end
theorem RpL.length : ∀ {ds : List D} {vs : List V}, RpL K H vs ds → vs.length = ds.length
  | [], _, .nil => rfl
  | _ :: _, _, .cons _ t => by rw [List.length_cons, List.length_cons, RpL.length t]
theorem RpL.append : ∀ {ds es : List D} {vs ws : List V}, RpL K H vs ds → RpL K H ws es → RpL K H (vs ++ ws) (ds ++ es)
  | [], _, _, _, .nil, s => s
  | _ :: _, _, _, _, .cons h t, s => .cons h (RpL.append t s)
theorem RpL.get : ∀ {ds : List D} {vs : List V} {i : Nat} {d : D}, RpL K H vs ds → ds[i]? = some d → ∃ v, vs[i]? = some v ∧ Rp K H v d
  | [], _, _, _, .nil, e => by simp at e
  | _ :: _, _, 0, _, .cons h _, e => by simp at e; subst e; exact ⟨_, rfl, h⟩
  | _ :: _, _, i + 1, d, .cons _ t, e => by
    obtain ⟨v, h1, h2⟩ := RpL.get (i := i) t (by simpa using e)
    exact ⟨v, by simpa using h1, h2⟩
theorem RpL.getV : ∀ {ds : List D} {vs : List V} {i : Nat} {v : V}, RpL K H vs ds → vs[i]? = some v → ∃ d, ds[i]? = some d ∧ Rp K H v d
  | [], _, _, _, .nil, e => by simp at e
  | _ :: _, _, 0, _, .cons h _, e => by simp at e; subst e; exact ⟨_, rfl, h⟩
  | _ :: _, _, i + 1, d, .cons _ t, e => by
    obtain ⟨v, h1, h2⟩ := RpL.getV (i := i) t (by simpa using e)
    exact ⟨v, by simpa using h1, h2⟩
theorem RpL.take : ∀ {ds : List D} {vs : List V} (n : Nat), RpL K H vs ds → RpL K H (vs.take n) (ds.take n)
  | _, _, 0, _ => .nil
  | [], _, _ + 1, .nil => .nil
  | _ :: _, _, n + 1, .cons h t => .cons h (RpL.take n t)
theorem RpL.drop : ∀ {ds : List D} {vs : List V} (n : Nat), RpL K H vs ds → RpL K H (vs.drop n) (ds.drop n)
  | _, _, 0, h => h
  | [], _, _ + 1, .nil => .nil
  | _ :: _, _, n + 1, .cons _ t => RpL.drop n t
theorem RpL.cut {ds : List D} {vs : List V} (h : RpL K H vs ds) (lo hi : Option Int) : RpL K H (cutV vs lo hi) (cutD ds lo hi) := by
  unfold cutV cutD
  rw [h.length]
  exact (h.drop _).take _
theorem RpL.rep {ds : List D} {vs : List V} (h : RpL K H vs ds) : ∀ k : Nat, RpL K H (List.replicate k vs).flatten (List.replicate k ds).flatten
  | 0 => .nil
  | k + 1 => by
    rw [List.replicate_succ, List.replicate_succ, List.flatten_cons, List.flatten_cons]
    exact h.append (RpL.rep h k)
theorem RpL.ints : ∀ {ds : List D} {vs : List V} {ns : List Int}, RpL K H vs ds → intsOf ds = some ns → vs = ns.map V.int
  | [], _, _, .nil, e => by cases e; rfl
  | d :: ds, _, ns, .cons h t, e => by
    cases d with
    | int i =>
      cases h
      simp only [intsOf, Option.map_eq_some_iff] at e
      obtain ⟨ms, e1, e2⟩ := e
      subst e2
      rw [List.map_cons, RpL.ints t e1]
    | _ => simp [intsOf] at e
theorem RpL.bls : ∀ {ds : List D} {vs : List V} {ns : List Bool}, RpL K H vs ds → blsOf ds = some ns → vs = ns.map V.bl
  | [], _, _, .nil, e => by cases e; rfl
  | d :: ds, _, ns, .cons h t, e => by
    cases d with
    | bool i =>
      cases h
      simp only [blsOf, Option.map_eq_some_iff] at e
      obtain ⟨ms, e1, e2⟩ := e
      subst e2
      rw [List.map_cons, RpL.bls t e1]
    | _ => simp [blsOf] at e
theorem RpL.of_ints : ∀ ns : List Int, RpL K H (ns.map V.int) (ns.map PyData.int)
  | [] => .nil
  | n :: r => .cons (.int n) (RpL.of_ints r)
theorem Rp.flat {v : V} {d : D} (h : Rp K H v d) (f : flatD d = true) : flatV v = true := by
  cases h <;> first | rfl | (simp [flatD] at f)
theorem RpL.flat : ∀ {ds : List D} {vs : List V}, RpL K H vs ds → ds.all flatD = true → vs.all flatV = true
  | [], _, .nil, _ => rfl
  | d :: ds, _, .cons h t, f => by
    rw [List.all_cons, Bool.and_eq_true] at f
    rw [List.all_cons, h.flat f.1, RpL.flat t f.2] <;> rfl
theorem eqV_of {v u : V} {d e : D} (h : Rp K H v d) (g : Rp K H u e) (f : flatD d = true) (f' : flatD e = true) : eqV v u = PyData.eqv d e := by
  cases h <;> first | (simp [flatD] at f; done) | (cases g <;> first | (simp [flatD] at f'; done) | (simp [eqV, PyData.eqv]))
theorem inV_of {x : V} {d : D} (h : Rp K H x d) (f : flatD d = true) : ∀ {ds : List D} {vs : List V}, RpL K H vs ds → ds.all flatD = true → inV x vs = inD d ds
  | [], _, .nil, _ => rfl
  | e :: ds, v :: vs, .cons g t, f' => by
    rw [List.all_cons, Bool.and_eq_true] at f'
    have ih := inV_of h f t f'.2
    unfold inV inD at ih ⊢
    rw [List.any_cons, List.any_cons, eqV_of g h f'.1 f, ih]
end

/-! ### objects -/
/-- the program's own classes, their attributes -/
def clsNm (c : Nat) : Str := if c = 0 then "Reader" else "Editor"
def fldNm (f : Nat) : Str := match f with
  | 0 => "decoder" | 1 => "rest" | 2 => "many" | 3 => "after_bad" | 4 => "closed" | 5 => "current" | 6 => "earlier" | _ => "later"
theorem fldNm_inj : ∀ f g : Nat, f < 8 → g < 8 → fldNm f = fldNm g → f = g := by
  have h : ((List.range 8).all fun f => (List.range 8).all fun g => !decide (fldNm f = fldNm g) || decide (f = g)) = true := by decide +kernel
  intro f g hf hg e
  have := List.all_eq_true.mp (List.all_eq_true.mp h f (List.mem_range.mpr hf)) g (List.mem_range.mpr hg)
  rw [decide_eq_true e, Bool.not_true, Bool.false_or] at this
  exact of_decide_eq_true this
inductive FRp (K : PySem.W.Frag) (H : Hp) : List (Str × V) → List (Nat × D) → Prop
  | nil : FRp K H [] []
  | cons {f : Nat} {v : V} {d : D} {fv : List (Str × V)} {fs : List (Nat × D)} : f < 8 → Rp K H v d → FRp K H fv fs → FRp K H ((fldNm f, v) :: fv) ((f, d) :: fs)
section
variable {K : PySem.W.Frag} {H H' : Hp}
theorem FRp.mono (s : Same H H') : ∀ {fs : List (Nat × D)} {fv : List (Str × V)}, FRp K H fv fs → FRp K H' fv fs
  | _, _, .nil => .nil
  | _, _, .cons h r t => .cons h (r.mono s) (t.mono s)
theorem FRp.length : ∀ {fs : List (Nat × D)} {fv : List (Str × V)}, FRp K H fv fs → fv.length = fs.length
  | _, _, .nil => rfl
  | _, _, .cons _ _ t => by rw [List.length_cons, List.length_cons, t.length]
theorem FRp.get {f : Nat} (hf : f < 8) {d : D} : ∀ {fs : List (Nat × D)} {fv : List (Str × V)}, FRp K H fv fs → fs.lookup f = some d → ∃ v, fv.lookup (fldNm f) = some v ∧ Rp K H v d
  | _, _, .nil, e => by cases e
  | _, _, .cons (f := g) (v := v) h r t, e => by
    rw [List.lookup_cons] at e
    by_cases c : f = g
    · subst c
      rw [beq_self_eq_true] at e
      cases e
      exact ⟨v, by rw [List.lookup_cons, beq_self_eq_true], r⟩
    · have b : (f == g) = false := by simpa using c
      rw [b] at e
      obtain ⟨u, h1, h2⟩ := FRp.get hf t e
      refine ⟨u, ?_, h2⟩
      have b2 : (fldNm f == fldNm g) = false := by
        have : fldNm f ≠ fldNm g := fun z => c (fldNm_inj f g hf h z)
        simpa using this
      rw [List.lookup_cons, b2]
      exact h1
theorem FRp.put {f : Nat} (hf : f < 8) {v : V} {d : D} (r : Rp K H v d) : ∀ {fs : List (Nat × D)} {fv : List (Str × V)}, FRp K H fv fs → FRp K H (putF (fldNm f) v fv) (putN f d fs)
  | _, _, .nil => .cons hf r .nil
  | _, _, .cons (f := g) h r' t => by
    unfold putF putN
    by_cases c : g = f
    · subst c
      rw [if_pos rfl, if_pos rfl]
      exact .cons h r t
    · rw [if_neg (fun z => c (fldNm_inj g f h hf z)), if_neg c]
      exact .cons h r' (t.put hf r)
theorem putN_len (f : Nat) (d : D) : ∀ fs : List (Nat × D), (putN f d fs).length ≤ fs.length + 1
  | [] => by simp [putN]
  | (g, e) :: r => by
    unfold putN
    split
    · simp
    · have := putN_len f d r
      simp only [List.length_cons]
      omega
end
mutual
theorem dbeq_eq : ∀ {a b : D}, dbeq a b = true → a = b
  | .none, b, h => by cases b <;> first | rfl | (simp [dbeq] at h)
  | .bool a, b, h => by cases b <;> first | (simp [dbeq] at h; done) | (simp [dbeq] at h; rw [h])
  | .int a, b, h => by cases b <;> first | (simp [dbeq] at h; done) | (simp [dbeq] at h; rw [h])
  | .str a, b, h => by cases b <;> first | (simp [dbeq] at h; done) | (simp [dbeq] at h; rw [h])
  | .list a, b, h => by
    cases b with
    | list b => unfold dbeq at h; rw [dbeqs_eq h]
    | _ => simp [dbeq] at h
  | .tuple a, b, h => by
    cases b with
    | tuple b => unfold dbeq at h; rw [dbeqs_eq h]
    | _ => simp [dbeq] at h
  | .dict a, b, h => by cases b <;> simp [dbeq] at h
theorem dbeqs_eq : ∀ {a b : List D}, dbeqs a b = true → a = b
  | [], [], _ => rfl
  | [], _ :: _, h => by simp [dbeqs] at h
  | _ :: _, [], h => by simp [dbeqs] at h
  | a :: r, b :: s, h => by
    unfold dbeqs at h
    rw [Bool.and_eq_true] at h
    rw [dbeq_eq h.1, dbeqs_eq h.2]
end
theorem fbeq_eq : ∀ {a b : List (Nat × D)}, fbeq a b = true → a = b
  | [], [], _ => rfl
  | [], _ :: _, h => by simp [fbeq] at h
  | _ :: _, [], h => by simp [fbeq] at h
  | (i, a) :: r, (j, b) :: s, h => by
    unfold fbeq at h
    simp only [Bool.and_eq_true, decide_eq_true_eq] at h
    rw [h.1.1, dbeq_eq h.1.2, fbeq_eq h.2]
/-- a class of the program's own: it is plain, no class attribute bears the name of an attribute of an instance -/
structure ObC (K : PySem.W.Frag) (c : Nat) : Prop where
  cls : Cls K (He.ga K (clsNm c))
  na : ∀ f, f < 8 → NoAttr K (He.ga K (clsNm c)) (fldNm f)
/-- the object at a -/
def ObAt (K : PySem.W.Frag) (H : Hp) (a : Addr) (c : Nat) (fv : List (Str × V)) : Prop := ObC K c ∧ ∃ dx, H a = some (.ins (He.ga K (clsNm c)) dx fv)
/-! ### the slots -/
/-- what a frame holds on to: the exception of a suite; the place of an object among the arguments, its address -/
structure XA where
  e : Option (Addr × Nat)
  m : Option (Nat × Addr)
abbrev Ow := Nat → Option Addr
/-- what this frame must not see: what its callers hide, and its own growing lists -/
def hid (O : Addr → Prop) (own : Ow) : Addr → Prop := fun a => O a ∨ ∃ i, own i = some a
/-- H0: the heap at the entry; O: hidden by the callers; xa: the exception that a suite holds -/
structure Rel (K : PySem.W.Frag) (xa : XA) (O : Addr → Prop) (H0 : Hp) (own : Ow) (σ : L2.St) (H : Hp) (ρ : Env) : Prop where
  len : σ.length = ρ.length
  keep : ∀ b o, H0 b = some o → H b = some o ∧ ∀ i, own i ≠ some b
  inj : ∀ i j a, own i = some a → own j = some a → i = j
  dis : ∀ i a, own i = some a → ¬ O a
  hd : ∀ b, O b → H b ≠ none
  cl : ∀ (i : Nat) (d : D), ρ[i]? = some (.cl d) → ∃ v, σ[i]? = some (some v) ∧ Rp K (er (hid O own) H) v d
  ow : ∀ (i : Nat) (ds : List D), ρ[i]? = some (.ow ds) → ∃ a xs, own i = some a ∧ σ[i]? = some (some (.ref a)) ∧ H a = some (.lst xs) ∧ xs.length ≤ cap ∧ RpL K (er (hid O own) H) xs ds
  no : ∀ (i : Nat), (∀ s, ρ[i]? = some s → s.holds = false) → own i = none
  ex : ∀ (i : Nat) (c : Nat), ρ[i]? = some (Slot.ex c) → ∃ a, xa.e = some (a, c) ∧ σ[i]? = some (some (V.ref a))
  ob : ∀ (i c : Nat) (fs : List (Nat × D)), ρ[i]? = some (.ob c fs) → ∃ a fv, own i = some a ∧ σ[i]? = some (some (.ref a)) ∧ ObAt K H a c fv ∧ fs.length ≤ 100 ∧ FRp K (er (hid O own) H) fv fs
  me : ∀ (p : Nat) (a : Addr) (c : Nat) (fs : List (Nat × D)), xa.m = some (p, a) → ρ[p]? = some (.ob c fs) → own p = some a
section
variable {K : PySem.W.Frag} {xa : XA} {O : Addr → Prop} {H0 : Hp} {own : Ow} {σ : L2.St} {H H' : Hp} {ρ : Env}
theorem Rel.ownAt (R : Rel K xa O H0 own σ H ρ) {i : Nat} {a : Addr} (h : own i = some a) : ∃ o, H a = some o := by
  cases q : ρ[i]? with
  | none => have := R.no i (by rw [q]; intro s z; cases z); rw [h] at this; cases this
  | some s =>
    cases s with
    | ow ds =>
      obtain ⟨b, xs, e1, _, e2, _⟩ := R.ow i ds q
      rw [h] at e1; cases e1
      exact ⟨_, e2⟩
    | ob c fs =>
      obtain ⟨b, fv, e1, _, ⟨_, dx, e2⟩, _⟩ := R.ob i c fs q
      rw [h] at e1; cases e1
      exact ⟨_, e2⟩
    | _ => have := R.no i (by rw [q]; intro s z; cases z; rfl); rw [h] at this; cases this
theorem Rel.hidden (R : Rel K xa O H0 own σ H ρ) {a : Addr} (h : hid O own a) : H a ≠ none := by
  rcases h with h | ⟨i, h⟩
  · exact R.hd a h
  · obtain ⟨o, e⟩ := R.ownAt h
    rw [e]; simp
theorem Rel.fresh (R : Rel K xa O H0 own σ H ρ) {p : Addr} (h : H p = none) : ¬ hid O own p := fun c => R.hidden c h
theorem Rel.mono (R : Rel K xa O H0 own σ H ρ) (s : Same H H') : Rel K xa O H0 own σ H' ρ where
  len := R.len
  keep := fun b o e => ⟨s b o (R.keep b o e).1, (R.keep b o e).2⟩
  inj := R.inj
  dis := R.dis
  hd := fun b h => by
    cases q : H b with
    | none => exact absurd q (R.hd b h)
    | some o => rw [s b o q]; simp
  cl := fun i d e => let ⟨v, h1, h2⟩ := R.cl i d e; ⟨v, h1, h2.mono (same_erO s)⟩
  ow := fun i ds e => let ⟨a, xs, h1, h2, h3, h4, h5⟩ := R.ow i ds e; ⟨a, xs, h1, h2, s _ _ h3, h4, h5.mono (same_erO s)⟩
  no := R.no
  ex := R.ex
  ob := fun i c fs e => let ⟨a, fv, h1, h2, ⟨h0, dx, h3⟩, h4, h5⟩ := R.ob i c fs e; ⟨a, fv, h1, h2, ⟨h0, dx, s _ _ h3⟩, h4, h5.mono (same_erO s)⟩
  me := R.me

/-- quasi clean: clean, or one of the frame's own lists -/
def QR (K : PySem.W.Frag) (O : Addr → Prop) (own : Ow) (H : Hp) (v : V) (d : D) : Prop :=
  Rp K (er (hid O own) H) v d ∨ ∃ i a xs ds, own i = some a ∧ v = .ref a ∧ d = .list ds ∧ H a = some (.lst xs) ∧ xs.length ≤ cap ∧ RpL K (er (hid O own) H) xs ds
theorem QR.mono {v : V} {d : D} (q : QR K O own H v d) (s : Same H H') : QR K O own H' v d := by
  rcases q with q | ⟨i, a, xs, ds, h1, h2, h3, h4, h5, h6⟩
  · exact .inl (q.mono (same_erO s))
  · exact .inr ⟨i, a, xs, ds, h1, h2, h3, s _ _ h4, h5, h6.mono (same_erO s)⟩
theorem QR.full {v : V} {d : D} (q : QR K O own H v d) : Rp K H v d := by
  rcases q with q | ⟨i, a, xs, ds, h1, h2, h3, h4, h5, h6⟩
  · exact q.mono er_le
  · subst h2 h3
    exact .lst (.of h4) h5 (h6.mono er_le)
theorem QR.list {v : V} {ds : List D} (q : QR K O own H v (.list ds)) : ∃ a xs, v = .ref a ∧ SqL K H a xs ∧ xs.length ≤ cap ∧ RpL K (er (hid O own) H) xs ds := by
  rcases q with q | ⟨i, a, xs, ds', h1, h2, h3, h4, h5, h6⟩
  · cases q with
    | lst h z l => exact ⟨_, _, rfl, Same.seq er_le h, z, l⟩
  · cases h3
    exact ⟨a, xs, h2, .of h4, h5, h6⟩
theorem QR.tuple {v : V} {ds : List D} (q : QR K O own H v (.tuple ds)) : ∃ a xs, v = .ref a ∧ SqT K H a xs ∧ xs.length ≤ cap ∧ RpL K (er (hid O own) H) xs ds := by
  rcases q with q | ⟨i, a, xs, ds', h1, h2, h3, h4, h5, h6⟩
  · cases q with
    | tup h z l => exact ⟨_, _, rfl, seqT_same er_le h, z, l⟩
  · cases h3
theorem QR.int {v : V} {i : Int} (q : QR K O own H v (.int i)) : v = .int i := by
  rcases q with q | ⟨_, _, _, _, _, _, h3, _⟩
  · cases q; rfl
  · cases h3
theorem QR.bool {v : V} {i : Bool} (q : QR K O own H v (.bool i)) : v = .bl i := by
  rcases q with q | ⟨_, _, _, _, _, _, h3, _⟩
  · cases q; rfl
  · cases h3
theorem QR.str {v : V} {i : Str} (q : QR K O own H v (.str i)) : v = .str i := by
  rcases q with q | ⟨_, _, _, _, _, _, h3, _⟩
  · cases q; rfl
  · cases h3
theorem QR.none {v : V} (q : QR K O own H v .none) : v = .non := by
  rcases q with q | ⟨_, _, _, _, _, _, h3, _⟩
  · cases q; rfl
  · cases h3
theorem QR.flat {v : V} {d : D} (q : QR K O own H v d) (f : flatD d = true) : Rp K (er (hid O own) H) v d := by
  rcases q with q | ⟨_, _, _, _, _, _, h3, _⟩
  · exact q
  · subst h3; simp [flatD] at f
/-- a new tuple, a new list -/
theorem new_tup {p : Addr} {xs : List V} {ds : List D} (hp : H p = Option.none) (hf : ¬ hid O own p) (z : xs.length ≤ cap) (h : RpL K (er (hid O own) H) xs ds) :
    Rp K (er (hid O own) (upd H p (.tup xs))) (.ref p) (.tuple ds) :=
  .tup (.of (by rw [er_out hf]; exact upd_same)) z (h.mono (same_erO (same_upd hp)))
theorem new_lst {p : Addr} {xs : List V} {ds : List D} (hp : H p = Option.none) (hf : ¬ hid O own p) (z : xs.length ≤ cap) (h : RpL K (er (hid O own) H) xs ds) :
    Rp K (er (hid O own) (upd H p (.lst xs))) (.ref p) (.list ds) :=
  .lst (.of (by rw [er_out hf]; exact upd_same)) z (h.mono (same_erO (same_upd hp)))
end

/-! ### an answer, wished for -/
/-- what is wanted of an answer that is reached from the heap H -/
def Fin (cv : Nat → Value) (W : WX) (σ : L2.St) (H : Hp) {α : Type} (r : Rs α) (P : α → Hp → Prop) : Prop := match r with
  | .ok a => ∀ H', Same H H' → P a H'
  | .exc c => ∀ H', Same H H' → W (cv c) none σ H'
  | .bad => False
section
variable {cv : Nat → Value} {W : WX} {σ : L2.St} {H H1 : Hp} {α β : Type} {r : Rs α} {P P' : α → Hp → Prop}
theorem Fin.mono (f : Fin cv W σ H r P) (s : Same H H1) : Fin cv W σ H1 r P := by
  cases r with
  | ok a => exact fun H' e => f H' (s.trans e)
  | exc c => exact fun H' e => f H' (s.trans e)
  | bad => exact f
theorem Fin.map (f : Fin cv W σ H r P) (g : ∀ a H', Same H H' → P a H' → P' a H') : Fin cv W σ H r P' := by
  cases r with
  | ok a => exact fun H' e => g a H' e (f H' e)
  | exc c => exact f
  | bad => exact f
theorem Fin.bd {k : α → Rs β} {Q : β → Hp → Prop} (f : Fin cv W σ H (r.bd k) Q) : Fin cv W σ H r fun a H' => Fin cv W σ H' (k a) Q := by
  cases r with
  | ok a => exact fun H' e => Fin.mono (show Fin cv W σ H (k a) Q from f) e
  | exc c => exact f
  | bad => exact f
theorem Fin.ok {a : α} (f : Fin cv W σ H (.ok a) P) : P a H := f H (Same.refl H)
theorem Fin.here {a : α} {H' : Hp} (f : Fin cv W σ H (.ok a) P) (s : Same H H') : P a H' := f H' s
end
end Pu

/-! Pu, part 4: does a piece of the program's syntax say what a piece of the small language says? A check, for the kernel to run. -/
namespace Pu
open PySem PySem.Spec PyProof.Rows L2

/-- the names of the text: constants, defs with their numbers of parameters, exception classes, built-ins that stand as they are -/
structure Tb where
  consts : List (Nat × Str)
  fns : List (Nat × (Str × Nat))
  cls : List (Nat × Str)
  blts : List Str
  /-- methods: the class, the name, the number of parameters (self among them) -/
  mts : List (Nat × (Nat × (Str × Nat)))
  /-- defs that take an object: the name, the number of parameters, its place -/
  fos : List (Nat × (Str × (Nat × Nat)))
  /-- the place of the object among this def's arguments -/
  me : Option Nat
def okN (x : Str) : Bool := !(x == ("__debug__" : Str)) && !(x == ("__classdict__" : Str))
def nmB (N : List Str) (i : Nat) (x : Str) : Bool := decide (N[i]? = some x) && okN x
def visB (sc : Scope) (x : Str) : Bool := match sc.names.lookup x with
  | some .local | some .cell | some .free => true
  | _ => false
def locB (sc : Scope) (x : Str) : Bool := match sc.names.lookup x with
  | some .local | some .cell => true
  | _ => false
def lclB (sc : Scope) (x : Str) : Bool := match sc.names.lookup x with
  | some .local => true
  | _ => false
def glB (sc : Scope) (x : Str) : Bool := (match sc.names.lookup x with
  | some .globalImplicit => true
  | _ => false) && okN x
def bltB (T : Tb) (sc : Scope) (x : Str) : Bool := glB sc x && T.blts.contains x
def opB : Op2 → Operator → Bool
  | .add, .Add | .sub, .Sub | .mul, .Mult | .fdiv, .FloorDiv | .mod, .Mod | .pow, .Pow => true
  | _, _ => false
def cmB : Cm → CmpOp → Bool
  | .eq, .Eq | .ne, .NotEq | .lt, .Lt | .le, .LtE | .gt, .Gt | .ge, .GtE | .is_, .Is | .isnot, .IsNot | .in_, .In | .notin, .NotIn => true
  | _, _ => false
def Cm.lin : Cm → Bool
  | .lt | .le | .gt | .ge => true
  | _ => false
def noSet : Expr → Bool
  | .Set _ _ _ => false
  | _ => true
def noSlice : Expr → Bool
  | .Slice _ _ _ _ => false
  | _ => true
def noStar : Expr → Bool
  | .Starred _ _ => false
  | _ => true
def noSup : Expr → Bool
  | .Call (.Name _ _) [] [] _ => false
  | _ => true
def Bl.nm : Bl → Str
  | .len => "len" | .all => "all" | .any => "any" | .min => "min" | .max => "max" | .sum => "sum" | .tuple => "tuple" | .list => "list" | .sorted => "sorted"
def Bl2.nm : Bl2 → Str
  | .min => "min" | .max => "max"
def Ty.nm : Ty → Str
  | .int => "int" | .bool => "bool" | .str => "str" | .tuple => "tuple" | .list => "list"
def Mt.nm : Mt → Str
  | .index => "index"
def Exs.len : Exs → Nat
  | .nil => 0
  | .cons _ r => r.len + 1
def isOwn : Ex → Bool
  | .own _ => true
  | _ => false
/-- may it stand as a test? -/
def tst : Ex → Bool
  | .ite _ _ _ => false
  | _ => true
def ownOf (N : List Str) (is : List Nat) : List (Str × Nat) := is.filterMap fun i => (N[i]?).map fun x => (x, i)
def ckTgs (N : List Str) (p : Str → Bool) : List Nat → List Expr → Bool
  | [], [] => true
  | i :: is, e :: es => (match e with
    | .Name x _ => nmB N i x && p x
    | _ => false) && ckTgs N p is es
  | _, _ => false
def ckTg (N : List Str) (p : Str → Bool) : Tg → Expr → Bool
  | .name i, e => match e with
    | .Name x _ => nmB N i x && p x
    | _ => false
  | .tup is, e => match e with
    | .Tuple es _ _ => ckTgs N p is es
    | _ => false
def Tg.isTup : Tg → Bool
  | .tup _ => true
  | _ => false
mutual
/-- may it stand in an except suite? -/
def hotX : Ex → Bool
  | .non | .bl _ | .int _ | .str _ | .var _ | .own _ | .glob _ | .isx _ _ => true
  | .tup es | .lst es => hotXs es
  | .op .add a b => hotX a && hotX b
  | .mth _ a b => hotX a && hotX b
  | _ => false
def hotXs : Exs → Bool
  | .nil => true
  | .cons e es => hotX e && hotXs es
end
mutual
/-- may it stand in an except suite? -/
def hotS : S → Bool
  | .set _ e => hotX e
  | .ret e => hotX e
  | .xs (.ret (.pur e)) => hotX e && !isOwn e
  | .ret0 | .pass | .frz _ => true
  | _ => false
def hotSs : Ss → Bool
  | .nil => true
  | .cons s ss => hotS s && hotSs ss
end
section
variable (T : Tb) (N : List Str)
/-- a list of defs' names -/
def ckGs (T : Tb) (n : Nat) (sc : Scope) : List Nat → List Expr → Bool
  | [], [] => true
  | g :: gs, e :: l => (match e with
    | .Name x _ => decide (T.fns.lookup g = some (x, n)) && glB sc x
    | _ => false) && ckGs T n sc gs l
  | _, _ => false
mutual
def ckE : Ex → Scope → Expr → Bool
  | .non, _, e => match e with
    | .Constant .none _ _ => true
    | _ => false
  | .bl b, _, e => match e with
    | .Constant (.bool c) _ _ => b == c
    | _ => false
  | .int i, _, e => match e with
    | .Constant (.int j) _ _ => decide (i = j)
    | _ => false
  | .str s, _, e => match e with
    | .Constant (.str t) _ _ => decide (s = t)
    | _ => false
  | .var i, sc, e => match e with
    | .Name x _ => nmB N i x && visB sc x
    | _ => false
  | .own i, sc, e => match e with
    | .Name x _ => nmB N i x && visB sc x
    | _ => false
  | .glob k, sc, e => match e with
    | .Name x _ => decide (T.consts.lookup k = some x) && glB sc x
    | _ => false
  | .tup es, sc, e => match e with
    | .Tuple l _ _ => ckEs es sc l
    | _ => false
  | .lst es, sc, e => match e with
    | .List l _ => ckEs es sc l
    | _ => false
  | .op o a b, sc, e => match e with
    | .BinOp l p r _ => opB o p && ckE a sc l && ckE b sc r
    | _ => false
  | .neg a, sc, e => match e with
    | .UnaryOp .USub x _ => ckE a sc x
    | _ => false
  | .cmp c a b, sc, e => match e with
    | .Compare l [p] [r] _ => cmB c p && noSet r && ckE a sc l && ckE b sc r
    | _ => false
  | .chain c d a b f, sc, e => match e with
    | .Compare l [p, q] [m, r] _ => cmB c p && cmB d q && c.lin && d.lin && ckE a sc l && ckE b sc m && ckE f sc r
    | _ => false
  | .and a b, sc, e => tst a && tst b && (match e with
    | .BoolOp .And [x, y] _ => ckE a sc x && ckE b sc y
    | .BoolOp .And (x :: y :: z :: r) pos => ckE a sc x && ckE b sc (.BoolOp .And (y :: z :: r) pos)
    | _ => false)
  | .or a b, sc, e => tst a && tst b && (match e with
    | .BoolOp .Or [x, y] _ => ckE a sc x && ckE b sc y
    | .BoolOp .Or (x :: y :: z :: r) pos => ckE a sc x && ckE b sc (.BoolOp .Or (y :: z :: r) pos)
    | _ => false)
  | .not a, sc, e => tst a && (match e with
    | .UnaryOp .Not x _ => ckE a sc x
    | _ => false)
  | .ite c a b, sc, e => tst c && !isOwn a && !isOwn b && (match e with
    | .IfExp t x y _ => ckE c sc t && ckE a sc x && ckE b sc y
    | _ => false)
  | .call f es, sc, e => match e with
    | .Call (.Name x _) l [] _ => decide (T.fns.lookup f = some (x, es.len)) && glB sc x && ckEs es sc l
    | _ => false
  | .bi b a, sc, e => match e with
    | .Call (.Name x _) [y] [] _ => decide (x = b.nm) && bltB T sc x && noStar y && ckE a sc y
    | _ => false
  | .bi2 b a c, sc, e => match e with
    | .Call (.Name x _) [y, z] [] _ => decide (x = b.nm) && bltB T sc x && noStar y && noStar z && ckE a sc y && ckE c sc z
    | _ => false
  | .isa a t, sc, e => match e with
    | .Call (.Name x _) [y, .Name z _] [] _ => decide (x = ("isinstance" : Str)) && bltB T sc x && decide (z = t.nm) && bltB T sc z && noStar y && ckE a sc y
    | _ => false
  | .isx i c, sc, e => match e with
    | .Call (.Name x _) [.Name y _, .Name z _] [] _ => decide (x = ("isinstance" : Str)) && bltB T sc x && nmB N i y && visB sc y && decide (T.cls.lookup c = some z) && glB sc z
    | _ => false
  | .idx a i, sc, e => match e with
    | .Subscript x y _ => noSlice y && ckE a sc x && ckE i sc y
    | _ => false
  | .slc a lo hi, sc, e => match e with
    | .Subscript x (.Slice l h none _) _ => ckE a sc x && ckO lo sc l && ckO hi sc h
    | _ => false
  | .comp elt tg it cond, sc, e => !isOwn elt && (match e with
    | .ListComp x [⟨t, iter, ifs, k⟩] scope _ => decide (k = 0) && blkC N sc scope (ownOf N tg.slots) && decide ((ownOf N tg.slots).map (·.2) = tg.slots) && ckTg N (lclB (relS scope sc)) tg t && ckI it tg.isTup sc iter && ckC cond (relS scope sc) ifs && ckE elt (relS scope sc) x
    | _ => false)
  | .comp2 elt tg it tg1 it1, sc, e => !isOwn elt && (match e with
    | .ListComp x [⟨t, iter, ifs, k⟩, ⟨t1, iter1, ifs1, k1⟩] scope _ => decide (k = 0) && decide (k1 = 0) && ifs.isEmpty && ifs1.isEmpty && blkC N sc scope (ownOf N (tg.slots ++ tg1.slots)) && decide ((ownOf N (tg.slots ++ tg1.slots)).map (·.2) = tg.slots ++ tg1.slots)
        && ckTg N (lclB (relS scope sc)) tg t && ckTg N (lclB (relS scope sc)) tg1 t1 && ckI it tg.isTup sc iter && ckI it1 tg1.isTup (relS scope sc) iter1 && ckE elt (relS scope sc) x
    | _ => false)
  | .lrange a b, sc, e => match e with
    | .Call (.Name x _) [.Call (.Name y _) [l, r] [] _] [] _ => decide (x = ("list" : Str)) && bltB T sc x && decide (y = ("range" : Str)) && bltB T sc y && noStar l && noStar r && ckE a sc l && ckE b sc r
    | _ => false
  | .mth m a b, sc, e => match e with
    | .Call (.Attribute o x p) [y] [] q => decide (x = m.nm) && decide (p.endLine = q.line) && noSup o && !isOwn b && noStar y && ckE a sc o && ckE b sc y
    | _ => false
  | .lrep es n, sc, e => match e with
    | .BinOp (.List l _) .Mult r _ => ckEs es sc l && ckE n sc r
    | _ => false
  | .rev a, sc, e => match e with
    | .Subscript x (.Slice none none (some (.UnaryOp .USub (.Constant (.int 1) _ _) _)) _) _ => ckE a sc x
    | _ => false
  | .sortLen a, sc, e => match e with
    | .Call (.Name x _) [y] [⟨some w, .Name z _, _⟩] _ => decide (x = ("sorted" : Str)) && bltB T sc x && decide (w = ("key" : Str)) && decide (z = ("len" : Str)) && bltB T sc z && noStar y && ckE a sc y
    | _ => false
  | .minLen a, sc, e => match e with
    | .Call (.Name x _) [y] [⟨some w, .Name z _, _⟩] _ => decide (x = ("min" : Str)) && bltB T sc x && decide (w = ("key" : Str)) && decide (z = ("len" : Str)) && bltB T sc z && noStar y && ckE a sc y
    | _ => false
  | .fld i f, sc, e => match e with
    | .Attribute (.Name x _) y _ => nmB N i x && visB sc x && decide (y = fldNm f) && decide (f < 8)
    | _ => false
  | .callv gs i es, sc, e => match e with
    | .Call (.Subscript (.List l _) (.Name y _) _) (a :: as) [] _ => decide (gs.length ≤ 1000) && ckGs T es.len sc gs l && nmB N i y && visB sc y && ckEs es sc (a :: as)
    | _ => false
def ckEs : Exs → Scope → List Expr → Bool
  | .nil, _, l => l.isEmpty
  | .cons e es, sc, l => match l with
    | x :: r => !isOwn e && noStar x && ckE e sc x && ckEs es sc r
    | [] => false
def ckO : Eo → Scope → Option Expr → Bool
  | .no, _, e => e.isNone
  | .one a, sc, e => match e with
    | some x => ckE a sc x
    | none => false
def ckC : Eo → Scope → List Expr → Bool
  | .no, _, l => l.isEmpty
  | .one a, sc, l => tst a && (match l with
    | [x] => ckE a sc x
    | _ => false)
def ckI : Itr → Bool → Scope → Expr → Bool
  | .seq a, _, sc, e => !isOwn a && noSet e && ckE a sc e
  | .range1 a, _, sc, e => match e with
    | .Call (.Name x _) [y] [] _ => decide (x = ("range" : Str)) && bltB T sc x && noStar y && ckE a sc y
    | _ => false
  | .range2 a b, _, sc, e => match e with
    | .Call (.Name x _) [y, z] [] _ => decide (x = ("range" : Str)) && bltB T sc x && noStar y && noStar z && ckE a sc y && ckE b sc z
    | _ => false
  | .enum a, tp, sc, e => tp && !isOwn a && (match e with
    | .Call (.Name x _) [y] [] _ => decide (x = ("enumerate" : Str)) && bltB T sc x && noStar y && ckE a sc y
    | _ => false)
  | .zip a b, tp, sc, e => tp && !isOwn a && !isOwn b && (match e with
    | .Call (.Name x _) [y, z] [] _ => decide (x = ("zip" : Str)) && bltB T sc x && noStar y && noStar z && ckE a sc y && ckE b sc z
    | _ => false)
end
/-- arguments, one of them the object's name -/
def ckIns (i : Nat) : Nat → Exs → Scope → List Expr → Bool
  | 0, es, sc, l => match l with
    | x :: r => (match x with
      | .Name y _ => nmB N i y && visB sc y
      | _ => false) && ckEs T N es sc r
    | [] => false
  | p + 1, es, sc, l => match es, l with
    | .cons e es, x :: r => !isOwn e && noStar x && ckE T N e sc x && ckIns i p es sc r
    | _, _ => false
def tstX : Xe → Bool
  | .pur a => tst a
  | _ => true
mutual
def ckX : Xe → Scope → Expr → Bool
  | .pur a, sc, e => !isOwn a && noStar e && ckE T N a sc e
  | .meth i c m es, sc, e => match e with
    | .Call (.Attribute (.Name x _) z p) as [] q => nmB N i x && visB sc x && decide (T.mts.lookup m = some (c, (z, es.len + 1))) && decide (p.endLine = q.line) && decide (as.length < 20) && ckEs T N es sc as
    | _ => false
  | .meth2 i c m n es, sc, e => match e with
    | .Call (.Attribute (.Call (.Attribute (.Name x _) y p1) [] [] q1) z p) as [] q => nmB N i x && visB sc x && decide (T.mts.lookup m = some (c, (y, 1))) && decide (T.mts.lookup n = some (c, (z, es.len + 1))) && decide (p1.endLine = q1.line) && decide (p.endLine = q.line) && decide (as.length < 20) && ckEs T N es sc as
    | _ => false
  | .callo f p i es, sc, e => match e with
    | .Call (.Name g _) as [] _ => decide (T.fos.lookup f = some (g, (es.len + 1, p))) && glB sc g && ckIns T N i p es sc as
    | _ => false
  | .op o a b, sc, e => match e with
    | .BinOp l q r _ => opB o q && ckX a sc l && ckX b sc r
    | _ => false
  | .cmp c a b, sc, e => match e with
    | .Compare l [p] [r] _ => cmB c p && noSet r && ckX a sc l && ckX b sc r
    | _ => false
  | .and a b, sc, e => tstX a && tstX b && (match e with
    | .BoolOp .And [x, y] _ => ckX a sc x && ckX b sc y
    | .BoolOp .And (x :: y :: z :: r) pos => ckX a sc x && ckX b sc (.BoolOp .And (y :: z :: r) pos)
    | _ => false)
  | .or a b, sc, e => tstX a && tstX b && (match e with
    | .BoolOp .Or [x, y] _ => ckX a sc x && ckX b sc y
    | .BoolOp .Or (x :: y :: z :: r) pos => ckX a sc x && ckX b sc (.BoolOp .Or (y :: z :: r) pos)
    | _ => false)
  | .not a, sc, e => tstX a && (match e with
    | .UnaryOp .Not x _ => ckX a sc x
    | _ => false)
  | .bi b a, sc, e => match e with
    | .Call (.Name x _) [y] [] _ => decide (b = .len) && decide (x = b.nm) && bltB T sc x && noStar y && ckX a sc y
    | _ => false
  | .lst a, sc, e => match e with
    | .List l _ => ckXl a sc l
    | _ => false
  | .nil, _, _ => false
  | .cons _ _, _, _ => false
def ckXl : Xe → Scope → List Expr → Bool
  | .nil, _, l => l.isEmpty
  | .cons a r, sc, l => match l with
    | x :: s => noStar x && ckX a sc x && ckXl r sc s
    | [] => false
  | _, _, _ => false
end
def ckTx (p : Str → Bool) (vis : Str → Bool) : List Tx1 → List Expr → Bool
  | [], [] => true
  | .sl i :: ts, e :: es => (match e with
    | .Name x _ => nmB N i x && p x
    | _ => false) && ckTx p vis ts es
  | .at_ i f :: ts, e :: es => (match e with
    | .Attribute (.Name x _) y _ => nmB N i x && vis x && decide (y = fldNm f) && decide (f < 8)
    | _ => false) && ckTx p vis ts es
  | _, _ => false
/-- C(..), a class's call -/
def ckMk (c m : Nat) (es : Exs) (sc : Scope) (e : Expr) : Bool := match e with
  | .Call (.Name x _) (a :: as) [] _ => decide (x = clsNm c) && glB sc x && decide (T.mts.lookup m = some (c, (("__init__" : Str), es.len + 1))) && ckEs T N es sc (a :: as)
  | _ => false
/-- an expression that makes a new list -/
def freshX : Ex → Bool
  | .lst _ | .comp _ _ _ _ | .comp2 _ _ _ _ _ => true
  | .op .add _ _ => true
  | .slc _ _ _ => true
  | _ => false
def nmF (sc : Scope) (line : Nat) : Expr → Option Str
  | .Name id pos => if sc.names.lookup id == some .local && pos.line == line then some id else none
  | _ => none
/-- what swappedStores gives in a def: none where it is not known -/
def swN (sc : Scope) (ts vs : List Expr) : Option (Option (List Str)) :=
  if !(ts.length == 2 || ts.length == 3) || vs.length != ts.length then some none
  else if vs.any (fun | .Starred .. => true | _ => false) then some none
  else
    let line := (ts.head?.map (·.pos.line)).getD 0
    let names := ts.filterMap (nmF sc line)
    if names.length != ts.length || names.eraseDups.length != names.length then some none
    else if vs.all (foldedForSure 8) then some none
    else if vs.all (constantsAlone 8) then none
    else some (some names)
def ckP : Ps → Scope → List Expr → List Expr → Bool
  | .nil, _, [], [] => true
  | .cons i o e r, sc, t :: ts, v :: vs => (match t with
    | .Name x _ => nmB N i x && locB sc x
    | _ => false) && !isOwn e && noStar v && (!o || freshX e) && ckE T N e sc v && ckP r sc ts vs
  | .mk i c m es r, sc, t :: ts, v :: vs => (match t with
    | .Name x _ => nmB N i x && locB sc x
    | _ => false) && noStar v && decide (T.me ≠ some i) && ckMk T N c m es sc v && ckP r sc ts vs
  | _, _, _, _ => false
def isCall : Expr → Bool
  | .Call _ _ _ _ => true
  | _ => false
def isTuple : Expr → Bool
  | .Tuple _ _ _ => true
  | _ => false
def isComp : Expr → Bool
  | .ListComp _ _ _ _ | .SetComp _ _ _ _ | .DictComp _ _ _ _ _ => true
  | _ => false
/-- a list comprehension that is stored within its frame -/
def swC (sc : Scope) (t : Str) (p : Pos) (line : Nat) : Expr → Bool
  | .ListComp _ _ s q => lclB sc t && decide (p.line = q.line) && !(s.names.any fun (n, k) => n == t && (k == .local || k == .cell))
  | _ => false
def ckXs (sc : Scope) : Xs → Stmt → Bool
  | .set i e, st => match st with
    | .Assign [.Name x _] v _ => nmB N i x && locB sc x && !isComp v && ckX T N e sc v
    | _ => false
  | .ret e, st => match st with
    | .Return (some v) _ => ckX T N e sc v
    | _ => false
  | .reto i, st => match st with
    | .Return (some (.Name x _)) _ => nmB N i x && visB sc x
    | _ => false
  | .ex e, st => match st with
    | .Expr v _ => isCall v && ckX T N e sc v
    | _ => false
  | .fset i f e, st => match st with
    | .Assign [.Attribute (.Name x _) y _] v _ => nmB N i x && visB sc x && decide (y = fldNm f) && decide (f < 8) && !isOwn e && !isComp v && ckE T N e sc v
    | _ => false
  | .px ts es, st => match st with
    | .Assign [.Tuple l _ _] (.Tuple vs _ _) _ => decide (ts.length ≤ 100) && ckTx N (locB sc) (visB sc) ts l && ckEs T N es sc vs && (match swN sc l vs with
      | some none => true
      | _ => false)
    | _ => false
  | .mk i c m es, st => match st with
    | .Assign [.Name x _] v _ => decide (T.me ≠ some i) && nmB N i x && locB sc x && ckMk T N c m es sc v
    | _ => false
  | .mkx c m es, st => match st with
    | .Expr v _ => ckMk T N c m es sc v
    | _ => false
  | .cpy i j c m, st => match st with
    | .Assign [.Name x _] (.Call (.Attribute (.Name y _) z p) [] [] q) _ => decide (T.me ≠ some i) && nmB N i x && locB sc x && nmB N j y && visB sc y && decide (T.mts.lookup m = some (c, (z, 1))) && decide (p.endLine = q.line)
    | _ => false
mutual
def ckS (sc : Scope) : S → Stmt → Bool
  | .set i e, st => match st with
    | .Assign [.Name x p] v pos => nmB N i x && locB sc x && !isOwn e && !isComp v && ckE T N e sc v
    | _ => false
  | .seto i e, st => match st with
    | .Assign [.Name x p] v pos => nmB N i x && locB sc x && freshX e && (!isComp v || swC sc x p pos.line v || !lclB sc x) && ckE T N e sc v
    | _ => false
  | .par ps, st => match st with
    | .Assign [.Tuple ts _ _] (.Tuple vs _ _) _ => decide ps.slots.Nodup && decide (ps.slots.length ≤ 100) && ckP T N ps sc ts vs && (match swN sc ts vs with
      | some (some l) => true
      | some none => true
      | none => false)
    | _ => false
  | .unp is e, st => match st with
    | .Assign [.Tuple ts _ _] v _ => !isTuple v && !isOwn e && ckTgs N (locB sc) is ts && ckE T N e sc v
    | _ => false
  | .app i e, st => match st with
    | .Expr (.Call (.Attribute (.Name x _) m p) [v] [] q) _ => decide (m = ("append" : Str)) && decide (p.endLine = q.line) && nmB N i x && visB sc x && !isOwn e && noStar v && ckE T N e sc v
    | _ => false
  | .ext i e, st => match st with
    | .Expr (.Call (.Attribute (.Name x _) m p) [v] [] q) _ => decide (m = ("extend" : Str)) && decide (p.endLine = q.line) && nmB N i x && visB sc x && !isOwn e && noStar v && freshX e && ckE T N e sc v
    | _ => false
  | .ex e, st => match st with
    | .Expr v _ => isCall v && ckE T N e sc v
    | _ => false
  | .ret e, st => match st with
    | .Return (some v) _ => ckE T N e sc v
    | _ => false
  | .ret0, st => match st with
    | .Return none _ => true
    | _ => false
  | .ite c a b, st => tst c && (match st with
    | .If t x y _ => ckE T N c sc t && ckSs sc a x && ckSs sc b y
    | _ => false)
  | .for_ tg it b, st => match st with
    | .For t iter x [] _ => noSet iter && ckTg N (locB sc) tg t && ckI T N it tg.isTup sc iter && ckSs sc b x
    | _ => false
  | .while_ c b, st => tst c && (match st with
    | .While t x [] _ => ckE T N c sc t && ckSs sc b x
    | _ => false)
  | .raise c, st => match st with
    | .Raise (some (.Call (.Name x _) [.Constant (.str _) _ _] [] _)) none _ => decide (T.cls.lookup c = some x) && glB sc x
    | _ => false
  | .try_ b c sl h, st => match st with
    | .Try x [.ExceptHandler (some (.Name y _)) nm (z :: zs) _] [] [] _ => decide (T.cls.lookup c = some y) && glB sc y && ckSs sc b x && ckSs sc h (z :: zs) && hotSs h && (match sl, nm with
      | none, none => true
      | some i, some n => nmB N i n && lclB sc n
      | _, _ => false)
    | _ => false
  | .brk, st => match st with
    | .Break _ => true
    | _ => false
  | .cont, st => match st with
    | .Continue _ => true
    | _ => false
  | .pass, st => match st with
    | .Pass _ => true
    | _ => false
  | .frz _, _ => false
  | .xs x, st => ckXs T N sc x st
  | .xite c a b, st => tstX c && (match st with
    | .If t x y _ => ckX T N c sc t && ckSs sc a x && ckSs sc b y
    | _ => false)
def ckSs (sc : Scope) : Ss → List Stmt → Bool
  | .nil, l => l.isEmpty
  | .cons (.frz _) ss, l => ckSs sc ss l
  | .cons s ss, l => match l with
    | x :: r => ckS sc s x && ckSs sc ss r
    | [] => false
end
end
end Pu

/-! Pu, part 5: the expressions of the small language are kept by the machine. -/
namespace Pu
open PySem PySem.Spec PyProof.Rows L2

/-- what a def promises that answers as g does -/
def spG (K : PySem.W.Frag) (cv : Nat → Value) (g : List D → Rs D) (n : Nat) : Sp := fun vs H Q E => ∃ (ds : List D) (O : Addr → Prop), vs.length = n ∧ (∀ b, O b → H b ≠ none) ∧ RpL K (er O H) vs ds ∧
  (match g ds with
    | .ok d => ∀ v H', Same H H' → Rp K (er O H') v d → Q v H'
    | .exc c => ∀ H', Same H H' → E (cv c) none H'
    | .bad => False)
/-- what a def promises that answers as g does, with an object at p among its arguments -/
def spO (K : PySem.W.Frag) (cv : Nat → Value) (g : List D → Rs D) (n p : Nat) : Sp := fun vs H Q E => ∃ (pre post : List V) (dpre dpost : List D) (O : Addr → Prop) (a : Addr) (c : Nat) (fs : List (Nat × D)) (fv : List (Str × V)),
  vs = pre ++ V.ref a :: post ∧ vs.length = n ∧ pre.length = p ∧ ¬ O a ∧ (∀ b, O b → H b ≠ none) ∧ ObAt K H a c fv ∧ fs.length ≤ 100 ∧ FRp K (er (fun b => O b ∨ b = a) H) fv fs ∧
  RpL K (er (fun b => O b ∨ b = a) H) pre dpre ∧ RpL K (er (fun b => O b ∨ b = a) H) post dpost ∧
  (match g (dpre ++ obD c fs :: dpost) with
    | .ok r => ∃ d o fs', r = .tuple [d, o] ∧ unOb o = some (c, fs') ∧ fs'.length ≤ 100 ∧
      (((∀ kvs, d ≠ .dict kvs) ∧ ∀ v H' fv', Same (er (fun b => b = a) H) H' → ObAt K H' a c fv' → FRp K (er (fun b => O b ∨ b = a) H') fv' fs' → Rp K (er (fun b => O b ∨ b = a) H') v d → Q v H') ∨
      ∃ c1 fs1, d = obD c1 fs1 ∧ fs1.length ≤ 100 ∧ ∀ x H' fv' fv1, Same (er (fun b => b = a) H) H' → ObAt K H' a c fv' → H x = none → ObAt K H' x c1 fv1 → FRp K (er (fun b => (O b ∨ b = a) ∨ b = x) H') fv' fs' → FRp K (er (fun b => (O b ∨ b = a) ∨ b = x) H') fv1 fs1 → Q (.ref x) H')
    | .exc x => ∀ H' fv', Same (er (fun b => b = a) H) H' → ObAt K H' a c fv' → FRp K (er (fun b => O b ∨ b = a) H') fv' fs → E (cv x) none H'
    | .bad => False)
/-- what follows ValueError -/
def veT : List Value := [.type "ValueError", .type "Exception", .type "BaseException", .type "object"]
/-- what stands behind the names of the text, up to the level k -/
structure Lk (P : Program) (w : World) (K : PySem.W.Frag) (mg : Str → Option Value) (base : Heap) (C : Nat → D) (cv : Nat → Value) (G : Nat → List D → Rs D) (T : Tb) (k : Nat) : Prop where
  glob : ∀ i x, T.consts.lookup i = some x → ∃ v u, mg x = some u ∧ RelV v u ∧ Rp K (fun _ => none) v (C i)
  fn : ∀ f x n, T.fns.lookup f = some (x, n) → ∃ a fd ps, mg x = some (.ref a) ∧ PySem.W.keepIn K (.ref a) = true ∧ Binds K fd ps [] ∧ FnOk P w K mg base (L2.CX P w) (2 * k) a fd ps (spG K cv (G f) n)
  blt : ∀ x, T.blts.contains x = true → mg x = none
  cls : ∀ c x, T.cls.lookup c = some x → ∃ Ca, cv c = .ref Ca ∧ mg x = some (.ref Ca) ∧ PySem.W.excIn K Ca veT "ValueError.__new__" = true ∧ PySem.W.keepIn K (.ref Ca) = true ∧
    PySem.W.subIn K (.ref Ca) (.type "BaseException") = some true ∧ PySem.W.typeIn K (.ref Ca) = some (.type "type")
  any : ∀ c, ∃ Ca, cv c = .ref Ca ∧ ExcC K Ca
  sub : ∀ c d y, T.cls.lookup d = some y → PySem.W.kitOne K (cv c) (cv d) = some (subC c d) ∧ PySem.W.exmOne K (cv c) (cv d) = some (subC c d)
  mt : ∀ m c x n, T.mts.lookup m = some (c, (x, n)) → ∃ f fd ps, ObC K c ∧ Meth K (He.ga K (clsNm c)) x f ∧ (∀ g, g < 8 → fldNm g ≠ x) ∧ (x = ("__init__" : Str) → Mk K (He.ga K (clsNm c)) f ∧ mg (clsNm c) = some (.ref (He.ga K (clsNm c)))) ∧ Binds K fd ps [] ∧
    FnOk P w K mg base (L2.CX P w) (2 * k) f fd ps (spO K cv (G m) n 0)
  fo : ∀ f x n p, T.fos.lookup f = some (x, (n, p)) → ∃ a fd ps, mg x = some (.ref a) ∧ PySem.W.keepIn K (.ref a) = true ∧ Binds K fd ps [] ∧ FnOk P w K mg base (L2.CX P w) (2 * k) a fd ps (spO K cv (G f) n p)

/-- where an expression stands; hot: within an except suite -/
structure XC (X : Cx) (K : PySem.W.Frag) (C : Nat → D) (cv : Nat → Value) (G : Nat → List D → Rs D) (T : Tb) (xa : XA) (W : WX) (k : Nat) (hot : Bool) : Prop where
  eK : X.K = K
  calm : hot = false → X.calm = true
  rm : hot = false → Room (2 * k + 1) X.A
  nd : X.N.Nodup
  tk : Takes X W
  lk : Lk X.prog X.w K X.mg X.base C cv G T k
  isx : ∀ a c D, xa.e = some (a, c) → cv c = .ref D → CallR X (.builtin "isinstance") (rIsE K D a)
  xan : hot = false → xa.e = none
  me : ∀ p a, xa.m = some (p, a) → T.me = some p

theorem PE.imp {X : Cx} {e : Expr} {t t' : TE} (h : PE X e t) (f : ∀ σ H Q, t' σ H Q → t σ H Q) : PE X e t' := ⟨fun pins s σ H Q I w => h.run pins s σ H Q I (f _ _ _ w)⟩
theorem PT.imp {X : Cx} {e : Expr} {t t' : TT} (h : PT X e t) (f : ∀ σ H Q, t' σ H Q → t σ H Q) : PT X e t' := ⟨fun pins s σ H Q I w => h.run pins s σ H Q I (f _ _ _ w)⟩
theorem PW.imp {X : Cx} {e : Expr} {t t' : TT} (h : PW X e t) (f : ∀ σ H Q, t' σ H Q → t σ H Q) : PW X e t' := ⟨fun wh pins s σ H Q I w => h.run wh pins s σ H Q I (f _ _ _ w)⟩
theorem PA.imp {X : Cx} {e : List Expr} {t t' : TA} (h : PA X e t) (f : ∀ σ H Q, t' σ H Q → t σ H Q) : PA X e t' := ⟨fun pos pins s σ H Q I w => h.run pos pins s σ H Q I (f _ _ _ w)⟩
theorem PO.imp {X : Cx} {e : Option Expr} {t t' : TO} (h : PO X e t) (f : ∀ σ H Q, t' σ H Q → t σ H Q) : PO X e t' := ⟨fun pins s σ H Q I w => h.run pins s σ H Q I (f _ _ _ w)⟩
section
variable (K : PySem.W.Frag) (C : Nat → D) (cv : Nat → Value) (G : Nat → List D → Rs D) (xa : XA) (W : WX)
/-- what an expression leaves -/
def Pst (x : Ex) (O : Addr → Prop) (own : Ow) (H : Hp) (v : V) (d : D) : Prop := QR K O own H v d ∧ (isOwn x = false → Rp K (er (hid O own) H) v d)
def tE (x : Ex) : TE := fun σ H Q => ∃ O H0 own ρ, Rel K xa O H0 own σ H ρ ∧ Fin cv W σ H (evE C G x ρ) fun d H' => ∀ v, Pst K x O own H' v d → Q v H'
def tB (x : Ex) : TT := fun σ H Q => ∃ O H0 own ρ, Rel K xa O H0 own σ H ρ ∧ Fin cv W σ H (blR (evE C G x ρ)) Q
def tEs (x : Exs) : TA := fun σ H Q => ∃ O H0 own ρ, Rel K xa O H0 own σ H ρ ∧ Fin cv W σ H (evEs C G x ρ) fun ds H' => ∀ vs, RpL K (er (hid O own) H') vs ds → Q vs H'
def tOp (x : Eo) : TO := fun σ H Q => ∃ O H0 own ρ, Rel K xa O H0 own σ H ρ ∧ Fin cv W σ H (evO C G x ρ) Q
/-- what an iterator does: it yields the items ds, whatever the heap becomes (by R) -/
structure ItOk (O : Addr → Prop) (own : Ow) (H0 : Hp) (J : It) (ds : List D) : Prop where
  go : ∀ (i : Nat) (d : D) H, Same (er (hid O own) H0) H → ds[i]? = some d → J.go i H
  yld : ∀ (i : Nat) (d : D) H x H', Same (er (hid O own) H0) H → ds[i]? = some d → J.yld i H x H' → Same H H' ∧ ∀ (O' : Addr → Prop) own', (∀ b, hid O' own' b → H b ≠ none) → Same (er (hid O own) H0) (er (hid O' own') H) → Rp K (er (hid O' own') H') x d
  stop : ∀ (i : Nat) H, Same (er (hid O own) H0) H → ds.length ≤ i → J.stop i H
def tI (x : Itr) : TI := fun σ H R => ∃ O H0 own ρ, Rel K xa O H0 own σ H ρ ∧ Fin cv W σ H (evI C G x ρ) fun ds H' => ∀ J, ds.length ≤ cap → ItOk K O own H' J ds → R J H'
end

section
variable {X : Cx} {K : PySem.W.Frag} {C : Nat → D} {cv : Nat → Value} {G : Nat → List D → Rs D} {T : Tb} {xa : XA} {W : WX} {k : Nat} {hot : Bool}
variable {O : Addr → Prop} {own : Ow} {σ : L2.St} {H H' : Hp} {Q : VK} {ρ : Env}

/-! ### atoms -/
theorem Pst.of {x : Ex} {v : V} {d : D} (h : Rp K (er (hid O own) H) v d) : Pst K x O own H v d := ⟨.inl h, fun _ => h⟩
theorem Pst.here {x : Ex} {v : V} {d : D} {r : Rs D} (f : Fin cv W σ H r fun d H' => ∀ v, Pst K x O own H' v d → Q v H') (e : r = .ok d) (h : Rp K (er (hid O own) H) v d) : Q v H := by
  subst e
  exact f.ok v (.of h)
theorem c_non {j p} : PE X (.Constant .none j p) (tE K C cv G xa W .non) := PE.imp pe_non fun σ H Q ⟨O, H0, own, ρ, R, f⟩ => Pst.here f (by simp only [evE]) .non
theorem c_bl {b j p} : PE X (.Constant (.bool b) j p) (tE K C cv G xa W (.bl b)) := PE.imp pe_bl fun σ H Q ⟨O, H0, own, ρ, R, f⟩ => Pst.here f (by simp only [evE]) (.bl b)
theorem c_int {b j p} : PE X (.Constant (.int b) j p) (tE K C cv G xa W (.int b)) := PE.imp pe_int fun σ H Q ⟨O, H0, own, ρ, R, f⟩ => Pst.here f (by simp only [evE]) (.int b)
theorem c_str {b j p} : PE X (.Constant (.str b) j p) (tE K C cv G xa W (.str b)) := PE.imp pe_str fun σ H Q ⟨O, H0, own, ρ, R, f⟩ => Pst.here f (by simp only [evE]) (.str b)
theorem okN_dbg {x : Str} (h : okN x = true) : (x == ("__debug__" : Str)) = false ∧ (x == ("__classdict__" : Str)) = false := by
  unfold okN at h
  simpa using h
theorem nmB_ok {N : List Str} {i : Nat} {x : Str} (h : nmB N i x = true) : N[i]? = some x ∧ (x == ("__debug__" : Str)) = false ∧ (x == ("__classdict__" : Str)) = false := by
  unfold nmB at h
  simp only [Bool.and_eq_true, decide_eq_true_eq] at h
  exact ⟨h.1, okN_dbg h.2⟩
theorem visB_ok {sc : Scope} {x : Str} (h : visB sc x = true) : Vis sc x := by
  unfold visB at h
  split at h
  · exact .inl (by assumption)
  · exact .inr (.inl (by assumption))
  · exact .inr (.inr (by assumption))
  · cases h
theorem locB_ok {sc : Scope} {x : Str} (h : locB sc x = true) : Loc sc x := by
  unfold locB at h
  split at h
  · exact .inl (by assumption)
  · exact .inr (by assumption)
  · cases h
theorem lclB_ok {sc : Scope} {x : Str} (h : lclB sc x = true) : sc.names.lookup x = some .local := by
  unfold lclB at h
  split at h
  · assumption
  · cases h
theorem glB_ok {x : Str} (h : glB X.env.scope x = true) : Gl X x ∧ (x == ("__debug__" : Str)) = false := by
  unfold glB at h
  simp only [Bool.and_eq_true] at h
  obtain ⟨h1, h2⟩ := h
  refine ⟨?_, (okN_dbg h2).1⟩
  split at h1
  · assumption
  · cases h1
theorem bltB_ok (hX : XC X K C cv G T xa W k hot) {x : Str} (h : bltB T X.env.scope x = true) : Gl X x ∧ X.mg x = none ∧ (x == ("__debug__" : Str)) = false := by
  unfold bltB at h
  simp only [Bool.and_eq_true] at h
  obtain ⟨g, d⟩ := glB_ok h.1
  exact ⟨g, hX.lk.blt x h.2, d⟩
theorem c_var {i : Nat} {x : Str} {p : Pos} (h1 : nmB X.N i x = true) (h2 : visB X.env.scope x = true) : PE X (.Name x p) (tE K C cv G xa W (.var i)) := by
  obtain ⟨n, d1, d2⟩ := nmB_ok h1
  refine PE.imp (pe_var n (visB_ok h2) d1 d2) fun σ H Q ⟨O, H0, own, ρ, R, f⟩ => ?_
  simp only [evE] at f
  split at f
  · rename_i d e
    obtain ⟨v, h3, h4⟩ := R.cl i d e
    exact ⟨v, h3, f.ok v (.of h4)⟩
  · exact False.elim f
theorem c_own {i : Nat} {x : Str} {p : Pos} (h1 : nmB X.N i x = true) (h2 : visB X.env.scope x = true) : PE X (.Name x p) (tE K C cv G xa W (.own i)) := by
  obtain ⟨n, d1, d2⟩ := nmB_ok h1
  refine PE.imp (pe_var n (visB_ok h2) d1 d2) fun σ H Q ⟨O, H0, own, ρ, R, f⟩ => ?_
  simp only [evE] at f
  split at f
  · rename_i ds e
    obtain ⟨a, xs, h3, h4, h5, h6, h7⟩ := R.ow i ds e
    exact ⟨_, h4, f.ok _ ⟨.inr ⟨i, a, xs, ds, h3, rfl, rfl, h5, h6, h7⟩, fun z => by simp [isOwn] at z⟩⟩
  · exact False.elim f
theorem c_glob (hX : XC X K C cv G T xa W k hot) {i : Nat} {x : Str} {p : Pos} (h1 : T.consts.lookup i = some x) (h2 : glB X.env.scope x = true) : PE X (.Name x p) (tE K C cv G xa W (.glob i)) := by
  obtain ⟨g, d1⟩ := glB_ok h2
  obtain ⟨v, u, m, r, q⟩ := hX.lk.glob i x h1
  refine PE.imp (pe_glob g m r d1) fun σ H Q ⟨O, H0, own, ρ, R, f⟩ => ?_
  exact Pst.here f (by simp only [evE]) (q.mono fun a o e => by cases e)

/-! ### argument lists, displays -/
theorem star_cons {e : Expr} (h : noStar e = true) (env : PySem.Env) (es : List Expr) : starEach (e :: es) env = (false, eval e env) :: starEach es env := by
  cases e <;> first
    | rfl
    | cases h
theorem c_nil : PA X [] (tEs K C cv G xa W .nil) := PA.imp pa_nil fun σ H Q ⟨O, H0, own, ρ, R, f⟩ => Fin.ok (show Fin cv W σ H (.ok []) _ from f) _ .nil
theorem c_cons {a : Ex} {as : Exs} {e : Expr} {es : List Expr} (ha : PE X e (tE K C cv G xa W a)) (hs : PA X es (tEs K C cv G xa W as)) (no : isOwn a = false) (st : starEach (e :: es) X.env = (false, eval e X.env) :: starEach es X.env) :
    PA X (e :: es) (tEs K C cv G xa W (.cons a as)) := by
  refine PA.imp (pa_cons ha hs st) fun σ H Q ⟨O, H0, own, ρ, R, f⟩ => ?_
  simp only [evEs] at f
  refine ⟨O, H0, own, ρ, R, f.bd.map fun d H1 s1 f1 v p1 => ⟨O, H0, own, ρ, R.mono s1, f1.bd.map fun ds H2 s2 f2 vs p2 => ?_⟩⟩
  exact f2.ok _ (.cons ((p1.2 no).mono (same_erO s2)) p2)
theorem c_tup {as : Exs} {es : List Expr} {j p} (h : PA X es (tEs K C cv G xa W as)) : PE X (.Tuple es j p) (tE K C cv G xa W (.tup as)) := by
  refine PE.imp (pe_tup h) fun σ H Q ⟨O, H0, own, ρ, R, f⟩ => ?_
  simp only [evE] at f
  refine ⟨O, H0, own, ρ, R, f.bd.map fun ds H1 s1 f1 vs p1 => ?_⟩
  split at f1
  · rename_i z
    have z' : vs.length ≤ cap := by rw [p1.length]; exact z
    exact ⟨z', fun q hq => f1.here (same_upd hq) _ (.of (new_tup hq ((R.mono s1).fresh hq) z' p1))⟩
  · exact False.elim f1
theorem c_lst {as : Exs} {es : List Expr} {p} (h : PA X es (tEs K C cv G xa W as)) : PE X (.List es p) (tE K C cv G xa W (.lst as)) := by
  refine PE.imp (pe_lst h) fun σ H Q ⟨O, H0, own, ρ, R, f⟩ => ?_
  simp only [evE] at f
  refine ⟨O, H0, own, ρ, R, f.bd.map fun ds H1 s1 f1 vs p1 => ?_⟩
  split at f1
  · rename_i z
    have z' : vs.length ≤ cap := by rw [p1.length]; exact z
    exact ⟨z', fun q hq => f1.here (same_upd hq) _ (.of (new_lst hq ((R.mono s1).fresh hq) z' p1))⟩
  · exact False.elim f1

/-! ### operators -/
/-- what an operator's rule asks, from the small language's answer -/
def OpH (K : PySem.W.Frag) (r : D → D → Rs D) (rr : R2) : Prop := ∀ (cv : Nat → Value) (W : WX) (σ : L2.St) (O : Addr → Prop) (own : Ow) (H : Hp) (dx dy : D) (x y : V) (Q : VK), (∀ p, H p = none → ¬ hid O own p) → QR K O own H x dx → QR K O own H y dy →
  Fin cv W σ H (r dx dy) (fun d H' => ∀ v, Rp K (er (hid O own) H') v d → Q v H') → rr x y H Q
theorem OpH.bin {r : D → D → Rs D} {rr : R2} (hr : OpH K r rr) {a b : Ex} {e1 e2 : Expr} {x : Ex} (ha : PE X e1 (tE K C cv G xa W a)) (hb : PE X e2 (tE K C cv G xa W b)) (hx : ∀ ρ, evE C G x ρ = (evE C G a ρ).bd fun u => (evE C G b ρ).bd fun v => r u v)
    {σ : L2.St} {H : Hp} {Q : VK} (h : tE K C cv G xa W x σ H Q) : L2.tOp rr (tE K C cv G xa W a) (tE K C cv G xa W b) σ H Q := by
  obtain ⟨O, H0, own, ρ, R, f⟩ := h
  rw [hx] at f
  refine ⟨O, H0, own, ρ, R, f.bd.map fun dx H1 s1 f1 vx p1 => ⟨O, H0, own, ρ, R.mono s1, f1.bd.map fun dy H2 s2 f2 vy p2 => ?_⟩⟩
  refine hr cv W σ O own H2 dx dy vx vy Q (fun p hp => ((R.mono s1).mono s2).fresh hp) (p1.1.mono s2) p2.1 (f2.map fun d H3 s3 g v rv => g v (.of rv))
theorem QR.rpT {v : V} {ds : List D} (q : QR K O own H v (.tuple ds)) : Rp K (er (hid O own) H) v (.tuple ds) := by
  rcases q with q | ⟨_, _, _, _, _, _, h3, _⟩
  · exact q
  · cases h3
def rAddA (K : PySem.W.Frag) : R2 := fun x y H Q => (rI0 fun i j => .int (i + j)) x y H Q ∨ rCatA K x y H Q ∨ rCatQ K x y H Q
theorem op_addA : OpR X (binaryOp .Add) (rAddA X.K) := OpR.or op_add (OpR.or op_catA op_catQ)
theorem h_add : OpH K (op2 .add) (rAddA K) := by
  intro cv W σ O own H dx dy x y Q hf qx qy f
  cases dx with
  | int i =>
    cases dy with
    | int j =>
      rw [qx.int, qy.int]
      exact .inl ⟨_, _, rfl, rfl, f.ok _ (.int _)⟩
    | _ => exact False.elim f
  | tuple a =>
    cases dy with
    | tuple b =>
      simp only [op2] at f
      split at f
      · rename_i z
        obtain ⟨p, xs, rfl, h1, z1, l1⟩ := qx.tuple
        obtain ⟨q, ys, rfl, h2, z2, l2⟩ := qy.tuple
        have e1 := l1.length
        have e2 := l2.length
        refine .inr (.inl ⟨p, q, xs, ys, rfl, rfl, h1, h2, by rw [e1, e2]; exact z, fun ex => ?_, fun _ ey => ?_, fun _ _ r hr => ?_⟩)
        · subst ex
          cases a with
          | nil => exact f.ok _ qy.rpT
          | cons _ _ => simp at e1
        · subst ey
          cases b with
          | nil => rw [List.append_nil] at f; exact f.ok _ qx.rpT
          | cons _ _ => simp at e2
        · exact f.here (same_upd hr) _ (new_tup hr (hf r hr) (by rw [List.length_append, e1, e2]; exact z) (l1.append l2))
      · exact False.elim f
    | _ => exact False.elim f
  | list a =>
    cases dy with
    | list b =>
      simp only [op2] at f
      split at f
      · rename_i z
        obtain ⟨p, xs, rfl, h1, z1, l1⟩ := qx.list
        obtain ⟨q, ys, rfl, h2, z2, l2⟩ := qy.list
        have e1 := l1.length
        have e2 := l2.length
        refine .inr (.inr ⟨p, q, xs, ys, rfl, rfl, h1, h2, by rw [e1, e2]; exact z, fun r hr => ?_⟩)
        exact f.here (same_upd hr) _ (new_lst hr (hf r hr) (by rw [List.length_append, e1, e2]; exact z) (l1.append l2))
      · exact False.elim f
    | _ => exact False.elim f
  | _ => exact False.elim f
theorem h_sub : OpH K (op2 .sub) (rI0 fun i j => .int (i - j)) := by
  intro cv W σ O own H dx dy x y Q hf qx qy f
  cases dx with
  | int i =>
    cases dy with
    | int j =>
      rw [qx.int, qy.int]
      exact ⟨_, _, rfl, rfl, f.ok _ (.int _)⟩
    | _ => exact False.elim f
  | _ => exact False.elim f
def rMulA (K : PySem.W.Frag) : R2 := fun x y H Q => (rI CMul fun i j => .int (i * j)) x y H Q ∨ rRepA K x y H Q ∨ ∃ i k, x = .int i ∧ y = .bl k ∧ Q (.int (i * if k = true then (1 : Int) else 0)) H
theorem op_mulA : OpR X (binaryOp .Mult) (rMulA X.K) := OpR.or op_mul (OpR.or op_repA op_mulIB)
theorem h_mul : OpH K (op2 .mul) (rMulA K) := by
  intro cv W σ O own H dx dy x y Q hf qx qy f
  cases dx with
  | int i =>
    cases dy with
    | int j =>
      simp only [op2] at f
      split at f
      · rename_i z
        rw [qx.int, qy.int]
        exact .inl ⟨_, _, rfl, rfl, z, f.ok _ (.int _)⟩
      · exact False.elim f
    | bool b =>
      simp only [op2] at f
      rw [qx.int, qy.bool]
      exact .inr (.inr ⟨_, _, rfl, rfl, f.ok _ (.int _)⟩)
    | _ => exact False.elim f
  | tuple a =>
    cases dy with
    | int kk =>
      simp only [op2] at f
      split at f
      · rename_i z
        obtain ⟨p, xs, rfl, h1, z1, l1⟩ := qx.tuple
        have e1 := l1.length
        refine .inr (.inl ⟨p, kk, xs, rfl, qy.int, h1, ?_, z.2.1, z.2.2.1, by rw [e1]; exact z.2.2.2, fun e => ?_, fun _ r hr => ?_⟩)
        · rintro rfl
          cases a with
          | nil => exact z.1 rfl
          | cons _ _ => simp at e1
        · subst e
          have e : (List.replicate (1 : Int).toNat a).flatten = a := by simp
          rw [e] at f
          exact f.ok _ qx.rpT
        · refine f.here (same_upd hr) _ (new_tup hr (hf r hr) ?_ (l1.rep _))
          rw [PyProof.Rows.lm_len_rep_flat, e1]
          have a1 : kk.toNat * a.length ≤ 1000 * 1000 := Nat.mul_le_mul (by omega) z.2.2.2
          unfold cap
          omega
      · exact False.elim f
    | _ => exact False.elim f
  | _ => exact False.elim f
theorem h_fdiv : OpH K (op2 .fdiv) (rI CDivW fun i j => .int (i / j)) := by
  intro cv W σ O own H dx dy x y Q hf qx qy f
  cases dx with
  | int i =>
    cases dy with
    | int j =>
      rw [qx.int, qy.int]
      simp only [op2] at f
      split at f
      · rename_i z
        exact ⟨_, _, rfl, rfl, z, f.ok _ (.int _)⟩
      · exact False.elim f
    | _ => exact False.elim f
  | _ => exact False.elim f
theorem h_mod : OpH K (op2 .mod) (rI (fun _ j => 0 < j) fun i j => .int (i % j)) := by
  intro cv W σ O own H dx dy x y Q hf qx qy f
  cases dx with
  | int i =>
    cases dy with
    | int j =>
      rw [qx.int, qy.int]
      simp only [op2] at f
      split at f
      · rename_i z
        exact ⟨_, _, rfl, rfl, z, f.ok _ (.int _)⟩
      · exact False.elim f
    | _ => exact False.elim f
  | _ => exact False.elim f
theorem h_pow : OpH K (op2 .pow) (rI CPow fun i j => .int (i ^ j.toNat)) := by
  intro cv W σ O own H dx dy x y Q hf qx qy f
  cases dx with
  | int i =>
    cases dy with
    | int j =>
      rw [qx.int, qy.int]
      simp only [op2] at f
      split at f
      · rename_i z
        exact ⟨_, _, rfl, rfl, z, f.ok _ (.int _)⟩
      · exact False.elim f
    | _ => exact False.elim f
  | _ => exact False.elim f
theorem c_op (eK : X.K = K) {o : Op2} {p : Operator} {a b : Ex} {e1 e2 : Expr} {pos : Pos} (hp : opB o p = true) (ha : PE X e1 (tE K C cv G xa W a)) (hb : PE X e2 (tE K C cv G xa W b)) : PE X (.BinOp e1 p e2 pos) (tE K C cv G xa W (.op o a b)) := by
  subst eK
  cases o <;> cases p <;> first | (exact absurd hp (by decide)) | skip
  · exact PE.imp (pe_op op_addA ha hb) fun σ H Q h => h_add.bin ha hb (fun ρ => by simp only [evE]) h
  · exact PE.imp (pe_op op_sub ha hb) fun σ H Q h => h_sub.bin ha hb (fun ρ => by simp only [evE]) h
  · exact PE.imp (pe_op op_mulA ha hb) fun σ H Q h => h_mul.bin ha hb (fun ρ => by simp only [evE]) h
  · exact PE.imp (pe_op op_fdivW ha hb) fun σ H Q h => h_fdiv.bin ha hb (fun ρ => by simp only [evE]) h
  · exact PE.imp (pe_op op_mod ha hb) fun σ H Q h => h_mod.bin ha hb (fun ρ => by simp only [evE]) h
  · exact PE.imp (pe_op op_pow ha hb) fun σ H Q h => h_pow.bin ha hb (fun ρ => by simp only [evE]) h
theorem c_neg {a : Ex} {e : Expr} {pos : Pos} (ha : PE X e (tE K C cv G xa W a)) : PE X (.UnaryOp .USub e pos) (tE K C cv G xa W (.neg a)) := by
  refine PE.imp (pe_un un_neg ha) fun σ H Q ⟨O, H0, own, ρ, R, f⟩ => ?_
  simp only [evE] at f
  refine ⟨O, H0, own, ρ, R, f.bd.map fun d H1 s1 f1 v p1 => ?_⟩
  cases d with
  | int i => exact ⟨_, p1.1.int, f1.ok _ (.of (.int _))⟩
  | _ => exact False.elim f1
end
end Pu

/-! Pu, part 6: comparisons, tests, calls, built-ins, items, slices. -/
namespace Pu
open PySem PySem.Spec PyProof.Rows L2
theorem PE.never {X : Cx} {e : Expr} : PE X e (fun _ _ _ => False) := ⟨fun _ _ _ _ _ _ h => h.elim⟩
theorem blR_bd {α : Type} (r : Rs α) (f : α → Rs D) : blR (r.bd f) = r.bd fun a => blR (f a) := by cases r <;> rfl
section
variable {X : Cx} {K : PySem.W.Frag} {C : Nat → D} {cv : Nat → Value} {G : Nat → List D → Rs D} {T : Tb} {xa : XA} {W : WX} {k : Nat} {hot : Bool}
variable {O : Addr → Prop} {own : Ow} {σ : L2.St} {H H' : Hp} {Q : VK} {ρ : Env}

/-! ### comparisons -/
def CmH (K : PySem.W.Frag) (c : Cm) (rr : R2) : Prop := ∀ (O : Addr → Prop) (own : Ow) (H : Hp) (dx dy : D) (x y : V) (b : Bool) (Q : VK), QR K O own H x dx → QR K O own H y dy → cmpD c dx dy = some b → Q (.bl b) H → rr x y H Q
theorem CmH.bin {c : Cm} {rr : R2} (hr : CmH K c rr) {a b : Ex} {β : Type} {f : Bool → Rs β} {P : β → Hp → Prop} {H0 : Hp} (R : Rel K xa O H0 own σ H ρ)
    (h : Fin cv W σ H ((evE C G a ρ).bd fun u => (evE C G b ρ).bd fun v => (Rs.of (cmpD c u v)).bd f) P) (hq : ∀ r H', Same H H' → Fin cv W σ H' (f r) P → Q (.bl r) H') :
    L2.tOp rr (tE K C cv G xa W a) (tE K C cv G xa W b) σ H Q := by
  refine ⟨O, H0, own, ρ, R, h.bd.map fun dx H1 s1 f1 vx p1 => ⟨O, H0, own, ρ, R.mono s1, f1.bd.map fun dy H2 s2 f2 vy p2 => ?_⟩⟩
  cases e : cmpD c dx dy with
  | some r => rw [e] at f2; exact hr O own H2 dx dy vx vy r Q (p1.1.mono s2) p2.1 e (hq r H2 (s1.trans s2) f2)
  | none => rw [e] at f2; exact False.elim f2
theorem okD_ok : ∀ (n : Nat) (d : D), okD n d = true → PyData.canLay0 d = true ∧ PyData.depth d ≤ n
  | 0, _, h => by cases h
  | n + 1, d, h => by
    have all : ∀ ds : List D, ds.all (okD n) = true → PyData.canLayAll0 ds = true ∧ PyData.depthAll ds ≤ n := by
      intro ds
      induction ds with
      | nil => intro _; exact ⟨by simp [PyData.canLayAll0], by simp [PyData.depthAll]⟩
      | cons d ds ih =>
        intro h
        rw [List.all_cons, Bool.and_eq_true] at h
        obtain ⟨h1, h2⟩ := okD_ok n d h.1
        obtain ⟨h3, h4⟩ := ih h.2
        refine ⟨by simp [PyData.canLayAll0, h1, h3], ?_⟩
        simp only [PyData.depthAll]
        omega
    cases d with
    | list xs =>
      obtain ⟨h1, h2⟩ := all xs h
      exact ⟨by simp [PyData.canLay0, h1], by simp only [PyData.depth]; omega⟩
    | tuple xs =>
      obtain ⟨h1, h2⟩ := all xs h
      exact ⟨by simp [PyData.canLay0, h1], by simp only [PyData.depth]; omega⟩
    | str x => exact ⟨by simpa [PyData.canLay0, okD] using h, by simp [PyData.depth]⟩
    | dict _ => cases h
    | _ => exact ⟨by simp [PyData.canLay0], by simp [PyData.depth]⟩
theorem okD_shaped {d : D} (h : okD 8 d = true) : SeqAt.shaped d = true := by
  obtain ⟨h1, h2⟩ := okD_ok 8 d h
  unfold SeqAt.shaped
  rw [h1, Bool.true_and, decide_eq_true_eq]
  omega
theorem m_eq : CmH K .eq (rEqD K) := by
  intro O own H dx dy x y b Q qx qy e q
  simp only [cmpD] at e
  split at e
  · rename_i z; cases e; exact ⟨dx, dy, qx.full.dp, qy.full.dp, okD_shaped z.1, okD_shaped z.2, q⟩
  · cases e
theorem m_ne : CmH K .ne (rNeD K) := by
  intro O own H dx dy x y b Q qx qy e q
  simp only [cmpD] at e
  split at e
  · rename_i z; cases e; exact ⟨dx, dy, qx.full.dp, qy.full.dp, okD_shaped z.1, okD_shaped z.2, q⟩
  · cases e
def rLtA (K : PySem.W.Frag) : R2 := fun x y H Q => (rI0 fun i j => .bl (decide (i < j))) x y H Q ∨ rLtT K x y H Q
theorem m_lt : CmH K .lt (rLtA K) := by
  intro O own H dx dy x y b Q qx qy e q
  cases dx with
  | int i =>
    cases dy with
    | int j => cases e; rw [qx.int, qy.int]; exact .inl ⟨_, _, rfl, rfl, q⟩
    | _ => cases e
  | tuple a =>
    cases dy with
    | tuple c =>
      simp only [cmpD] at e
      split at e
      · rename_i u v e1 e2
        cases e
        obtain ⟨p, xs, rfl, h1, z1, l1⟩ := qx.tuple
        obtain ⟨p2, ys, rfl, h2, z2, l2⟩ := qy.tuple
        have i1 := l1.ints e1
        have i2 := l2.ints e2
        subst i1 i2
        exact .inr ⟨p, p2, u, v, rfl, rfl, h1, h2, q⟩
      · cases e
    | _ => cases e
  | _ => cases dy <;> cases e
theorem m_le : CmH K .le (rI0 fun i j => .bl (decide (i ≤ j))) := by
  intro O own H dx dy x y b Q qx qy e q
  cases dx with
  | int i =>
    cases dy with
    | int j => cases e; rw [qx.int, qy.int]; exact ⟨_, _, rfl, rfl, q⟩
    | _ => cases e
  | _ => cases dy <;> cases e
theorem m_gt : CmH K .gt (rI0 fun i j => .bl (decide (j < i))) := by
  intro O own H dx dy x y b Q qx qy e q
  cases dx with
  | int i =>
    cases dy with
    | int j => cases e; rw [qx.int, qy.int]; exact ⟨_, _, rfl, rfl, q⟩
    | _ => cases e
  | _ => cases dy <;> cases e
theorem m_ge : CmH K .ge (rI0 fun i j => .bl (decide (j ≤ i))) := by
  intro O own H dx dy x y b Q qx qy e q
  cases dx with
  | int i =>
    cases dy with
    | int j => cases e; rw [qx.int, qy.int]; exact ⟨_, _, rfl, rfl, q⟩
    | _ => cases e
  | _ => cases dy <;> cases e
def rIsN : R2 := fun x y H Q => y = .non ∧ Q (.bl (decide (x = .non))) H
def rIsA : R2 := fun x y H Q => rIsN x y H Q ∨ rIsB x y H Q
def rNotN : R2 := fun x y H Q => y = .non ∧ Q (.bl (!decide (x = .non))) H
def rNotA : R2 := fun x y H Q => rNotN x y H Q ∨ rNotB x y H Q
theorem isD_ok {x y : V} {dx dy : D} {b : Bool} (qx : QR K O own H x dx) (qy : QR K O own H y dy) (e : isD dx dy = some b) : (y = .non ∧ b = decide (x = .non)) ∨ ∃ p q : Bool, x = .bl p ∧ y = .bl q ∧ b = decide (p = q) := by
  have fx := qx.full
  cases dy with
  | none =>
    refine .inl ⟨qy.none, ?_⟩
    cases dx <;> simp only [isD, Option.some.injEq] at e <;> subst e <;> cases fx <;> simp
  | bool q =>
    cases dx with
    | bool p => simp only [isD, Option.some.injEq] at e; subst e; exact .inr ⟨p, q, qx.bool, qy.bool, rfl⟩
    | _ => cases e
  | _ => cases dx <;> cases e
theorem m_is : CmH K .is_ rIsA := by
  intro O own H dx dy x y b Q qx qy e q
  rcases isD_ok qx qy e with ⟨h1, h2⟩ | ⟨p, r, h1, h2, h3⟩
  · subst h2; exact .inl ⟨h1, q⟩
  · subst h3; exact .inr ⟨p, r, h1, h2, q⟩
theorem m_isnot : CmH K .isnot rNotA := by
  intro O own H dx dy x y b Q qx qy e q
  simp only [cmpD, Option.map_eq_some_iff] at e
  obtain ⟨c, e, rfl⟩ := e
  rcases isD_ok qx qy e with ⟨h1, h2⟩ | ⟨p, r, h1, h2, h3⟩
  · subst h2; exact .inl ⟨h1, q⟩
  · subst h3; exact .inr ⟨p, r, h1, h2, q⟩
theorem items_ok {y : V} {dy : D} {ds : List D} (qy : QR K O own H y dy) (e : itemsD dy = some ds) : ∃ p xs, y = .ref p ∧ (SqL K H p xs ∨ SqT K H p xs) ∧ RpL K (er (hid O own) H) xs ds := by
  cases dy with
  | tuple a => cases e; obtain ⟨p, xs, rfl, h, z, l⟩ := qy.tuple; exact ⟨p, xs, rfl, .inr h, l⟩
  | list a => cases e; obtain ⟨p, xs, rfl, h, z, l⟩ := qy.list; exact ⟨p, xs, rfl, .inl h, l⟩
  | _ => cases e
theorem m_in : CmH K .in_ (rIn K false) := by
  intro O own H dx dy x y b Q qx qy e q
  simp only [cmpD] at e
  split at e
  · rename_i ds e1
    split at e
    · rename_i z
      cases e
      obtain ⟨p, xs, rfl, h, l⟩ := items_ok qy e1
      have fx := qx.flat z.1
      refine ⟨p, xs, rfl, h, fx.flat z.1, l.flat z.2, ?_⟩
      rw [inV_of fx z.1 l z.2]
      exact q
    · cases e
  · cases e
theorem m_notin : CmH K .notin (rIn K true) := by
  intro O own H dx dy x y b Q qx qy e q
  simp only [cmpD] at e
  split at e
  · rename_i ds e1
    split at e
    · rename_i z
      cases e
      obtain ⟨p, xs, rfl, h, l⟩ := items_ok qy e1
      have fx := qx.flat z.1
      refine ⟨p, xs, rfl, h, fx.flat z.1, l.flat z.2, ?_⟩
      rw [inV_of fx z.1 l z.2]
      exact q
    · cases e
  · cases e
/-- the rule of each comparison -/
theorem cm_rule (eK : X.K = K) (hu : X.A.units + 64 < cLine) {c : Cm} {p : CmpOp} (hp : cmB c p = true) : ∃ rr, OpR X (compareOp p) rr ∧ CmH K c rr := by
  subst eK
  have hu0 : X.A.units < cLine := by omega
  cases c <;> cases p <;> first | (exact absurd hp (by decide)) | skip
  · exact ⟨_, op_eqD hu, m_eq⟩
  · exact ⟨_, op_neD hu, m_ne⟩
  · exact ⟨_, OpR.or op_lt (op_ltT hu0), m_lt⟩
  · exact ⟨_, op_le, m_le⟩
  · exact ⟨_, op_gt, m_gt⟩
  · exact ⟨_, op_ge, m_ge⟩
  · exact ⟨_, OpR.or op_isN op_isBl, m_is⟩
  · exact ⟨_, OpR.or op_notN op_notBl, m_isnot⟩
  · exact ⟨_, op_in_seq, m_in⟩
  · exact ⟨_, op_notIn_seq, m_notin⟩
theorem mark_ok {op : CmpOp} {b : Expr} (h : noSet b = true) : behindInMarks op b = false := by
  cases b <;> first | rfl | cases h
/-- an expression and a test at once -/
def Snd (X : Cx) (K : PySem.W.Frag) (C : Nat → D) (cv : Nat → Value) (G : Nat → List D → Rs D) (xa : XA) (W : WX) (x : Ex) (e : Expr) : Prop :=
  PE X e (tE K C cv G xa W x) ∧ (tst x = true → PT X e (tB K C cv G xa W x)) ∧ (∀ op vs p, e = .BoolOp op vs p → PW X e (tB K C cv G xa W x))
theorem c_cmp (eK : X.K = K) (hu : X.A.units + 64 < cLine) {c : Cm} {p : CmpOp} {a b : Ex} {e1 e2 : Expr} {pos : Pos} (hp : cmB c p = true) (hm : noSet e2 = true) (ha : PE X e1 (tE K C cv G xa W a)) (hb : PE X e2 (tE K C cv G xa W b)) :
    Snd X K C cv G xa W (.cmp c a b) (.Compare e1 [p] [e2] pos) := by
  obtain ⟨rr, ho, hr⟩ := cm_rule (X := X) eK hu hp
  refine ⟨PE.imp (pe_cmpR ho ha hb (mark_ok hm)) fun σ H Q ⟨O, H0, own, ρ, R, f⟩ => ?_, fun _ => PT.imp (pt_cmpR ho ha hb (mark_ok hm)) fun σ H Q ⟨O, H0, own, ρ, R, f⟩ => ?_, fun _ _ _ z => by cases z⟩
  · simp only [evE] at f
    exact hr.bin R f fun r H' s g => g.ok _ (.of (.bl r))
  · simp only [evE, blR_bd] at f
    exact hr.bin R f fun r H' s g => ⟨r, rfl, g.ok⟩
theorem chain_bin {c d : Cm} {r1 r2 : R2} (h1 : CmH K c r1) (h2 : CmH K d r2) {a b e : Ex} {β : Type} {f : Bool → Rs β} {P : β → Hp → Prop} {H0 : Hp} (R : Rel K xa O H0 own σ H ρ)
    (h : Fin cv W σ H ((evE C G a ρ).bd fun u => (evE C G b ρ).bd fun v => (Rs.of (cmpD c u v)).bd fun r => if r = true then (evE C G e ρ).bd fun z => (Rs.of (cmpD d v z)).bd f else f false) P)
    (hq : ∀ r H', Same H H' → Fin cv W σ H' (f r) P → Q (.bl r) H') : tChain r1 r2 (tE K C cv G xa W a) (tE K C cv G xa W b) (tE K C cv G xa W e) σ H Q := by
  refine ⟨O, H0, own, ρ, R, h.bd.map fun dx H1 s1 f1 vx p1 => ⟨O, H0, own, ρ, R.mono s1, f1.bd.map fun dy H2 s2 f2 vy p2 => ?_⟩⟩
  cases ec : cmpD c dx dy with
  | none => rw [ec] at f2; exact False.elim f2
  | some r =>
    rw [ec] at f2
    refine h1 O own H2 dx dy vx vy r _ (p1.1.mono s2) p2.1 ec ⟨r, rfl, ?_⟩
    cases r with
    | false => exact hq false H2 (s1.trans s2) f2
    | true =>
      refine ⟨O, H0, own, ρ, (R.mono s1).mono s2, Fin.map (Fin.bd (show Fin cv W σ H2 ((evE C G e ρ).bd fun z => (Rs.of (cmpD d dy z)).bd f) P from f2)) fun dz H3 s3 f3 vz p3 => ?_⟩
      cases ed : cmpD d dy dz with
      | none => rw [ed] at f3; exact False.elim f3
      | some q => rw [ed] at f3; exact h2 O own H3 dy dz vy vz q Q (p2.1.mono s3) p3.1 ed (hq q H3 ((s1.trans s2).trans s3) f3)
theorem lin_mark {c : Cm} {p : CmpOp} (h : cmB c p = true) (l : c.lin = true) (b : Expr) : behindInMarks p b = false := by
  cases c <;> cases p <;> first | (exact absurd h (by decide)) | (exact absurd l (by decide)) | exact nomark b
theorem c_chain (eK : X.K = K) (hu : X.A.units + 64 < cLine) {c d : Cm} {p q : CmpOp} {a b f : Ex} {e1 e2 e3 : Expr} {pos : Pos} (hp : cmB c p = true) (hq : cmB d q = true) (lc : c.lin = true) (ld : d.lin = true)
    (ha : PE X e1 (tE K C cv G xa W a)) (hb : PE X e2 (tE K C cv G xa W b)) (hf : PE X e3 (tE K C cv G xa W f)) : Snd X K C cv G xa W (.chain c d a b f) (.Compare e1 [p, q] [e2, e3] pos) := by
  obtain ⟨r1, o1, m1⟩ := cm_rule (X := X) eK hu hp
  obtain ⟨r2, o2, m2⟩ := cm_rule (X := X) eK hu hq
  have hm : lastMarks [p, q] [e2, e3] = false := lin_mark hq ld e3
  refine ⟨PE.imp (pe_chain o1 o2 ha hb hf hm) fun σ H Q ⟨O, H0, own, ρ, R, g⟩ => ?_, fun _ => PT.imp (pt_chain o1 o2 ha hb hf hm) fun σ H Q ⟨O, H0, own, ρ, R, g⟩ => ?_, fun _ _ _ z => by cases z⟩
  · simp only [evE] at g
    exact chain_bin m1 m2 R g fun r H' s g => g.ok _ (.of (.bl r))
  · simp only [evE, blR_bd] at g
    refine chain_bin m1 m2 (f := fun r => blR (.ok (.bool r))) R (by
      refine (congrArg (fun z => Fin cv W σ H z Q) ?_).mp g
      congr 1
      funext u
      congr 1
      funext v
      congr 1
      funext r
      cases r
      · rfl
      · simp only [if_true, blR_bd]) fun r H' s g => ⟨r, rfl, g.ok⟩

/-! ### tests -/
/-- a plain expression as a test -/
theorem snd_plain {x : Ex} {e : Expr} (h : PE X e (tE K C cv G xa W x)) (no : isOwn x = false ∨ isOwn x = true) (he : ∀ whole, isTrue e X.env whole = (do let v ← whole; standAt e.pos; holding [v] (truthy v))) (nb : ∀ op vs p, e ≠ .BoolOp op vs p) : Snd X K C cv G xa W x e := by
  refine ⟨h, fun _ => PT.imp (pt_val h he) fun σ H Q ⟨O, H0, own, ρ, R, f⟩ => ⟨O, H0, own, ρ, R, ?_⟩, fun op vs p z => absurd z (nb op vs p)⟩
  cases e1 : evE C G x ρ with
  | ok d =>
    rw [e1] at f
    cases d with
    | bool b => exact fun H' s v p => ⟨b, p.1.bool, f H' s⟩
    | _ => exact False.elim f
  | exc c => rw [e1] at f; exact f
  | bad => rw [e1] at f; exact False.elim f
theorem fin_tst {x : Ex} {P : Bool → Hp → Prop} (f : Fin cv W σ H (blR (evE C G x ρ)) P) : Fin cv W σ H (evE C G x ρ) fun d H' => ∃ b, d = .bool b ∧ P b H' := by
  cases e1 : evE C G x ρ with
  | ok d =>
    rw [e1] at f
    cases d with
    | bool b => exact fun H' s => ⟨b, rfl, f H' s⟩
    | _ => exact False.elim f
  | exc c => rw [e1] at f; exact f
  | bad => rw [e1] at f; exact False.elim f
theorem c_and {a b : Ex} {e1 e2 : Expr} {rest : List Expr} {pos : Pos} (ha : Snd X K C cv G xa W a e1) (ta : tst a = true) (hb : PE X (.BoolOp .And (e2 :: rest) pos) (tE K C cv G xa W b)) (wb : PW X (.BoolOp .And (e2 :: rest) pos) (tB K C cv G xa W b)) :
    Snd X K C cv G xa W (.and a b) (.BoolOp .And (e1 :: e2 :: rest) pos) := by
  have w : PW X (.BoolOp .And (e1 :: e2 :: rest) pos) (tB K C cv G xa W (.and a b)) := by
    refine PW.imp (pw_and (ha.2.1 ta) wb) fun σ H Q ⟨O, H0, own, ρ, R, f⟩ => ⟨O, H0, own, ρ, R, ?_⟩
    simp only [evE, blR_bd] at f
    refine f.bd.map fun r H1 s1 f1 => ?_
    cases r with
    | false => exact f1.ok
    | true =>
      rw [if_pos rfl, blR_bd] at f1
      exact ⟨O, H0, own, ρ, R.mono s1, f1.bd.map fun q H2 s2 f2 => f2.ok⟩
  refine ⟨PE.imp (pe_and ha.1 hb) fun σ H Q ⟨O, H0, own, ρ, R, f⟩ => ?_, fun _ => w.pt, fun _ _ _ _ => w⟩
  simp only [evE] at f
  refine ⟨O, H0, own, ρ, R, (fin_tst f.bd).map fun d H1 s1 ⟨r, e, f1⟩ v p => ?_⟩
  subst e
  refine ⟨r, p.1.bool, ?_⟩
  cases r with
  | false => exact f1.ok _ (.of (.bl false))
  | true =>
    rw [if_pos rfl] at f1
    refine ⟨O, H0, own, ρ, R.mono s1, (fin_tst f1.bd).map fun d H2 s2 ⟨q, e, f2⟩ v p => ?_⟩
    subst e
    exact f2.ok v ⟨p.1, fun _ => p.1.flat rfl⟩
theorem c_or {a b : Ex} {e1 e2 : Expr} {rest : List Expr} {pos : Pos} (ha : Snd X K C cv G xa W a e1) (ta : tst a = true) (hb : PE X (.BoolOp .Or (e2 :: rest) pos) (tE K C cv G xa W b)) (wb : PW X (.BoolOp .Or (e2 :: rest) pos) (tB K C cv G xa W b)) :
    Snd X K C cv G xa W (.or a b) (.BoolOp .Or (e1 :: e2 :: rest) pos) := by
  have w : PW X (.BoolOp .Or (e1 :: e2 :: rest) pos) (tB K C cv G xa W (.or a b)) := by
    refine PW.imp (pw_or (ha.2.1 ta) wb) fun σ H Q ⟨O, H0, own, ρ, R, f⟩ => ⟨O, H0, own, ρ, R, ?_⟩
    simp only [evE, blR_bd] at f
    refine f.bd.map fun r H1 s1 f1 => ?_
    cases r with
    | true => exact f1.ok
    | false =>
      rw [if_neg Bool.false_ne_true, blR_bd] at f1
      exact ⟨O, H0, own, ρ, R.mono s1, f1.bd.map fun q H2 s2 f2 => f2.ok⟩
  refine ⟨PE.imp (pe_or ha.1 hb) fun σ H Q ⟨O, H0, own, ρ, R, f⟩ => ?_, fun _ => w.pt, fun _ _ _ _ => w⟩
  simp only [evE] at f
  refine ⟨O, H0, own, ρ, R, (fin_tst f.bd).map fun d H1 s1 ⟨r, e, f1⟩ v p => ?_⟩
  subst e
  refine ⟨r, p.1.bool, ?_⟩
  cases r with
  | true => exact f1.ok _ (.of (.bl true))
  | false =>
    rw [if_neg Bool.false_ne_true] at f1
    refine ⟨O, H0, own, ρ, R.mono s1, (fin_tst f1.bd).map fun d H2 s2 ⟨q, e, f2⟩ v p => ?_⟩
    subst e
    exact f2.ok v ⟨p.1, fun _ => p.1.flat rfl⟩
/-- the last part -/
theorem one_and {b : Ex} {e : Expr} {pos : Pos} (h : Snd X K C cv G xa W b e) (t : tst b = true) : PE X (.BoolOp .And [e] pos) (tE K C cv G xa W b) ∧ PW X (.BoolOp .And [e] pos) (tB K C cv G xa W b) := ⟨pe_one h.1, pw_and1 (h.2.1 t)⟩
theorem one_or {b : Ex} {e : Expr} {pos : Pos} (h : Snd X K C cv G xa W b e) (t : tst b = true) : PE X (.BoolOp .Or [e] pos) (tE K C cv G xa W b) ∧ PW X (.BoolOp .Or [e] pos) (tB K C cv G xa W b) := ⟨pe_one h.1, pw_or1 (h.2.1 t)⟩
theorem c_not {a : Ex} {e : Expr} {pos : Pos} (ha : Snd X K C cv G xa W a e) (ta : tst a = true) : Snd X K C cv G xa W (.not a) (.UnaryOp .Not e pos) := by
  refine ⟨PE.imp (pe_not ha.1) fun σ H Q ⟨O, H0, own, ρ, R, f⟩ => ?_, fun _ => PT.imp (pt_not (ha.2.1 ta)) fun σ H Q ⟨O, H0, own, ρ, R, f⟩ => ?_, fun _ _ _ z => by cases z⟩
  · simp only [evE] at f
    refine ⟨O, H0, own, ρ, R, (fin_tst f.bd).map fun d H1 s1 ⟨r, e, f1⟩ v p => ?_⟩
    subst e
    exact ⟨r, p.1.bool, f1.ok _ (.of (.bl _))⟩
  · simp only [evE, blR_bd] at f
    exact ⟨O, H0, own, ρ, R, f.bd.map fun r H1 s1 f1 => f1.ok⟩
theorem c_ite {c a b : Ex} {e0 e1 e2 : Expr} {pos : Pos} (hc : Snd X K C cv G xa W c e0) (tc : tst c = true) (ha : PE X e1 (tE K C cv G xa W a)) (hb : PE X e2 (tE K C cv G xa W b)) (na : isOwn a = false) (nb : isOwn b = false) :
    PE X (.IfExp e0 e1 e2 pos) (tE K C cv G xa W (.ite c a b)) := by
  refine PE.imp (pe_ifExp (hc.2.1 tc) ha hb) fun σ H Q ⟨O, H0, own, ρ, R, f⟩ => ?_
  simp only [evE] at f
  refine ⟨O, H0, own, ρ, R, f.bd.map fun r H1 s1 f1 => ?_⟩
  cases r with
  | true => exact ⟨O, H0, own, ρ, R.mono s1, Fin.map (show Fin cv W σ H1 (evE C G a ρ) _ from f1) fun d H2 s2 f2 v p => f2 v (.of (p.2 na))⟩
  | false => exact ⟨O, H0, own, ρ, R.mono s1, Fin.map (show Fin cv W σ H1 (evE C G b ρ) _ from f1) fun d H2 s2 f2 v p => f2 v (.of (p.2 nb))⟩
end
end Pu

/-! Pu, part 7: calls, built-ins, items, slices, iterators, comprehensions. -/
namespace Pu
open PySem PySem.Spec PyProof.Rows L2
section
variable {X : Cx} {K : PySem.W.Frag} {C : Nat → D} {cv : Nat → Value} {G : Nat → List D → Rs D} {T : Tb} {xa : XA} {W : WX} {k : Nat} {hot : Bool}
variable {O : Addr → Prop} {own : Ow} {σ : L2.St} {H H' : Hp} {Q : VK} {ρ : Env}

/-! ### calls of defs -/
/-- a call without arguments -/
theorem pe_callS0 {CX : CXT} {k : Nat} {f : Addr} {fd : FuncData} {ps : List Str} {sp : Sp} {E : L2.St → XK} {x : Str} {p pos : Pos} (F : FnOk X.prog X.w X.K X.mg X.base CX k f fd ps sp) (hr : Room k X.A) (hg : Gl X x) (hm : X.mg x = some (.ref f)) (hk : PySem.W.keepIn X.K (.ref f) = true) (hb : Binds X.K fd ps []) (hx : ∀ σ, PassesAt CX X σ (E σ))
    (hdb : (x == ("__debug__" : Str)) = false) : PE X (.Call (.Name x p) [] [] pos) (tCallS sp E tNil) := by
  refine ⟨fun pins s σ H Q I h => ?_⟩
  refine wpAny_Call_Name_kw (ld_glob I hg hm ?_ hdb)
  exact PySem.W.callWith_K0 I.kIn hk (run_fnS F hr hb (hx σ) I .nil h)
theorem back_any {es : List Expr} {pos : Pos} {env : PySem.Env} (h : es.all noStar = true) : (backTo pos (starEach es env)).any (·.1) = false := by
  induction es with
  | nil => rfl
  | cons e es ih =>
    rw [List.all_cons, Bool.and_eq_true] at h
    rw [star_cons h.1]
    show (false || (backTo pos (starEach es env)).any (·.1)) = false
    rw [ih h.2] <;> rfl
theorem ckEs_len {N : List Str} {sc : Scope} : ∀ {as : Exs} {es : List Expr}, ckEs T N as sc es = true → as.len = es.length ∧ es.all noStar = true
  | .nil, [], _ => ⟨rfl, rfl⟩
  | .nil, _ :: _, h => by simp [ckEs] at h
  | .cons a as, [], h => by simp [ckEs] at h
  | .cons a as, e :: es, h => by
    simp only [ckEs, Bool.and_eq_true] at h
    obtain ⟨h1, h2⟩ := ckEs_len h.2
    exact ⟨by show as.len + 1 = es.length + 1; rw [h1], by rw [List.all_cons, h.1.1.2, h2] <;> rfl⟩
theorem evEs_len : ∀ {as : Exs} {ρ : Env} {ds : List D}, evEs C G as ρ = .ok ds → ds.length = as.len
  | .nil, ρ, ds, h => by simp only [evEs] at h; cases h; rfl
  | .cons a as, ρ, ds, h => by
    simp only [evEs] at h
    cases e : evE C G a ρ with
    | ok d =>
      rw [e] at h
      cases e2 : evEs C G as ρ with
      | ok r =>
        simp only [Rs.bd, e2] at h
        cases h
        show r.length + 1 = as.len + 1
        rw [evEs_len e2]
      | exc c => simp [Rs.bd, e2] at h
      | bad => simp [Rs.bd, e2] at h
    | exc c => rw [e] at h; cases h
    | bad => rw [e] at h; cases h
theorem call_in {f n : Nat} {as : Exs} {es : List Expr} {t : TA} (ht : ∀ σ H (R : List V → Hp → Prop), tEs K C cv G xa W as σ H R → t σ H R) (hn : as.len = n) {H0 : Hp} (R : Rel K xa O H0 own σ H ρ) (h : Fin cv W σ H (evE C G (.call f as) ρ) fun d H' => ∀ v, Pst K (.call f as) O own H' v d → Q v H') :
    tCallS (spG K cv (G f) n) (WE W) t σ H Q := by
  simp only [evE] at h
  refine ht σ H _ ⟨O, H0, own, ρ, R, ?_⟩
  have hl : ∀ ds, evEs C G as ρ = .ok ds → ds.length = n := fun ds e => by rw [evEs_len e, hn]
  cases e : evEs C G as ρ with
  | bad => rw [e] at h; exact h
  | exc c => rw [e] at h; exact h
  | ok ds =>
    rw [e] at h
    intro H1 s1 vs r1
    have R1 := R.mono s1
    refine ⟨ds, hid O own, by rw [r1.length]; exact hl ds e, fun b hb => R1.hidden hb, r1, ?_⟩
    have h1 : Fin cv W σ H1 (G f ds) fun d H' => ∀ v, Pst K (.call f as) O own H' v d → Q v H' := Fin.mono h s1
    cases e2 : G f ds with
    | ok d => rw [e2] at h1; exact fun v H2 s2 rv => h1 H2 s2 v (.of rv)
    | exc c => rw [e2] at h1; exact fun H2 s2 => h1 H2 s2
    | bad => rw [e2] at h1; exact h1
theorem nil_in {R : List V → Hp → Prop} (h : tEs K C cv G xa W .nil σ H R) : tNil σ H R := by
  obtain ⟨O, H0, own, ρ, R, f⟩ := h
  simp only [evEs] at f
  exact f.ok _ .nil
theorem c_call (hX : XC X K C cv G T xa W k hot) (hh : hot = false) {f n : Nat} {x : Str} {as : Exs} {es : List Expr} {p pos : Pos} (h1 : T.fns.lookup f = some (x, as.len)) (h2 : glB X.env.scope x = true) (hl : as.len = es.length) (hst : es.all noStar = true)
    (ha : PA X es (tEs K C cv G xa W as)) : PE X (.Call (.Name x p) es [] pos) (tE K C cv G xa W (.call f as)) := by
  obtain ⟨g, d1⟩ := glB_ok h2
  obtain ⟨a, fd, ps, m, kp, b, F⟩ := hX.lk.fn f x _ h1
  have eK := hX.eK
  subst eK
  cases es with
  | nil =>
    cases as with
    | nil => exact PE.imp (pe_callS0 F ((hX.rm hh).mono (by omega)) g m kp b (fun σ => passAt hX.tk σ) d1) fun σ H Q ⟨O, H0, own, ρ, R, h⟩ => call_in (as := .nil) (es := []) (fun σ H R' h0 => nil_in h0) rfl R h
    | cons _ _ => cases hl
  | cons e es =>
    rw [List.all_cons, Bool.and_eq_true] at hst
    exact PE.imp (pe_callS F ((hX.rm hh).mono (by omega)) g m kp b (fun σ => passAt hX.tk σ) ha d1 (star_cons hst.1 _ _) (back_any hst.2)) fun σ H Q ⟨O, H0, own, ρ, R, h⟩ => call_in (es := e :: es) (fun σ H R' q => q) rfl R h

/-! ### calls of built-ins -/
def BiH (K : PySem.W.Frag) (b : Bl) (r : List V → Hp → VK → Prop) : Prop := ∀ (cv : Nat → Value) (W : WX) (σ : L2.St) (O : Addr → Prop) (own : Ow) (H : Hp) (d : D) (x : V) (Q : VK), (∀ p, H p = none → ¬ hid O own p) → QR K O own H x d →
  Fin cv W σ H (biD b d) (fun d H' => ∀ v, Rp K (er (hid O own) H') v d → Q v H') → r [x] H Q
theorem b_len : BiH K .len (fun xs H Q => ∃ x n, xs = [x] ∧ LenV K x H n ∧ Q (.int n) H) := by
  intro cv W σ O own H d x Q hf qx f
  cases d with
  | tuple a =>
    obtain ⟨p, xs, rfl, h, z, l⟩ := qx.tuple
    exact ⟨_, a.length, rfl, .inr ⟨xs, h, l.length.symm⟩, f.ok _ (.int _)⟩
  | list a =>
    obtain ⟨p, xs, rfl, h, z, l⟩ := qx.list
    exact ⟨_, a.length, rfl, .inl ⟨xs, h, l.length.symm⟩, f.ok _ (.int _)⟩
  | _ => exact False.elim f
theorem b_all : BiH K .all (rAll K) := by
  intro cv W σ O own H d x Q hf qx f
  cases d with
  | list a =>
    simp only [biD] at f
    split at f
    · rename_i bs e
      obtain ⟨p, xs, rfl, h, z, l⟩ := qx.list
      have i := l.bls e
      subst i
      exact ⟨p, bs, rfl, h, f.ok _ (.bl _)⟩
    · exact False.elim f
  | _ => exact False.elim f
theorem b_any : BiH K .any (rAny K) := by
  intro cv W σ O own H d x Q hf qx f
  cases d with
  | list a =>
    simp only [biD] at f
    split at f
    · rename_i bs e
      obtain ⟨p, xs, rfl, h, z, l⟩ := qx.list
      have i := l.bls e
      subst i
      exact ⟨p, bs, rfl, h, f.ok _ (.bl _)⟩
    · exact False.elim f
  | _ => exact False.elim f
theorem minI_le : ∀ {ns : List Int} {y : Int}, y ∈ ns → minI ns ≤ y
  | [x], y, h => by simp at h; subst h; exact Int.le_refl _
  | x :: z :: r, y, h => by
    have ih := fun h => minI_le (ns := z :: r) (y := y) h
    rw [minI]
    rcases List.mem_cons.mp h with e | h
    · subst e; split <;> omega
    · have := ih h; split <;> omega
theorem minI_mem : ∀ {ns : List Int}, ns ≠ [] → minI ns ∈ ns
  | [x], _ => by simp [minI]
  | x :: z :: r, _ => by
    have ih := minI_mem (ns := z :: r) (by simp)
    rw [minI]
    split
    · simp
    · exact List.mem_cons_of_mem _ ih
theorem maxI_le : ∀ {ns : List Int} {y : Int}, y ∈ ns → y ≤ maxI ns
  | [x], y, h => by simp at h; subst h; exact Int.le_refl _
  | x :: z :: r, y, h => by
    have ih := fun h => maxI_le (ns := z :: r) (y := y) h
    rw [maxI]
    rcases List.mem_cons.mp h with e | h
    · subst e; split <;> omega
    · have := ih h; split <;> omega
theorem maxI_mem : ∀ {ns : List Int}, ns ≠ [] → maxI ns ∈ ns
  | [x], _ => by simp [maxI]
  | x :: z :: r, _ => by
    have ih := maxI_mem (ns := z :: r) (by simp)
    rw [maxI]
    split
    · simp
    · exact List.mem_cons_of_mem _ ih
theorem b_min : BiH K .min (rMin K) := by
  intro cv W σ O own H d x Q hf qx f
  cases d with
  | list a =>
    simp only [biD] at f
    split at f
    · rename_i bs e
      split at f
      · rename_i ne
        obtain ⟨p, xs, rfl, h, z, l⟩ := qx.list
        have i := l.ints e
        subst i
        refine ⟨p, bs, rfl, h, List.length_pos_iff.mpr ne, fun m hm hl => ?_⟩
        have e1 : m = minI bs := Int.le_antisymm (hl _ (minI_mem ne)) (minI_le hm)
        subst e1
        exact f.ok _ (.int _)
      · exact False.elim f
    · exact False.elim f
  | _ => exact False.elim f
theorem b_max : BiH K .max (rMax K) := by
  intro cv W σ O own H d x Q hf qx f
  cases d with
  | list a =>
    simp only [biD] at f
    split at f
    · rename_i bs e
      split at f
      · rename_i ne
        obtain ⟨p, xs, rfl, h, z, l⟩ := qx.list
        have i := l.ints e
        subst i
        refine ⟨p, bs, rfl, h, List.length_pos_iff.mpr ne, fun m hm hl => ?_⟩
        have e1 : m = maxI bs := Int.le_antisymm (maxI_le hm) (hl _ (maxI_mem ne))
        subst e1
        exact f.ok _ (.int _)
      · exact False.elim f
    · exact False.elim f
  | _ => exact False.elim f
theorem b_sum : BiH K .sum (rSum K) := by
  intro cv W σ O own H d x Q hf qx f
  cases d with
  | list a =>
    simp only [biD] at f
    split at f
    · rename_i bs e
      obtain ⟨p, xs, rfl, h, z, l⟩ := qx.list
      have i := l.ints e
      subst i
      exact ⟨p, bs, rfl, h, f.ok _ (.int _)⟩
    · exact False.elim f
  | _ => exact False.elim f
theorem b_tuple : BiH K .tuple (fun xs H Q => ∃ p ys, xs = [.ref p] ∧ ((SqL K H p ys ∧ ∀ l, H l = none → Q (.ref l) (upd H l (.tup ys))) ∨ (SqT K H p ys ∧ Q (.ref p) H))) := by
  intro cv W σ O own H d x Q hf qx f
  cases d with
  | tuple a =>
    obtain ⟨p, xs, rfl, h, z, l⟩ := qx.tuple
    exact ⟨p, xs, rfl, .inr ⟨h, f.ok _ qx.rpT⟩⟩
  | list a =>
    obtain ⟨p, xs, rfl, h, z, l⟩ := qx.list
    exact ⟨p, xs, rfl, .inl ⟨h, fun q hq => f.here (same_upd hq) _ (new_tup hq (hf q hq) z l)⟩⟩
  | _ => exact False.elim f
theorem b_list : BiH K .list (fun xs H Q => ∃ p ys, xs = [.ref p] ∧ (SqL K H p ys ∨ SqT K H p ys) ∧ ∀ l, H l = none → Q (.ref l) (upd H l (.lst ys))) := by
  intro cv W σ O own H d x Q hf qx f
  cases d with
  | tuple a =>
    obtain ⟨p, xs, rfl, h, z, l⟩ := qx.tuple
    exact ⟨p, xs, rfl, .inr h, fun q hq => f.here (same_upd hq) _ (new_lst hq (hf q hq) z l)⟩
  | list a =>
    obtain ⟨p, xs, rfl, h, z, l⟩ := qx.list
    exact ⟨p, xs, rfl, .inl h, fun q hq => f.here (same_upd hq) _ (new_lst hq (hf q hq) z l)⟩
  | _ => exact False.elim f
theorem rws_of : ∀ {ds : List D} {xs : List V} {rows : List (List Int)}, RpL K (er (hid O own) H) xs ds → rowsOf ds = some rows → rows.all (fun r => !r.isEmpty) = true → Rws K H xs rows ∧ ds = rows.map fun r => PyData.tuple (r.map PyData.int)
  | [], _, _, .nil, e, _ => by cases e; exact ⟨.nil, rfl⟩
  | d :: ds, _, rows, .cons h t, e, z => by
    cases d with
    | tuple a =>
      cases h with
      | tup hs hz l =>
        simp only [rowsOf] at e
        split at e
        · rename_i n hn
          simp only [Option.map_eq_some_iff] at e
          obtain ⟨rs, e1, e2⟩ := e
          subst e2
          rw [List.all_cons, Bool.and_eq_true] at z
          obtain ⟨i1, i2⟩ := rws_of t e1 z.2
          have hv := l.ints hn
          subst hv
          have hne : n ≠ [] := fun q => by subst q; cases z.1
          have ha : a = n.map PyData.int := by
            clear hs hz l z hne
            induction a generalizing n with
            | nil => cases hn; rfl
            | cons x a ih =>
              cases x with
              | int i =>
                simp only [intsOf, Option.map_eq_some_iff] at hn
                obtain ⟨m, h1, h2⟩ := hn
                subst h2
                rw [List.map_cons, ← ih _ h1]
              | _ => cases hn
          exact ⟨.cons ⟨_, rfl, seqT_same er_le hs⟩ hne i1, by rw [List.map_cons, ← i2, ha]⟩
        · cases e
    | _ => cases e
theorem rpl_zip : ∀ {xs ys : List V} {rows rows' : List (List Int)}, RpL K H xs (rows.map fun r => PyData.tuple (r.map PyData.int)) → ys.length = rows'.length → (∀ p ∈ ys.zip rows', p ∈ xs.zip rows) → RpL K H ys (rows'.map fun r => PyData.tuple (r.map PyData.int)) := by
  have mem : ∀ {xs : List V} {rows : List (List Int)}, RpL K H xs (rows.map fun r => PyData.tuple (r.map PyData.int)) → ∀ p ∈ xs.zip rows, Rp K H p.1 (.tuple (p.2.map PyData.int)) := by
    intro xs rows
    induction rows generalizing xs with
    | nil => intro _ p hp; rw [List.zip_nil_right] at hp; cases hp
    | cons r rows ih =>
      intro h p hp
      cases h with
      | cons h t =>
        rw [List.zip_cons_cons] at hp
        rcases List.mem_cons.mp hp with e | hp
        · subst e; exact h
        · exact ih t p hp
  intro xs ys rows rows' h hl hm
  have m := mem h
  clear mem h
  induction rows' generalizing ys with
  | nil =>
    cases ys with
    | nil => exact .nil
    | cons _ _ => cases hl
  | cons r rows' ih =>
    cases ys with
    | nil => cases hl
    | cons y ys =>
      exact .cons (m (y, r) (hm _ List.mem_cons_self)) (ih (by simpa using hl) fun p hp => hm p (List.mem_cons_of_mem _ hp))
theorem b_sorted : BiH K .sorted (rSortR K) := by
  intro cv W σ O own H d x Q hf qx f
  cases d with
  | list a =>
    simp only [biD] at f
    split at f
    · rename_i rows e
      split at f
      · rename_i z
        obtain ⟨p, xs, rfl, h, z1, l⟩ := qx.list
        obtain ⟨w1, w2⟩ := rws_of l e z
        refine ⟨p, xs, rows, rfl, h, w1, fun ys rows' q hs hl hp hq => ?_⟩
        subst w2
        have hperm : rows'.Perm rows := by
          have := hp.map (·.2)
          rw [List.map_snd_zip (by omega), List.map_snd_zip (by have := l.length; rw [List.length_map] at this; omega)] at this
          exact this
        have er : rows' = sortR rows := PuSrt.srt_uniq hs (PuSrt.sortR_srt rows) (hperm.trans (PuSrt.sortR_perm rows).symm)
        have ly : ys.length = xs.length := by
          rw [hl, hperm.length_eq]
          have := l.length
          rw [List.length_map] at this
          omega
        have rp := rpl_zip l hl fun t ht => hp.mem_iff.mp ht
        rw [← er] at f
        exact f.here (same_upd hq) _ (new_lst hq (hf q hq) (by rw [ly]; exact z1) rp)
      · exact False.elim f
    · exact False.elim f
  | _ => exact False.elim f
theorem BiH.use {b : Bl} {r : List V → Hp → VK → Prop} (hr : BiH K b r) {a : Ex} {H0 : Hp} (R : Rel K xa O H0 own σ H ρ) (f : Fin cv W σ H (evE C G (.bi b a) ρ) fun d H' => ∀ v, Pst K (.bi b a) O own H' v d → Q v H') : tCB r (tCons (tE K C cv G xa W a) tNil) σ H Q := by
  simp only [evE] at f
  exact ⟨O, H0, own, ρ, R, f.bd.map fun d H1 s1 f1 v p => hr cv W σ O own H1 d v Q (fun p hp => (R.mono s1).fresh hp) p.1 (f1.map fun d H2 s2 g v rv => g v (.of rv))⟩
theorem c_bi (hX : XC X K C cv G T xa W k hot) (hh : hot = false) {b : Bl} {x : Str} {a : Ex} {e : Expr} {p pos : Pos} (h1 : x = b.nm) (h2 : bltB T X.env.scope x = true) (st : noStar e = true) (ha : PE X e (tE K C cv G xa W a)) :
    PE X (.Call (.Name x p) [e] [] pos) (tE K C cv G xa W (.bi b a)) := by
  obtain ⟨g, m, d1⟩ := bltB_ok hX h2
  have eK := hX.eK
  have hc := hX.calm hh
  have s1 := star_cons st X.env []
  have pa : PA X [e] (tCons (tE K C cv G xa W a) tNil) := pa_cons ha pa_nil s1
  subst eK
  cases b <;> subst h1
  · exact PE.imp (pe_callB call_len g m PySem.boot_len pa (by decide) (by decide) s1 rfl) fun σ H Q ⟨O, H0, own, ρ, R, f⟩ => b_len.use R f
  · exact PE.imp (pe_callB (cr_all hc) g m PyProof.Rows.boot_all pa (by decide) (by decide) s1 rfl) fun σ H Q ⟨O, H0, own, ρ, R, f⟩ => b_all.use R f
  · exact PE.imp (pe_callB (cr_any hc) g m (by decide +kernel) pa (by decide) (by decide) s1 rfl) fun σ H Q ⟨O, H0, own, ρ, R, f⟩ => b_any.use R f
  · exact PE.imp (pe_callB (cr_min hc) g m PyProof.Rows.boot_min pa (by decide) (by decide) s1 rfl) fun σ H Q ⟨O, H0, own, ρ, R, f⟩ => b_min.use R f
  · exact PE.imp (pe_callB (cr_max hc) g m PyProof.Rows.boot_max pa (by decide) (by decide) s1 rfl) fun σ H Q ⟨O, H0, own, ρ, R, f⟩ => b_max.use R f
  · exact PE.imp (pe_callB (cr_sum hc) g m PyProof.Rows.boot_sum pa (by decide) (by decide) s1 rfl) fun σ H Q ⟨O, H0, own, ρ, R, f⟩ => b_sum.use R f
  · exact PE.imp (pe_callTy call_tuple_of g m PyProof.Rows.boot_tuple pa (by decide) (by decide) s1 rfl) fun σ H Q ⟨O, H0, own, ρ, R, f⟩ => b_tuple.use R f
  · exact PE.imp (pe_callTy call_list_of g m PyProof.Rows.boot_list pa (by decide) (by decide) s1 rfl) fun σ H Q ⟨O, H0, own, ρ, R, f⟩ => b_list.use R f
  · exact PE.imp (pe_callB cr_sortR g m PyProof.Rows.boot_sorted pa (by decide) (by decide) s1 rfl) fun σ H Q ⟨O, H0, own, ρ, R, f⟩ => b_sorted.use R f
theorem c_bi2 (hX : XC X K C cv G T xa W k hot) (hh : hot = false) {b : Bl2} {x : Str} {a c : Ex} {e e2 : Expr} {p pos : Pos} (h1 : x = b.nm) (h2 : bltB T X.env.scope x = true) (st : noStar e = true) (st2 : noStar e2 = true) (ha : PE X e (tE K C cv G xa W a)) (hc' : PE X e2 (tE K C cv G xa W c)) :
    PE X (.Call (.Name x p) [e, e2] [] pos) (tE K C cv G xa W (.bi2 b a c)) := by
  obtain ⟨g, m, d1⟩ := bltB_ok hX h2
  have hc := hX.calm hh
  have s1 := star_cons st X.env [e2]
  have s2 := star_cons st2 X.env []
  have pa : PA X [e, e2] (tCons (tE K C cv G xa W a) (tCons (tE K C cv G xa W c) tNil)) := pa_cons ha (pa_cons hc' pa_nil s2) s1
  have hpl : (backTo pos (starEach [e2] X.env)).any (·.1) = false := by rw [s2]; rfl
  have go : ∀ (r : List V → Hp → VK → Prop), (∀ (i j : Int) (H : Hp) (Q : VK), (∀ n, bi2D b (.int i) (.int j) = .ok (.int n) → Q (.int n) H) → r [.int i, .int j] H Q) → ∀ σ H Q, tE K C cv G xa W (.bi2 b a c) σ H Q → tCB r (tCons (tE K C cv G xa W a) (tCons (tE K C cv G xa W c) tNil)) σ H Q := by
    intro r hr σ H Q ⟨O, H0, own, ρ, R, f⟩
    simp only [evE] at f
    refine ⟨O, H0, own, ρ, R, f.bd.map fun d H1 z1 f1 v p1 => ⟨O, H0, own, ρ, R.mono z1, f1.bd.map fun d2 H2 z2 f2 v2 p2 => ?_⟩⟩
    cases d with
    | int i =>
      cases d2 with
      | int j =>
        have q1 := p1.1.int
        have q2 := p2.1.int
        subst q1 q2
        refine hr i j H2 Q fun n e => ?_
        rw [e] at f2
        exact f2.ok _ (.of (.int n))
      | _ => cases b <;> exact False.elim f2
    | _ => cases b <;> exact False.elim f2
  cases b <;> subst h1
  · exact PE.imp (pe_callB (call_min2 hc) g m PyProof.Rows.boot_min pa (by decide) (by decide) s1 hpl) (go _ fun i j H Q q => ⟨i, j, rfl, q _ rfl⟩)
  · exact PE.imp (pe_callB (call_max2 hc) g m PyProof.Rows.boot_max pa (by decide) (by decide) s1 hpl) (go _ fun i j H Q q => ⟨i, j, rfl, q _ rfl⟩)

/-! ### isinstance -/
def Ty.id : Ty → String
  | .int => "int" | .bool => "bool" | .str => "str" | .tuple => "tuple" | .list => "list"
theorem ty_nm (y : Ty) : y.nm = (y.id : Str) := by cases y <;> rfl
theorem ty_of {v : V} {d : D} (q : QR K O own H v d) : (∃ t : String, TyX K H v (.type t) ∧ ∀ y : Ty, ∃ b, isaD y d = .ok (.bool b) ∧ kitB t y.id = some b) := by
  cases d with
  | none => rw [q.none]; exact ⟨"NoneType", .base .non, fun y => ⟨false, rfl, by cases y <;> decide +kernel⟩⟩
  | bool c => rw [q.bool]; exact ⟨"bool", .base (.bl c), fun y => ⟨_, rfl, by cases y <;> decide +kernel⟩⟩
  | int i => rw [q.int]; exact ⟨"int", .base (.int i), fun y => ⟨_, rfl, by cases y <;> decide +kernel⟩⟩
  | str s => rw [q.str]; exact ⟨"str", .base (.str s), fun y => ⟨_, rfl, by cases y <;> decide +kernel⟩⟩
  | list ds =>
    obtain ⟨p, xs, rfl, h, z, l⟩ := q.list
    refine ⟨"list", ?_, fun y => ⟨_, rfl, by cases y <;> decide +kernel⟩⟩
    rcases h with (h | ⟨o, h⟩) | ⟨o, its, n, h1, h2, _⟩
    · exact .base (.lst h)
    · exact .base (.frz h)
    · exact .kList h1 h2
  | tuple ds =>
    obtain ⟨p, xs, rfl, h, z, l⟩ := q.tuple
    refine ⟨"tuple", ?_, fun y => ⟨_, rfl, by cases y <;> decide +kernel⟩⟩
    rcases h with (h | ⟨o, h⟩) | ⟨o, its, n, h1, h2, _⟩
    · exact .base (.tup h)
    · exact .fTuple h
    · exact .kTuple h1 h2
  | dict kv => have := q.full; cases this
theorem ty_boot (y : Ty) : bootBuiltins y.nm = some (.type y.id) := by cases y <;> decide +kernel
theorem ty_name (y : Ty) : y.nm ≠ ("__name__" : Str) := by cases y <;> decide
theorem c_isa (hX : XC X K C cv G T xa W k hot) {x z : Str} {a : Ex} {y : Ty} {e : Expr} {p p2 pos : Pos} (h1 : x = ("isinstance" : Str)) (h2 : bltB T X.env.scope x = true) (h3 : z = y.nm) (h4 : bltB T X.env.scope z = true) (st : noStar e = true) (ha : PE X e (tE K C cv G xa W a)) :
    PE X (.Call (.Name x p) [e, .Name z p2] [] pos) (tE K C cv G xa W (.isa a y)) := by
  obtain ⟨g, m, d1⟩ := bltB_ok hX h2
  obtain ⟨g2, m2, d2⟩ := bltB_ok hX h4
  have eK := hX.eK
  subst eK h1 h3
  have s1 := star_cons st X.env [.Name y.nm p2]
  have pb : PE X (.Name y.nm p2) (tC (.ty y.id)) := pe_bltn g2 m2 (ty_boot y) rfl (ty_name y) d2
  have pa : PA X [e, .Name y.nm p2] (tCons (tE X.K C cv G xa W a) (tCons (tC (.ty y.id)) tNil)) := pa_cons ha (pa_cons pb pa_nil rfl) s1
  refine PE.imp (pe_callB call_isi g m PyProof.Rows.boot_isinstance pa (by decide) (by decide) s1 rfl) fun σ H Q ⟨O, H0, own, ρ, R, f⟩ => ?_
  simp only [evE] at f
  refine ⟨O, H0, own, ρ, R, f.bd.map fun d H1 z1 f1 v p1 => ?_⟩
  obtain ⟨t, ty, hk⟩ := ty_of p1.1
  obtain ⟨b, e1, e2⟩ := hk y
  rw [e1] at f1
  exact ⟨v, _, _, _, b, rfl, .ty y.id, ty, kit_ty e2, f1.ok _ (.of (.bl b))⟩
theorem c_isx (hX : XC X K C cv G T xa W k hot) {x y z : Str} {i c : Nat} {p p2 p3 pos : Pos} (h1 : x = ("isinstance" : Str)) (h2 : bltB T X.env.scope x = true) (h3 : nmB X.N i y = true) (h4 : visB X.env.scope y = true) (h5 : T.cls.lookup c = some z) (h6 : glB X.env.scope z = true) :
    PE X (.Call (.Name x p) [.Name y p2, .Name z p3] [] pos) (tE K C cv G xa W (.isx i c)) := by
  obtain ⟨g, m, d1⟩ := bltB_ok hX h2
  obtain ⟨n, n1, n2⟩ := nmB_ok h3
  obtain ⟨g2, d2⟩ := glB_ok h6
  obtain ⟨Ca, ec, mc, _⟩ := hX.lk.cls c z h5
  cases hxa : xa.e with
  | none =>
    refine PE.imp PE.never fun σ H Q ⟨O, H0, own, ρ, R, f⟩ => ?_
    simp only [evE] at f
    split at f
    · rename_i d e
      obtain ⟨a, e1, _⟩ := R.ex i d e
      rw [hxa] at e1; cases e1
    · exact f
  | some ac =>
    obtain ⟨a, c0⟩ := ac
    obtain ⟨D0, ec0, _⟩ := hX.lk.any c0
    have rule := hX.isx a c0 D0 hxa ec0
    have eK := hX.eK
    subst eK h1
    have pa : PA X [.Name y p2, .Name z p3] (tCons (tVar i) (tCons (tC (.ref Ca)) tNil)) := pa_cons (pe_var n (visB_ok h4) n1 n2) (pa_cons (pe_glob g2 mc rfl d2) pa_nil rfl) rfl
    refine PE.imp (pe_callB rule g m PyProof.Rows.boot_isinstance pa (by decide) (by decide) rfl rfl) fun σ H Q ⟨O, H0, own, ρ, R, f⟩ => ?_
    simp only [evE] at f
    split at f
    · rename_i d e
      obtain ⟨a', e1, e2⟩ := R.ex i d e
      rw [hxa] at e1; cases e1
      obtain ⟨k1, _⟩ := hX.lk.sub c0 _ _ h5
      rw [ec0, ec] at k1
      exact ⟨_, e2, _, _, _, rfl, fun u r => r, k1, f.ok _ (.of (.bl _))⟩
    · exact False.elim f

/-! ### items, slices, index -/
theorem plainIx_ok {b : Expr} (h : noSlice b = true) : PlainIx b := by
  intro o i
  cases b <;> first | rfl | cases h
def rIxA (K : PySem.W.Frag) : R2 := fun x y H Q => rIxL K x y H Q ∨ rIxT K x y H Q
theorem atI_rel {xs : List V} {ds : List D} {H1 : Hp} (l : RpL K H1 xs ds) {i : Int} {d : D} (h : atI ds i = some d) : ∃ v, atI xs i = some v ∧ Rp K H1 v d := by
  unfold atI at h ⊢
  rw [l.length]
  cases e : ixN ds.length i with
  | none => rw [e] at h; cases h
  | some j =>
    rw [e] at h
    obtain ⟨v, h1, h2⟩ := l.get (i := j) h
    exact ⟨v, h1, h2⟩
theorem c_idx (eK : X.K = K) {a i : Ex} {e1 e2 : Expr} {pos : Pos} (hs : noSlice e2 = true) (ha : PE X e1 (tE K C cv G xa W a)) (hi : PE X e2 (tE K C cv G xa W i)) : PE X (.Subscript e1 e2 pos) (tE K C cv G xa W (.idx a i)) := by
  subst eK
  refine PE.imp (pe_ix (IxR.or ix_list ix_tup) ha hi (plainIx_ok hs)) fun σ H Q ⟨O, H0, own, ρ, R, f⟩ => ?_
  simp only [evE] at f
  refine ⟨O, H0, own, ρ, R, f.bd.map fun dx H1 s1 f1 vx p1 => ⟨O, H0, own, ρ, R.mono s1, f1.bd.map fun dy H2 s2 f2 vy p2 => ?_⟩⟩
  cases dx with
  | list ds =>
    cases dy with
    | int j =>
      simp only [idxD] at f2
      split at f2
      · rename_i d e
        obtain ⟨p, xs, rfl, h, z, l⟩ := (p1.1.mono s2).list
        obtain ⟨v, e3, r⟩ := atI_rel l e
        exact .inl ⟨p, xs, j, v, rfl, p2.1.int, h, e3, f2.ok v (.of r)⟩
      · exact False.elim f2
    | _ => exact False.elim f2
  | tuple ds =>
    cases dy with
    | int j =>
      simp only [idxD] at f2
      split at f2
      · rename_i d e
        obtain ⟨p, xs, rfl, h, z, l⟩ := (p1.1.mono s2).tuple
        obtain ⟨v, e3, r⟩ := atI_rel l e
        exact .inr ⟨p, xs, j, v, rfl, p2.1.int, h, e3, f2.ok v (.of r)⟩
      · exact False.elim f2
    | _ => exact False.elim f2
  | _ => exact False.elim f2
/-! ### sorted(x, key=len) -/
theorem RpL.zips {H1 : Hp} : ∀ {ds : List D} {xs : List V}, RpL K H1 xs ds → ∃ zs : List (V × D), zs.map (·.1) = xs ∧ zs.map (·.2) = ds ∧ ∀ z ∈ zs, Rp K H1 z.1 z.2
  | [], [], .nil => ⟨[], rfl, rfl, fun _ h => by cases h⟩
  | d :: ds, x :: xs, .cons h t => by
    obtain ⟨zs, e1, e2, e3⟩ := RpL.zips t
    exact ⟨(x, d) :: zs, by rw [List.map_cons, e1], by rw [List.map_cons, e2], fun z hz => by
      rcases List.mem_cons.mp hz with e | hz
      · subst e; exact h
      · exact e3 z hz⟩
theorem RpL.ofZ {H1 : Hp} : ∀ {zs : List (V × D)}, (∀ z ∈ zs, Rp K H1 z.1 z.2) → RpL K H1 (zs.map (·.1)) (zs.map (·.2))
  | [], _ => .nil
  | z :: zs, h => .cons (h z List.mem_cons_self) (RpL.ofZ fun y hy => h y (List.mem_cons_of_mem _ hy))
theorem lens_of {H1 H2 : Hp} (s : Same H1 H2) : ∀ {ds : List D} {xs : List V}, RpL K H1 xs ds → ds.all isTupD = true → Lens K H2 xs (ds.map lenD)
  | [], [], .nil, _ => .nil
  | d :: ds, x :: xs, .cons h t, g => by
    rw [List.all_cons, Bool.and_eq_true] at g
    cases h with
    | tup h1 h2 h3 =>
      rw [List.map_cons]
      show Lens K H2 _ (_ :: _)
      rw [show lenD (.tuple _) = _ from h3.length.symm]
      exact .cons (seqT_same s h1) (lens_of s t g.2)
    | _ => cases g.1
theorem c_sortLen (hX : XC X K C cv G T xa W k hot) (hh : hot = false) {x w z : Str} {a : Ex} {e : Expr} {p p2 kp pos : Pos} (h1 : x = ("sorted" : Str)) (h2 : bltB T X.env.scope x = true) (h3 : w = ("key" : Str)) (h4 : z = ("len" : Str)) (h5 : bltB T X.env.scope z = true) (st : noStar e = true) (ha : PE X e (tE K C cv G xa W a)) :
    PE X (.Call (.Name x p) [e] [⟨some w, .Name z p2, kp⟩] pos) (tE K C cv G xa W (.sortLen a)) := by
  obtain ⟨g, m, d1⟩ := bltB_ok hX h2
  obtain ⟨g2, m2, d2⟩ := bltB_ok hX h5
  have s1 := star_cons st X.env []
  have pa : PA X [e] (tCons (tE K C cv G xa W a) tNil) := pa_cons ha pa_nil s1
  have hu := (hX.rm hh).units
  have eK := hX.eK
  subst eK
  subst h1 h3 h4
  refine ⟨fun pins s σ H Q I h => ?_⟩
  obtain ⟨O, H0, own, ρ, R, f⟩ := h
  simp only [evE] at f
  refine wpAny_Call_Name_kw (ld_blt I g m PyProof.Rows.boot_sorted ?_ (by decide) d1)
  refine PyProof.Rows.callWith_kw (thn (pa.run pos pins s σ H (fun vs H1 => ∃ v, vs = [v] ∧ Same H H1 ∧ Fin cv W σ H1 (match evE C G a ρ with | .ok d => sortLenD d | _ => .bad) (fun d H' => ∀ v, Pst X.K (.sortLen a) O own H' v d → Q v H') ∧ ∃ d, evE C G a ρ = .ok d ∧ QR X.K O own H1 v d) I ?_) fun us s1' ⟨vs, H1, I1, r1, v, ev, sm, f1, d, ed, q1⟩ => ?_) (by rw [s1]; rfl) (by rw [s1]; rfl) (by rfl) (by rfl)
  · refine ⟨O, H0, own, ρ, R, ?_⟩
    cases ed : evE C G a ρ with
    | bad => rw [ed] at f; exact False.elim f
    | exc c => rw [ed] at f; exact f
    | ok d =>
      rw [ed] at f
      have f : Fin cv W σ H (sortLenD d) _ := f
      exact fun H' s' v pv => ⟨v, rfl, s', Fin.mono f s', d, rfl, pv.1⟩
  · subst ev
    rw [ed] at f1
    show wpAny _ _ (evalAll ((do let v ← eval (.Name ("len" : Str) p2) X.env; standAt pos; pure v) :: [])) _ _ s1'
    refine wpAny_evalAll_cons (wpAny_bind (ld_blt I1 g2 m2 PySem.boot_len (wpAny_bind (wpAny_standAt (wpAny_pure (wpAny_evalAll_nil ?_)))) (by decide) d2))
    cases d with
    | list ds =>
      obtain ⟨b, xs, rfl, hs, hz, hl⟩ := q1.list
      rw [Vals.ref1 r1]
      simp only [sortLenD] at f1
      split at f1
      · rename_i ht
        refine sortLen_run I1 hs (lens_of er_le hl ht) hu fun q hq => ?_
        obtain ⟨zs, e1, e2, e3⟩ := hl.zips
        have k1 : ((xs.zip (ds.map lenD)).mergeSort fun a b => decide ((a.2 : Int) ≤ (b.2 : Int))).map (·.1) = (zs.mergeSort fun a b => decide ((lenD a.2 : Int) ≤ (lenD b.2 : Int))).map (·.1) := by
          have h0 : xs.zip (ds.map lenD) = zs.map fun z => (z.1, lenD z.2) := by
            rw [← e1, ← e2]
            clear e1 e2 e3
            induction zs with
            | nil => rfl
            | cons z zs ih => simp only [List.map_cons, List.zip_cons_cons, ih]
          rw [h0, ← PySem.W.sort_maps (fun z : V × D => (z.1, lenD z.2)) (r := fun a b => decide ((lenD a.2 : Int) ≤ (lenD b.2 : Int))) (fun _ _ _ _ => rfl), List.map_map]
          rfl
        have k2 : srtLen ds = (zs.mergeSort fun a b => decide ((lenD a.2 : Int) ≤ (lenD b.2 : Int))).map (·.2) := by
          unfold srtLen
          rw [PySem.W.sort_maps (fun z : V × D => z.2) (s := fun a b => decide ((lenD a : Int) ≤ (lenD b : Int))) (fun _ _ _ _ => rfl), e2]
        have k3 : ∀ z ∈ (zs.mergeSort fun a b => decide ((lenD a.2 : Int) ≤ (lenD b.2 : Int))), Rp X.K (er (hid O own) H1) z.1 z.2 := fun z hz => e3 z (List.mem_mergeSort.mp hz)
        rw [k1]
        rw [k2] at f1
        have hz' : ((zs.mergeSort fun a b => decide ((lenD a.2 : Int) ≤ (lenD b.2 : Int))).map (·.1)).length ≤ cap := by
          rw [List.length_map, List.length_mergeSort, ← List.length_map (f := (·.1)), e1]; exact hz
        exact f1.here (same_upd hq) _ (.of (new_lst hq ((R.mono sm).fresh hq) hz' (RpL.ofZ k3)))
      · exact False.elim f1
    | _ => exact False.elim f1
theorem minLen_at : ∀ {ds : List D} {i : Nat} {d : D}, ds[i]? = some d → (∀ j, j < ds.length → (ds.map lenD).getD i 0 ≤ (ds.map lenD).getD j 0 ∧ (j < i → (ds.map lenD).getD i 0 < (ds.map lenD).getD j 0)) → minLenL ds = some d
  | [], i, d, h, _ => by simp at h
  | x :: r, 0, d, h, hm => by
    have e : x = d := by simpa using h
    subst e
    unfold minLenL
    cases q : minLenL r with
    | none => rfl
    | some y =>
      have hy : y ∈ r := by
        clear hm h
        revert y
        induction r with
        | nil => intro y q; cases q
        | cons z r ih =>
          intro y q
          unfold minLenL at q
          cases q2 : minLenL r with
          | none => rw [q2] at q; cases q; exact List.mem_cons_self
          | some w =>
            rw [q2] at q
            dsimp only at q
            split at q
            · cases q; exact List.mem_cons_self
            · cases q; exact List.mem_cons_of_mem _ (ih _ q2)
      obtain ⟨j, hj, ej⟩ := List.getElem_of_mem hy
      have := (hm (j + 1) (by simpa using hj)).1
      simp only [List.map_cons, List.getD_cons_zero, List.getD_cons_succ] at this
      have e2 : (r.map lenD).getD j 0 = lenD y := by simp [hj, ej]
      rw [e2] at this
      dsimp only
      rw [if_pos this]
  | x :: r, i + 1, d, h, hm => by
    have h' : r[i]? = some d := by simpa using h
    have ih := minLen_at (ds := r) (i := i) (d := d) h' fun j hj => by
      have := hm (j + 1) (by simpa using hj)
      simp only [List.map_cons, List.getD_cons_succ] at this
      exact ⟨this.1, fun hji => this.2 (by omega)⟩
    unfold minLenL
    rw [ih]
    dsimp only
    have h0 := (hm 0 (by simp)).2 (by omega)
    simp only [List.map_cons, List.getD_cons_zero, List.getD_cons_succ] at h0
    obtain ⟨hi, ei⟩ := List.getElem?_eq_some_iff.mp h'
    have e2 : (r.map lenD).getD i 0 = lenD d := by simp [hi, ei]
    rw [e2] at h0
    rw [if_neg (by omega)]
theorem c_minLen (hX : XC X K C cv G T xa W k hot) (hh : hot = false) {x w z : Str} {a : Ex} {e : Expr} {p p2 kp pos : Pos} (h1 : x = ("min" : Str)) (h2 : bltB T X.env.scope x = true) (h3 : w = ("key" : Str)) (h4 : z = ("len" : Str)) (h5 : bltB T X.env.scope z = true) (st : noStar e = true) (ha : PE X e (tE K C cv G xa W a)) :
    PE X (.Call (.Name x p) [e] [⟨some w, .Name z p2, kp⟩] pos) (tE K C cv G xa W (.minLen a)) := by
  obtain ⟨g, m, d1⟩ := bltB_ok hX h2
  obtain ⟨g2, m2, d2⟩ := bltB_ok hX h5
  have s1 := star_cons st X.env []
  have pa : PA X [e] (tCons (tE K C cv G xa W a) tNil) := pa_cons ha pa_nil s1
  have hd := (hX.rm hh).hd
  have eK := hX.eK
  subst eK
  subst h1 h3 h4
  refine ⟨fun pins s σ H Q I h => ?_⟩
  obtain ⟨O, H0, own, ρ, R, f⟩ := h
  simp only [evE] at f
  refine wpAny_Call_Name_kw (ld_blt I g m PyProof.Rows.boot_min ?_ (by decide) d1)
  refine PyProof.Rows.callWith_kw (thn (pa.run pos pins s σ H (fun vs H1 => ∃ v, vs = [v] ∧ Same H H1 ∧ Fin cv W σ H1 (match evE C G a ρ with | .ok d => minLenD d | _ => .bad) (fun d H' => ∀ v, Pst X.K (.minLen a) O own H' v d → Q v H') ∧ ∃ d, evE C G a ρ = .ok d ∧ QR X.K O own H1 v d) I ?_) fun us s1' ⟨vs, H1, I1, r1, v, ev, sm, f1, d, ed, q1⟩ => ?_) (by rw [s1]; rfl) (by rw [s1]; rfl) (by rfl) (by rfl)
  · refine ⟨O, H0, own, ρ, R, ?_⟩
    cases ed : evE C G a ρ with
    | bad => rw [ed] at f; exact False.elim f
    | exc c => rw [ed] at f; exact f
    | ok d =>
      rw [ed] at f
      have f : Fin cv W σ H (minLenD d) _ := f
      exact fun H' s' v pv => ⟨v, rfl, s', Fin.mono f s', d, rfl, pv.1⟩
  · subst ev
    rw [ed] at f1
    show wpAny _ _ (evalAll ((do let v ← eval (.Name ("len" : Str) p2) X.env; standAt pos; pure v) :: [])) _ _ s1'
    refine wpAny_evalAll_cons (wpAny_bind (ld_blt I1 g2 m2 PySem.boot_len (wpAny_bind (wpAny_standAt (wpAny_pure (wpAny_evalAll_nil ?_)))) (by decide) d2))
    cases d with
    | list ds =>
      obtain ⟨b, xs, rfl, hs, hz, hl⟩ := q1.list
      rw [Vals.ref1 r1]
      simp only [minLenD] at f1
      split at f1
      · rename_i ht
        cases em : minLenL ds with
        | none => rw [em] at f1; exact False.elim f1
        | some dm =>
          rw [em] at f1
          have hne : 0 < xs.length := by
            rw [hl.length]
            cases ds with
            | nil => cases em
            | cons _ _ => simp
          refine minLen_run I1 hs (lens_of er_le hl ht) hne hd fun i v hv hb => ?_
          obtain ⟨d, ed2, rd⟩ := hl.getV hv
          have := minLen_at ed2 fun j hj => hb j (by rw [List.length_map]; exact hj)
          rw [em] at this
          cases this
          exact f1.here (Same.refl _) _ (.of rd)
      · exact False.elim f1
    | _ => exact False.elim f1
/-- an attribute of an object -/
theorem c_fld (hX : XC X K C cv G T xa W k hot) {i f : Nat} {x y : Str} {p1 p : Pos} (h1 : nmB X.N i x = true) (h2 : visB X.env.scope x = true) (h3 : y = fldNm f) (h4 : f < 8) : PE X (.Attribute (.Name x p1) y p) (tE K C cv G xa W (.fld i f)) := by
  obtain ⟨n, d1, d2⟩ := nmB_ok h1
  have eK := hX.eK
  subst eK h3
  refine PE.imp (pe_fld (pe_var n (visB_ok h2) d1 d2) rfl) fun σ H Q ⟨O, H0, own, ρ, R, g⟩ => ?_
  simp only [evE] at g
  split at g
  · rename_i c fs e
    obtain ⟨a, fv, e1, e2, ⟨oc, dx, e3⟩, e4, e5⟩ := R.ob i c fs e
    cases e6 : fs.lookup f with
    | none => rw [e6] at g; exact False.elim g
    | some d =>
      rw [e6] at g
      obtain ⟨v, e7, e8⟩ := e5.get h4 e6
      exact ⟨.ref a, e2, a, _, dx, fv, v, rfl, e3, oc.cls, oc.na f h4, e7, Fin.ok g v (.of e8)⟩
  · exact False.elim g
/-! ### a def out of a written list -/
/-- the def g stands at v -/
def IsF (X : Cx) (K : PySem.W.Frag) (cv : Nat → Value) (G : Nat → List D → Rs D) (k n g : Nat) (v : V) : Prop := ∃ a fd ps, v = V.ref a ∧ PySem.W.keepIn X.K (.ref a) = true ∧ Binds X.K fd ps [] ∧ FnOk X.prog X.w X.K X.mg X.base (L2.CX X.prog X.w) (2 * k) a fd ps (spG K cv (G g) n)
def tVs (vs : List V) : TA := fun _ H Q => Q vs H
theorem pa_fns (hX : XC X K C cv G T xa W k hot) {n : Nat} : ∀ {gs : List Nat} {l : List Expr}, ckGs T n X.env.scope gs l = true → ∃ vs : List V, vs.length = gs.length ∧ (∀ (i g : Nat), gs[i]? = some g → ∃ v, vs[i]? = some v ∧ IsF X K cv G k n g v) ∧ PA X l (tVs vs)
  | [], [], _ => ⟨[], rfl, fun i g h => by simp at h, pa_nil⟩
  | [], _ :: _, h => by simp [ckGs] at h
  | _ :: _, [], h => by simp [ckGs] at h
  | g :: gs, e :: l, h => by
    simp only [ckGs, Bool.and_eq_true] at h
    obtain ⟨h1, h2⟩ := h
    obtain ⟨vs, q1, q2, q3⟩ := pa_fns hX h2
    split at h1
    · rename_i x p
      simp only [Bool.and_eq_true, decide_eq_true_eq] at h1
      obtain ⟨gl, d1⟩ := glB_ok h1.2
      obtain ⟨a, fd, ps, m, kp, b, F⟩ := hX.lk.fn g x n h1.1
      have eK := hX.eK
      refine ⟨.ref a :: vs, by rw [List.length_cons, List.length_cons, q1], fun i f hi => ?_, PA.imp (pa_cons (pe_glob (v := .ref a) gl m rfl d1) q3 rfl) fun σ H Q h => h⟩
      cases i with
      | zero =>
        simp only [List.getElem?_cons_zero, Option.some.injEq] at hi
        subst hi
        exact ⟨_, rfl, a, fd, ps, rfl, by rw [eK]; exact kp, by rw [eK]; exact b, by rw [eK]; exact F⟩
      | succ i =>
        rw [List.getElem?_cons_succ] at hi ⊢
        exact q2 i f hi
    · cases h1
theorem c_callv (hX : XC X K C cv G T xa W k hot) (hh : hot = false) {gs : List Nat} {i : Nat} {as : Exs} {l : List Expr} {y : Str} {a : Expr} {es : List Expr} {p1 p2 p3 pos : Pos} (hg : gs.length ≤ 1000) (h1 : ckGs T as.len X.env.scope gs l = true) (h2 : nmB X.N i y = true) (h3 : visB X.env.scope y = true) (hst : (a :: es).all noStar = true)
    (ha : PA X (a :: es) (tEs K C cv G xa W as)) : PE X (.Call (.Subscript (.List l p1) (.Name y p2) p3) (a :: es) [] pos) (tE K C cv G xa W (.callv gs i as)) := by
  obtain ⟨vs, q1, q2, q3⟩ := pa_fns hX h1
  obtain ⟨n, d1, d2⟩ := nmB_ok h2
  have eK := hX.eK
  subst eK
  rw [List.all_cons, Bool.and_eq_true] at hst
  refine ⟨fun pins s σ H Q I h => ?_⟩
  obtain ⟨O, H0, own, ρ, R, f⟩ := h
  simp only [evE] at f
  split at f
  · rename_i j ej
    split at f
    · rename_i hj
      split at f
      · rename_i g eg
        obtain ⟨w, hw, rw_⟩ := R.cl i _ ej
        cases rw_
        obtain ⟨v, ev, a0, fd, ps, rfl, kp, b, F⟩ := q2 j.toNat g eg
        have pf := pe_ix (pos := p3) ix_list (pe_lst (pos := p1) q3) (pe_var (pos := p2) n (visB_ok h3) d1 d2) (plainIx_ok (by rfl))
        refine Call_ (thn (pf.run pins s σ H (fun v H1 => v = .ref a0 ∧ Same H H1) I ⟨by rw [q1]; exact Nat.le_trans hg (by decide), fun q hq => ⟨.int j, hw, q, vs, j, .ref a0, rfl, rfl, .inl (.inl upd_same), ?_, rfl, same_upd hq⟩⟩) fun u s1 ⟨v, H1, I1, r1, e1, s1'⟩ => ?_)
        · rw [show j = ((j.toNat : Nat) : Int) from by omega]
          exact atI_nat ev
        · subst e1
          obtain rfl : u = Value.ref a0 := r1
          have f' : Fin cv W σ H1 (evE C G (.call g as) ρ) fun d H' => ∀ v, Pst X.K (.call g as) O own H' v d → Q v H' := Fin.mono (by simp only [evE]; exact f) s1'
          have hc := call_in (Q := Q) (f := g) (as := as) (es := a :: es) (t := tEs X.K C cv G xa W as) (fun σ H R' q => q) rfl (R.mono s1') f'
          refine PySem.W.callWith_K (h₀ := X.base) I1.ok.mod.kin kp (thn (ha.run pos pins s1 σ H1 _ I1 hc) fun us s2 ⟨vs2, H2, I2, r2, q⟩ => ⟨I2.kIn, ?_⟩) (star_cons hst.1 _ _) (back_any hst.2)
          exact run_fnS F ((hX.rm hh).mono (by omega)) b (passAt hX.tk σ) I2 r2 q
      · exact False.elim f
    · exact False.elim f
  · exact False.elim f

theorem c_ono : PO X none (tOp K C cv G xa W .no) := PO.imp po_none fun σ H Q ⟨O, H0, own, ρ, R, f⟩ => by
  simp only [evO] at f
  exact f.ok
theorem c_oone {a : Ex} {e : Expr} (ha : PE X e (tE K C cv G xa W a)) : PO X (some e) (tOp K C cv G xa W (.one a)) := PO.imp (po_some ha) fun σ H Q ⟨O, H0, own, ρ, R, f⟩ => by
  simp only [evO] at f
  refine ⟨O, H0, own, ρ, R, f.bd.map fun d H1 s1 f1 v p1 => ?_⟩
  cases d with
  | int i => exact ⟨i, p1.1.int, f1.ok⟩
  | _ => exact False.elim f1
theorem cut_whole {ds : List D} {lo hi : Option Int} (h : HT.sIx ds.length 0 lo = 0 ∧ HT.sIx ds.length ds.length hi = ds.length) : cutD ds lo hi = ds := by
  unfold cutD
  rw [h.1, h.2, List.drop_zero, Nat.sub_zero, List.take_length]
theorem c_slc (eK : X.K = K) {a : Ex} {lo hi : Eo} {e1 : Expr} {l h : Option Expr} {p2 pos : Pos} (ha : PE X e1 (tE K C cv G xa W a)) (hl : PO X l (tOp K C cv G xa W lo)) (hh : PO X h (tOp K C cv G xa W hi)) :
    PE X (.Subscript e1 (.Slice l h none p2) pos) (tE K C cv G xa W (.slc a lo hi)) := by
  subst eK
  refine PE.imp (pe_slice (SlR.or sl_list sl_tupA) ha hl hh) fun σ H Q ⟨O, H0, own, ρ, R, f⟩ => ?_
  simp only [evE] at f
  refine ⟨O, H0, own, ρ, R, f.bd.map fun dx H1 s1 f1 vx p1 => ⟨O, H0, own, ρ, R.mono s1, f1.bd.map fun o1 H2 s2 f2 => ⟨O, H0, own, ρ, (R.mono s1).mono s2, f2.bd.map fun o2 H3 s3 f3 => ?_⟩⟩⟩
  have R3 := ((R.mono s1).mono s2).mono s3
  have q := (p1.1.mono s2).mono s3
  cases dx with
  | list ds =>
    obtain ⟨p, xs, rfl, h, z, l⟩ := q.list
    refine .inl ⟨p, xs, rfl, h, fun r hr => f3.here (same_upd hr) _ (.of (new_lst hr (R3.fresh hr) (Nat.le_trans (cutV_length _ _ _) z) (l.cut _ _)))⟩
  | tuple ds =>
    obtain ⟨p, xs, rfl, h, z, l⟩ := q.tuple
    refine .inr ⟨p, xs, rfl, h, fun w => ?_, fun _ r hr => f3.here (same_upd hr) _ (.of (new_tup hr (R3.fresh hr) (Nat.le_trans (cutV_length _ _ _) z) (l.cut _ _)))⟩
    rw [l.length] at w
    refine f3.ok _ (.of ?_)
    rw [cut_whole w]
    exact q.rpT
  | _ => exact False.elim f3
theorem RpL.rev : ∀ {H1 : Hp} {ds : List D} {xs : List V}, RpL K H1 xs ds → RpL K H1 xs.reverse ds.reverse
  | _, [], _, .nil => .nil
  | _, _ :: _, _, .cons h t => by
    rw [List.reverse_cons, List.reverse_cons]
    exact (RpL.rev t).append (.cons h .nil)
theorem c_rev (eK : X.K = K) {a : Ex} {e1 : Expr} {k1 : Nat} {p1 p2 p3 pos : Pos} (ha : PE X e1 (tE K C cv G xa W a)) :
    PE X (.Subscript e1 (.Slice none none (some (.UnaryOp .USub (.Constant (.int 1) k1 p1) p2)) p3) pos) (tE K C cv G xa W (.rev a)) := by
  subst eK
  refine PE.imp (pe_revL ha) fun σ H Q ⟨O, H0, own, ρ, R, f⟩ => ?_
  simp only [evE] at f
  refine ⟨O, H0, own, ρ, R, f.bd.map fun dx H1 s1 f1 vx p1 => ?_⟩
  cases dx with
  | list ds =>
    obtain ⟨p, xs, rfl, h, z, l⟩ := p1.1.list
    exact ⟨p, xs, rfl, h, fun r hr => f1.here (same_upd hr) _ (.of (new_lst hr ((R.mono s1).fresh hr) (by rw [List.length_reverse]; exact z) l.rev))⟩
  | _ => exact False.elim f1
theorem c_lrep {as : Exs} {n : Ex} {es : List Expr} {e : Expr} {p pos : Pos} (hs : PA X es (tEs K C cv G xa W as)) (hn : PE X e (tE K C cv G xa W n)) :
    PE X (.BinOp (.List es p) .Mult e pos) (tE K C cv G xa W (.lrep as n)) := by
  refine PE.imp (pe_op op_rep (pe_lst hs) hn) fun σ H Q ⟨O, H0, own, ρ, R, f⟩ => ?_
  simp only [evE] at f
  refine ⟨O, H0, own, ρ, R, f.bd.map fun ds H1 s1 f1 vs p1 => ?_⟩
  have hl := p1.length
  split at f1
  · rename_i z
    refine ⟨by rw [hl]; exact Nat.le_trans z (by decide), fun q hq => ?_⟩
    have hfr := (R.mono s1).fresh hq
    refine ⟨O, H0, own, ρ, (R.mono s1).mono (same_upd hq), (f1.mono (same_upd hq)).bd.map fun d H2 s2 f2 v p2 => ?_⟩
    cases d with
    | int k =>
      simp only [repD] at f2
      split at f2
      · rename_i z2
        have hb : vs.length * k.toNat ≤ 1000 * 1000 := Nat.mul_le_mul (by omega) (by omega)
        refine ⟨q, k, vs, rfl, p2.1.int, s2 _ _ upd_same, by omega, by omega, Nat.le_trans hb (by decide), fun r hr => ?_⟩
        refine f2.here (same_upd hr) _ (.of (new_lst hr (((R.mono s1).mono (same_upd hq)).mono s2 |>.fresh hr) ?_ ((p1.mono (same_erO ((same_upd hq).trans s2))).rep _)))
        rw [PyProof.Rows.lm_len_rep_flat, Nat.mul_comm]
        exact Nat.le_trans hb (by decide)
      · exact False.elim f2
    | _ => exact False.elim f2
  · exact False.elim f1
theorem findD_ok {x : V} {d : D} {H1 : Hp} (hx : Rp K H1 x d) (fx : flatD d = true) : ∀ {ds : List D} {xs : List V} {j : Nat}, RpL K H1 xs ds → ds.all flatD = true → findD d ds = some j →
    ∃ z, xs[j]? = some z ∧ eqV z x = true ∧ ∀ (m : Nat) (z' : V), m < j → xs[m]? = some z' → eqV z' x = false
  | [], _, _, .nil, _, e => by cases e
  | e :: ds, y :: ys, j, .cons r l, f, h => by
    rw [List.all_cons, Bool.and_eq_true] at f
    have ev := eqV_of r hx f.1 fx
    unfold findD at h
    split at h
    · rename_i c
      cases h
      exact ⟨y, rfl, by rw [ev]; exact c, fun m z' hm => absurd hm (Nat.not_lt_zero m)⟩
    · rename_i c
      rw [Option.map_eq_some_iff] at h
      obtain ⟨j', h1, rfl⟩ := h
      obtain ⟨z, h2, h3, h4⟩ := findD_ok hx fx l f.2 h1
      refine ⟨z, by simpa using h2, h3, fun m z' hm hz => ?_⟩
      cases m with
      | zero =>
        simp at hz
        subst hz
        rw [ev]
        simpa using c
      | succ m => exact h4 m z' (by omega) (by simpa using hz)
theorem c_mth (eK : X.K = K) {m : Mt} {a b : Ex} {o e : Expr} {x : Str} {p pos : Pos} (h1 : x = m.nm) (hl : p.endLine = pos.line) (nb : isOwn b = false) (st : noStar e = true) (hb : attributeBase o x X.env (eval o X.env) = eval o X.env) (ho : PE X o (tE K C cv G xa W a)) (he : PE X e (tE K C cv G xa W b)) :
    PE X (.Call (.Attribute o x p) [e] [] pos) (tE K C cv G xa W (.mth m a b)) := by
  subst eK
  have s1 := star_cons st X.env []
  have pa : PA X [e] (tCons (tE X.K C cv G xa W b) tNil) := pa_cons he pa_nil s1
  cases m
  subst h1
  refine PE.imp (pe_bm PySem.F.plainAttrs_list PySem.F.slot_list_index PySem.F.type_list_index mt_index ho pa hb (by rw [s1]; rfl) (by rw [hl]; exact beq_self_eq_true _) s1 rfl) fun σ H Q ⟨O, H0, own, ρ, R, f⟩ => ?_
  simp only [evE] at f
  refine ⟨O, H0, own, ρ, R, f.bd.map fun dx H1 s1 f1 vx p1 => ?_⟩
  cases dx with
  | list ds =>
    obtain ⟨q, xs, rfl, h, z, l⟩ := p1.1.list
    refine ⟨.inl ⟨rfl, xs, h⟩, O, H0, own, ρ, R.mono s1, f1.bd.map fun dy H2 s2 f2 vy p2 => ?_⟩
    simp only [mthD] at f2
    split at f2
    · rename_i zz
      split at f2
      · rename_i j ej
        have l2 := l.mono (same_erO s2)
        obtain ⟨w, h2, h3, h4⟩ := findD_ok (p2.2 nb) zz.1 l2 zz.2 ej
        exact ⟨q, xs, vy, j, w, rfl, rfl, s2.seq h, (p2.2 nb).flat zz.1, l2.flat zz.2, h2, h3, h4, f2.ok _ (.of (.int _))⟩
      · exact False.elim f2
    · exact False.elim f2
  | _ => exact False.elim f1
end
end Pu

/-! Pu, part 8: iterators, comprehensions. -/
namespace Pu
open PySem PySem.Spec PyProof.Rows L2
section
variable {X : Cx} {K : PySem.W.Frag} {C : Nat → D} {cv : Nat → Value} {G : Nat → List D → Rs D} {T : Tb} {xa : XA} {W : WX} {k : Nat} {hot : Bool}
variable {O : Addr → Prop} {own : Ow} {σ : L2.St} {H H' : Hp} {Q : VK} {ρ : Env}

/-! ### list(range(a, b)) -/
theorem rgV_rel {H1 : Hp} (a b : Int) : RpL K H1 (rgV a b) (rangeL a b) := by
  unfold rgV rangeL
  generalize List.range (b - a).toNat = l
  induction l with
  | nil => exact .nil
  | cons i r ih => exact .cons (.int _) ih
theorem rangeL_length (a b : Int) : (rangeL a b).length = (b - a).toNat := by unfold rangeL; rw [List.length_map, List.length_range]
theorem rangeL_get {a b : Int} {i : Nat} {d : D} (h : (rangeL a b)[i]? = some d) : i < (b - a).toNat ∧ d = .int (a + i) := by
  unfold rangeL at h
  rw [List.getElem?_map] at h
  cases e : (List.range (b - a).toNat)[i]? with
  | none => rw [e] at h; cases h
  | some j =>
    rw [e] at h
    obtain ⟨h1, h2⟩ := List.getElem?_eq_some_iff.mp e
    rw [List.getElem_range] at h2
    subst h2
    rw [List.length_range] at h1
    exact ⟨h1, (Option.some.inj h).symm⟩
theorem c_lrange (hX : XC X K C cv G T xa W k hot) (hh : hot = false) {x y : Str} {a b : Ex} {e1 e2 : Expr} {p p2 pos pos2 : Pos} (h1 : x = ("list" : Str)) (h2 : bltB T X.env.scope x = true) (h3 : y = ("range" : Str)) (h4 : bltB T X.env.scope y = true)
    (st1 : noStar e1 = true) (st2 : noStar e2 = true) (ha : PE X e1 (tE K C cv G xa W a)) (hb : PE X e2 (tE K C cv G xa W b)) : PE X (.Call (.Name x p) [.Call (.Name y p2) [e1, e2] [] pos2] [] pos) (tE K C cv G xa W (.lrange a b)) := by
  obtain ⟨g, m, d1⟩ := bltB_ok hX h2
  obtain ⟨g2, m2, d2⟩ := bltB_ok hX h4
  subst h1 h3
  have s1 := star_cons st1 X.env [e2]
  have s2 := star_cons st2 X.env []
  have hpl : (backTo pos2 (starEach [e2] X.env)).any (·.1) = false := by rw [s2]; rfl
  refine PE.imp (pe_listRg (hX.calm hh) g m (prg_2 g2 m2 ha hb s1 s2 hpl) rfl) fun σ H Q ⟨O, H0, own, ρ, R, f⟩ => ?_
  simp only [evE] at f
  refine ⟨O, H0, own, ρ, R, f.bd.map fun dx H1 z1 f1 vx p1 => ⟨O, H0, own, ρ, R.mono z1, f1.bd.map fun dy H2 z2 f2 vy p2 => ?_⟩⟩
  cases dx with
  | int i =>
    cases dy with
    | int j =>
      simp only at f2
      split at f2
      · rename_i z
        refine ⟨i, j, p1.1.int, p2.1.int, ⟨by omega, by omega, by omega, by omega, by omega⟩, fun q hq => f2.here (same_upd hq) _ (.of (new_lst hq (((R.mono z1).mono z2).fresh hq) ?_ (rgV_rel i j)))⟩
        rw [rgV_length]
        unfold cap
        omega
      · exact False.elim f2
    | _ => exact False.elim f2
  | _ => exact False.elim f2

/-! ### iterators -/
theorem itl_ok {a : Addr} {xs : List V} {ds : List D} (h : SqL K (er (hid O own) H) a xs) (l : RpL K (er (hid O own) H) xs ds) : ItOk K O own H (Itl K a) ds where
  go := fun i d H1 s e => by
    obtain ⟨v, h1, _⟩ := l.get e
    exact ⟨xs, v, Same.seq s h, h1⟩
  yld := fun i d H1 x H2 s e y => by
    obtain ⟨e2, y⟩ := y
    subst e2
    obtain ⟨v, h1, h2⟩ := l.get e
    have := y xs (Same.seq s h)
    rw [h1] at this
    cases this
    exact ⟨Same.refl _, fun O' own' _ s' => h2.mono s'⟩
  stop := fun i H1 s e => ⟨xs, Same.seq s h, by rw [l.length]; exact e⟩
theorem itt_ok {a : Addr} {xs : List V} {ds : List D} (h : SqT K (er (hid O own) H) a xs) (l : RpL K (er (hid O own) H) xs ds) : ItOk K O own H (Itt K a) ds where
  go := fun i d H1 s e => by
    obtain ⟨v, h1, _⟩ := l.get e
    exact ⟨xs, v, seqT_same s h, h1⟩
  yld := fun i d H1 x H2 s e y => by
    obtain ⟨e2, y⟩ := y
    subst e2
    obtain ⟨v, h1, h2⟩ := l.get e
    have := y xs (seqT_same s h)
    rw [h1] at this
    cases this
    exact ⟨Same.refl _, fun O' own' _ s' => h2.mono s'⟩
  stop := fun i H1 s e => ⟨xs, seqT_same s h, by rw [l.length]; exact e⟩
theorem itr_ok {a b : Int} : ItOk K O own H (L2.Itr a (b - a).toNat) (rangeL a b) where
  go := fun i d H1 s e => (rangeL_get e).1
  yld := fun i d H1 x H2 s e y => by
    obtain ⟨e2, y⟩ := y
    subst e2 y
    rw [(rangeL_get e).2]
    exact ⟨Same.refl _, fun O' own' _ s' => .int _⟩
  stop := fun i H1 s e => by rw [rangeL_length] at e; exact e
theorem enumD_get : ∀ {ds : List D} {n i : Nat} {d : D}, (enumD n ds)[i]? = some d → ∃ e, ds[i]? = some e ∧ d = .tuple [.int ((n + i : Nat) : Int), e]
  | [], _, _, _, h => by simp [enumD] at h
  | e :: ds, n, 0, d, h => by simp [enumD] at h; exact ⟨e, rfl, by rw [← h]; rfl⟩
  | e :: ds, n, i + 1, d, h => by
    have h' : (enumD (n + 1) ds)[i]? = some d := by simpa [enumD] using h
    obtain ⟨e', h1, h2⟩ := enumD_get h'
    exact ⟨e', by simpa using h1, by rw [h2]; congr 3; omega⟩
theorem enumD_length : ∀ {ds : List D} {n : Nat}, (enumD n ds).length = ds.length
  | [], _ => rfl
  | e :: ds, n => by simp [enumD, enumD_length]
theorem pair_rel {T : Addr} {x y : V} {d e : D} {H1 : Hp} {O' : Addr → Prop} {own' : Ow} (hT : H1 T = none) (hn : ¬ hid O' own' T) (h1 : Rp K (er (hid O' own') H1) x d) (h2 : Rp K (er (hid O' own') H1) y e) :
    Rp K (er (hid O' own') (upd H1 T (.tup [x, y]))) (.ref T) (.tuple [d, e]) := new_tup hT hn (by show 2 ≤ 16777216; decide) (.cons h1 (.cons h2 .nil))
theorem ite_ok {a : Addr} {xs : List V} {ds : List D} (h : SqL K (er (hid O own) H) a xs) (l : RpL K (er (hid O own) H) xs ds) : ItOk K O own H (Ite K a) (enumD 0 ds) where
  go := fun i d H1 s e => by
    obtain ⟨e', he, _⟩ := enumD_get e
    obtain ⟨v, h1, _⟩ := l.get he
    exact ⟨xs, v, Same.seq s h, h1⟩
  yld := fun i d H1 x H2 s e y => by
    obtain ⟨Tt, z, rfl, hT, rfl, y⟩ := y
    obtain ⟨e', he, rfl⟩ := enumD_get e
    obtain ⟨v, h1, h2⟩ := l.get he
    have := y xs (Same.seq s h)
    rw [h1] at this
    cases this
    refine ⟨same_upd hT, fun O' own' hn s' => ?_⟩
    have e0 : ((0 + i : Nat) : Int) = (i : Int) := by omega
    rw [e0]
    exact pair_rel hT (fun c => hn _ c hT) (.int _) (h2.mono s')
  stop := fun i H1 s e => ⟨xs, Same.seq s h, by rw [enumD_length] at e; rw [l.length]; exact e⟩
theorem zipD_get : ∀ {a b : List D} {i : Nat} {d : D}, (zipD a b)[i]? = some d → ∃ x y, a[i]? = some x ∧ b[i]? = some y ∧ d = .tuple [x, y]
  | [], _, _, _, h => by simp [zipD] at h
  | _ :: _, [], _, _, h => by simp [zipD] at h
  | x :: a, y :: b, 0, d, h => by simp [zipD] at h; exact ⟨x, y, rfl, rfl, h.symm⟩
  | x :: a, y :: b, i + 1, d, h => by
    have h' : (zipD a b)[i]? = some d := by simpa [zipD] using h
    obtain ⟨x', y', h1, h2, h3⟩ := zipD_get h'
    exact ⟨x', y', by simpa using h1, by simpa using h2, h3⟩
theorem zipD_length : ∀ {a b : List D}, (zipD a b).length = min a.length b.length
  | [], _ => by simp [zipD]
  | _ :: _, [] => by simp [zipD]
  | x :: a, y :: b => by simp only [zipD, List.length_cons, zipD_length]; omega
theorem itz_ok {a b : Addr} {xs ys : List V} {ds es : List D} (h : SqL K (er (hid O own) H) a xs) (l : RpL K (er (hid O own) H) xs ds) (h' : SqL K (er (hid O own) H) b ys) (l' : RpL K (er (hid O own) H) ys es) : ItOk K O own H (Itz K a b) (zipD ds es) where
  go := fun i d H1 s e => by
    obtain ⟨d1, d2, e1, e2, _⟩ := zipD_get e
    obtain ⟨v, h1, _⟩ := l.get e1
    obtain ⟨u, h2, _⟩ := l'.get e2
    exact ⟨xs, ys, v, u, Same.seq s h, Same.seq s h', h1, h2⟩
  yld := fun i d H1 x H2 s e y => by
    obtain ⟨Tt, z, z', rfl, hT, rfl, y1, y2⟩ := y
    obtain ⟨d1, d2, e1, e2, rfl⟩ := zipD_get e
    obtain ⟨v, h1, r1⟩ := l.get e1
    obtain ⟨u, h2, r2⟩ := l'.get e2
    have q1 := y1 xs (Same.seq s h)
    have q2 := y2 ys (Same.seq s h')
    rw [h1] at q1
    rw [h2] at q2
    cases q1
    cases q2
    exact ⟨same_upd hT, fun O' own' hn s' => pair_rel hT (fun c => hn _ c hT) (r1.mono s') (r2.mono s')⟩
  stop := fun i H1 s e => by
    rw [zipD_length] at e
    have e1 := l.length
    have e2 := l'.length
    exact ⟨xs, ys, Same.seq s h, Same.seq s h', by omega⟩
theorem itzT_ok {a b : Addr} {xs ys : List V} {ds es : List D} (h : SqT K (er (hid O own) H) a xs) (l : RpL K (er (hid O own) H) xs ds) (h' : SqT K (er (hid O own) H) b ys) (l' : RpL K (er (hid O own) H) ys es) : ItOk K O own H (RZ.ItzT K a b) (zipD ds es) where
  go := fun i d H1 s e => by
    obtain ⟨d1, d2, e1, e2, _⟩ := zipD_get e
    obtain ⟨v, h1, _⟩ := l.get e1
    obtain ⟨u, h2, _⟩ := l'.get e2
    exact ⟨xs, ys, v, u, seqT_same s h, seqT_same s h', h1, h2⟩
  yld := fun i d H1 x H2 s e y => by
    obtain ⟨Tt, z, z', rfl, hT, rfl, y1, y2⟩ := y
    obtain ⟨d1, d2, e1, e2, rfl⟩ := zipD_get e
    obtain ⟨v, h1, r1⟩ := l.get e1
    obtain ⟨u, h2, r2⟩ := l'.get e2
    have q1 := y1 xs (seqT_same s h)
    have q2 := y2 ys (seqT_same s h')
    rw [h1] at q1
    rw [h2] at q2
    cases q1
    cases q2
    exact ⟨same_upd hT, fun O' own' hn s' => pair_rel hT (fun c => hn _ c hT) (r1.mono s') (r2.mono s')⟩
  stop := fun i H1 s e => by
    rw [zipD_length] at e
    have e1 := l.length
    have e2 := l'.length
    exact ⟨xs, ys, seqT_same s h, seqT_same s h', by omega⟩
theorem PI.imp {tg e : Expr} {t t' : TI} (h : PI X tg e t) (f : ∀ σ H R, t' σ H R → t σ H R) : PI X tg e t' := ⟨fun pins s σ H R I w => h.run pins s σ H R I (f _ _ _ w)⟩
/-- a list or a tuple walked -/
def iSeq (K : PySem.W.Frag) (tl : TE) : TI := fun σ H R => tl σ H fun x H1 => ∃ a, x = .ref a ∧ (((∃ xs, SqL K H1 a xs) ∧ R (Itl K a) H1) ∨ ((∃ xs, SqT K H1 a xs) ∧ R (Itt K a) H1))
theorem pi_seq {tg l : Expr} {tl : TE} (hl : PE X l tl) : PI X tg l (iSeq X.K tl) := by
  refine ⟨fun pins s σ H R I h => ?_⟩
  refine thn (hl.run pins s σ H _ I h) fun v s1 ⟨x, H1, I1, r1, q1⟩ => ?_
  obtain ⟨a, e, q⟩ := q1
  subst e
  cases r1
  rcases q with ⟨⟨xs, hq⟩, q⟩ | ⟨⟨xs, hq⟩, q⟩
  · obtain ⟨its, rv, p, hz⟩ := I1.list hq
    refine wpAny_pyIter_list p.isList ?_
    refine ⟨s1.heap.objs.size, [s1.heap.objs.size], _, _, H1, rfl, I1.kept (t' := s1.toks) fun b o e => Heap.get?_push_of_some _ e, turn_list a _, ⟨_, Heap.get?_push_size _ rfl, rfl, rfl⟩, fun b hb => ?_, q⟩
    have e : b = s1.heap.objs.size := by simpa using hb
    subst e
    exact I1.fpOk (Nat.le_refl _) (I1.hok.fresh (Nat.le_refl _))
  · obtain ⟨its, rv, p, hz⟩ := I1.tuple hq
    refine wpAny_pyIter_tuple (show s1.heap.IsTuple a its.toArray from p) ?_
    refine ⟨s1.heap.objs.size, [s1.heap.objs.size], _, _, H1, rfl, I1.kept (t' := s1.toks) fun b o e => Heap.get?_push_of_some _ e, turn_tuple a _, ⟨_, Heap.get?_push_size _ rfl, rfl, rfl⟩, fun b hb => ?_, q⟩
    have e : b = s1.heap.objs.size := by simpa using hb
    subst e
    exact I1.fpOk (Nat.le_refl _) (I1.hok.fresh (Nat.le_refl _))
theorem Rp.list {H1 : Hp} {v : V} {ds : List D} (q : Rp K H1 v (.list ds)) : ∃ a xs, v = .ref a ∧ SqL K H1 a xs ∧ xs.length ≤ cap ∧ RpL K H1 xs ds := by
  cases q with
  | lst h z l => exact ⟨_, _, rfl, h, z, l⟩
theorem Rp.tuple {H1 : Hp} {v : V} {ds : List D} (q : Rp K H1 v (.tuple ds)) : ∃ a xs, v = .ref a ∧ SqT K H1 a xs ∧ xs.length ≤ cap ∧ RpL K H1 xs ds := by
  cases q with
  | tup h z l => exact ⟨_, _, rfl, h, z, l⟩
theorem c_seq (eK : X.K = K) {tg e : Expr} {a : Ex} (no : isOwn a = false) (ha : PE X e (tE K C cv G xa W a)) : PI X tg e (tI K C cv G xa W (.seq a)) := by
  subst eK
  refine PI.imp (pi_seq ha) fun σ H Q ⟨O, H0, own, ρ, R, f⟩ => ?_
  simp only [evI] at f
  refine ⟨O, H0, own, ρ, R, f.bd.map fun d H1 s1 f1 v p1 => ?_⟩
  have q := p1.2 no
  cases d with
  | list ds =>
    obtain ⟨p, xs, rfl, h, z, l⟩ := q.list
    refine ⟨p, rfl, .inl ⟨⟨xs, Same.seq er_le h⟩, f1.ok _ (by rw [← l.length]; exact z) (itl_ok h l)⟩⟩
  | tuple ds =>
    obtain ⟨p, xs, rfl, h, z, l⟩ := q.tuple
    refine ⟨p, rfl, .inr ⟨⟨xs, seqT_same er_le h⟩, f1.ok _ (by rw [← l.length]; exact z) (itt_ok h l)⟩⟩
  | _ => exact False.elim f1
theorem c_range1 (hX : XC X K C cv G T xa W k hot) {tg e : Expr} {a : Ex} {x : Str} {p pos : Pos} (h1 : x = ("range" : Str)) (h2 : bltB T X.env.scope x = true) (st : noStar e = true) (ha : PE X e (tE K C cv G xa W a)) :
    PI X tg (.Call (.Name x p) [e] [] pos) (tI K C cv G xa W (.range1 a)) := by
  obtain ⟨g, m, d1⟩ := bltB_ok hX h2
  subst h1
  have s1 := star_cons st X.env []
  refine PI.imp (pi_range1 g m (pa_cons ha pa_nil s1) s1) fun σ H Q ⟨O, H0, own, ρ, R, f⟩ => ?_
  simp only [evI] at f
  refine ⟨O, H0, own, ρ, R, f.bd.map fun d H1 s1 f1 v p1 => ?_⟩
  cases d with
  | int i =>
    simp only at f1
    split at f1
    · rename_i z
      have q := p1.1.int
      subst q
      have e0 : i.toNat = (i - 0).toNat := by rw [Int.sub_zero]
      refine ⟨i, rfl, z.1, by omega, ?_⟩
      rw [e0]
      exact f1.ok _ (by rw [rangeL_length]; unfold cap; omega) itr_ok
    · exact False.elim f1
  | _ => exact False.elim f1
theorem c_range2 (hX : XC X K C cv G T xa W k hot) {tg e e2 : Expr} {a b : Ex} {x : Str} {p pos : Pos} (h1 : x = ("range" : Str)) (h2 : bltB T X.env.scope x = true) (st : noStar e = true) (st2 : noStar e2 = true) (ha : PE X e (tE K C cv G xa W a)) (hb : PE X e2 (tE K C cv G xa W b)) :
    PI X tg (.Call (.Name x p) [e, e2] [] pos) (tI K C cv G xa W (.range2 a b)) := by
  obtain ⟨g, m, d1⟩ := bltB_ok hX h2
  subst h1
  have s2 := star_cons st2 X.env []
  have s1 := star_cons st X.env [e2]
  have s3 : starEach [e, e2] X.env = [(false, eval e X.env), (false, eval e2 X.env)] := by rw [s1, s2]; rfl
  refine PI.imp (pi_range2 g m (pa_cons ha (pa_cons hb pa_nil s2) s1) s3 s2) fun σ H Q ⟨O, H0, own, ρ, R, f⟩ => ?_
  simp only [evI] at f
  refine ⟨O, H0, own, ρ, R, f.bd.map fun d H1 z1 f1 v p1 => ⟨O, H0, own, ρ, R.mono z1, f1.bd.map fun d2 H2 z2 f2 v2 p2 => ?_⟩⟩
  cases d with
  | int i =>
    cases d2 with
    | int j =>
      simp only at f2
      split at f2
      · rename_i z
        have q1 := p1.1.int
        have q2 := p2.1.int
        subst q1 q2
        exact ⟨i, j, rfl, ⟨z.1, z.2.1, z.2.2.1, z.2.2.2.1⟩, f2.ok _ (by rw [rangeL_length]; unfold cap; omega) itr_ok⟩
      · exact False.elim f2
    | _ => exact False.elim f2
  | _ => exact False.elim f2
theorem c_enum (hX : XC X K C cv G T xa W k hot) {elts : List Expr} {kk : Nat} {tpos : Pos} {e : Expr} {a : Ex} {x : Str} {p pos : Pos} (h1 : x = ("enumerate" : Str)) (h2 : bltB T X.env.scope x = true) (st : noStar e = true) (no : isOwn a = false) (ha : PE X e (tE K C cv G xa W a)) :
    PI X (.Tuple elts kk tpos) (.Call (.Name x p) [e] [] pos) (tI K C cv G xa W (.enum a)) := by
  obtain ⟨g, m, d1⟩ := bltB_ok hX h2
  have eK := hX.eK
  subst eK h1
  have s1 := star_cons st X.env []
  refine PI.imp (pi_enum g m (pa_cons ha pa_nil s1) s1) fun σ H Q ⟨O, H0, own, ρ, R, f⟩ => ?_
  simp only [evI] at f
  refine ⟨O, H0, own, ρ, R, f.bd.map fun d H1 s1 f1 v p1 => ?_⟩
  have q := p1.2 no
  cases d with
  | list ds =>
    obtain ⟨p, xs, rfl, h, z, l⟩ := q.list
    exact ⟨p, xs, rfl, Same.seq er_le h, f1.ok _ (by rw [enumD_length, ← l.length]; exact z) (ite_ok h l)⟩
  | _ => exact False.elim f1
theorem c_zip (hX : XC X K C cv G T xa W k hot) {elts : List Expr} {kk : Nat} {tpos : Pos} {e e2 : Expr} {a b : Ex} {x : Str} {p pos : Pos} (h1 : x = ("zip" : Str)) (h2 : bltB T X.env.scope x = true) (st : noStar e = true) (st2 : noStar e2 = true) (no : isOwn a = false) (no2 : isOwn b = false)
    (ha : PE X e (tE K C cv G xa W a)) (hb : PE X e2 (tE K C cv G xa W b)) : PI X (.Tuple elts kk tpos) (.Call (.Name x p) [e, e2] [] pos) (tI K C cv G xa W (.zip a b)) := by
  obtain ⟨g, m, d1⟩ := bltB_ok hX h2
  have eK := hX.eK
  subst eK h1
  have s2 := star_cons st2 X.env []
  have s1 := star_cons st X.env [e2]
  refine PI.imp (RZ.pi_zipA g m (pa_cons ha (pa_cons hb pa_nil s2) s1) s1 (by rw [s2]; rfl)) fun σ H Q ⟨O, H0, own, ρ, R, f⟩ => ?_
  simp only [evI] at f
  refine ⟨O, H0, own, ρ, R, f.bd.map fun d H1 z1 f1 v p1 => ⟨O, H0, own, ρ, R.mono z1, f1.bd.map fun d2 H2 z2 f2 v2 p2 => ?_⟩⟩
  have q1 := (p1.2 no).mono (same_erO z2)
  have q2 := p2.2 no2
  cases d with
  | list ds =>
    cases d2 with
    | list es =>
      obtain ⟨p, xs, rfl, h, z, l⟩ := q1.list
      obtain ⟨r, ys, rfl, h', z', l'⟩ := q2.list
      refine ⟨p, r, xs, ys, rfl, .inl ⟨Same.seq er_le h, Same.seq er_le h', f2.ok _ ?_ (itz_ok h l h' l')⟩⟩
      have e1 := l.length
      rw [zipD_length]
      omega
    | _ => exact False.elim f2
  | tuple ds =>
    cases d2 with
    | tuple es =>
      obtain ⟨p, xs, rfl, h, z, l⟩ := q1.tuple
      obtain ⟨r, ys, rfl, h', z', l'⟩ := q2.tuple
      refine ⟨p, r, xs, ys, rfl, .inr ⟨seqT_same er_le h, seqT_same er_le h', f2.ok _ ?_ (itzT_ok h l h' l')⟩⟩
      have e1 := l.length
      rw [zipD_length]
      omega
    | _ => exact False.elim f2
  | _ => exact False.elim f2
end
end Pu

/-! Pu, part 9: targets; list comprehensions. -/
namespace Pu
open PySem PySem.Spec PyProof.Rows L2

/-! ### targets -/
def gNs : List Nat → TGs
  | [] => gNil
  | i :: is => gCons (gName i) (gNs is)
def gT (K : PySem.W.Frag) : Tg → TG
  | .name i => gName i
  | .tup is => gTup K is.length (gNs is)
section
variable {X : Cx}
theorem tgs_len {p : Str → Bool} : ∀ {is : List Nat} {es : List Expr}, ckTgs X.N p is es = true → (assignEach es X.env).length = is.length ∧ (assignEach es X.env).findIdx? (·.1) = none
  | [], [], _ => ⟨rfl, rfl⟩
  | [], _ :: _, h => by cases h
  | _ :: _, [], h => by cases h
  | i :: is, e :: es, h => by
    unfold ckTgs at h
    rw [Bool.and_eq_true] at h
    cases e <;> first | (exact absurd (show false = true from h.1) Bool.false_ne_true) | skip
    obtain ⟨h1, h2⟩ := tgs_len (is := is) (es := es) h.2
    refine ⟨?_, ?_⟩
    · show (assignEach es X.env).length + 1 = is.length + 1
      rw [h1]
    · show List.findIdx? (·.1) ((false, _) :: assignEach es X.env) = none
      rw [List.findIdx?_cons]
      simp only [Bool.false_eq_true, if_false]
      rw [h2] <;> rfl
theorem pg_one {p : Str → Bool} (hN : X.N.Nodup) (hp : ∀ x, p x = true → Loc X.env.scope x ∧ (X.fn x = true ∨ X.env.scope.names.lookup x = some .local)) {i : Nat} {x : Str} {q : Pos} (h : (nmB X.N i x && p x) = true) : PG X (.Name x q) (gName i) := by
  rw [Bool.and_eq_true] at h
  obtain ⟨h1, h2⟩ := hp x h.2
  exact pg_name hN (nmB_ok h.1).1 h1 h2
theorem pgs_of {p : Str → Bool} (hN : X.N.Nodup) (hp : ∀ x, p x = true → Loc X.env.scope x ∧ (X.fn x = true ∨ X.env.scope.names.lookup x = some .local)) : ∀ {is : List Nat} {es : List Expr}, ckTgs X.N p is es = true → PGs X es (gNs is)
  | [], [], _ => pgs_nil
  | [], _ :: _, h => by cases h
  | _ :: _, [], h => by cases h
  | i :: is, e :: es, h => by
    unfold ckTgs at h
    rw [Bool.and_eq_true] at h
    cases e <;> first | (exact absurd (show false = true from h.1) Bool.false_ne_true) | skip
    exact pgs_cons (pg_one hN hp h.1) (pgs_of hN hp h.2) rfl
theorem pg_of {p : Str → Bool} (hc : X.calm = true) (hN : X.N.Nodup) (hp : ∀ x, p x = true → Loc X.env.scope x ∧ (X.fn x = true ∨ X.env.scope.names.lookup x = some .local)) {tg : Tg} {e : Expr} (h : ckTg X.N p tg e = true) : PG X e (gT X.K tg) := by
  cases tg with
  | name i =>
    unfold ckTg at h
    cases e <;> first | (exact absurd (show false = true from h) Bool.false_ne_true) | skip
    exact pg_one hN hp h
  | tup is =>
    unfold ckTg at h
    cases e <;> first | (exact absurd (show false = true from h) Bool.false_ne_true) | skip
    exact pg_tup hc (pgs_of hN hp h) (tgs_len h).1 (tgs_len h).2
theorem tg_slots {p : Str → Bool} : ∀ {is : List Nat} {es : List Expr}, ckTgs X.N p is es = true → ∀ i ∈ is, i < X.N.length
  | [], [], _ => fun _ h => by cases h
  | [], _ :: _, h => by cases h
  | _ :: _, [], h => by cases h
  | i :: is, e :: es, h => by
    unfold ckTgs at h
    rw [Bool.and_eq_true] at h
    cases e <;> first | (exact absurd (show false = true from h.1) Bool.false_ne_true) | skip
    intro j hj
    rcases List.mem_cons.mp hj with rfl | hj
    · have h1 := h.1
      rw [Bool.and_eq_true] at h1
      exact (List.getElem?_eq_some_iff.mp (nmB_ok h1.1).1).1
    · exact tg_slots h.2 j hj
theorem tg_slot {p : Str → Bool} {tg : Tg} {e : Expr} (h : ckTg X.N p tg e = true) : ∀ i ∈ tg.slots, i < X.N.length := by
  cases tg with
  | name i =>
    unfold ckTg at h
    cases e <;> first | (exact absurd (show false = true from h) Bool.false_ne_true) | skip
    intro j hj
    have : j = i := by simpa [Tg.slots] using hj
    subst this
    rw [Bool.and_eq_true] at h
    exact (List.getElem?_eq_some_iff.mp (nmB_ok h.1).1).1
  | tup is =>
    unfold ckTg at h
    cases e <;> first | (exact absurd (show false = true from h) Bool.false_ne_true) | skip
    exact tg_slots h
end
section
variable {K : PySem.W.Frag} {xa : XA} {O : Addr → Prop} {H0 : Hp} {own : Ow} {σ : L2.St} {H : Hp} {ρ : Env}
def offO (own : Ow) (i : Nat) : Ow := fun j => if j = i then none else own j
theorem offO_le {i j : Nat} {a : Addr} (h : offO own i j = some a) : own j = some a := by
  unfold offO at h
  split at h
  · cases h
  · exact h
theorem hid_le {own' : Ow} (le : ∀ j a, own' j = some a → own j = some a) {a : Addr} (h : ¬ hid O own a) : ¬ hid O own' a := fun c => h (c.elim .inl fun ⟨i, e⟩ => .inr ⟨i, le i a e⟩)
theorem er_own {own' : Ow} (le : ∀ j a, own' j = some a → own j = some a) : Same (er (hid O own) H) (er (hid O own') H) := same_er fun a o e n => ⟨e, hid_le le n⟩
/-- a slot that holds something else from now on -/
theorem Rel.put (R : Rel K xa O H0 own σ H ρ) {i : Nat} {s : Slot} {y : Option V} (hs : s.holds = false)
    (hc : ∀ d, s = .cl d → ∃ v, y = some v ∧ Rp K (er (hid O (offO own i)) H) v d) (he : ∀ c, s = .ex c → ∃ a, xa.e = some (a, c) ∧ y = some (.ref a)) (hi : i < σ.length) : Rel K xa O H0 (offO own i) (σ.set i y) H (ρ.set i s) where
  len := by rw [List.length_set, List.length_set, R.len]
  keep := fun b o e => ⟨(R.keep b o e).1, fun j z => (R.keep b o e).2 j (offO_le z)⟩
  inj := fun j l a h1 h2 => R.inj j l a (offO_le h1) (offO_le h2)
  dis := fun j a h => R.dis j a (offO_le h)
  hd := R.hd
  cl := fun j d e => by
    by_cases hj : j = i
    · subst hj
      rw [List.getElem?_set_self (by rw [← R.len]; exact hi)] at e
      cases e
      obtain ⟨v, e1, e2⟩ := hc d rfl
      exact ⟨v, by rw [List.getElem?_set_self hi, e1], e2⟩
    · rw [List.getElem?_set_ne (Ne.symm hj)] at e
      obtain ⟨v, h1, h2⟩ := R.cl j d e
      exact ⟨v, by rw [List.getElem?_set_ne (Ne.symm hj)]; exact h1, h2.mono (er_own fun _ _ => offO_le)⟩
  ow := fun j ds e => by
    by_cases hj : j = i
    · subst hj
      rw [List.getElem?_set_self (by rw [← R.len]; exact hi)] at e
      cases e
      cases hs
    · rw [List.getElem?_set_ne (Ne.symm hj)] at e
      obtain ⟨a, xs, h1, h2, h3, h4, h5⟩ := R.ow j ds e
      exact ⟨a, xs, by unfold offO; rw [if_neg hj]; exact h1, by rw [List.getElem?_set_ne (Ne.symm hj)]; exact h2, h3, h4, h5.mono (er_own fun _ _ => offO_le)⟩
  no := fun j h => by
    unfold offO
    split
    · rfl
    · rename_i hj
      refine R.no j fun s z => h s ?_
      rw [List.getElem?_set_ne (Ne.symm hj)]
      exact z
  ex := fun j c e => by
    by_cases hj : j = i
    · subst hj
      rw [List.getElem?_set_self (by rw [← R.len]; exact hi)] at e
      cases e
      obtain ⟨a, e1, e2⟩ := he c rfl
      exact ⟨a, e1, by rw [List.getElem?_set_self hi, e2]⟩
    · rw [List.getElem?_set_ne (Ne.symm hj)] at e
      obtain ⟨a, h1, h2⟩ := R.ex j c e
      exact ⟨a, h1, by rw [List.getElem?_set_ne (Ne.symm hj)]; exact h2⟩
  ob := fun j c fs e => by
    by_cases hj : j = i
    · subst hj
      rw [List.getElem?_set_self (by rw [← R.len]; exact hi)] at e
      cases e
      cases hs
    · rw [List.getElem?_set_ne (Ne.symm hj)] at e
      obtain ⟨a, fv, h1, h2, h3, h4, h5⟩ := R.ob j c fs e
      exact ⟨a, fv, by unfold offO; rw [if_neg hj]; exact h1, by rw [List.getElem?_set_ne (Ne.symm hj)]; exact h2, h3, h4, h5.mono (er_own fun _ _ => offO_le)⟩
  me := fun p a c fs h e => by
    by_cases hp : p = i
    · subst hp
      rw [List.getElem?_set_self (by rw [← R.len]; exact hi)] at e
      cases e
      cases hs
    · rw [List.getElem?_set_ne (Ne.symm hp)] at e
      unfold offO
      rw [if_neg hp]
      exact R.me p a c fs h e
theorem offO_self {i : Nat} (h : own i = none) : offO own i = own := by
  funext j
  unfold offO
  split
  · rename_i e; rw [e, h]
  · rfl
theorem Rel.set (R : Rel K xa O H0 own σ H ρ) {i : Nat} {v : V} {d : D} (h : Rp K (er (hid O own) H) v d) : Rel K xa O H0 (offO own i) (σ.set i (some v)) H (ρ.set i (.cl d)) := by
  by_cases hi : i < σ.length
  · exact R.put rfl (fun d' e => by cases e; exact ⟨v, rfl, h.mono (er_own fun _ _ => offO_le)⟩) (fun _ z => by cases z) hi
  · have h1 : ρ[i]? = none := List.getElem?_eq_none (by rw [← R.len]; omega)
    rw [List.set_eq_of_length_le (by omega), List.set_eq_of_length_le (by rw [← R.len]; omega), offO_self (R.no i fun s e => by rw [h1] at e; cases e)]
    exact R
/-- slots within vs alone were written -/
def SameOut (vs : List Nat) (σ σ' : L2.St) : Prop := σ'.length = σ.length ∧ ∀ j, j ∉ vs → σ'[j]? = σ[j]?
theorem SameOut.refl (vs : List Nat) (σ : L2.St) : SameOut vs σ σ := ⟨rfl, fun _ _ => rfl⟩
theorem SameOut.set {vs : List Nat} {σ σ' : L2.St} (h : SameOut vs σ σ') {i : Nat} (hi : i ∈ vs) (y : Option V) : SameOut vs σ (σ'.set i y) :=
  ⟨by rw [List.length_set, h.1], fun j hj => by rw [List.getElem?_set_ne (fun e => hj (by rw [← e]; exact hi))]; exact h.2 j hj⟩
theorem wipe_get {σ : L2.St} : ∀ {vs : List Nat} {j : Nat}, j < σ.length → j ∈ vs → (wipe σ vs)[j]? = some none
  | v :: vs, j, hl, hj => by
    unfold wipe
    by_cases e : v = j
    · subst e
      rw [List.getElem?_set_self (by rw [wipe_length]; exact hl)]
    · rw [List.getElem?_set_ne e]
      exact wipe_get hl ((List.mem_cons.mp hj).resolve_left (fun z => e z.symm))
theorem wipe_same {vs : List Nat} {σ σ' : L2.St} (h : SameOut vs σ σ') : wipe σ' vs = wipe σ vs := by
  apply List.ext_getElem?
  intro j
  by_cases hj : j ∈ vs
  · by_cases hl : j < σ.length
    · rw [wipe_get hl hj, wipe_get (by rw [h.1]; exact hl) hj]
    · rw [List.getElem?_eq_none (by rw [wipe_length, h.1]; omega), List.getElem?_eq_none (by rw [wipe_length]; omega)]
  · rw [wipe_out hj, wipe_out hj, h.2 j hj]
theorem wipe_sameOut (vs ws : List Nat) (σ : L2.St) (h : ∀ i ∈ vs, i ∈ ws) : SameOut ws σ (wipe σ vs) := ⟨wipe_length σ vs, fun j hj => wipe_out fun z => hj (h j z)⟩
theorem SameOut.trans {vs : List Nat} {σ σ' σ'' : L2.St} (h : SameOut vs σ σ') (g : SameOut vs σ' σ'') : SameOut vs σ σ'' := ⟨g.1.trans h.1, fun j hj => (g.2 j hj).trans (h.2 j hj)⟩
/-- a target takes an item -/
theorem bindNs_ok {P : L2.St → Hp → Prop} {vs : List Nat} {σ0 : L2.St} : ∀ {is : List Nat} {ds : List D} {xs : List V} {own : Ow} {σ : L2.St} {ρ : Env}, Rel K xa O H0 own σ H ρ → RpL K (er (hid O own) H) xs ds → xs.length = is.length → (∀ i ∈ is, i ∈ vs) → SameOut vs σ0 σ →
    (∀ σ1 own1, Rel K xa O H0 own1 σ1 H (setAll is ds ρ) → (∀ j a, own1 j = some a → own j = some a) → (∀ j, j ∉ is → own1 j = own j) → SameOut vs σ0 σ1 → P σ1 H) → gNs is xs σ H P
  | [], [], _, own, σ, ρ, R, .nil, _, _, so, k => ⟨rfl, k σ own R (fun _ _ h => h) (fun _ _ => rfl) so⟩
  | [], _ :: _, _, _, _, _, _, .cons _ _, e, _, _, _ => by cases e
  | _ :: _, [], _, _, _, _, _, .nil, e, _, _, _ => by cases e
  | i :: is, d :: ds, x :: xs, own, σ, ρ, R, .cons h l, e, hi, so, k => by
    refine ⟨x, xs, rfl, ?_⟩
    refine bindNs_ok (own := offO own i) (R.set h) (l.mono (er_own fun _ _ => offO_le)) (by simpa using e) (fun j hj => hi j (List.mem_cons_of_mem _ hj)) (so.set (hi i List.mem_cons_self) _) fun σ1 own1 R1 le eq so1 => ?_
    exact k σ1 own1 R1 (fun j a z => offO_le (le j a z)) (fun j hj => by
      rw [eq j fun z => hj (List.mem_cons_of_mem _ z)]
      unfold offO
      rw [if_neg fun z => hj (by rw [z]; exact List.mem_cons_self)]) so1
theorem bind_ok {P : L2.St → Hp → Prop} {vs : List Nat} {tg : Tg} {d : D} {x : V} {ρ1 : Env} (R : Rel K xa O H0 own σ H ρ) (hx : Rp K (er (hid O own) H) x d) (e : bindTg tg d ρ = some ρ1) (hi : ∀ i ∈ tg.slots, i ∈ vs)
    (k : ∀ σ1 own1, Rel K xa O H0 own1 σ1 H ρ1 → (∀ j a, own1 j = some a → own j = some a) → (∀ j, j ∉ tg.slots → own1 j = own j) → SameOut vs σ σ1 → P σ1 H) : gT K tg x σ H P := by
  cases tg with
  | name i =>
    cases e
    exact k _ _ (R.set hx) (fun _ _ => offO_le) (fun j hj => by
      unfold offO
      rw [if_neg fun z => hj (by rw [z]; exact List.mem_cons_self)]) ((SameOut.refl vs σ).set (hi i List.mem_cons_self) _)
  | tup is =>
    cases d with
    | tuple ds =>
      simp only [bindTg] at e
      split at e
      · rename_i hl
        cases e
        obtain ⟨a, xs, rfl, h, z, l⟩ := hx.tuple
        have e1 : xs.length = is.length := by rw [l.length]; exact hl
        exact ⟨a, xs, rfl, seqT_same er_le h, e1, bindNs_ok R l e1 hi (SameOut.refl vs σ) k⟩
      · cases e
    | _ => cases e

/-- the slots of a comprehension's own names forgotten -/
theorem Rel.wipe1 (R : Rel K xa O H0 own σ H ρ) : ∀ {is : List Nat}, wipeOk is ρ = true → (∀ i ∈ is, i < σ.length) → Rel K xa O H0 own (wipe σ is) H (wipeE is ρ)
  | [], _, _ => R
  | i :: is, h, hl => by
    unfold wipeOk at h
    rw [List.all_cons, Bool.and_eq_true] at h
    have ih := R.wipe1 (is := is) h.2 fun j hj => hl j (List.mem_cons_of_mem _ hj)
    have hn : own i = none := R.no i fun s z => by rw [z] at h; have h1 := h.1; simpa using h1
    have q := ih.put (i := i) (s := .no) (y := none) rfl (fun _ z => by cases z) (fun _ z => by cases z) (by rw [wipe_length]; exact hl i List.mem_cons_self)
    rw [offO_self hn] at q
    exact q
/-- one more thing is hidden -/
theorem Rel.hide (R : Rel K xa O H0 own σ H ρ) {p : Addr} {o : HO} (hp : H p = none) : Rel K xa (fun a => O a ∨ a = p) H0 own σ (upd H p o) ρ := by
  have s := same_upd (o := o) hp
  have q := R.mono s
  have np : ∀ i, own i ≠ some p := fun i e => by
    obtain ⟨_, h⟩ := R.ownAt e
    rw [hp] at h; cases h
  have se : Same (er (hid O own) H) (er (hid (fun a => O a ∨ a = p) own) (upd H p o)) := same_er fun a u e n => by
    have ne := ne_of_none e hp
    refine ⟨by rw [upd_ne ne]; exact e, fun c => ?_⟩
    rcases c with (c | c) | c
    · exact n (.inl c)
    · exact ne c
    · exact n (.inr c)
  refine ⟨R.len, q.keep, R.inj, fun i a e c => ?_, fun b c => ?_, fun i d e => ?_, fun i ds e => ?_, R.no, R.ex, fun i c fs e => ?_, R.me⟩
  · rcases c with c | c
    · exact R.dis i a e c
    · subst c; exact np i e
  · rcases c with c | c
    · exact q.hd b c
    · subst c; rw [upd_same]; simp
  · obtain ⟨v, h1, h2⟩ := R.cl i d e
    exact ⟨v, h1, h2.mono se⟩
  · obtain ⟨a, xs, h1, h2, h3, h4, h5⟩ := R.ow i ds e
    exact ⟨a, xs, h1, h2, s _ _ h3, h4, h5.mono se⟩
  · obtain ⟨a, fv, h1, h2, ⟨h0, dx, h3⟩, h4, h5⟩ := R.ob i c fs e
    exact ⟨a, fv, h1, h2, ⟨h0, dx, s _ _ h3⟩, h4, h5.mono se⟩
/-- a hidden thing turns -/
theorem Rel.turn (R : Rel K xa O H0 own σ H ρ) {p : Addr} {o : HO} (hp : O p) (h0 : H0 p = none) : Rel K xa O H0 own σ (upd H p o) ρ := by
  have np : ∀ i, own i ≠ some p := fun i e => R.dis i p e hp
  have se : Same (er (hid O own) H) (er (hid O own) (upd H p o)) := same_er fun a u e n => ⟨by rw [upd_ne fun z => n (by rw [z]; exact .inl hp)]; exact e, n⟩
  refine ⟨R.len, fun b u e => ⟨by rw [upd_ne (ne_of_none e h0)]; exact (R.keep b u e).1, (R.keep b u e).2⟩, R.inj, R.dis, fun b c => ?_, fun i d e => ?_, fun i ds e => ?_, R.no, R.ex, fun i c fs e => ?_, R.me⟩
  · by_cases hb : b = p
    · subst hb; rw [upd_same]; simp
    · rw [upd_ne hb]; exact R.hd b c
  · obtain ⟨v, h1, h2⟩ := R.cl i d e
    exact ⟨v, h1, h2.mono se⟩
  · obtain ⟨a, xs, h1, h2, h3, h4, h5⟩ := R.ow i ds e
    exact ⟨a, xs, h1, h2, by rw [upd_ne fun z => np i (by rw [← z]; exact h1)]; exact h3, h4, h5.mono se⟩
  · obtain ⟨a, fv, h1, h2, ⟨hc, dx, h3⟩, h4, h5⟩ := R.ob i c fs e
    exact ⟨a, fv, h1, h2, ⟨hc, dx, by rw [upd_ne fun z => np i (by rw [← z]; exact h1)]; exact h3⟩, h4, h5.mono se⟩
end
end Pu

/-! Pu, part 10: list comprehensions. -/
namespace Pu
open PySem PySem.Spec PyProof.Rows L2

theorem compL_noexc {f : D → Rs (Option D)} {c : Nat} : ∀ {ds : List D}, compL f ds ≠ .exc c
  | [], h => by cases h
  | d :: ds, h => by
    unfold compL at h
    split at h
    · split at h <;> cases h
    · cases h
theorem compL2_noexc {f : D → Rs (List D)} {c : Nat} : ∀ {ds : List D}, compL2 f ds ≠ .exc c
  | [], h => by cases h
  | d :: ds, h => by
    unfold compL2 at h
    split at h
    · split at h <;> cases h
    · cases h
theorem compL_cons {f : D → Rs (Option D)} {d : D} {ds r : List D} (h : compL f (d :: ds) = .ok r) : ∃ o r', f d = .ok o ∧ compL f ds = .ok r' ∧ r = (match o with
    | some v => v :: r'
    | none => r') := by
  unfold compL at h
  split at h
  · rename_i o e
    split at h
    · rename_i r' e2
      cases h
      exact ⟨o, r', e, e2, rfl⟩
    · cases h
  · cases h
theorem compL2_cons {f : D → Rs (List D)} {d : D} {ds r : List D} (h : compL2 f (d :: ds) = .ok r) : ∃ a r', f d = .ok a ∧ compL2 f ds = .ok r' ∧ r = a ++ r' := by
  unfold compL2 at h
  split at h
  · rename_i o e
    split at h
    · rename_i r' e2
      cases h
      exact ⟨o, r', e, e2, rfl⟩
    · cases h
  · cases h
theorem bd_ok {α β : Type} {r : Rs α} {f : α → Rs β} {b : β} (h : r.bd f = .ok b) : ∃ a, r = .ok a ∧ f a = .ok b := by
  cases r with
  | ok a => exact ⟨a, rfl, h⟩
  | exc c => cases h
  | bad => cases h
/-- a new list at p, not seen by anything -/
def FreshP (K : PySem.W.Frag) (O : Addr → Prop) (own : Ow) (H H' : Hp) (p : Addr) (ds : List D) : Prop :=
  ∃ xs, H p = none ∧ H' p = some (.lst xs) ∧ xs.length ≤ cap ∧ RpL K (er (hid (fun a => O a ∨ a = p) own) H') xs ds
abbrev W0 : WX := fun _ _ _ _ => False
section
variable (K : PySem.W.Frag) (C : Nat → D) (cv : Nat → Value) (G : Nat → List D → Rs D) (xa : XA) (W : WX)
def tCnd : Eo → TT
  | .no => tYes
  | .one a => tB K C cv G xa W a
/-- an expression that makes a new list -/
def tF (x : Ex) : TE := fun σ H Q => ∃ O H0 own ρ, Rel K xa O H0 own σ H ρ ∧ Fin cv W σ H ((evE C G x ρ).bd asList) fun ds H' => ∀ p, FreshP K O own H H' p ds → Q (.ref p) H'
end
section
variable {X : Cx} {K : PySem.W.Frag} {C : Nat → D} {cv : Nat → Value} {G : Nat → List D → Rs D} {T : Tb} {xa : XA} {W : WX} {k : Nat} {hot : Bool}
variable {O : Addr → Prop} {own : Ow} {σ : L2.St} {H H' : Hp} {Q : VK} {ρ : Env} {H0 : Hp}
theorem FreshP.rp {p : Addr} {ds : List D} (R : Rel K xa O H0 own σ H ρ) (h : FreshP K O own H H' p ds) : Rp K (er (hid O own) H') (.ref p) (.list ds) := by
  obtain ⟨xs, h1, h2, h3, h4⟩ := h
  refine .lst (.of (by rw [er_out (R.fresh h1)]; exact h2)) h3 (h4.mono (same_er fun a o e n => ⟨e, fun c => n (c.elim (fun z => .inl (.inl z)) .inr)⟩))
theorem cnd_in {cond : Eo} {b : Bool} {P : Bool → Hp → Prop} (e : evC C G cond ρ = .ok b) (R : Rel K xa O H0 own σ H ρ) (h : ∀ H4, Same H H4 → P b H4) : tCnd K C cv G xa W cond σ H P := by
  cases cond with
  | no => simp only [evC] at e; cases e; exact h H (Same.refl H)
  | one a =>
    simp only [evC] at e
    refine ⟨O, H0, own, ρ, R, ?_⟩
    rw [e]
    exact h
theorem wipe_own {is : List Nat} (R : Rel K xa O H0 own σ H ρ) (h : wipeOk is ρ = true) : ∀ i ∈ is, own i = none := fun i hi => by
  unfold wipeOk at h
  have := List.all_eq_true.mp h i hi
  exact R.no i fun s z => by rw [z] at this; simpa using this
theorem comp_in {elt : Ex} {tg : Tg} {it : Itr} {cond : Eo} {β : Type} {kk : List D → Rs β} {P : β → Hp → Prop} (no : isOwn elt = false) (R : Rel K xa O H0 own σ H ρ) (hsl : ∀ i ∈ tg.slots, i < σ.length)
    (f : Fin cv W σ H ((evI C G it ρ).bd fun ds => if wipeOk tg.slots ρ = true then (compL (fun d => match bindTg tg d (wipeE tg.slots ρ) with
      | none => .bad
      | some ρ1 => (evC C G cond ρ1).bd fun b => if b = true then (evE C G elt ρ1).bd fun v => .ok (some v) else .ok none) ds).bd kk else .bad) P)
    (hk : ∀ r p H', FreshP K O own H H' p r → Same H H' → Fin cv W σ H' (kk r) P → Q (.ref p) H') :
    tLc (tI K C cv G xa W it) (gT K tg) (tCnd K C cv G xa W0 cond) (tE K C cv G xa W0 elt) tg.slots σ H Q := by
  refine ⟨O, H0, own, ρ, R, f.bd.map fun ds H1 s1 f1 J hlen hJ => ?_⟩
  split at f1
  case isFalse => exact False.elim f1
  rename_i hw
  generalize hF : (fun d => match bindTg tg d (wipeE tg.slots ρ) with
      | none => Rs.bad
      | some ρ1 => (evC C G cond ρ1).bd fun b => if b = true then (evE C G elt ρ1).bd fun v => .ok (some v) else .ok none) = F at f1
  cases er0 : compL F ds with
  | exc c => exact absurd er0 compL_noexc
  | bad => rw [er0] at f1; exact False.elim f1
  | ok r =>
  rw [er0] at f1
  intro Da hD
  have R1 := R.mono s1
  have hD0 : H0 Da = none := by
    cases q : H0 Da with
    | none => rfl
    | some o => rw [(R1.keep Da o q).1] at hD; cases hD
  refine ⟨fun i m H => m = ds.length - i ∧ i ≤ ds.length ∧ Same H1 H ∧ ∃ acc pre post, H Da = some (.lst acc) ∧ RpL K (er (hid (fun a => O a ∨ a = Da) own) H) acc pre ∧ compL F (ds.drop i) = .ok post ∧ pre ++ post = r ∧ pre.length ≤ i,
    ⟨ds.length, rfl, Nat.zero_le _, same_upd hD, [], [], r, upd_same, .nil, er0, rfl, Nat.le_refl _⟩, ?_⟩
  rintro i m H2 ⟨rfl, hi, s2, acc, pre, post, hA, hR, hC, hE, hP⟩
  have aL : acc.length = pre.length := hR.length
  by_cases hlt : i < ds.length
  · have hd : ds[i]? = some ds[i] := List.getElem?_eq_getElem hlt
    rw [List.drop_eq_getElem_cons hlt] at hC
    obtain ⟨o, post', e1, e2, e3⟩ := compL_cons hC
    have sJ : Same (er (hid O own) H1) H2 := fun a u e => s2 a u (er_le a u e)
    refine .inr ⟨hJ.go i _ H2 sJ hd, fun H => (ds.length - (i + 1)) = ds.length - (i + 1) ∧ i + 1 ≤ ds.length ∧ Same H1 H ∧ ∃ acc pre post, H Da = some (.lst acc) ∧ RpL K (er (hid (fun a => O a ∨ a = Da) own) H) acc pre ∧ compL F (ds.drop (i + 1)) = .ok post ∧ pre ++ post = r ∧ pre.length ≤ i + 1,
      fun H' w => ⟨ds.length - (i + 1), by omega, w⟩, fun x H3 y => ?_⟩
    obtain ⟨s3, cl⟩ := hJ.yld i _ H2 x H3 sJ hd y
    have RH : Rel K xa (fun a => O a ∨ a = Da) H0 own σ H2 ρ := (R1.hide (o := .lst acc) hD).mono fun b u e => by
      by_cases hb : b = Da
      · subst hb; rw [upd_same] at e; cases e; exact hA
      · rw [upd_ne hb] at e; exact s2 b u e
    have RW := RH.wipe1 hw hsl
    have cl1 := cl _ own (fun b hb => RH.hidden hb) (same_er fun a u e n => ⟨s2 a u e, fun c => by
      rcases c with (c | c) | c
      · exact n (.inl c)
      · subst c; rw [hD] at e; cases e
      · exact n (.inr c)⟩)
    rw [← hF] at e1
    dsimp only at e1
    split at e1
    · cases e1
    rename_i ρ1 eb
    refine bind_ok (RW.mono s3) cl1 eb (fun j hj => hj) fun σ1 own1 R3 le eq so => ?_
    have eo : own1 = own := by
      funext j
      by_cases hj : j ∈ tg.slots
      · have h1 := wipe_own RH hw j hj
        cases q : own1 j with
        | none => exact h1.symm
        | some a => rw [le j a q] at h1; cases h1
      · exact eq j hj
    subst eo
    refine ⟨wipe_same ((wipe_sameOut tg.slots tg.slots σ fun _ h => h).trans so), ?_⟩
    obtain ⟨b, ec, e1⟩ := bd_ok e1
    have D3 : H3 Da = some (.lst acc) := s3 _ _ hA
    refine cnd_in ec R3 fun H4 s4 => ?_
    cases b with
    | false =>
      rw [if_neg Bool.false_ne_true] at e1 ⊢
      cases e1
      subst e3
      exact ⟨rfl, hlt, (s2.trans s3).trans s4, acc, pre, _, s4 _ _ D3, hR.mono (same_erO (s3.trans s4)), e2, hE, by omega⟩
    | true =>
      rw [if_pos rfl] at e1 ⊢
      obtain ⟨v, ee, e1⟩ := bd_ok e1
      cases e1
      subst e3
      refine ⟨_, H0, own1, ρ1, R3.mono s4, ?_⟩
      rw [ee]
      intro H5 s5 y p
      have s45 := s4.trans s5
      have D5 : H5 Da = some (.lst acc) := s45 _ _ D3
      have sD : Same (er (hid (fun a => O a ∨ a = Da) own1) H5) (er (hid (fun a => O a ∨ a = Da) own1) (upd H5 Da (.lst (acc ++ [y])))) := same_er fun a u e n => ⟨by rw [upd_ne fun z => n (.inl (.inr z))]; exact e, n⟩
      refine ⟨acc, D5, by have := hlen; have : sizeLine = cap := rfl; omega, rfl, hlt, fun b u e => ?_, acc ++ [y], pre ++ [v], post', upd_same, ?_, e2, by rw [List.append_assoc]; exact hE, by rw [List.length_append]; show pre.length + 1 ≤ i + 1; omega⟩
      · rw [upd_ne (ne_of_none e hD)]
        exact s45 b u (s3 b u (s2 b u e))
      · exact ((hR.mono (same_erO (s3.trans s45))).append (.cons (p.2 no) .nil)).mono sD
  · have e : i = ds.length := by omega
    subst e
    rw [List.drop_length] at hC
    cases hC
    rw [List.append_nil] at hE
    subst hE
    refine .inl ⟨hJ.stop _ H2 (fun a u e => s2 a u (er_le a u e)) (Nat.le_refl _), ?_⟩
    exact hk pre Da H2 ⟨acc, s1.free hD, hA, by omega, hR⟩ (s1.trans s2) (Fin.mono (show Fin cv W σ H1 (kk pre) P from f1) s2)
end
end Pu

/-! Pu, part 11: comprehensions with two for. -/
namespace Pu
open PySem PySem.Spec PyProof.Rows L2
section
variable {X : Cx} {K : PySem.W.Frag} {C : Nat → D} {cv : Nat → Value} {G : Nat → List D → Rs D} {T : Tb} {xa : XA} {W : WX} {k : Nat} {hot : Bool}
variable {O : Addr → Prop} {own : Ow} {σ : L2.St} {H H' : Hp} {Q : VK} {ρ : Env} {H0 : Hp}
theorem wipeOk_of {is : List Nat} (R : Rel K xa O H0 own σ H ρ) (h : ∀ i ∈ is, own i = none) : wipeOk is ρ = true := by
  unfold wipeOk
  rw [List.all_eq_true]
  intro i hi
  cases e : ρ[i]? with
  | none => rfl
  | some s =>
    cases s with
    | ow ds =>
      obtain ⟨a, xs, e1, _⟩ := R.ow i ds e
      rw [h i hi] at e1; cases e1
    | ob c fs =>
      obtain ⟨a, fv, e1, _⟩ := R.ob i c fs e
      rw [h i hi] at e1; cases e1
    | _ => rfl
theorem own_same {own1 : Ow} {is : List Nat} (h : ∀ i ∈ is, own i = none) (le : ∀ j a, own1 j = some a → own j = some a) (eq : ∀ j, j ∉ is → own1 j = own j) : own1 = own := by
  funext j
  by_cases hj : j ∈ is
  · have h1 := h j hj
    cases q : own1 j with
    | none => exact h1.symm
    | some a => rw [le j a q] at h1; cases h1
  · exact eq j hj
theorem comp2_in {elt : Ex} {tg tg1 : Tg} {it it1 : Itr} {β : Type} {kk : List D → Rs β} {P : β → Hp → Prop} (no : isOwn elt = false) (R : Rel K xa O H0 own σ H ρ) (hsl : ∀ i ∈ tg.slots ++ tg1.slots, i < σ.length)
    (f : Fin cv W σ H ((evI C G it ρ).bd fun ds => if wipeOk (tg.slots ++ tg1.slots) ρ = true then (compL2 (fun d => match bindTg tg d (wipeE (tg.slots ++ tg1.slots) ρ) with
      | none => .bad
      | some ρ1 => (evI C G it1 ρ1).bd fun ds1 => compL (fun d1 => match bindTg tg1 d1 (wipeE tg1.slots ρ1) with
        | none => .bad
        | some ρ2 => (evE C G elt ρ2).bd fun v => .ok (some v)) ds1) ds).bd fun r => if r.length ≤ cap then kk r else .bad else .bad) P)
    (hk : ∀ r p H', FreshP K O own H H' p r → Same H H' → Fin cv W σ H' (kk r) P → Q (.ref p) H') :
    tLc2 (tI K C cv G xa W it) (gT K tg) tYes (tI K C cv G xa W0 it1) (gT K tg1) tYes (tE K C cv G xa W0 elt) (tg.slots ++ tg1.slots) tg1.slots σ H Q := by
  refine ⟨O, H0, own, ρ, R, f.bd.map fun ds H1 s1 f1 J hlen hJ => ?_⟩
  split at f1
  case isFalse => exact False.elim f1
  rename_i hw
  generalize hF : (fun d => match bindTg tg d (wipeE (tg.slots ++ tg1.slots) ρ) with
      | none => Rs.bad
      | some ρ1 => (evI C G it1 ρ1).bd fun ds1 => compL (fun d1 => match bindTg tg1 d1 (wipeE tg1.slots ρ1) with
        | none => .bad
        | some ρ2 => (evE C G elt ρ2).bd fun v => .ok (some v)) ds1) = F at f1
  cases er0 : compL2 F ds with
  | exc c => exact absurd er0 compL2_noexc
  | bad => rw [er0] at f1; exact False.elim f1
  | ok r =>
  rw [er0] at f1
  have f1' : Fin cv W σ H1 (if r.length ≤ cap then kk r else .bad) P := f1
  split at f1'
  case isFalse => exact False.elim f1'
  rename_i hcap
  intro Da hD
  have R1 := R.mono s1
  have hD0 : H0 Da = none := by
    cases q : H0 Da with
    | none => rfl
    | some o => rw [(R1.keep Da o q).1] at hD; cases hD
  refine ⟨fun i m H => m = ds.length - i ∧ i ≤ ds.length ∧ Same H1 H ∧ ∃ acc pre post, H Da = some (.lst acc) ∧ RpL K (er (hid (fun a => O a ∨ a = Da) own) H) acc pre ∧ compL2 F (ds.drop i) = .ok post ∧ pre ++ post = r,
    ⟨ds.length, rfl, Nat.zero_le _, same_upd hD, [], [], r, upd_same, .nil, er0, rfl⟩, ?_⟩
  rintro i m H2 ⟨rfl, hi, s2, acc, pre, post, hA, hR, hC, hE⟩
  have aL : acc.length = pre.length := hR.length
  by_cases hlt : i < ds.length
  · have hd : ds[i]? = some ds[i] := List.getElem?_eq_getElem hlt
    rw [List.drop_eq_getElem_cons hlt] at hC
    obtain ⟨a, post', e1, e2, e3⟩ := compL2_cons hC
    have sJ : Same (er (hid O own) H1) H2 := fun a u e => s2 a u (er_le a u e)
    refine .inr ⟨hJ.go i _ H2 sJ hd, fun H => (ds.length - (i + 1)) = ds.length - (i + 1) ∧ i + 1 ≤ ds.length ∧ Same H1 H ∧ ∃ acc pre post, H Da = some (.lst acc) ∧ RpL K (er (hid (fun a => O a ∨ a = Da) own) H) acc pre ∧ compL2 F (ds.drop (i + 1)) = .ok post ∧ pre ++ post = r,
      fun H' w => ⟨ds.length - (i + 1), by omega, w⟩, fun x H3 y => ?_⟩
    obtain ⟨s3, cl⟩ := hJ.yld i _ H2 x H3 sJ hd y
    have RH : Rel K xa (fun a => O a ∨ a = Da) H0 own σ H2 ρ := (R1.hide (o := .lst acc) hD).mono fun b u e => by
      by_cases hb : b = Da
      · subst hb; rw [upd_same] at e; cases e; exact hA
      · rw [upd_ne hb] at e; exact s2 b u e
    have RW := RH.wipe1 hw hsl
    have wo := wipe_own RH hw
    have cl1 := cl _ own (fun b hb => RH.hidden hb) (same_er fun a u e n => ⟨s2 a u e, fun c => by
      rcases c with (c | c) | c
      · exact n (.inl c)
      · subst c; rw [hD] at e; cases e
      · exact n (.inr c)⟩)
    rw [← hF] at e1
    dsimp only at e1
    split at e1
    · cases e1
    rename_i ρ1 eb
    refine bind_ok (vs := tg.slots ++ tg1.slots) (RW.mono s3) cl1 eb (fun j hj => List.mem_append_left _ hj) fun σ1 own1 R3 le eq so => ?_
    have eo : own1 = own := own_same (fun i hi => wo i (List.mem_append_left _ hi)) le eq
    subst eo
    have l1 : σ1.length = σ.length := by rw [so.1, wipe_length]
    refine ⟨wipe_same ((wipe_sameOut _ _ σ fun _ h => h).trans so), ?_⟩
    obtain ⟨ds1, ec, e1⟩ := bd_ok e1
    have D3 : H3 Da = some (.lst acc) := s3 _ _ hA
    refine ⟨_, H0, own1, ρ1, R3, ?_⟩
    rw [ec]
    intro H4 s4 J1 hlen1 hJ1
    have wo1 : ∀ i ∈ tg1.slots, own1 i = none := fun i hi => wo i (List.mem_append_right _ hi)
    have hw1 : wipeOk tg1.slots ρ1 = true := wipeOk_of R3 wo1
    generalize hF1 : (fun d1 => match bindTg tg1 d1 (wipeE tg1.slots ρ1) with
        | none => Rs.bad
        | some ρ2 => (evE C G elt ρ2).bd fun v => .ok (some v)) = F1 at e1
    have s34 := (s2.trans s3).trans s4
    refine ⟨fun j k H => k = ds1.length - j ∧ j ≤ ds1.length ∧ Same H1 H ∧ Same (er (hid (fun a => O a ∨ a = Da) own1) H4) (er (hid (fun a => O a ∨ a = Da) own1) H) ∧ Rel K xa (fun a => O a ∨ a = Da) H0 own1 σ1 H ρ1 ∧ ∃ acc1 pre1 post1, H Da = some (.lst acc1) ∧ RpL K (er (hid (fun a => O a ∨ a = Da) own1) H) acc1 (pre ++ pre1) ∧ compL F1 (ds1.drop j) = .ok post1 ∧ pre1 ++ post1 = a,
      ⟨ds1.length, rfl, Nat.zero_le _, s34, Same.refl _, R3.mono s4, acc, [], a, s4 _ _ D3, by rw [List.append_nil]; exact hR.mono (same_erO (s3.trans s4)), e1, rfl⟩, ?_⟩
    rintro j k H5 ⟨rfl, hj, s5, s5', R5, acc1, pre1, post1, hA1, hR1, hC1, hE1⟩
    have aL1 : acc1.length = pre.length + pre1.length := by rw [hR1.length, List.length_append]
    have sJ1 : Same (er (hid (fun a => O a ∨ a = Da) own1) H4) H5 := fun a u e => er_le a u (s5' a u e)
    by_cases hlt1 : j < ds1.length
    · have hd1 : ds1[j]? = some ds1[j] := List.getElem?_eq_getElem hlt1
      rw [List.drop_eq_getElem_cons hlt1] at hC1
      obtain ⟨o, post1', g1, g2, g3⟩ := compL_cons hC1
      refine .inr ⟨hJ1.go j _ H5 sJ1 hd1, fun H => (ds1.length - (j + 1)) = ds1.length - (j + 1) ∧ j + 1 ≤ ds1.length ∧ Same H1 H ∧ Same (er (hid (fun a => O a ∨ a = Da) own1) H4) (er (hid (fun a => O a ∨ a = Da) own1) H) ∧ Rel K xa (fun a => O a ∨ a = Da) H0 own1 σ1 H ρ1 ∧ ∃ acc1 pre1 post1, H Da = some (.lst acc1) ∧ RpL K (er (hid (fun a => O a ∨ a = Da) own1) H) acc1 (pre ++ pre1) ∧ compL F1 (ds1.drop (j + 1)) = .ok post1 ∧ pre1 ++ post1 = a,
        fun H' w => ⟨ds1.length - (j + 1), by omega, w⟩, fun x1 H6 y1 => ?_⟩
      obtain ⟨s6, cl6⟩ := hJ1.yld j _ H5 x1 H6 sJ1 hd1 y1
      have cl6' := cl6 _ own1 (fun b hb => R5.hidden hb) s5'
      have RW1 := R5.wipe1 hw1 fun i hi => by rw [l1]; exact hsl i (List.mem_append_right _ hi)
      rw [← hF1] at g1
      dsimp only at g1
      split at g1
      · cases g1
      rename_i ρ2 eb1
      refine bind_ok (vs := tg1.slots) (RW1.mono s6) cl6' eb1 (fun j hj => hj) fun σ2 own2 R6 le1 eq1 so1 => ?_
      have eo1 : own2 = own1 := own_same wo1 le1 eq1
      subst eo1
      refine ⟨wipe_same ((wipe_sameOut _ _ σ1 fun _ h => h).trans so1), ?_⟩
      obtain ⟨v, ee, g1⟩ := bd_ok g1
      cases g1
      subst g3
      refine ⟨_, H0, own2, ρ2, R6, ?_⟩
      rw [ee]
      intro H7 s7 y p
      have s67 := s6.trans s7
      have D7 : H7 Da = some (.lst acc1) := s67 _ _ hA1
      have sD : Same (er (hid (fun a => O a ∨ a = Da) own2) H7) (er (hid (fun a => O a ∨ a = Da) own2) (upd H7 Da (.lst (acc1 ++ [y])))) := same_er fun a u e n => ⟨by rw [upd_ne fun z => n (.inl (.inr z))]; exact e, n⟩
      refine ⟨acc1, D7, ?_, rfl, hlt1, fun b u e => ?_, fun b u e => sD b u (same_erO s67 b u (s5' b u e)), (R5.mono s67).turn (.inr rfl) hD0, acc1 ++ [y], pre1 ++ [v], post1', upd_same, ?_, g2, by rw [List.append_assoc]; exact hE1⟩
      · have h1 : r.length = pre.length + (pre1.length + (post1'.length + 1)) + post'.length := by
          rw [← hE, e3, ← hE1]
          simp only [List.length_append, List.length_cons]
          omega
        have h2 : sizeLine = cap := rfl
        omega
      · rw [upd_ne (ne_of_none e hD)]
        exact s67 b u (s5 b u e)
      · rw [← List.append_assoc]
        exact ((hR1.mono (same_erO s67)).append (.cons (p.2 no) .nil)).mono sD
    · have e : j = ds1.length := by omega
      subst e
      rw [List.drop_length] at hC1
      cases hC1
      rw [List.append_nil] at hE1
      subst hE1
      refine .inl ⟨hJ1.stop _ H5 sJ1 (Nat.le_refl _), rfl, hlt, s5, acc1, pre ++ pre1, post', hA1, hR1, e2, by rw [List.append_assoc, ← e3]; exact hE⟩
  · have e : i = ds.length := by omega
    subst e
    rw [List.drop_length] at hC
    cases hC
    rw [List.append_nil] at hE
    subst hE
    refine .inl ⟨hJ.stop _ H2 (fun a u e => s2 a u (er_le a u e)) (Nat.le_refl _), ?_⟩
    exact hk pre Da H2 ⟨acc, s1.free hD, hA, by omega, hR⟩ (s1.trans s2) (Fin.mono f1' s2)
end
end Pu

/-! Pu, part 12: every expression of the small language is kept. -/
namespace Pu
open PySem PySem.Spec PyProof.Rows L2
def notBo : Expr → Bool
  | .BoolOp _ _ _ => false
  | _ => true
theorem fsi {e : Expr} {env : PySem.Env} {x : Value} (h : noSet e = true) : foldedSetIterable e env x = pure x := by
  cases e <;> first | rfl | cases h
theorem abase {o : Expr} {x : Str} {env : PySem.Env} (h : noSup o = true) : attributeBase o x env (eval o env) = eval o env := by
  cases o with
  | Call f as ks p =>
    cases f with
    | Name n q =>
      cases as with
      | nil =>
        cases ks with
        | nil => cases h
        | cons _ _ => rfl
      | cons _ _ => rfl
    | _ => rfl
  | _ => rfl
theorem PE.impL {X : Cx} {e : Expr} {t t' : TE} (h : PE X e t) (f : ∀ σ H Q, σ.length = X.N.length → t' σ H Q → t σ H Q) : PE X e t' := ⟨fun pins s σ H Q I w => h.run pins s σ H Q I (f _ _ _ I.len w)⟩
theorem no_own {x : Ex} (h : (!isOwn x) = true) : isOwn x = false := by simpa using h
theorem own_slots {N : List Str} {is : List Nat} (h : (ownOf N is).map (·.2) = is) : ∀ i ∈ is, i < N.length := fun i hi => by
  rw [← h] at hi
  obtain ⟨p, h1, h2⟩ := List.mem_map.mp hi
  unfold ownOf at h1
  obtain ⟨j, h3, h4⟩ := List.mem_filterMap.mp h1
  rw [Option.map_eq_some_iff] at h4
  obtain ⟨x, h5, h6⟩ := h4
  subst h6
  have e : j = i := h2
  subst e
  exact (List.getElem?_eq_some_iff.mp h5).1
theorem ckI_noSet {T : Tb} {N : List Str} {sc : Scope} {it : Itr} {tp : Bool} {e : Expr} (h : ckI T N it tp sc e = true) : noSet e = true := by
  cases it with
  | seq a =>
    unfold ckI at h
    simp only [Bool.and_eq_true] at h
    exact h.1.2
  | range1 a =>
    unfold ckI at h
    split at h
    · rfl
    · cases h
  | range2 a b =>
    unfold ckI at h
    split at h
    · rfl
    · cases h
  | enum a =>
    unfold ckI at h
    rw [Bool.and_eq_true] at h
    have h := h.2
    split at h
    · rfl
    · cases h
  | zip a b =>
    unfold ckI at h
    rw [Bool.and_eq_true] at h
    have h := h.2
    split at h
    · rfl
    · cases h
theorem ckTg_tup {N : List Str} {p : Str → Bool} {tg : Tg} {e : Expr} (h : ckTg N p tg e = true) : tg.isTup = true → ∃ es kk p, e = .Tuple es kk p := fun t => by
  cases tg with
  | name i => cases t
  | tup is =>
    unfold ckTg at h
    cases e <;> first | (exact absurd (show false = true from h) Bool.false_ne_true) | exact ⟨_, _, _, rfl⟩
section
variable {K : PySem.W.Frag} {C : Nat → D} {cv : Nat → Value} {G : Nat → List D → Rs D} {T : Tb} {k : Nat}
theorem XC.blk {X : Cx} {xa : XA} {W : WX} (hX : XC X K C cv G T xa W k false) (s : Shared) (H : Hp) (scope : Scope) (cl : List (Str × Addr)) (Ca : Addr) (fp : List Addr) :
    XC (X.blk s H scope (compEnvC scope cl Ca X.env) fp) K C cv G T xa W0 k false where
  eK := hX.eK
  calm := hX.calm
  rm := hX.rm
  nd := hX.nd
  tk := takes0
  lk := hX.lk
  isx := fun a c D e => by rw [hX.xan rfl] at e; cases e
  xan := hX.xan
  me := hX.me
theorem XC.low {X : Cx} {xa : XA} {W : WX} {hot : Bool} (hX : XC X K C cv G T xa W k hot) (h : hot = false) : XC X K C cv G T xa W k false := by subst h; exact hX
theorem hot_no {hot : Bool} {x : Ex} (hh : hot = true → hotX x = true) (n : hotX x = false) : hot = false := by
  cases hot with
  | false => rfl
  | true => rw [hh rfl] at n; cases n
theorem snd_pe {X : Cx} {xa : XA} {W : WX} {x : Ex} {e : Expr} (h : PE X e (tE K C cv G xa W x)) (he : ∀ whole, isTrue e X.env whole = (do let v ← whole; standAt e.pos; holding [v] (truthy v))) (nb : notBo e = true) : Snd X K C cv G xa W x e :=
  snd_plain h (by cases isOwn x <;> simp) he (fun op vs p z => by subst z; cases nb)
mutual
theorem sndE : ∀ (x : Ex) {X : Cx} {xa : XA} {W : WX} {hot : Bool} {e : Expr}, XC X K C cv G T xa W k hot → (hot = true → hotX x = true) → ckE T X.N x X.env.scope e = true → Snd X K C cv G xa W x e
  | .non, X, xa, W, hot, e, hX, hh, h => by
    unfold ckE at h
    split at h
    · exact snd_pe c_non (fun _ => rfl) rfl
    · cases h
  | .bl b, X, xa, W, hot, e, hX, hh, h => by
    unfold ckE at h
    split at h
    · rw [beq_iff_eq] at h; subst h; exact snd_pe c_bl (fun _ => rfl) rfl
    · cases h
  | .int i, X, xa, W, hot, e, hX, hh, h => by
    unfold ckE at h
    split at h
    · rw [decide_eq_true_eq] at h; subst h; exact snd_pe c_int (fun _ => rfl) rfl
    · cases h
  | .str i, X, xa, W, hot, e, hX, hh, h => by
    unfold ckE at h
    split at h
    · rw [decide_eq_true_eq] at h; subst h; exact snd_pe c_str (fun _ => rfl) rfl
    · cases h
  | .var i, X, xa, W, hot, e, hX, hh, h => by
    unfold ckE at h
    split at h
    · rw [Bool.and_eq_true] at h; exact snd_pe (c_var h.1 h.2) (fun _ => rfl) rfl
    · cases h
  | .own i, X, xa, W, hot, e, hX, hh, h => by
    unfold ckE at h
    split at h
    · rw [Bool.and_eq_true] at h; exact snd_pe (c_own h.1 h.2) (fun _ => rfl) rfl
    · cases h
  | .glob i, X, xa, W, hot, e, hX, hh, h => by
    unfold ckE at h
    split at h
    · rw [Bool.and_eq_true, decide_eq_true_eq] at h; exact snd_pe (c_glob hX h.1 h.2) (fun _ => rfl) rfl
    · cases h
  | .tup es, X, xa, W, hot, e, hX, hh, h => by
    unfold ckE at h
    split at h
    · exact snd_pe (c_tup (sndEs es hX (fun z => by have := hh z; unfold hotX at this; exact this) h)) (fun _ => rfl) rfl
    · cases h
  | .lst es, X, xa, W, hot, e, hX, hh, h => by
    unfold ckE at h
    split at h
    · exact snd_pe (c_lst (sndEs es hX (fun z => by have := hh z; unfold hotX at this; exact this) h)) (fun _ => rfl) rfl
    · cases h
  | .op o a b, X, xa, W, hot, e, hX, hh, h => by
    unfold ckE at h
    split at h
    · simp only [Bool.and_eq_true] at h
      have h2 : (hot = true → hotX a = true) ∧ (hot = true → hotX b = true) := by
        refine ⟨fun z => ?_, fun z => ?_⟩ <;> (have := hh z; cases o <;> simp [hotX] at this; first | exact this.1 | exact this.2)
      exact snd_pe (c_op hX.eK h.1.1 (sndE a hX h2.1 h.1.2).1 (sndE b hX h2.2 h.2).1) (fun _ => rfl) rfl
    · cases h
  | .neg a, X, xa, W, hot, e, hX, hh, h => by
    have hf := hot_no hh (by simp [hotX])
    unfold ckE at h
    split at h
    · exact snd_pe (c_neg (sndE a hX (fun z => by rw [hf] at z; cases z) h).1) (fun _ => rfl) rfl
    · cases h
  | .cmp c a b, X, xa, W, hot, e, hX, hh, h => by
    have hf := hot_no hh (by simp [hotX])
    unfold ckE at h
    split at h
    · simp only [Bool.and_eq_true] at h
      exact c_cmp hX.eK (hX.rm hf).units h.1.1.1 h.1.1.2 (sndE a hX (fun z => by rw [hf] at z; cases z) h.1.2).1 (sndE b hX (fun z => by rw [hf] at z; cases z) h.2).1
    · cases h
  | .chain c d a b f, X, xa, W, hot, e, hX, hh, h => by
    have hf := hot_no hh (by simp [hotX])
    unfold ckE at h
    split at h
    · simp only [Bool.and_eq_true] at h
      obtain ⟨⟨⟨⟨⟨⟨h1, h2⟩, h3⟩, h4⟩, h5⟩, h6⟩, h7⟩ := h
      exact c_chain hX.eK (hX.rm hf).units h1 h2 h3 h4 (sndE a hX (fun z => by rw [hf] at z; cases z) h5).1 (sndE b hX (fun z => by rw [hf] at z; cases z) h6).1 (sndE f hX (fun z => by rw [hf] at z; cases z) h7).1
    · cases h
  | .and a b, X, xa, W, hot, e, hX, hh, h => by
    have hf := hot_no hh (by simp [hotX])
    unfold ckE at h
    simp only [Bool.and_eq_true] at h
    obtain ⟨⟨ta, tb⟩, h⟩ := h
    split at h
    · simp only [Bool.and_eq_true] at h
      have q := one_and (pos := by assumption) (sndE b hX (fun z => by rw [hf] at z; cases z) h.2) tb
      exact c_and (sndE a hX (fun z => by rw [hf] at z; cases z) h.1) ta q.1 q.2
    · simp only [Bool.and_eq_true] at h
      have q := sndE b hX (fun z => by rw [hf] at z; cases z) h.2
      exact c_and (sndE a hX (fun z => by rw [hf] at z; cases z) h.1) ta q.1 (q.2.2 _ _ _ rfl)
    · cases h
  | .or a b, X, xa, W, hot, e, hX, hh, h => by
    have hf := hot_no hh (by simp [hotX])
    unfold ckE at h
    simp only [Bool.and_eq_true] at h
    obtain ⟨⟨ta, tb⟩, h⟩ := h
    split at h
    · simp only [Bool.and_eq_true] at h
      have q := one_or (pos := by assumption) (sndE b hX (fun z => by rw [hf] at z; cases z) h.2) tb
      exact c_or (sndE a hX (fun z => by rw [hf] at z; cases z) h.1) ta q.1 q.2
    · simp only [Bool.and_eq_true] at h
      have q := sndE b hX (fun z => by rw [hf] at z; cases z) h.2
      exact c_or (sndE a hX (fun z => by rw [hf] at z; cases z) h.1) ta q.1 (q.2.2 _ _ _ rfl)
    · cases h
  | .not a, X, xa, W, hot, e, hX, hh, h => by
    have hf := hot_no hh (by simp [hotX])
    unfold ckE at h
    simp only [Bool.and_eq_true] at h
    obtain ⟨ta, h⟩ := h
    split at h
    · exact c_not (sndE a hX (fun z => by rw [hf] at z; cases z) h) ta
    · cases h
  | .ite c a b, X, xa, W, hot, e, hX, hh, h => by
    have hf := hot_no hh (by simp [hotX])
    unfold ckE at h
    simp only [Bool.and_eq_true] at h
    obtain ⟨⟨⟨tc, na⟩, nb⟩, h⟩ := h
    split at h
    · simp only [Bool.and_eq_true] at h
      exact ⟨c_ite (sndE c hX (fun z => by rw [hf] at z; cases z) h.1.1) tc (sndE a hX (fun z => by rw [hf] at z; cases z) h.1.2).1 (sndE b hX (fun z => by rw [hf] at z; cases z) h.2).1 (no_own na) (no_own nb), fun z => by simp [tst] at z, fun _ _ _ z => by cases z⟩
    · cases h
  | .call f es, X, xa, W, hot, e, hX, hh, h => by
    have hf := hot_no hh (by simp [hotX])
    unfold ckE at h
    split at h
    · simp only [Bool.and_eq_true, decide_eq_true_eq] at h
      obtain ⟨⟨h1, h2⟩, h3⟩ := h
      obtain ⟨l1, l2⟩ := ckEs_len h3
      exact snd_pe (c_call hX hf (n := 0) h1 h2 l1 l2 (sndEs es hX (fun z => by rw [hf] at z; cases z) h3)) (fun _ => rfl) rfl
    · cases h
  | .bi b a, X, xa, W, hot, e, hX, hh, h => by
    have hf := hot_no hh (by simp [hotX])
    unfold ckE at h
    split at h
    · simp only [Bool.and_eq_true, decide_eq_true_eq] at h
      obtain ⟨⟨⟨h1, h2⟩, h3⟩, h4⟩ := h
      exact snd_pe (c_bi hX hf h1 h2 h3 (sndE a hX (fun z => by rw [hf] at z; cases z) h4).1) (fun _ => rfl) rfl
    · cases h
  | .bi2 b a c, X, xa, W, hot, e, hX, hh, h => by
    have hf := hot_no hh (by simp [hotX])
    unfold ckE at h
    split at h
    · simp only [Bool.and_eq_true, decide_eq_true_eq] at h
      obtain ⟨⟨⟨⟨⟨h1, h2⟩, h3⟩, h4⟩, h5⟩, h6⟩ := h
      exact snd_pe (c_bi2 hX hf h1 h2 h3 h4 (sndE a hX (fun z => by rw [hf] at z; cases z) h5).1 (sndE c hX (fun z => by rw [hf] at z; cases z) h6).1) (fun _ => rfl) rfl
    · cases h
  | .isa a t, X, xa, W, hot, e, hX, hh, h => by
    have hf := hot_no hh (by simp [hotX])
    unfold ckE at h
    split at h
    · simp only [Bool.and_eq_true, decide_eq_true_eq] at h
      obtain ⟨⟨⟨⟨⟨h1, h2⟩, h3⟩, h4⟩, h5⟩, h6⟩ := h
      exact snd_pe (c_isa hX h1 h2 h3 h4 h5 (sndE a hX (fun z => by rw [hf] at z; cases z) h6).1) (fun _ => rfl) rfl
    · cases h
  | .isx i c, X, xa, W, hot, e, hX, hh, h => by
    unfold ckE at h
    split at h
    · simp only [Bool.and_eq_true, decide_eq_true_eq] at h
      obtain ⟨⟨⟨⟨⟨h1, h2⟩, h3⟩, h4⟩, h5⟩, h6⟩ := h
      exact snd_pe (c_isx hX h1 h2 h3 h4 h5 h6) (fun _ => rfl) rfl
    · cases h
  | .idx a i, X, xa, W, hot, e, hX, hh, h => by
    have hf := hot_no hh (by simp [hotX])
    unfold ckE at h
    split at h
    · simp only [Bool.and_eq_true] at h
      exact snd_pe (c_idx hX.eK h.1.1 (sndE a hX (fun z => by rw [hf] at z; cases z) h.1.2).1 (sndE i hX (fun z => by rw [hf] at z; cases z) h.2).1) (fun _ => rfl) rfl
    · cases h
  | .slc a lo hi, X, xa, W, hot, e, hX, hh, h => by
    have hf := hot_no hh (by simp [hotX])
    unfold ckE at h
    split at h
    · simp only [Bool.and_eq_true] at h
      exact snd_pe (c_slc hX.eK (sndE a hX (fun z => by rw [hf] at z; cases z) h.1.1).1 (sndO lo hX hf h.1.2) (sndO hi hX hf h.2)) (fun _ => rfl) rfl
    · cases h
  | .comp elt tg it cond, X, xa, W, hot, e, hX, hh, h => by
    have hf := hot_no hh (by simp [hotX])
    unfold ckE at h
    simp only [Bool.and_eq_true] at h
    obtain ⟨no, h⟩ := h
    split at h
    · simp only [Bool.and_eq_true, decide_eq_true_eq] at h
      obtain ⟨⟨⟨⟨⟨⟨h1, h2⟩, h3⟩, h4⟩, h5⟩, h6⟩, h7⟩ := h
      subst h1
      have hn : noSet _ = true := ckI_noSet h5
      have eK := hX.eK
      have p := pe_lc (hX.calm hf) hX.nd (sndI it hX hf _ _ (ckTg_tup h4) h5) (blkOk_by h2) (g := gT K tg) (fun s H Ca cl fp => by subst eK; exact pg_of (X := X.blk s H _ (compEnvC _ cl Ca X.env) fp) (hX.calm hf) hX.nd (fun x hx => ⟨.inl (lclB_ok hx), .inr (lclB_ok hx)⟩) h4)
        (fun s H Ca cl fp => sndC cond ((hX.low hf).blk s H _ cl Ca fp) h6) (fun s H Ca cl fp => (sndE elt ((hX.low hf).blk s H _ cl Ca fp) (fun z => by cases z) h7).1) (fun x => fsi hn) (pos := by assumption)
      rw [h3] at p
      refine snd_pe (PE.impL p fun σ H Q hl ⟨O, H0, own, ρ, R, f⟩ => ?_) (fun _ => rfl) rfl
      simp only [evE] at f
      exact comp_in (no_own no) R (fun i hi => by rw [hl]; exact own_slots h3 i hi) f fun r p H' fr s g => g.ok _ (.of (fr.rp (R)))
    · cases h
  | .comp2 elt tg it tg1 it1, X, xa, W, hot, e, hX, hh, h => by
    have hf := hot_no hh (by simp [hotX])
    unfold ckE at h
    simp only [Bool.and_eq_true] at h
    obtain ⟨no, h⟩ := h
    split at h
    · simp only [Bool.and_eq_true, decide_eq_true_eq, List.isEmpty_iff] at h
      obtain ⟨⟨⟨⟨⟨⟨⟨⟨⟨⟨h1, h1'⟩, e1⟩, e2⟩, h2⟩, h3⟩, h4⟩, h4'⟩, h5⟩, h6⟩, h7⟩ := h
      subst h1 h1' e1 e2
      have hn : noSet _ = true := ckI_noSet h5
      have hn1 : noSet _ = true := ckI_noSet h6
      have eK := hX.eK
      have p := pe_lc2 (vs1 := tg1.slots) (hX.calm hf) hX.nd (sndI it hX hf _ _ (ckTg_tup h4) h5) (blkOk_by h2) (fun i hi => by rw [h3]; exact List.mem_append_right _ hi) (g := gT K tg) (fun s H Ca cl fp => by subst eK; exact pg_of (X := X.blk s H _ (compEnvC _ cl Ca X.env) fp) (hX.calm hf) hX.nd (fun x hx => ⟨.inl (lclB_ok hx), .inr (lclB_ok hx)⟩) h4)
        (fun s H Ca cl fp => pts_nil) (fun s H Ca cl fp => sndI it1 ((hX.low hf).blk s H _ cl Ca fp) rfl _ _ (ckTg_tup h4') h6) (g1 := gT K tg1) (fun s H Ca cl fp => by subst eK; exact pg_of (X := X.blk s H _ (compEnvC _ cl Ca X.env) fp) (hX.calm hf) hX.nd (fun x hx => ⟨.inl (lclB_ok hx), .inr (lclB_ok hx)⟩) h4')
        (fun s H Ca cl fp => pts_nil) (fun s H Ca cl fp => (sndE elt ((hX.low hf).blk s H _ cl Ca fp) (fun z => by cases z) h7).1) (fun x => fsi hn) (fun env x => fsi hn1) (pos := by assumption)
      rw [h3] at p
      refine snd_pe (PE.impL p fun σ H Q hl ⟨O, H0, own, ρ, R, f⟩ => ?_) (fun _ => rfl) rfl
      simp only [evE] at f
      exact comp2_in (kk := fun r => Rs.ok (PyData.list r)) (no_own no) R (fun i hi => by rw [hl]; exact own_slots h3 i hi) f fun r p H' fr s g => g.ok _ (.of (fr.rp (R)))
    · cases h
  | .lrange a b, X, xa, W, hot, e, hX, hh, h => by
    have hf := hot_no hh (by simp [hotX])
    unfold ckE at h
    split at h
    · simp only [Bool.and_eq_true, decide_eq_true_eq] at h
      obtain ⟨⟨⟨⟨⟨⟨⟨h1, h2⟩, h3⟩, h4⟩, h5⟩, h6⟩, h7⟩, h8⟩ := h
      exact snd_pe (c_lrange hX hf h1 h2 h3 h4 h5 h6 (sndE a hX (fun z => by rw [hf] at z; cases z) h7).1 (sndE b hX (fun z => by rw [hf] at z; cases z) h8).1) (fun _ => rfl) rfl
    · cases h
  | .mth m a b, X, xa, W, hot, e, hX, hh, h => by
    unfold ckE at h
    split at h
    · simp only [Bool.and_eq_true, decide_eq_true_eq] at h
      obtain ⟨⟨⟨⟨⟨⟨h1, h2⟩, h3⟩, h4⟩, h5⟩, h6⟩, h7⟩ := h
      have h8 : (hot = true → hotX a = true) ∧ (hot = true → hotX b = true) := by
        refine ⟨fun z => ?_, fun z => ?_⟩ <;> (have := hh z; simp [hotX] at this; first | exact this.1 | exact this.2)
      exact snd_pe (c_mth hX.eK h1 h2 (no_own h4) h5 (abase h3) (sndE a hX h8.1 h6).1 (sndE b hX h8.2 h7).1) (fun _ => rfl) rfl
    · cases h
  | .lrep es n, X, xa, W, hot, e, hX, hh, h => by
    have hf := hot_no hh (by simp [hotX])
    unfold ckE at h
    split at h
    · simp only [Bool.and_eq_true] at h
      exact snd_pe (c_lrep (sndEs es hX (fun z => by rw [hf] at z; cases z) h.1) (sndE n hX (fun z => by rw [hf] at z; cases z) h.2).1) (fun _ => rfl) rfl
    · cases h
  | .sortLen a, X, xa, W, hot, e, hX, hh, h => by
    have hf := hot_no hh (by simp [hotX])
    unfold ckE at h
    split at h
    · simp only [Bool.and_eq_true, decide_eq_true_eq] at h
      obtain ⟨⟨⟨⟨⟨⟨h1, h2⟩, h3⟩, h4⟩, h5⟩, h6⟩, h7⟩ := h
      exact snd_pe (c_sortLen hX hf h1 h2 h3 h4 h5 h6 (sndE a hX (fun z => by rw [hf] at z; cases z) h7).1) (fun _ => rfl) rfl
    · cases h
  | .minLen a, X, xa, W, hot, e, hX, hh, h => by
    have hf := hot_no hh (by simp [hotX])
    unfold ckE at h
    split at h
    · simp only [Bool.and_eq_true, decide_eq_true_eq] at h
      obtain ⟨⟨⟨⟨⟨⟨h1, h2⟩, h3⟩, h4⟩, h5⟩, h6⟩, h7⟩ := h
      exact snd_pe (c_minLen hX hf h1 h2 h3 h4 h5 h6 (sndE a hX (fun z => by rw [hf] at z; cases z) h7).1) (fun _ => rfl) rfl
    · cases h
  | .fld i f, X, xa, W, hot, e, hX, hh, h => by
    unfold ckE at h
    split at h
    · simp only [Bool.and_eq_true, decide_eq_true_eq] at h
      exact snd_pe (c_fld hX h.1.1.1 h.1.1.2 h.1.2 h.2) (fun _ => rfl) rfl
    · cases h
  | .callv gs i es, X, xa, W, hot, e, hX, hh, h => by
    have hf := hot_no hh (by simp [hotX])
    unfold ckE at h
    split at h
    · simp only [Bool.and_eq_true, decide_eq_true_eq] at h
      obtain ⟨⟨⟨⟨h0, h1⟩, h2⟩, h3⟩, h4⟩ := h
      obtain ⟨l1, l2⟩ := ckEs_len h4
      exact snd_pe (c_callv hX hf h0 h1 h2 h3 l2 (sndEs es hX (fun z => by rw [hf] at z; cases z) h4)) (fun _ => rfl) rfl
    · cases h
  | .rev a, X, xa, W, hot, e, hX, hh, h => by
    have hf := hot_no hh (by simp [hotX])
    unfold ckE at h
    split at h
    · exact snd_pe (c_rev hX.eK (sndE a hX (fun z => by rw [hf] at z; cases z) h).1) (fun _ => rfl) rfl
    · cases h
theorem sndEs : ∀ (x : Exs) {X : Cx} {xa : XA} {W : WX} {hot : Bool} {e : List Expr}, XC X K C cv G T xa W k hot → (hot = true → hotXs x = true) → ckEs T X.N x X.env.scope e = true → PA X e (tEs K C cv G xa W x)
  | .nil, X, xa, W, hot, e, hX, hh, h => by
    unfold ckEs at h
    rw [List.isEmpty_iff] at h
    subst h
    exact c_nil
  | .cons a as, X, xa, W, hot, e, hX, hh, h => by
    unfold ckEs at h
    split at h
    · simp only [Bool.and_eq_true] at h
      obtain ⟨⟨⟨h1, h2⟩, h3⟩, h4⟩ := h
      have h8 : (hot = true → hotX a = true) ∧ (hot = true → hotXs as = true) := by
        refine ⟨fun z => ?_, fun z => ?_⟩ <;> (have := hh z; simp [hotXs] at this; first | exact this.1 | exact this.2)
      exact c_cons (sndE a hX h8.1 h3).1 (sndEs as hX h8.2 h4) (no_own h1) (star_cons h2 _ _)
    · cases h
theorem sndO : ∀ (x : Eo) {X : Cx} {xa : XA} {W : WX} {hot : Bool} {e : Option Expr}, XC X K C cv G T xa W k hot → hot = false → ckO T X.N x X.env.scope e = true → PO X e (tOp K C cv G xa W x)
  | .no, X, xa, W, hot, e, hX, hh, h => by
    unfold ckO at h
    rw [Option.isNone_iff_eq_none] at h
    subst h
    exact c_ono
  | .one a, X, xa, W, hot, e, hX, hh, h => by
    unfold ckO at h
    split at h
    · exact c_oone (sndE a hX (fun z => by rw [hh] at z; cases z) h).1
    · cases h
theorem sndC : ∀ (x : Eo) {X : Cx} {xa : XA} {W : WX} {e : List Expr}, XC X K C cv G T xa W k false → ckC T X.N x X.env.scope e = true → PTs X e (tCnd K C cv G xa W x)
  | .no, X, xa, W, e, hX, h => by
    unfold ckC at h
    rw [List.isEmpty_iff] at h
    subst h
    exact pts_nil
  | .one a, X, xa, W, e, hX, h => by
    unfold ckC at h
    rw [Bool.and_eq_true] at h
    obtain ⟨t, h⟩ := h
    split at h
    · exact pts_one ((sndE a hX (fun z => by cases z) h).2.1 t)
    · cases h
theorem sndI : ∀ (x : Itr) {X : Cx} {xa : XA} {W : WX} {hot : Bool} {e : Expr}, XC X K C cv G T xa W k hot → hot = false → ∀ (tp : Bool) (tg : Expr), (tp = true → ∃ es kk p, tg = .Tuple es kk p) → ckI T X.N x tp X.env.scope e = true → PI X tg e (tI K C cv G xa W x)
  | .seq a, X, xa, W, hot, e, hX, hh, tp, tg, ht, h => by
    unfold ckI at h
    simp only [Bool.and_eq_true] at h
    exact c_seq hX.eK (no_own h.1.1) (sndE a hX (fun z => by rw [hh] at z; cases z) h.2).1
  | .range1 a, X, xa, W, hot, e, hX, hh, tp, tg, ht, h => by
    unfold ckI at h
    split at h
    · simp only [Bool.and_eq_true, decide_eq_true_eq] at h
      obtain ⟨⟨⟨h1, h2⟩, h3⟩, h4⟩ := h
      exact c_range1 hX h1 h2 h3 (sndE a hX (fun z => by rw [hh] at z; cases z) h4).1
    · cases h
  | .range2 a b, X, xa, W, hot, e, hX, hh, tp, tg, ht, h => by
    unfold ckI at h
    split at h
    · simp only [Bool.and_eq_true, decide_eq_true_eq] at h
      obtain ⟨⟨⟨⟨⟨h1, h2⟩, h3⟩, h4⟩, h5⟩, h6⟩ := h
      exact c_range2 hX h1 h2 h3 h4 (sndE a hX (fun z => by rw [hh] at z; cases z) h5).1 (sndE b hX (fun z => by rw [hh] at z; cases z) h6).1
    · cases h
  | .enum a, X, xa, W, hot, e, hX, hh, tp, tg, ht, h => by
    unfold ckI at h
    simp only [Bool.and_eq_true] at h
    obtain ⟨⟨t, no⟩, h⟩ := h
    obtain ⟨es, kk, p, rfl⟩ := ht t
    split at h
    · simp only [Bool.and_eq_true, decide_eq_true_eq] at h
      obtain ⟨⟨⟨h1, h2⟩, h3⟩, h4⟩ := h
      exact c_enum hX h1 h2 h3 (no_own no) (sndE a hX (fun z => by rw [hh] at z; cases z) h4).1
    · cases h
  | .zip a b, X, xa, W, hot, e, hX, hh, tp, tg, ht, h => by
    unfold ckI at h
    simp only [Bool.and_eq_true] at h
    obtain ⟨⟨⟨t, no⟩, no2⟩, h⟩ := h
    obtain ⟨es, kk, p, rfl⟩ := ht t
    split at h
    · simp only [Bool.and_eq_true, decide_eq_true_eq] at h
      obtain ⟨⟨⟨⟨⟨h1, h2⟩, h3⟩, h4⟩, h5⟩, h6⟩ := h
      exact c_zip hX h1 h2 h3 h4 (no_own no) (no_own no2) (sndE a hX (fun z => by rw [hh] at z; cases z) h5).1 (sndE b hX (fun z => by rw [hh] at z; cases z) h6).1
    · cases h
end
end
end Pu

/-! Pu, part 13: new lists; the frame's own lists. -/
namespace Pu
open PySem PySem.Spec PyProof.Rows L2
theorem bd_bd {α β γ : Type} (r : Rs α) (f : α → Rs β) (g : β → Rs γ) : (r.bd f).bd g = r.bd fun a => (f a).bd g := by cases r <;> rfl
section
variable {K : PySem.W.Frag} {xa : XA} {O : Addr → Prop} {H0 : Hp} {own : Ow} {σ : L2.St} {H H' : Hp} {ρ : Env}
/-- hidden from its birth on -/
theorem Rel.birth (R : Rel K xa O H0 own σ H ρ) {p : Addr} {o : HO} (hp : H p = none) (s : Same H H') (hq : H' p = some o) : Rel K xa (fun a => O a ∨ a = p) H0 own σ H' ρ :=
  (R.hide (o := o) hp).mono fun b u e => by
    by_cases hb : b = p
    · subst hb; rw [upd_same] at e; cases e; exact hq
    · rw [upd_ne hb] at e; exact s b u e
def setO (own : Ow) (i : Nat) (p : Addr) : Ow := fun j => if j = i then some p else own j
theorem setO_or {i j : Nat} {p a : Addr} (h : setO own i p j = some a) : (j = i ∧ a = p) ∨ (j ≠ i ∧ own j = some a) := by
  unfold setO at h
  split at h
  · cases h; exact .inl ⟨by assumption, rfl⟩
  · exact .inr ⟨by assumption, h⟩
theorem hid_setO {i : Nat} {p a : Addr} (h : hid O (setO own i p) a) : hid (fun a => O a ∨ a = p) own a := by
  rcases h with h | ⟨j, h⟩
  · exact .inl (.inl h)
  · rcases setO_or h with ⟨_, rfl⟩ | ⟨_, h⟩
    · exact .inl (.inr rfl)
    · exact .inr ⟨j, h⟩
/-- a hidden list becomes a name's own -/
theorem Rel.adopt {p : Addr} (R : Rel K xa (fun a => O a ∨ a = p) H0 own σ H ρ) (hO : ¬ O p) (h0 : H0 p = none) {xs : List V} {ds : List D} (hp : H p = some (.lst xs)) (z : xs.length ≤ cap) (l : RpL K (er (hid (fun a => O a ∨ a = p) own) H) xs ds) {i : Nat} (hi : i < σ.length) :
    Rel K xa O H0 (setO own i p) (σ.set i (some (.ref p))) H (ρ.set i (.ow ds)) := by
  have np : ∀ j, own j ≠ some p := fun j e => R.dis j p e (.inr rfl)
  have se : Same (er (hid (fun a => O a ∨ a = p) own) H) (er (hid O (setO own i p)) H) := same_er fun a u e n => ⟨e, fun c => n (hid_setO c)⟩
  have hiρ : i < ρ.length := by rw [← R.len]; exact hi
  refine ⟨by rw [List.length_set, List.length_set, R.len], fun b o e => ⟨(R.keep b o e).1, fun j z => ?_⟩, fun j k a h1 h2 => ?_, fun j a h => ?_, fun b h => R.hd b (.inl h), fun j d e => ?_, fun j es e => ?_, fun j h => ?_, fun j c e => ?_, fun j c fs e => ?_, fun j a c fs h e => ?_⟩
  · rcases setO_or z with ⟨_, rfl⟩ | ⟨_, z⟩
    · rw [h0] at e; cases e
    · exact (R.keep b o e).2 j z
  · rcases setO_or h1 with ⟨e1, e2⟩ | ⟨e1, g1⟩ <;> rcases setO_or h2 with ⟨e3, e4⟩ | ⟨e3, g2⟩
    · rw [e1, e3]
    · exact absurd (by rw [g2, e2]) (np k)
    · exact absurd (by rw [g1, e4]) (np j)
    · exact R.inj j k a g1 g2
  · rcases setO_or h with ⟨_, rfl⟩ | ⟨_, h⟩
    · exact hO
    · exact fun c => R.dis j a h (.inl c)
  · by_cases hj : j = i
    · subst hj
      rw [List.getElem?_set_self hiρ] at e
      cases e
    · rw [List.getElem?_set_ne (Ne.symm hj)] at e
      obtain ⟨v, h1, h2⟩ := R.cl j d e
      exact ⟨v, by rw [List.getElem?_set_ne (Ne.symm hj)]; exact h1, h2.mono se⟩
  · by_cases hj : j = i
    · subst hj
      rw [List.getElem?_set_self hiρ] at e
      cases e
      exact ⟨p, xs, by unfold setO; rw [if_pos rfl], by rw [List.getElem?_set_self hi], hp, z, l.mono se⟩
    · rw [List.getElem?_set_ne (Ne.symm hj)] at e
      obtain ⟨a, ys, h1, h2, h3, h4, h5⟩ := R.ow j es e
      exact ⟨a, ys, by unfold setO; rw [if_neg hj]; exact h1, by rw [List.getElem?_set_ne (Ne.symm hj)]; exact h2, h3, h4, h5.mono se⟩
  · by_cases hj : j = i
    · subst hj
      have := h (.ow ds) (by rw [List.getElem?_set_self hiρ])
      cases this
    · unfold setO
      rw [if_neg hj]
      exact R.no j fun s e => h s (by rw [List.getElem?_set_ne (Ne.symm hj)]; exact e)
  · by_cases hj : j = i
    · subst hj
      rw [List.getElem?_set_self hiρ] at e
      cases e
    · rw [List.getElem?_set_ne (Ne.symm hj)] at e ⊢
      exact R.ex j c e
  · by_cases hj : j = i
    · subst hj
      rw [List.getElem?_set_self hiρ] at e
      cases e
    · rw [List.getElem?_set_ne (Ne.symm hj)] at e
      obtain ⟨a, fv, h1, h2, h3, h4, h5⟩ := R.ob j c fs e
      exact ⟨a, fv, by unfold setO; rw [if_neg hj]; exact h1, by rw [List.getElem?_set_ne (Ne.symm hj)]; exact h2, h3, h4, h5.mono se⟩
  · by_cases hj : j = i
    · subst hj
      rw [List.getElem?_set_self hiρ] at e
      cases e
    · rw [List.getElem?_set_ne (Ne.symm hj)] at e
      unfold setO
      rw [if_neg hj]
      exact R.me j a c fs h e
/-- an own list grows -/
theorem Rel.grow (R : Rel K xa O H0 own σ H ρ) {i : Nat} {a : Addr} {xs : List V} {ds es : List D} (ho : own i = some a) (hr : ρ[i]? = some (Slot.ow ds)) (z : xs.length ≤ cap) (l : RpL K (er (hid O own) H) xs es) :
    Rel K xa O H0 own σ (upd H a (.lst xs)) (ρ.set i (.ow es)) := by
  have se : Same (er (hid O own) H) (er (hid O own) (upd H a (.lst xs))) := same_er fun b u e n => ⟨by rw [upd_ne fun z => n (by rw [z]; exact .inr ⟨i, ho⟩)]; exact e, n⟩
  have hiρ : i < ρ.length := (List.getElem?_eq_some_iff.mp hr).1
  have hs : σ[i]? = some (some (.ref a)) := by
    obtain ⟨b, _, e1, e2, _⟩ := R.ow i ds hr
    rw [ho] at e1; cases e1; exact e2
  refine ⟨by rw [List.length_set, R.len], fun b o e => ⟨by rw [upd_ne fun z => (R.keep b o e).2 i (by rw [z]; exact ho)]; exact (R.keep b o e).1, (R.keep b o e).2⟩, R.inj, R.dis, fun b h => ?_, fun j d e => ?_, fun j fs e => ?_, fun j h => ?_, fun j c e => ?_, fun j c fs e => ?_, fun j a c fs h e => ?_⟩
  · by_cases hb : b = a
    · subst hb; rw [upd_same]; simp
    · rw [upd_ne hb]; exact R.hd b h
  · by_cases hj : j = i
    · subst hj
      rw [List.getElem?_set_self hiρ] at e; cases e
    · rw [List.getElem?_set_ne (Ne.symm hj)] at e
      obtain ⟨v, h1, h2⟩ := R.cl j d e
      exact ⟨v, h1, h2.mono se⟩
  · by_cases hj : j = i
    · subst hj
      rw [List.getElem?_set_self hiρ] at e; cases e
      exact ⟨a, xs, ho, hs, upd_same, z, l.mono se⟩
    · rw [List.getElem?_set_ne (Ne.symm hj)] at e
      obtain ⟨b, ys, h1, h2, h3, h4, h5⟩ := R.ow j fs e
      exact ⟨b, ys, h1, h2, by rw [upd_ne fun z => hj (R.inj j i a (by rw [← z]; exact h1) ho)]; exact h3, h4, h5.mono se⟩
  · by_cases hj : j = i
    · subst hj
      have := h (.ow es) (by rw [List.getElem?_set_self hiρ])
      cases this
    · exact R.no j fun s e => h s (by rw [List.getElem?_set_ne (Ne.symm hj)]; exact e)
  · by_cases hj : j = i
    · subst hj
      rw [List.getElem?_set_self hiρ] at e; cases e
    · rw [List.getElem?_set_ne (Ne.symm hj)] at e
      exact R.ex j c e
  · by_cases hj : j = i
    · subst hj
      rw [List.getElem?_set_self hiρ] at e; cases e
    · rw [List.getElem?_set_ne (Ne.symm hj)] at e
      obtain ⟨b, fv, h1, h2, ⟨hc, dx, h3⟩, h4, h5⟩ := R.ob j c fs e
      exact ⟨b, fv, h1, h2, ⟨hc, dx, by rw [upd_ne fun z => hj (R.inj j i a (by rw [← z]; exact h1) ho)]; exact h3⟩, h4, h5.mono se⟩
  · by_cases hj : j = i
    · subst hj
      rw [List.getElem?_set_self hiρ] at e; cases e
    · rw [List.getElem?_set_ne (Ne.symm hj)] at e
      exact R.me j _ c fs h e
/-- an own list is everyone's from now on -/
theorem Rel.freeze (R : Rel K xa O H0 own σ H ρ) {i : Nat} {ds : List D} (hr : ρ[i]? = some (Slot.ow ds)) : Rel K xa O H0 (offO own i) σ H (ρ.set i (.cl (.list ds))) := by
  obtain ⟨a, xs, h1, h2, h3, h4, h5⟩ := R.ow i ds hr
  have hn : ¬ hid O (offO own i) a := fun c => by
    rcases c with c | ⟨j, c⟩
    · exact R.dis i a h1 c
    · have q := offO_le c
      have e := R.inj j i a q h1
      subst e
      unfold offO at c
      rw [if_pos rfl] at c; cases c
  have q := R.put (i := i) (s := .cl (.list ds)) (y := some (.ref a)) rfl (fun d z => by
    cases z
    exact ⟨_, rfl, .lst (.of (by rw [er_out hn]; exact h3)) h4 (h5.mono (er_own fun _ _ => offO_le))⟩) (fun _ z => by cases z) (by rw [R.len]; exact (List.getElem?_eq_some_iff.mp hr).1)
  have e : σ.set i (some (.ref a)) = σ := by
    apply List.ext_getElem?
    intro j
    by_cases hj : j = i
    · subst hj
      rw [List.getElem?_set_self (by rw [R.len]; exact (List.getElem?_eq_some_iff.mp hr).1), h2]
    · rw [List.getElem?_set_ne (Ne.symm hj)]
  rw [e] at q
  exact q
theorem Rel.up {ac : Addr × Nat} (R : Rel K xa O H0 own σ H ρ) (hx : xa.e = none) : Rel K ⟨some ac, xa.m⟩ O H0 own σ H ρ := ⟨R.len, R.keep, R.inj, R.dis, R.hd, R.cl, R.ow, R.no, fun i c e => (by obtain ⟨a, h, _⟩ := R.ex i c e; rw [hx] at h; cases h), R.ob, R.me⟩
theorem Rel.down {xb : XA} (R : Rel K xa O H0 own σ H ρ) (h : noEx ρ = true) (hm : xb.m = xa.m) : Rel K xb O H0 own σ H ρ := ⟨R.len, R.keep, R.inj, R.dis, R.hd, R.cl, R.ow, R.no, fun i c e => (by
  unfold noEx at h
  rw [List.all_eq_true] at h
  have := h _ (List.mem_of_getElem? e)
  cases this), R.ob, fun p a c fs h e => R.me p a c fs (by rw [← hm]; exact h) e⟩
/-- what was there and not hidden is still -/
def Kp (O : Addr → Prop) (own : Ow) (H : Hp) (own' : Ow) (H' : Hp) : Prop := ∀ b o, H b = some o → ¬ hid O own b → H' b = some o ∧ ¬ hid O own' b
theorem Kp.refl : Kp O own H own H := fun b o e n => ⟨e, n⟩
theorem Kp.trans {own1 own2 : Ow} {H1 H2 : Hp} (a : Kp O own H own1 H1) (b : Kp O own1 H1 own2 H2) : Kp O own H own2 H2 := fun c o e n => let ⟨h1, h2⟩ := a c o e n; b c o h1 h2
theorem Kp.same {own1 : Ow} {H1 : Hp} (a : Kp O own H own1 H1) : Same (er (hid O own) H) (er (hid O own1) H1) := same_er a
theorem Kp.of {own1 : Ow} (s : Same H H') (h : ∀ b, H b ≠ none → hid O own1 b → hid O own b) : Kp O own H own1 H' := fun b o e n => ⟨s b o e, fun c => n (h b (by rw [e]; simp) c)⟩
theorem Kp.off {i : Nat} (s : Same H H') : Kp O own H (offO own i) H' := Kp.of s fun b _ c => c.elim .inl fun ⟨j, e⟩ => .inr ⟨j, offO_le e⟩
end
/-- what is wanted behind statements -/
def Fo (K : PySem.W.Frag) (cv : Nat → Value) (W : WX) (xa : XA) (O : Addr → Prop) (H0 : Hp) (own : Ow) (H : Hp) (o : Out) (D : Ends) : Prop := match o with
  | .next ρ => ∀ own' σ' H', Rel K xa O H0 own' σ' H' ρ → Kp O own H own' H' → D.nx σ' H'
  | .brk ρ => ∀ own' σ' H', Rel K xa O H0 own' σ' H' ρ → Kp O own H own' H' → D.bk σ' H'
  | .cont ρ => ∀ own' σ' H', Rel K xa O H0 own' σ' H' ρ → Kp O own H own' H' → D.ct σ' H'
  | .ret d => ∀ v H', Same H0 H' → Rp K (er O H') v d → D.rt v H'
  | .retm d ρ => (∀ own' σ' H' v, Rel K xa O H0 own' σ' H' ρ → Kp O own H own' H' → Rp K (er (hid O own') H') v d → D.rt v H') ∧
    ∀ c1 fs1, d = obD c1 fs1 → ∀ own' σ' H' x fv1, H0 x = none → ¬ O x → Rel K xa (fun b => O b ∨ b = x) H0 own' σ' H' ρ → Kp O own H own' H' → ObAt K H' x c1 fv1 → fs1.length ≤ 100 → FRp K (er (hid (fun b => O b ∨ b = x) own') H') fv1 fs1 → D.rt (.ref x) H'
  | .exc c ρ => ∀ own' σ' H', Rel K xa O H0 own' σ' H' ρ → Kp O own H own' H' → W (cv c) none σ' H'
  | .bad => False
section
variable {K : PySem.W.Frag} {cv : Nat → Value} {W : WX} {xa : XA} {O : Addr → Prop} {H0 : Hp} {own own1 : Ow} {H H1 : Hp} {σ : L2.St} {ρ : Env} {o : Out} {D : Ends}
theorem Fo.mono (f : Fo K cv W xa O H0 own H o D) (k : Kp O own H own1 H1) : Fo K cv W xa O H0 own1 H1 o D := by
  cases o with
  | next ρ => exact fun own' σ' H' R k' => f own' σ' H' R (k.trans k')
  | brk ρ => exact fun own' σ' H' R k' => f own' σ' H' R (k.trans k')
  | cont ρ => exact fun own' σ' H' R k' => f own' σ' H' R (k.trans k')
  | exc c ρ => exact fun own' σ' H' R k' => f own' σ' H' R (k.trans k')
  | retm d ρ => exact ⟨fun own' σ' H' v R k' => f.1 own' σ' H' v R (k.trans k'), fun c1 fs1 e own' σ' H' x fv1 h0 hO R k' => f.2 c1 fs1 e own' σ' H' x fv1 h0 hO R (k.trans k')⟩
  | ret d => exact f
  | bad => exact f
/-- from an answer to an end -/
theorem Fo.fin {α : Type} {r : Rs α} {g : α → Out} (R : Rel K xa O H0 own σ H ρ) (f : Fo K cv W xa O H0 own H (r.out ρ g) D) : Fin cv W σ H r fun a H' => Fo K cv W xa O H0 own H' (g a) D := by
  cases r with
  | ok a => exact fun H' s => Fo.mono (show Fo K cv W xa O H0 own H (g a) D from f) (Kp.of s fun _ _ c => c)
  | exc c => exact fun H' s => f own σ H' (R.mono s) (Kp.of s fun _ _ c => c)
  | bad => exact f
theorem Fo.fin2 {α : Type} {r : Rs α} {g : α → Out} (R : Rel K xa O H0 own σ H ρ) (f : Fo K cv W xa O H0 own H (r.out ρ g) D) : Fin cv W σ H r fun a H' => Fo K cv W xa O H0 own H (g a) D := by
  cases r with
  | ok a => exact fun H' s => f
  | exc c => exact fun H' s => f own σ H' (R.mono s) (Kp.of s fun _ _ c => c)
  | bad => exact f
end
end Pu

/-! Pu, part 14: expressions that make new lists; assignments. -/
namespace Pu
open PySem PySem.Spec PyProof.Rows L2
theorem PS.impL {X : Cx} {e : Stmt} {t t' : TS} (h : PS X e t) (f : ∀ D σ H, σ.length = X.N.length → t' D σ H → t D σ H) : PS X e t' := ⟨fun pins s σ H D I w => h.run pins s σ H D I (f _ _ _ I.len w)⟩
theorem PSs.impL {X : Cx} {e : List Stmt} {t t' : TS} (h : PSs X e t) (f : ∀ D σ H, σ.length = X.N.length → t' D σ H → t D σ H) : PSs X e t' := ⟨fun pins s σ H D I w => h.run pins s σ H D I (f _ _ _ I.len w)⟩
theorem addL {dx dy : D} {ds : List D} (h : (op2 .add dx dy).bd asList = .ok ds) : ∃ a b, dx = .list a ∧ dy = .list b ∧ a.length + b.length ≤ cap ∧ ds = a ++ b := by
  cases dx with
  | list a =>
    cases dy with
    | list b =>
      simp only [op2] at h
      split at h
      · cases h; exact ⟨a, b, rfl, rfl, by assumption, rfl⟩
      · cases h
    | _ => cases h
  | int i => cases dy <;> cases h
  | tuple a =>
    cases dy with
    | tuple b =>
      simp only [op2] at h
      split at h <;> cases h
    | _ => cases h
  | _ => cases dy <;> cases h
theorem asL_exc {r : Rs D} {c : Nat} : r.bd asList = .exc c ↔ r = .exc c := by
  cases r with
  | ok d => cases d <;> simp [asList]
  | exc e => simp
  | bad => simp
theorem op2_noexc {o : Op2} {x y : D} {c : Nat} : op2 o x y ≠ .exc c := by
  intro h
  unfold op2 at h
  split at h <;> first | (cases h; done) | (split at h <;> cases h)
theorem slc_noexc {x : D} {l h : Option Int} {c : Nat} : slcD x l h ≠ .exc c := by
  cases x <;> simp [slcD]
section
variable {K : PySem.W.Frag} {C : Nat → D} {cv : Nat → Value} {G : Nat → List D → Rs D} {T : Tb} {k : Nat} {X : Cx} {xa : XA} {W : WX} {hot : Bool}
theorem evF_comp {elt : Ex} {tg : Tg} {it : Itr} {cond : Eo} {ρ : Env} : (evE C G (.comp elt tg it cond) ρ).bd asList = (evI C G it ρ).bd fun ds => if wipeOk tg.slots ρ = true then (compL (fun d => match bindTg tg d (wipeE tg.slots ρ) with
      | none => .bad
      | some ρ1 => (evC C G cond ρ1).bd fun b => if b = true then (evE C G elt ρ1).bd fun v => .ok (some v) else .ok none) ds).bd (fun r => .ok r) else .bad := by
  simp only [evE, bd_bd]
  congr 1
  funext ds
  by_cases h : wipeOk tg.slots ρ = true
  · rw [if_pos h, if_pos h, bd_bd]; rfl
  · rw [if_neg h, if_neg h]; rfl
theorem evF_comp2 {elt : Ex} {tg tg1 : Tg} {it it1 : Itr} {ρ : Env} : (evE C G (.comp2 elt tg it tg1 it1) ρ).bd asList = (evI C G it ρ).bd fun ds => if wipeOk (tg.slots ++ tg1.slots) ρ = true then (compL2 (fun d => match bindTg tg d (wipeE (tg.slots ++ tg1.slots) ρ) with
      | none => .bad
      | some ρ1 => (evI C G it1 ρ1).bd fun ds1 => compL (fun d1 => match bindTg tg1 d1 (wipeE tg1.slots ρ1) with
        | none => .bad
        | some ρ2 => (evE C G elt ρ2).bd fun v => .ok (some v)) ds1) ds).bd (fun r => if r.length ≤ cap then .ok r else .bad) else .bad := by
  simp only [evE, bd_bd]
  congr 1
  funext ds
  by_cases h : wipeOk (tg.slots ++ tg1.slots) ρ = true
  · rw [if_pos h, if_pos h, bd_bd]
    congr 1
    funext r
    by_cases h2 : r.length ≤ cap
    · rw [if_pos h2, if_pos h2]; rfl
    · rw [if_neg h2, if_neg h2]; rfl
  · rw [if_neg h, if_neg h]; rfl
/-- a comprehension's rule, and its store within the frame -/
theorem compF (hX : XC X K C cv G T xa W k false) {elt : Ex} {tg : Tg} {it : Itr} {cond : Eo} {v : Expr} (h : ckE T X.N (.comp elt tg it cond) X.env.scope v = true) :
    PE X v (tF K C cv G xa W (.comp elt tg it cond)) ∧ ∀ (i : Nat) (y : Str) (p : Pos) (pos : Pos), X.N[i]? = some y → swC X.env.scope y p pos.line v = true → X.env.scope.kind = .function → PS X (.Assign [.Name y p] v pos) (tAsg (tF K C cv G xa W (.comp elt tg it cond)) (gName i)) := by
  unfold ckE at h
  simp only [Bool.and_eq_true] at h
  obtain ⟨no, h⟩ := h
  split at h
  · rename_i vx vt vi vf vk sc0 vp
    simp only [Bool.and_eq_true, decide_eq_true_eq] at h
    obtain ⟨⟨⟨⟨⟨⟨h1, h2⟩, h3⟩, h4⟩, h5⟩, h6⟩, h7⟩ := h
    subst h1
    have hn : noSet _ = true := ckI_noSet h5
    have eK := hX.eK
    subst eK
    have imp : ∀ σ H Q, σ.length = X.N.length → tF X.K C cv G xa W (.comp elt tg it cond) σ H Q → tLc (tI X.K C cv G xa W it) (gT X.K tg) (tCnd X.K C cv G xa W0 cond) (tE X.K C cv G xa W0 elt) tg.slots σ H Q := by
      intro σ H Q hl ⟨O, H0, own, ρ, R, f⟩
      rw [evF_comp] at f
      refine comp_in (no_own no) R (fun i hi => by rw [hl]; exact own_slots h3 i hi) f fun r p H' fr s g => ?_
      exact g.ok p fr
    have g0 : ∀ (s : Shared) (H : Hp) (Ca : Addr) (cl : List (Str × Addr)) (fp : List Addr), PG (X.blk s H sc0 (compEnvC sc0 cl Ca X.env) fp) vt (gT X.K tg) := fun s H Ca cl fp => pg_of (X := X.blk s H sc0 (compEnvC sc0 cl Ca X.env) fp) (hX.calm rfl) hX.nd (fun x hx => ⟨.inl (lclB_ok hx), .inr (lclB_ok hx)⟩) h4
    constructor
    · have p := pe_lc (hX.calm rfl) hX.nd (sndI it hX rfl _ _ (ckTg_tup h4) h5) (blkOk_by h2) g0
        (fun s H Ca cl fp => sndC cond (hX.blk s H sc0 cl Ca fp) h6) (fun s H Ca cl fp => (sndE elt (hX.blk s H sc0 cl Ca fp) (fun z => by cases z) h7).1) (fun x => fsi hn) (pos := by assumption)
      rw [h3] at p
      exact PE.impL p imp
    · intro i y py pos hi hs hk
      unfold swC at hs
      simp only [Bool.and_eq_true, decide_eq_true_eq, Bool.not_eq_true'] at hs
      have p := ps_setLc (spos := pos) (hX.calm rfl) hX.nd hi (lclB_ok hs.1.1) (sw_true (pos := vp) hk (lclB_ok hs.1.1) (by rw [hs.1.2]; exact beq_self_eq_true _) hs.2) (sndI it hX rfl _ _ (ckTg_tup h4) h5) (blkOk_by h2) g0
        (fun s H Ca cl fp => sndC cond (hX.blk s H sc0 cl Ca fp) h6) (fun s H Ca cl fp => (sndE elt (hX.blk s H sc0 cl Ca fp) (fun z => by cases z) h7).1) (fun x => fsi hn)
      rw [h3] at p
      exact PS.impL p fun D σ H hl f => imp σ H _ hl f
  · cases h
theorem compF2 (hX : XC X K C cv G T xa W k false) {elt : Ex} {tg tg1 : Tg} {it it1 : Itr} {v : Expr} (h : ckE T X.N (.comp2 elt tg it tg1 it1) X.env.scope v = true) :
    PE X v (tF K C cv G xa W (.comp2 elt tg it tg1 it1)) ∧ ∀ (i : Nat) (y : Str) (p : Pos) (pos : Pos), X.N[i]? = some y → swC X.env.scope y p pos.line v = true → X.env.scope.kind = .function → PS X (.Assign [.Name y p] v pos) (tAsg (tF K C cv G xa W (.comp2 elt tg it tg1 it1)) (gName i)) := by
  unfold ckE at h
  simp only [Bool.and_eq_true] at h
  obtain ⟨no, h⟩ := h
  split at h
  · rename_i vx vt vi vf vk vt1 vi1 vf1 vk1 sc0 vp
    simp only [Bool.and_eq_true, decide_eq_true_eq, List.isEmpty_iff] at h
    obtain ⟨⟨⟨⟨⟨⟨⟨⟨⟨⟨h1, h1'⟩, e1⟩, e2⟩, h2⟩, h3⟩, h4⟩, h4'⟩, h5⟩, h6⟩, h7⟩ := h
    subst h1 h1' e1 e2
    have hn : noSet _ = true := ckI_noSet h5
    have hn1 : noSet _ = true := ckI_noSet h6
    have eK := hX.eK
    subst eK
    have imp : ∀ σ H Q, σ.length = X.N.length → tF X.K C cv G xa W (.comp2 elt tg it tg1 it1) σ H Q → tLc2 (tI X.K C cv G xa W it) (gT X.K tg) tYes (tI X.K C cv G xa W0 it1) (gT X.K tg1) tYes (tE X.K C cv G xa W0 elt) (tg.slots ++ tg1.slots) tg1.slots σ H Q := by
      intro σ H Q hl ⟨O, H0, own, ρ, R, f⟩
      rw [evF_comp2] at f
      refine comp2_in (kk := fun r => Rs.ok r) (no_own no) R (fun i hi => by rw [hl]; exact own_slots h3 i hi) f fun r p H' fr s g => ?_
      exact g.ok p fr
    have g0 : ∀ (s : Shared) (H : Hp) (Ca : Addr) (cl : List (Str × Addr)) (fp : List Addr), PG (X.blk s H sc0 (compEnvC sc0 cl Ca X.env) fp) vt (gT X.K tg) := fun s H Ca cl fp => pg_of (X := X.blk s H sc0 (compEnvC sc0 cl Ca X.env) fp) (hX.calm rfl) hX.nd (fun x hx => ⟨.inl (lclB_ok hx), .inr (lclB_ok hx)⟩) h4
    have g1 : ∀ (s : Shared) (H : Hp) (Ca : Addr) (cl : List (Str × Addr)) (fp : List Addr), PG (X.blk s H sc0 (compEnvC sc0 cl Ca X.env) fp) vt1 (gT X.K tg1) := fun s H Ca cl fp => pg_of (X := X.blk s H sc0 (compEnvC sc0 cl Ca X.env) fp) (hX.calm rfl) hX.nd (fun x hx => ⟨.inl (lclB_ok hx), .inr (lclB_ok hx)⟩) h4'
    constructor
    · have p := pe_lc2 (vs1 := tg1.slots) (hX.calm rfl) hX.nd (sndI it hX rfl _ _ (ckTg_tup h4) h5) (blkOk_by h2) (fun i hi => by rw [h3]; exact List.mem_append_right _ hi) g0
        (fun s H Ca cl fp => pts_nil) (fun s H Ca cl fp => sndI it1 (hX.blk s H sc0 cl Ca fp) rfl _ _ (ckTg_tup h4') h6) g1
        (fun s H Ca cl fp => pts_nil) (fun s H Ca cl fp => (sndE elt (hX.blk s H sc0 cl Ca fp) (fun z => by cases z) h7).1) (fun x => fsi hn) (fun env x => fsi hn1) (pos := by assumption)
      rw [h3] at p
      exact PE.impL p imp
    · intro i y py pos hi hs hk
      unfold swC at hs
      simp only [Bool.and_eq_true, decide_eq_true_eq, Bool.not_eq_true'] at hs
      have p := ps_setLc2 (spos := pos) (vs1 := tg1.slots) (hX.calm rfl) hX.nd hi (lclB_ok hs.1.1) (sw_true (pos := vp) hk (lclB_ok hs.1.1) (by rw [hs.1.2]; exact beq_self_eq_true _) hs.2) (sndI it hX rfl _ _ (ckTg_tup h4) h5) (blkOk_by h2) (fun i hi => by rw [h3]; exact List.mem_append_right _ hi) g0
        (fun s H Ca cl fp => pts_nil) (fun s H Ca cl fp => sndI it1 (hX.blk s H sc0 cl Ca fp) rfl _ _ (ckTg_tup h4') h6) g1
        (fun s H Ca cl fp => pts_nil) (fun s H Ca cl fp => (sndE elt (hX.blk s H sc0 cl Ca fp) (fun z => by cases z) h7).1) (fun x => fsi hn) (fun env x => fsi hn1)
      rw [h3] at p
      exact PS.impL p fun D σ H hl f => imp σ H _ hl f
  · cases h
theorem sw_no {v : Expr} {t : Option Expr} {l : Nat} {env : PySem.Env} (h : isComp v = false) : swapsWith v t l env = pure false := by
  cases v <;> first | rfl | cases h
theorem sw_false {v : Expr} {y : Str} {p : Pos} {l : Nat} {env : PySem.Env} (h : lclB env.scope y = false) : swapsWith v (some (.Name y p)) l env = pure false := by
  have ne : (env.kindOf y == some .local) = false := by
    unfold lclB at h
    show (env.scope.names.lookup y == some .local) = false
    split at h
    · cases h
    · rename_i hne
      cases q : env.scope.names.lookup y with
      | none => rfl
      | some kk => cases kk <;> first | rfl | exact absurd q hne
  cases v <;> first
    | rfl
    | (unfold swapsWith; simp only [ne, Bool.and_false, Bool.false_and]; try rfl)
theorem sndF (hX : XC X K C cv G T xa W k hot) (hh : hot = false) {e : Ex} {v : Expr} (hf : freshX e = true) (h : ckE T X.N e X.env.scope v = true) : PE X v (tF K C cv G xa W e) := by
  subst hh
  cases e with
  | lst es =>
    unfold ckE at h
    split at h
    · refine PE.imp (pe_lst (sndEs es hX (fun z => by cases z) h)) fun σ H Q ⟨O, H0, own, ρ, R, f⟩ => ?_
      simp only [evE, bd_bd] at f
      refine ⟨O, H0, own, ρ, R, f.bd.map fun ds H1 s1 f1 vs p1 => ?_⟩
      split at f1
      · rename_i z
        have z' : vs.length ≤ cap := by rw [p1.length]; exact z
        refine ⟨z', fun q hq => ?_⟩
        have f2 : Fin cv W σ H1 (.ok ds) fun ds H' => ∀ p, FreshP K O own H H' p ds → Q (.ref p) H' := f1
        exact f2.here (same_upd hq) q ⟨vs, s1.free hq, upd_same, z', p1.mono (same_er fun a o e n => ⟨by rw [upd_ne (ne_of_none e hq)]; exact e, fun c => by
          rcases c with (c | c) | c
          · exact n (.inl c)
          · subst c; rw [hq] at e; cases e
          · exact n (.inr c)⟩)⟩
      · exact False.elim f1
    · cases h
  | op o a b =>
    cases o <;> first | (cases hf; done) | skip
    unfold ckE at h
    split at h
    · rename_i l p r pp
      simp only [Bool.and_eq_true] at h
      have hp : p = .Add := by
        have := h.1.1
        cases p <;> first | rfl | cases this
      subst hp
      have eK := hX.eK
      subst eK
      refine PE.imp (pe_op op_catQ (sndE a hX (fun z => by cases z) h.1.2).1 (sndE b hX (fun z => by cases z) h.2).1) fun σ H Q ⟨O, H0, own, ρ, R, f⟩ => ?_
      simp only [evE, bd_bd] at f
      refine ⟨O, H0, own, ρ, R, f.bd.map fun dx H1 s1 f1 vx p1 => ⟨O, H0, own, ρ, R.mono s1, f1.bd.map fun dy H2 s2 f2 vy p2 => ?_⟩⟩
      cases e0 : (op2 .add dx dy).bd asList with
      | bad => rw [e0] at f2; exact False.elim f2
      | exc c => exact absurd (asL_exc.mp e0) op2_noexc
      | ok ds =>
        obtain ⟨u, w, rfl, rfl, z, rfl⟩ := addL e0
        rw [e0] at f2
        obtain ⟨q1, xs, rfl, g1, z1, l1⟩ := (p1.1.mono s2).list
        obtain ⟨q2, ys, rfl, g2, z2, l2⟩ := p2.1.list
        have e1 := l1.length
        have e2 := l2.length
        have zz : xs.length + ys.length ≤ cap := by rw [e1, e2]; exact z
        refine ⟨q1, q2, xs, ys, rfl, rfl, g1, g2, zz, fun q hq => ?_⟩
        exact f2.here (same_upd hq) q ⟨_, s1.free (s2.free hq), upd_same, by rw [List.length_append]; exact zz, (l1.append l2).mono (same_er fun a o e n => ⟨by rw [upd_ne (ne_of_none e hq)]; exact e, fun c => by
          rcases c with (c | c) | c
          · exact n (.inl c)
          · subst c; rw [hq] at e; cases e
          · exact n (.inr c)⟩)⟩
    · cases h
  | slc a lo hi =>
    unfold ckE at h
    split at h
    · simp only [Bool.and_eq_true] at h
      have eK := hX.eK
      subst eK
      refine PE.imp (pe_slice sl_list (sndE a hX (fun z => by cases z) h.1.1).1 (sndO lo hX rfl h.1.2) (sndO hi hX rfl h.2)) fun σ H Q ⟨O, H0, own, ρ, R, f⟩ => ?_
      simp only [evE, bd_bd] at f
      refine ⟨O, H0, own, ρ, R, f.bd.map fun dx H1 s1 f1 vx p1 => ⟨O, H0, own, ρ, R.mono s1, f1.bd.map fun o1 H2 s2 f2 => ⟨O, H0, own, ρ, (R.mono s1).mono s2, f2.bd.map fun o2 H3 s3 f3 => ?_⟩⟩⟩
      have q := (p1.1.mono s2).mono s3
      cases dx with
      | list ds =>
        obtain ⟨p, xs, rfl, g, z, l⟩ := q.list
        have f4 : Fin cv W σ H3 (.ok (cutD ds o1 o2)) fun ds H' => ∀ p, FreshP X.K O own H H' p ds → Q (.ref p) H' := f3
        refine ⟨p, xs, rfl, g, fun r hr => f4.here (same_upd hr) r ⟨_, s1.free (s2.free (s3.free hr)), upd_same, Nat.le_trans (cutV_length _ _ _) z, (l.cut _ _).mono (same_er fun a o e n => ⟨by rw [upd_ne (ne_of_none e hr)]; exact e, fun c => by
          rcases c with (c | c) | c
          · exact n (.inl c)
          · subst c; rw [hr] at e; cases e
          · exact n (.inr c)⟩)⟩⟩
      | _ => exact False.elim f3
    · cases h
  | comp elt tg it cond => exact (compF hX h).1
  | comp2 elt tg it tg1 it1 => exact (compF2 hX h).1
  | _ => cases hf
/-- name = a new list -/
theorem setF (hX : XC X K C cv G T xa W k hot) (hh : hot = false) (fn : ∀ x, X.fn x = true) (hk : X.env.scope.kind = .function) {i : Nat} {x : Str} {p pos : Pos} {e : Ex} {v : Expr} (h1 : nmB X.N i x = true) (h2 : locB X.env.scope x = true) (hf : freshX e = true)
    (hc : (!isComp v || swC X.env.scope x p pos.line v || !lclB X.env.scope x) = true) (h : ckE T X.N e X.env.scope v = true) : PS X (.Assign [.Name x p] v pos) (tAsg (tF K C cv G xa W e) (gName i)) := by
  obtain ⟨n, _, _⟩ := nmB_ok h1
  subst hh
  rw [Bool.or_eq_true, Bool.or_eq_true] at hc
  rcases hc with (hc | hc) | hc
  · exact ps_set hX.nd n (locB_ok h2) (sndF hX rfl hf h) (sw_no (by simpa using hc)) (.inl (fn x))
  · cases e with
    | comp elt tg it cond => exact (compF hX h).2 i x p pos n hc hk
    | comp2 elt tg it tg1 it1 => exact (compF2 hX h).2 i x p pos n hc hk
    | lst es =>
      unfold ckE at h
      split at h
      · cases hc
      · cases h
    | op o a b =>
      unfold ckE at h
      split at h
      · cases hc
      · cases h
    | slc a lo hi =>
      unfold ckE at h
      split at h
      · cases hc
      · cases h
    | _ => cases hf
  · exact ps_set hX.nd n (locB_ok h2) (sndF hX rfl hf h) (sw_false (by simpa using hc)) (.inl (fn x))
end
end Pu

/-! Pu, part 14b: expressions in which objects change. -/
namespace Pu
open PySem PySem.Spec PyProof.Rows L2
/-- what is between an object and its method -/
theorem meth_eq {o : Expr} {m : Str} {apos pos : Pos} {args : List Expr} {env : PySem.Env} (hbase : attributeBase o m env (eval o env) = eval o env)
    (hfew : ((backTo pos (starEach args env)).all (fun x => !x.1) && (backToKw pos (keywordEach [] env)).all (fun x => x.1.isSome) && decide (args.length + ([] : List Keyword).length + (if ([] : List Keyword).isEmpty then 0 else 1) < 30)) = true)
    (hline : (apos.endLine == pos.line) = true) : ∃ pl : Sem Bool, eval (.Call (.Attribute o m apos) args [] pos) env = (do
      let ov ← eval o env
      standAt apos.atName
      let (f, first) ← holding [ov] (getMethod ov m pl)
      callWith pos f first (backTo pos (starEach args env)) (backToKw pos (keywordEach [] env))) := by
  have hform : methodCallForm (args.length + ([] : List Keyword).length) (backTo pos (starEach args env)) (backToKw pos (keywordEach [] env)) = true := hfew
  have hpos : methodCallPos true o env apos pos = pure pos := by unfold methodCallPos; simp [hline]
  refine ⟨?_, ?_⟩
  rotate_left
  · rw [arm_eval_Call, hbase]
    unfold methodCall
    rw [hform, hpos]
    simp only [pure_bind]
    rfl
section
variable {K : PySem.W.Frag} {xa : XA} {O : Addr → Prop} {H0 : Hp} {own : Ow} {σ : L2.St} {H H' : Hp} {ρ : Env}
theorem set_at {ρ : Env} {i : Nat} {s : Slot} (h : ρ[i]? = some s) : ρ.set i s = ρ := by
  apply List.ext_getElem?
  intro j
  by_cases hj : i = j
  · subst hj
    rw [List.getElem?_set_self (List.getElem?_eq_some_iff.mp h).1, h]
  · rw [List.getElem?_set_ne hj]
/-- an object has changed -/
theorem Rel.reob (R : Rel K xa O H0 own σ H ρ) {i c : Nat} {fs fs' : List (Nat × D)} {a : Addr} {fv' : List (Str × V)} (e0 : ρ[i]? = some (.ob c fs)) (ho : own i = some a) (s : Same (er (fun b => b = a) H) H') (h : ObAt K H' a c fv') (hl : fs'.length ≤ 100) (hf : FRp K (er (hid O own) H') fv' fs') :
    Rel K xa O H0 own σ H' (ρ.set i (.ob c fs')) ∧ Kp O own H own H' := by
  have st : ∀ b o, b ≠ a → H b = some o → H' b = some o := fun b o n e => s b o (by rw [er_out (O := fun b => b = a) n]; exact e)
  have ah : hid O own a := .inr ⟨i, ho⟩
  have se : Same (er (hid O own) H) (er (hid O own) H') := same_er fun b o e n => ⟨st b o (fun z => n (by rw [z]; exact ah)) e, n⟩
  have hs : σ[i]? = some (some (.ref a)) := by
    obtain ⟨a', _, e1, e2, _⟩ := R.ob i c fs e0
    rw [ho] at e1; cases e1; exact e2
  have hiρ : i < ρ.length := (List.getElem?_eq_some_iff.mp e0).1
  refine ⟨⟨by rw [List.length_set, R.len], fun b o e => ⟨st b o (fun z => (R.keep b o e).2 i (by rw [z]; exact ho)) (R.keep b o e).1, (R.keep b o e).2⟩, R.inj, R.dis, fun b hb => ?_, fun j d e => ?_, fun j ds e => ?_, fun j hh => ?_, fun j x e => ?_, fun j c' gs e => ?_, fun j b c' gs h e => ?_⟩, fun b o e n => ⟨st b o (fun z => n (by rw [z]; exact ah)) e, n⟩⟩
  · cases q : H b with
    | none => exact absurd q (R.hd b hb)
    | some o => rw [st b o (fun z => R.dis i a ho (by rw [← z]; exact hb)) q]; simp
  · by_cases hj : j = i
    · subst hj; rw [List.getElem?_set_self hiρ] at e; cases e
    · rw [List.getElem?_set_ne (Ne.symm hj)] at e
      obtain ⟨v, h1, h2⟩ := R.cl j d e
      exact ⟨v, h1, h2.mono se⟩
  · by_cases hj : j = i
    · subst hj; rw [List.getElem?_set_self hiρ] at e; cases e
    · rw [List.getElem?_set_ne (Ne.symm hj)] at e
      obtain ⟨b, ys, h1, h2, h3, h4, h5⟩ := R.ow j ds e
      exact ⟨b, ys, h1, h2, st _ _ (fun z => hj (R.inj j i a (by rw [← z]; exact h1) ho)) h3, h4, h5.mono se⟩
  · by_cases hj : j = i
    · subst hj
      have := hh (.ob c fs') (by rw [List.getElem?_set_self hiρ])
      cases this
    · exact R.no j fun s e => hh s (by rw [List.getElem?_set_ne (Ne.symm hj)]; exact e)
  · by_cases hj : j = i
    · subst hj; rw [List.getElem?_set_self hiρ] at e; cases e
    · rw [List.getElem?_set_ne (Ne.symm hj)] at e
      exact R.ex j x e
  · by_cases hj : j = i
    · subst hj
      rw [List.getElem?_set_self hiρ] at e
      cases e
      exact ⟨a, fv', ho, hs, h, hl, hf⟩
    · rw [List.getElem?_set_ne (Ne.symm hj)] at e
      obtain ⟨b, gv, h1, h2, ⟨oc, dx, h3⟩, h4, h5⟩ := R.ob j c' gs e
      exact ⟨b, gv, h1, h2, ⟨oc, dx, st _ _ (fun z => hj (R.inj j i a (by rw [← z]; exact h1) ho)) h3⟩, h4, h5.mono se⟩
  · by_cases hj : j = i
    · subst hj
      exact R.me j b c fs h e0
    · rw [List.getElem?_set_ne (Ne.symm hj)] at e
      exact R.me j b c' gs h e
/-- a new object becomes a name's own -/
theorem Rel.adoptO {p : Addr} (R : Rel K xa (fun a => O a ∨ a = p) H0 own σ H ρ) (hO : ¬ O p) (h0 : H0 p = none) {c : Nat} {fs : List (Nat × D)} {fv : List (Str × V)} (hp : ObAt K H p c fv) (z : fs.length ≤ 100) (l : FRp K (er (hid (fun a => O a ∨ a = p) own) H) fv fs) {i : Nat} (hi : i < σ.length) (hm : ∀ a, xa.m ≠ some (i, a)) :
    Rel K xa O H0 (setO own i p) (σ.set i (some (.ref p))) H (ρ.set i (.ob c fs)) := by
  have np : ∀ j, own j ≠ some p := fun j e => R.dis j p e (.inr rfl)
  have se : Same (er (hid (fun a => O a ∨ a = p) own) H) (er (hid O (setO own i p)) H) := same_er fun a u e n => ⟨e, fun c => n (hid_setO c)⟩
  have hiρ : i < ρ.length := by rw [← R.len]; exact hi
  refine ⟨by rw [List.length_set, List.length_set, R.len], fun b o e => ⟨(R.keep b o e).1, fun j z => ?_⟩, fun j k a h1 h2 => ?_, fun j a h => ?_, fun b h => R.hd b (.inl h), fun j d e => ?_, fun j es e => ?_, fun j h => ?_, fun j c e => ?_, fun j c' gs e => ?_, fun j a c' gs h e => ?_⟩
  · rcases setO_or z with ⟨_, rfl⟩ | ⟨_, z⟩
    · rw [h0] at e; cases e
    · exact (R.keep b o e).2 j z
  · rcases setO_or h1 with ⟨e1, e2⟩ | ⟨e1, g1⟩ <;> rcases setO_or h2 with ⟨e3, e4⟩ | ⟨e3, g2⟩
    · rw [e1, e3]
    · exact absurd (by rw [g2, e2]) (np k)
    · exact absurd (by rw [g1, e4]) (np j)
    · exact R.inj j k a g1 g2
  · rcases setO_or h with ⟨_, rfl⟩ | ⟨_, h⟩
    · exact hO
    · exact fun c => R.dis j a h (.inl c)
  · by_cases hj : j = i
    · subst hj
      rw [List.getElem?_set_self hiρ] at e
      cases e
    · rw [List.getElem?_set_ne (Ne.symm hj)] at e
      obtain ⟨v, h1, h2⟩ := R.cl j d e
      exact ⟨v, by rw [List.getElem?_set_ne (Ne.symm hj)]; exact h1, h2.mono se⟩
  · by_cases hj : j = i
    · subst hj
      rw [List.getElem?_set_self hiρ] at e
      cases e
    · rw [List.getElem?_set_ne (Ne.symm hj)] at e
      obtain ⟨a, ys, h1, h2, h3, h4, h5⟩ := R.ow j es e
      exact ⟨a, ys, by unfold setO; rw [if_neg hj]; exact h1, by rw [List.getElem?_set_ne (Ne.symm hj)]; exact h2, h3, h4, h5.mono se⟩
  · by_cases hj : j = i
    · subst hj
      have := h (.ob c fs) (by rw [List.getElem?_set_self hiρ])
      cases this
    · unfold setO
      rw [if_neg hj]
      exact R.no j fun s e => h s (by rw [List.getElem?_set_ne (Ne.symm hj)]; exact e)
  · by_cases hj : j = i
    · subst hj
      rw [List.getElem?_set_self hiρ] at e
      cases e
    · rw [List.getElem?_set_ne (Ne.symm hj)] at e ⊢
      exact R.ex j c e
  · by_cases hj : j = i
    · subst hj
      rw [List.getElem?_set_self hiρ] at e
      cases e
      exact ⟨p, fv, by unfold setO; rw [if_pos rfl], by rw [List.getElem?_set_self hi], hp, z, l.mono se⟩
    · rw [List.getElem?_set_ne (Ne.symm hj)] at e
      obtain ⟨a, gv, h1, h2, h3, h4, h5⟩ := R.ob j c' gs e
      exact ⟨a, gv, by unfold setO; rw [if_neg hj]; exact h1, by rw [List.getElem?_set_ne (Ne.symm hj)]; exact h2, h3, h4, h5.mono se⟩
  · by_cases hj : j = i
    · subst hj
      exact absurd h (hm a)
    · rw [List.getElem?_set_ne (Ne.symm hj)] at e
      unfold setO
      rw [if_neg hj]
      exact R.me j a c' gs h e
end
/-- what is wanted of an answer behind which objects may have changed -/
def FinX (K : PySem.W.Frag) (cv : Nat → Value) (W : WX) (xa : XA) (O : Addr → Prop) (H0 : Hp) (own : Ow) (σ : L2.St) (H : Hp) (r : Rx) (P : D → Env → Ow → Hp → Prop) : Prop := match r with
  | .ok d ρ => ∀ own' H', Rel K xa O H0 own' σ H' ρ → Kp O own H own' H' → P d ρ own' H'
  | .exc c ρ => ∀ own' H', Rel K xa O H0 own' σ H' ρ → Kp O own H own' H' → W (cv c) none σ H'
  | .bad => False
section
variable {K : PySem.W.Frag} {C : Nat → D} {cv : Nat → Value} {G : Nat → List D → Rs D} {T : Tb} {k : Nat} {X : Cx} {xa : XA} {W : WX} {hot : Bool}
variable {O : Addr → Prop} {H0 : Hp} {own own1 : Ow} {σ : L2.St} {H H1 H' : Hp} {ρ : Env} {r : Rx} {P P' : D → Env → Ow → Hp → Prop} {Q : VK}
theorem FinX.mono (f : FinX K cv W xa O H0 own σ H r P) (k : Kp O own H own1 H1) : FinX K cv W xa O H0 own1 σ H1 r P := by
  cases r with
  | ok d ρ => exact fun own' H' R k' => f own' H' R (k.trans k')
  | exc c ρ => exact fun own' H' R k' => f own' H' R (k.trans k')
  | bad => exact f
theorem FinX.map (f : FinX K cv W xa O H0 own σ H r P) (g : ∀ d ρ own' H', Rel K xa O H0 own' σ H' ρ → Kp O own H own' H' → P d ρ own' H' → P' d ρ own' H') : FinX K cv W xa O H0 own σ H r P' := by
  cases r with
  | ok d ρ => exact fun own' H' R k' => g d ρ own' H' R k' (f own' H' R k')
  | exc c ρ => exact f
  | bad => exact f
theorem FinX.bd {g : D → Env → Rx} (f : FinX K cv W xa O H0 own σ H (r.bd g) P) : FinX K cv W xa O H0 own σ H r fun d ρ own' H' => FinX K cv W xa O H0 own' σ H' (g d ρ) P := by
  cases r with
  | ok d ρ => exact fun own' H' R k' => FinX.mono (show FinX K cv W xa O H0 own σ H (g d ρ) P from f) k'
  | exc c ρ => exact f
  | bad => exact f
theorem Kp.id (s : Same H H') : Kp O own H own H' := Kp.of s fun _ _ c => c
theorem FinX.pure {q : Rs D} (R : Rel K xa O H0 own σ H ρ) (f : FinX K cv W xa O H0 own σ H (q.rx ρ) P) : Fin cv W σ H q fun d H' => P d ρ own H' := by
  cases q with
  | ok d => exact fun H' s => f own H' (R.mono s) (Kp.id s)
  | exc c => exact fun H' s => f own H' (R.mono s) (Kp.id s)
  | bad => exact f
theorem FinX.out {g : D → Env → Out} {E : Ends} (f : Fo K cv W xa O H0 own H (r.out g) E) : FinX K cv W xa O H0 own σ H r fun d ρ own' H' => Fo K cv W xa O H0 own' H' (g d ρ) E := by
  cases r with
  | ok d ρ => exact fun own' H' R k' => Fo.mono (show Fo K cv W xa O H0 own H (g d ρ) E from f) k'
  | exc c ρ => exact fun own' H' R k' => f own' σ H' R k'
  | bad => exact f
def tX (K : PySem.W.Frag) (C : Nat → D) (cv : Nat → Value) (G : Nat → List D → Rs D) (xa : XA) (W : WX) (x : Xe) : TE := fun σ H Q => ∃ O H0 own ρ, Rel K xa O H0 own σ H ρ ∧ FinX K cv W xa O H0 own σ H (evX C G x ρ) fun d ρ' own' H' => ∀ v, Rp K (er (hid O own') H') v d → Q v H'
def tXB (K : PySem.W.Frag) (C : Nat → D) (cv : Nat → Value) (G : Nat → List D → Rs D) (xa : XA) (W : WX) (x : Xe) : TT := fun σ H Q => ∃ O H0 own ρ, Rel K xa O H0 own σ H ρ ∧ FinX K cv W xa O H0 own σ H (evX C G x ρ) fun d ρ' own' H' => ∃ b, d = .bool b ∧ Q b H'
def SndX (X : Cx) (K : PySem.W.Frag) (C : Nat → D) (cv : Nat → Value) (G : Nat → List D → Rs D) (xa : XA) (W : WX) (x : Xe) (e : Expr) : Prop :=
  PE X e (tX K C cv G xa W x) ∧ (tstX x = true → PT X e (tXB K C cv G xa W x)) ∧ (∀ op vs p, e = .BoolOp op vs p → PW X e (tXB K C cv G xa W x))
theorem Rp.bool {H : Hp} {v : V} {b : Bool} (h : Rp K H v (.bool b)) : v = .bl b := by cases h; rfl
/-- a plain expression -/
theorem x_pur (hX : XC X K C cv G T xa W k hot) {a : Ex} {e : Expr} (no : isOwn a = false) (h : Snd X K C cv G xa W a e) : SndX X K C cv G xa W (.pur a) e := by
  have tst' : ∀ σ H Q, tXB K C cv G xa W (.pur a) σ H Q → tB K C cv G xa W a σ H Q := fun σ H Q ⟨O, H0, own, ρ, R, f⟩ => by
    simp only [evX] at f
    refine ⟨O, H0, own, ρ, R, ?_⟩
    have f := FinX.pure R f
    cases e1 : evE C G a ρ with
    | ok d =>
      rw [e1] at f
      cases d with
      | bool b => exact fun H' s => let ⟨b', h1, h2⟩ := f H' s; by cases h1; exact h2
      | _ => obtain ⟨b, h1, _⟩ := f H (Same.refl H); cases h1
    | exc c => rw [e1] at f; exact f
    | bad => rw [e1] at f; exact False.elim f
  refine ⟨PE.imp h.1 fun σ H Q ⟨O, H0, own, ρ, R, f⟩ => ?_, fun t => PT.imp (h.2.1 t) tst', fun op vs p z => PW.imp (h.2.2 op vs p z) tst'⟩
  simp only [evX] at f
  exact ⟨O, H0, own, ρ, R, (FinX.pure R f).map fun d H1 s1 f1 v p => f1 v (p.2 no)⟩
theorem hid_obj {a : Addr} {i : Nat} (ho : own i = some a) : (fun b => (hid O own b ∧ b ≠ a) ∨ b = a) = hid O own := funext fun b => propext ⟨fun z => z.elim (·.1) fun z => by rw [z]; exact .inr ⟨i, ho⟩, fun z => by
  by_cases hb : b = a
  · exact .inr hb
  · exact .inl ⟨z, hb⟩⟩
theorem hid_or {x : Addr} : (fun b => hid O own b ∨ b = x) = hid (fun b => O b ∨ b = x) own := funext fun b => propext ⟨fun z => by
    rcases z with (z | z) | z
    · exact .inl (.inl z)
    · exact .inr z
    · exact .inl (.inr z), fun z => by
    rcases z with (z | z) | z
    · exact .inl (.inl z)
    · exact .inr z
    · exact .inl (.inr z)⟩
/-- what a def with an object among its arguments is promised -/
theorem spO_in {g : List D → Rs D} {n i c : Nat} {fs : List (Nat × D)} {a : Addr} {pre post : List V} {dpre dpost : List D} (R : Rel K xa O H0 own σ H ρ) (e0 : ρ[i]? = some (.ob c fs)) (ho : own i = some a) (rp : RpL K (er (hid O own) H) pre dpre) (rq : RpL K (er (hid O own) H) post dpost) (hn : (pre ++ V.ref a :: post).length = n)
    (hg : match g (dpre ++ obD c fs :: dpost) with
      | .ok r => ∃ d o fs', r = .tuple [d, o] ∧ unOb o = some (c, fs') ∧ fs'.length ≤ 100 ∧
        (((∀ kvs, d ≠ .dict kvs) ∧ ∀ v H', Rel K xa O H0 own σ H' (ρ.set i (.ob c fs')) → Kp O own H own H' → Rp K (er (hid O own) H') v d → Q v H') ∨
        ∃ c1 fs1, d = obD c1 fs1 ∧ fs1.length ≤ 100 ∧ ∀ x H' fv1, Rel K xa (fun b => O b ∨ b = x) H0 own σ H' (ρ.set i (.ob c fs')) → Kp O own H own H' → H x = none → ObAt K H' x c1 fv1 → FRp K (er (hid (fun b => O b ∨ b = x) own) H') fv1 fs1 → Q (.ref x) H')
      | .exc x => ∀ H', Rel K xa O H0 own σ H' ρ → Kp O own H own H' → W (cv x) none σ H'
      | .bad => False) : spO K cv g n pre.length (pre ++ .ref a :: post) H Q (WE W σ) := by
  obtain ⟨a', fv, e1, e2, e3, e4, e5⟩ := R.ob i c fs e0
  rw [ho] at e1; cases e1
  have eh := hid_obj (O := O) (own := own) ho
  refine ⟨pre, post, dpre, dpost, fun b => hid O own b ∧ b ≠ a, a, c, fs, fv, rfl, hn, rfl, fun z => z.2 rfl, fun b z => R.hidden z.1, e3, e4, ?_, ?_, ?_, ?_⟩
  · rw [eh]; exact e5
  · rw [eh]; exact rp
  · rw [eh]; exact rq
  · cases eg : g (dpre ++ obD c fs :: dpost) with
    | ok r =>
      rw [eg] at hg
      obtain ⟨d, o, fs', h1, h2, hl, h3⟩ := hg
      refine ⟨d, o, fs', h1, h2, hl, ?_⟩
      rcases h3 with ⟨h3, h4⟩ | ⟨c1, fs1, h3, h4, h5⟩
      · refine .inl ⟨h3, fun v H' fv' s oa hf hr => ?_⟩
        rw [eh] at hf hr
        obtain ⟨q1, q2⟩ := R.reob e0 ho s oa hl hf
        exact h4 v H' q1 q2 hr
      · refine .inr ⟨c1, fs1, h3, h4, fun x H' fv' fv1 s oa hx ox hf hf1 => ?_⟩
        obtain ⟨oc, dx, ox'⟩ := id ox
        have e6 : (fun b => ((hid O own b ∧ b ≠ a) ∨ b = a) ∨ b = x) = hid (fun b => O b ∨ b = x) own := by
          rw [← hid_or]
          exact congrArg (fun S : Addr → Prop => fun b => S b ∨ b = x) eh
        rw [e6] at hf hf1
        have R1 := R.hide (p := x) (o := .ins (He.ga K (clsNm c1)) dx fv1) hx
        have sx : Same (er (fun b => b = a) (upd H x (.ins (He.ga K (clsNm c1)) dx fv1))) H' := fun b o e => by
          obtain ⟨e7, e8⟩ := er_some e
          by_cases hb : b = x
          · subst hb
            rw [upd_same] at e8
            cases e8
            exact ox'
          · rw [upd_ne hb] at e8
            exact s b o (by rw [er_out (O := fun b => b = a) e7]; exact e8)
        obtain ⟨q1, q2⟩ := R1.reob e0 ho sx oa hl hf
        refine h5 x H' fv1 q1 (fun b o e n => ?_) hx ox hf1
        refine ⟨s b o (by rw [er_out (O := fun b => b = a) (fun z => n (by rw [z]; exact .inr ⟨i, ho⟩))]; exact e), n⟩
    | exc x =>
      rw [eg] at hg
      intro H' fv' s oa hf
      rw [eh] at hf
      obtain ⟨q1, q2⟩ := R.reob e0 ho s oa e4 hf
      rw [set_at e0] at q1
      exact hg H' q1 q2
    | bad => rw [eg] at hg; exact hg
/-- a method's answer, as it is wanted -/
theorem prM_in {g : List D → Rs D} {n i c : Nat} {fs : List (Nat × D)} {a : Addr} {pre post : List V} {dpre dpost : List D} (R : Rel K xa O H0 own σ H ρ) (e0 : ρ[i]? = some (.ob c fs)) (ho : own i = some a) (rp : RpL K (er (hid O own) H) pre dpre) (rq : RpL K (er (hid O own) H) post dpost) (hn : (pre ++ V.ref a :: post).length = n)
    (f : FinX K cv W xa O H0 own σ H (prM ρ i c (g (dpre ++ obD c fs :: dpost))) fun d ρ' own' H' => ∀ v, Rp K (er (hid O own') H') v d → Q v H') : spO K cv g n pre.length (pre ++ .ref a :: post) H Q (WE W σ) := by
  refine spO_in R e0 ho rp rq hn ?_
  cases eg : g (dpre ++ obD c fs :: dpost) with
  | bad => rw [eg] at f; exact f
  | exc x => rw [eg] at f; exact fun H' R' k' => f own H' R' k'
  | ok r =>
    rw [eg] at f
    unfold prM at f
    split at f
    · exact False.elim f
    · rename_i d o nd e1
      cases e1
      split at f
      · rename_i c' fs' e2
        split at f
        · rename_i ec
          obtain ⟨ec, el⟩ := ec
          subst ec
          exact ⟨d, o, fs', rfl, e2, el, .inl ⟨fun kvs z => nd kvs z, fun v H' R' k' hr => f own H' R' k' v hr⟩⟩
        · exact False.elim f
      · exact False.elim f
    · rename_i e1; cases e1
    · exact False.elim f
/-- .. a new object -/
theorem prN_in {g : List D → Rs D} {n i c : Nat} {fs : List (Nat × D)} {a : Addr} {pre post : List V} {dpre dpost : List D} (R : Rel K xa O H0 own σ H ρ) (e0 : ρ[i]? = some (.ob c fs)) (ho : own i = some a) (rp : RpL K (er (hid O own) H) pre dpre) (rq : RpL K (er (hid O own) H) post dpost) (hn : (pre ++ V.ref a :: post).length = n)
    (f : match prN c (g (dpre ++ obD c fs :: dpost)) with
      | .ok (fs1, fs2) => ∀ x H' fv1, Rel K xa (fun b => O b ∨ b = x) H0 own σ H' (ρ.set i (.ob c fs2)) → Kp O own H own H' → H x = none → ObAt K H' x c fv1 → fs1.length ≤ 100 → FRp K (er (hid (fun b => O b ∨ b = x) own) H') fv1 fs1 → Q (.ref x) H'
      | .exc x => ∀ H', Rel K xa O H0 own σ H' ρ → Kp O own H own H' → W (cv x) none σ H'
      | .bad => False) : spO K cv g n pre.length (pre ++ .ref a :: post) H Q (WE W σ) := by
  refine spO_in R e0 ho rp rq hn ?_
  cases eg : g (dpre ++ obD c fs :: dpost) with
  | bad => rw [eg] at f; exact f
  | exc x => rw [eg] at f; exact f
  | ok r =>
    rw [eg] at f
    unfold prN at f
    split at f
    · rename_i fs1 fs2 e1
      split at e1
      · rename_i d o e2
        cases e2
        split at e1
        · rename_i c1 g1 c2 g2 e3 e4
          split at e1
          · rename_i ec
            cases e1
            obtain ⟨h1, h2, h3, h4⟩ := ec
            subst h1 h2
            have hd := unOb_eq e3
            exact ⟨d, o, fs2, rfl, e4, h4, .inr ⟨_, fs1, hd, h3, fun x H' fv1 q1 q2 hx ox hf => f x H' fv1 q1 q2 hx ox h3 hf⟩⟩
          · cases e1
        · cases e1
      · cases e1
      · cases e1
    · rename_i e1
      exfalso
      split at e1
      · split at e1
        · split at e1 <;> cases e1
        · cases e1
      · rename_i e2; cases e2
      · cases e1
    · exact False.elim f
theorem few_all {es : List Expr} {pos : Pos} {env : PySem.Env} (h : es.all noStar = true) (hl : es.length < 20) : ((backTo pos (starEach es env)).all (fun x => !x.1) && (backToKw pos (keywordEach [] env)).all (fun x => x.1.isSome) && decide (es.length + ([] : List Keyword).length + (if ([] : List Keyword).isEmpty then 0 else 1) < 30)) = true := by
  have h1 : (backTo pos (starEach es env)).all (fun x => !x.1) = true := by
    have := back_any (pos := pos) (env := env) h
    rw [List.any_eq_false] at this
    rw [List.all_eq_true]
    intro x hx
    have := this x hx
    cases q : x.1 <;> simp_all
  rw [h1]
  have : decide (es.length + ([] : List Keyword).length + (if ([] : List Keyword).isEmpty then 0 else 1) < 30) = true := by
    rw [decide_eq_true_eq]
    simp
    omega
  rw [this]
  rfl
theorem FRp.no_name {fv : List (Str × V)} {x : Str} (hn : ∀ g, g < 8 → fldNm g ≠ x) : ∀ {fs : List (Nat × D)}, FRp K H fv fs → fv.lookup x = none := by
  induction fv with
  | nil => intro fs _; rfl
  | cons p fv ih =>
    intro fs h
    cases h with
    | @cons f v d _ fs hf r t =>
      rw [List.lookup_cons]
      have : (x == fldNm f) = false := by simpa using fun z => hn f hf (Eq.symm z)
      rw [this]
      exact ih t
/-- the call of a method, from what stands behind the object's name -/
theorem run_meth (hX : XC X K C cv G T xa W k hot) (hh : hot = false) {m c : Nat} {z : Str} {p q : Pos} {as : List Expr} {o : Expr} {ta : TE} {es : Exs} (ho : PE X o ta) (hb : attributeBase o z X.env (eval o X.env) = eval o X.env) (hm : T.mts.lookup m = some (c, (z, as.length + 1))) (hl : p.endLine = q.line) (h20 : as.length < 20) (hst : as.all noStar = true) (hes : es.len = as.length) (ha : PA X as (tEs K C cv G xa W es)) :
    PE X (.Call (.Attribute o z p) as [] q) fun σ H Q => ta σ H fun v H1 => ∃ a fv fs, v = .ref a ∧ ObAt K H1 a c fv ∧ FRp K H1 fv fs ∧ tEs K C cv G xa W es σ H1 fun vs H2 => spO K cv (G m) (as.length + 1) 0 (.ref a :: vs) H2 Q (WE W σ) := by
  obtain ⟨f, fd, ps, oc, hmt, hnm, _, b, F⟩ := hX.lk.mt m c z _ hm
  have eK := hX.eK
  subst eK
  have hr := (hX.rm hh).mono (show 2 * k ≤ 2 * k + 1 by omega)
  refine ⟨fun pins s σ H Q I h => ?_⟩
  obtain ⟨pl, heq⟩ := meth_eq (o := o) (m := z) (apos := p) (pos := q) (args := as) (env := X.env) hb (few_all hst h20) (by rw [hl]; exact beq_self_eq_true _)
  refine PySem.W.methodCall_KW (pl := pl) (thn (ho.run pins s σ H _ I h) fun u s1 ⟨v, H1, I1, r1, a, fv, fs, ev, ⟨_, dx, hoa⟩, hf, q1⟩ => ?_) heq
  subst ev
  obtain rfl : u = Value.ref a := r1
  refine getmeth_ok I1 hoa oc.cls hmt (hf.no_name hnm) ?_
  cases as with
  | nil =>
    have q2 : spO X.K cv (G m) 1 0 [.ref a] H1 Q (WE W σ) := by
      cases es with
      | nil =>
        obtain ⟨O, H0, own, ρ, R, f⟩ := q1
        simp only [evEs] at f
        exact f.ok [] .nil
      | cons e es => cases hes
    exact PySem.W.callWith_K0 (first := [.ref a]) I1.kIn hmt.kp (run_fnS (us := [.ref a]) (vs := [.ref a]) F hr b (passAt hX.tk σ) I1 (.cons rfl .nil) q2)
  | cons e as =>
    rw [List.all_cons, Bool.and_eq_true] at hst
    refine PySem.W.callWith_K (first := [.ref a]) (h₀ := X.base) I1.ok.mod.kin hmt.kp (thn (ha.run q pins s1 σ H1 _ I1 q1) fun us s2 ⟨vs, H2, I2, r, q2⟩ => ⟨I2.kIn, ?_⟩) (star_cons hst.1 _ _) (back_any hst.2)
    exact run_fnS (us := .ref a :: us) (vs := .ref a :: vs) F hr b (passAt hX.tk σ) I2 (.cons rfl r) q2
theorem x_meth (hX : XC X K C cv G T xa W k hot) (hh : hot = false) {i c m : Nat} {es : Exs} {x z : Str} {p1 p q : Pos} {as : List Expr} (h1 : nmB X.N i x = true) (h2 : visB X.env.scope x = true) (hm : T.mts.lookup m = some (c, (z, es.len + 1))) (hl : p.endLine = q.line) (h20 : as.length < 20) (hst : as.all noStar = true) (hes : es.len = as.length) (ha : PA X as (tEs K C cv G xa W es)) :
    PE X (.Call (.Attribute (.Name x p1) z p) as [] q) (tX K C cv G xa W (.meth i c m es)) := by
  obtain ⟨n, d1, d2⟩ := nmB_ok h1
  refine PE.imp (run_meth hX hh (pe_var (pos := p1) n (visB_ok h2) d1 d2) rfl (by rw [← hes]; exact hm) hl h20 hst hes ha) fun σ H Q ⟨O, H0, own, ρ, R, f⟩ => ?_
  simp only [evX] at f
  split at f
  case h_2 => exact False.elim f
  rename_i c' fs e0
  split at f
  case isFalse => exact False.elim f
  rename_i ec
  subst ec
  obtain ⟨a, fv, e1, e2, e3, e4, e5⟩ := R.ob i c' fs e0
  refine ⟨.ref a, e2, a, fv, fs, rfl, e3, e5.mono er_le, O, H0, own, ρ, R, ?_⟩
  cases ee : evEs C G es ρ with
  | bad => rw [ee] at f; exact f
  | exc x => rw [ee] at f; exact fun H' s => f own H' (R.mono s) (Kp.id s)
  | ok ds =>
    rw [ee] at f
    intro H' s vs rv
    have hlen : (V.ref a :: vs).length = as.length + 1 := by rw [List.length_cons, rv.length, evEs_len ee, hes]
    exact prM_in (pre := []) (dpre := []) (R.mono s) e0 e1 .nil rv (by exact hlen) (FinX.mono f (Kp.id s))
/-- arguments, one of them the object's name -/
def tIn (K : PySem.W.Frag) (C : Nat → D) (cv : Nat → Value) (G : Nat → List D → Rs D) (xa : XA) (W : WX) (i p : Nat) (es : Exs) : TA := fun σ H R => ∃ O H0 own ρ a, Rel K xa O H0 own σ H ρ ∧ σ[i]? = some (some (.ref a)) ∧
  Fin cv W σ H (evEs C G es ρ) fun ds H' => ∀ pre post dpre dpost, ds = dpre ++ dpost → dpre.length = p → RpL K (er (hid O own) H') pre dpre → RpL K (er (hid O own) H') post dpost → R (pre ++ .ref a :: post) H'
theorem pa_ins (hX : XC X K C cv G T xa W k hot) (hh : hot = false) {i : Nat} : ∀ {p : Nat} {es : Exs} {as : List Expr}, ckIns T X.N i p es X.env.scope as = true → PA X as (tIn K C cv G xa W i p es) ∧ as.all noStar = true ∧ as.length = es.len + 1 ∧ p ≤ es.len
  | 0, es, [], h => by simp [ckIns] at h
  | 0, es, x :: r, h => by
    unfold ckIns at h
    rw [Bool.and_eq_true] at h
    obtain ⟨h1, h2⟩ := h
    split at h1
    · rename_i y py
      rw [Bool.and_eq_true] at h1
      obtain ⟨n, d1, d2⟩ := nmB_ok h1.1
      obtain ⟨l1, l2⟩ := ckEs_len h2
      refine ⟨PA.imp (pa_cons (pe_var n (visB_ok h1.2) d1 d2) (sndEs es hX (fun z => by rw [hh] at z; cases z) h2) rfl) fun σ H Q ⟨O, H0, own, ρ, a, R, e, f⟩ => ⟨.ref a, e, O, H0, own, ρ, R, f.map fun ds H' s g vs rv => g [] vs [] ds rfl rfl .nil rv⟩, by rw [List.all_cons, l2]; rfl, by rw [List.length_cons, l1], Nat.zero_le _⟩
    · cases h1
  | p + 1, .nil, as, h => by simp [ckIns] at h
  | p + 1, .cons e es, [], h => by simp [ckIns] at h
  | p + 1, .cons e es, x :: r, h => by
    unfold ckIns at h
    simp only [Bool.and_eq_true] at h
    obtain ⟨⟨⟨h1, h2⟩, h3⟩, h4⟩ := h
    obtain ⟨pa, st, hl, hp⟩ := pa_ins hX hh h4
    refine ⟨PA.imp (pa_cons (sndE e hX (fun z => by rw [hh] at z; cases z) h3).1 pa (star_cons h2 _ _)) fun σ H Q ⟨O, H0, own, ρ, a, R, e, f⟩ => ?_, by rw [List.all_cons, h2, st]; rfl, by rw [List.length_cons, hl]; rfl, Nat.succ_le_succ hp⟩
    simp only [evEs] at f
    refine ⟨O, H0, own, ρ, R, f.bd.map fun d H1 s1 f1 v p1 => ⟨O, H0, own, ρ, a, R.mono s1, e, f1.bd.map fun ds H2 s2 f2 pre post dpre dpost ed hl rp rq => ?_⟩⟩
    subst ed
    exact f2.ok (v :: pre) post (d :: dpre) dpost rfl (by rw [List.length_cons, hl]) (.cons ((p1.2 (no_own h1)).mono (same_erO s2)) rp) rq
theorem insAt_split {α : Type} {x : α} : ∀ {p : Nat} {l : List α}, p ≤ l.length → insAt p x l = l.take p ++ x :: l.drop p
  | 0, l, _ => by cases l <;> rfl
  | p + 1, [], h => by cases h
  | p + 1, y :: l, h => by
    show y :: insAt p x l = _
    rw [insAt_split (by simpa using h)]
    rfl
theorem RpL.split {H : Hp} {vs : List V} {ds : List D} (n : Nat) (h : RpL K H vs ds) : RpL K H (vs.take n) (ds.take n) ∧ RpL K H (vs.drop n) (ds.drop n) := ⟨h.take n, h.drop n⟩
theorem x_callo (hX : XC X K C cv G T xa W k hot) (hh : hot = false) {f p i : Nat} {es : Exs} {x : Str} {as : List Expr} {p1 pos : Pos} (h1 : T.fos.lookup f = some (x, (es.len + 1, p))) (h2 : glB X.env.scope x = true) (ha : ckIns T X.N i p es X.env.scope as = true) : PE X (.Call (.Name x p1) as [] pos) (tX K C cv G xa W (.callo f p i es)) := by
  obtain ⟨g, d1⟩ := glB_ok h2
  obtain ⟨fa, fd, ps, m, kp, b, F⟩ := hX.lk.fo f x _ p h1
  obtain ⟨pa, st, hl, hp⟩ := pa_ins hX hh ha
  have eK := hX.eK
  subst eK
  cases as with
  | nil => cases hl
  | cons e as =>
    rw [List.all_cons, Bool.and_eq_true] at st
    refine PE.imp (pe_callS F ((hX.rm hh).mono (by omega)) g m kp b (fun σ => passAt hX.tk σ) pa d1 (star_cons st.1 _ _) (back_any st.2)) fun σ H Q ⟨O, H0, own, ρ, R, f⟩ => ?_
    simp only [evX] at f
    split at f
    case h_2 => exact False.elim f
    rename_i c fs e0
    obtain ⟨a, fv, e1, e2, e3, e4, e5⟩ := R.ob i c fs e0
    refine ⟨O, H0, own, ρ, a, R, e2, ?_⟩
    cases ee : evEs C G es ρ with
    | bad => rw [ee] at f; exact f
    | exc x => rw [ee] at f; exact fun H' s => f own H' (R.mono s) (Kp.id s)
    | ok ds =>
      rw [ee] at f
      intro H' s pre post dpre dpost ed hpl rp rq
      have hdl := evEs_len ee
      subst ed
      have ei : insAt p (obD c fs) (dpre ++ dpost) = dpre ++ obD c fs :: dpost := by
        rw [insAt_split (by rw [hdl]; exact hp), ← hpl, List.take_left' rfl, List.drop_left' rfl]
      dsimp only at f
      rw [ei] at f
      have e6 := rp.length
      have e7 := rq.length
      have hn : (pre ++ V.ref a :: post).length = es.len + 1 := by
        rw [List.length_append, List.length_cons, e6, e7]
        rw [List.length_append] at hdl
        omega
      have hpp : p = pre.length := by rw [e6, hpl]
      rw [hpp]
      exact prM_in (R.mono s) e0 e1 rp rq hn (FinX.mono f (Kp.id s))
/-- two parts, one after the other -/
theorem x_bin {rr : R2} {x : Xe} {a b : Xe} {g : D → D → Rs D} {P : D → Env → Ow → Hp → Prop} (hr : ∀ (O : Addr → Prop) (own : Ow) (H : Hp) (dx dy : D) (x y : V) (Q : VK), (∀ p, H p = none → ¬ hid O own p) → Rp K (er (hid O own) H) x dx → Rp K (er (hid O own) H) y dy → Fin cv W σ H (g dx dy) (fun d H' => ∀ v, Rp K (er (hid O own) H') v d → Q v H') → rr x y H Q)
    (hx : ∀ ρ, evX C G x ρ = (evX C G a ρ).bd fun u ρ1 => (evX C G b ρ1).bd fun v ρ2 => (g u v).rx ρ2)
    (R : Rel K xa O H0 own σ H ρ) (f : FinX K cv W xa O H0 own σ H (evX C G x ρ) P) (hP : ∀ d ρ own H', P d ρ own H' → ∀ v, Rp K (er (hid O own) H') v d → Q v H') : L2.tOp rr (tX K C cv G xa W a) (tX K C cv G xa W b) σ H Q := by
  rw [hx] at f
  refine ⟨O, H0, own, ρ, R, f.bd.map fun dx ρ1 own1 H1 R1 k1 f1 vx p1 => ⟨O, H0, own1, ρ1, R1, f1.bd.map fun dy ρ2 own2 H2 R2 k2 f2 vy p2 => ?_⟩⟩
  exact hr O own2 H2 dx dy vx vy Q (fun p hp => R2.fresh hp) (p1.mono k2.same) p2 ((FinX.pure R2 f2).map fun d H3 s g v rv => hP _ _ _ _ g v rv)
theorem x_op (eK : X.K = K) {o : Op2} {p : Operator} {a b : Xe} {e1 e2 : Expr} {pos : Pos} (hp : opB o p = true) (ha : PE X e1 (tX K C cv G xa W a)) (hb : PE X e2 (tX K C cv G xa W b)) : PE X (.BinOp e1 p e2 pos) (tX K C cv G xa W (.op o a b)) := by
  subst eK
  have ap : ∀ {rr : R2}, OpH X.K (op2 o) rr → ∀ σ H Q, tX X.K C cv G xa W (.op o a b) σ H Q → L2.tOp rr (tX X.K C cv G xa W a) (tX X.K C cv G xa W b) σ H Q := fun {rr} hr σ H Q ⟨O, H0, own, ρ, R, f⟩ =>
    x_bin (x := .op o a b) (g := op2 o) (fun O own H dx dy x y Q hf rx ry f => hr cv W σ O own H dx dy x y Q hf (.inl rx) (.inl ry) f) (fun ρ => by simp only [evX]) R f fun _ _ _ _ h => h
  cases o <;> cases p <;> first | (exact absurd hp (by decide)) | skip
  · exact PE.imp (pe_op op_addA ha hb) fun σ H Q h => ap h_add σ H Q h
  · exact PE.imp (pe_op op_sub ha hb) fun σ H Q h => ap h_sub σ H Q h
  · exact PE.imp (pe_op op_mulA ha hb) fun σ H Q h => ap h_mul σ H Q h
  · exact PE.imp (pe_op op_fdivW ha hb) fun σ H Q h => ap h_fdiv σ H Q h
  · exact PE.imp (pe_op op_mod ha hb) fun σ H Q h => ap h_mod σ H Q h
  · exact PE.imp (pe_op op_pow ha hb) fun σ H Q h => ap h_pow σ H Q h
theorem x_cmp (eK : X.K = K) (hu : X.A.units + 64 < cLine) {c : Cm} {p : CmpOp} {a b : Xe} {e1 e2 : Expr} {pos : Pos} (hp : cmB c p = true) (hm : noSet e2 = true) (ha : PE X e1 (tX K C cv G xa W a)) (hb : PE X e2 (tX K C cv G xa W b)) :
    SndX X K C cv G xa W (.cmp c a b) (.Compare e1 [p] [e2] pos) := by
  obtain ⟨rr, ho, hr⟩ := cm_rule (X := X) eK hu hp
  have key : ∀ {Q : VK} {P : D → Env → Ow → Hp → Prop} {O : Addr → Prop} {H0 : Hp} {own : Ow} {σ : L2.St} {H : Hp} {ρ : Env}, Rel K xa O H0 own σ H ρ → FinX K cv W xa O H0 own σ H (evX C G (.cmp c a b) ρ) P → (∀ r ρ own H', P (.bool r) ρ own H' → Q (.bl r) H') → L2.tOp rr (tX K C cv G xa W a) (tX K C cv G xa W b) σ H Q := by
    intro Q P O H0 own σ H ρ R f hP
    simp only [evX] at f
    refine ⟨O, H0, own, ρ, R, f.bd.map fun dx ρ1 own1 H1 R1 k1 f1 vx p1 => ⟨O, H0, own1, ρ1, R1, f1.bd.map fun dy ρ2 own2 H2 R2 k2 f2 vy p2 => ?_⟩⟩
    cases e : cmpD c dx dy with
    | some r =>
      rw [e] at f2
      exact hr O own2 H2 dx dy vx vy r Q (.inl (p1.mono k2.same)) (.inl p2) e (hP r ρ2 own2 H2 (f2 own2 H2 R2 Kp.refl))
    | none => rw [e] at f2; exact False.elim f2
  refine ⟨PE.imp (pe_cmpR ho ha hb (mark_ok hm)) fun σ H Q ⟨O, H0, own, ρ, R, f⟩ => ?_, fun _ => PT.imp (pt_cmpR ho ha hb (mark_ok hm)) fun σ H Q ⟨O, H0, own, ρ, R, f⟩ => ?_, fun _ _ _ z => by cases z⟩
  · exact key R f fun r ρ own H' h => h _ (.bl r)
  · exact key R f fun r ρ own H' ⟨b, e, h⟩ => by cases e; exact ⟨r, rfl, h⟩
theorem FinX.blx {g : Bool → Env → Rx} (f : FinX K cv W xa O H0 own σ H (blX r g) P) : FinX K cv W xa O H0 own σ H r fun d ρ own' H' => ∃ b, d = .bool b ∧ FinX K cv W xa O H0 own' σ H' (g b ρ) P := by
  cases r with
  | ok d ρ =>
    cases d with
    | bool b => exact fun own' H' R k' => ⟨b, rfl, FinX.mono (show FinX K cv W xa O H0 own σ H (g b ρ) P from f) k'⟩
    | _ => exact False.elim f
  | exc c ρ => exact f
  | bad => exact f
theorem FinX.here {d : D} (f : FinX K cv W xa O H0 own σ H (.ok d ρ) P) (R : Rel K xa O H0 own σ H ρ) : P d ρ own H := f own H R Kp.refl
theorem x_and {a b : Xe} {e1 e2 : Expr} {rest : List Expr} {pos : Pos} (ha : SndX X K C cv G xa W a e1) (ta : tstX a = true) (hb : PE X (.BoolOp .And (e2 :: rest) pos) (tX K C cv G xa W b)) (wb : PW X (.BoolOp .And (e2 :: rest) pos) (tXB K C cv G xa W b)) :
    SndX X K C cv G xa W (.and a b) (.BoolOp .And (e1 :: e2 :: rest) pos) := by
  have w : PW X (.BoolOp .And (e1 :: e2 :: rest) pos) (tXB K C cv G xa W (.and a b)) := by
    refine PW.imp (pw_and (ha.2.1 ta) wb) fun σ H Q ⟨O, H0, own, ρ, R, f⟩ => ⟨O, H0, own, ρ, R, ?_⟩
    simp only [evX] at f
    refine f.blx.map fun d ρ1 own1 H1 R1 k1 ⟨r, e, f1⟩ => ⟨r, e, ?_⟩
    cases r with
    | false =>
      rw [if_neg Bool.false_ne_true] at f1
      obtain ⟨b, e, q⟩ := f1.here R1
      cases e; exact q
    | true =>
      rw [if_pos rfl] at f1
      refine ⟨O, H0, own1, ρ1, R1, f1.blx.map fun d ρ2 own2 H2 R2 k2 ⟨q, e, f2⟩ => ⟨q, e, ?_⟩⟩
      obtain ⟨b, e, q⟩ := f2.here R2
      cases e; exact q
  refine ⟨PE.imp (pe_and ha.1 hb) fun σ H Q ⟨O, H0, own, ρ, R, f⟩ => ?_, fun _ => w.pt, fun _ _ _ _ => w⟩
  simp only [evX] at f
  refine ⟨O, H0, own, ρ, R, f.blx.map fun d ρ1 own1 H1 R1 k1 ⟨r, e, f1⟩ v p => ?_⟩
  subst e
  refine ⟨r, p.bool, ?_⟩
  cases r with
  | false =>
    rw [if_neg Bool.false_ne_true] at f1
    exact f1.here R1 _ (.bl false)
  | true =>
    rw [if_pos rfl] at f1
    refine ⟨O, H0, own1, ρ1, R1, f1.blx.map fun d ρ2 own2 H2 R2 k2 ⟨q, e, f2⟩ v p => ?_⟩
    subst e
    exact f2.here R2 v p
theorem x_or {a b : Xe} {e1 e2 : Expr} {rest : List Expr} {pos : Pos} (ha : SndX X K C cv G xa W a e1) (ta : tstX a = true) (hb : PE X (.BoolOp .Or (e2 :: rest) pos) (tX K C cv G xa W b)) (wb : PW X (.BoolOp .Or (e2 :: rest) pos) (tXB K C cv G xa W b)) :
    SndX X K C cv G xa W (.or a b) (.BoolOp .Or (e1 :: e2 :: rest) pos) := by
  have w : PW X (.BoolOp .Or (e1 :: e2 :: rest) pos) (tXB K C cv G xa W (.or a b)) := by
    refine PW.imp (pw_or (ha.2.1 ta) wb) fun σ H Q ⟨O, H0, own, ρ, R, f⟩ => ⟨O, H0, own, ρ, R, ?_⟩
    simp only [evX] at f
    refine f.blx.map fun d ρ1 own1 H1 R1 k1 ⟨r, e, f1⟩ => ⟨r, e, ?_⟩
    cases r with
    | true =>
      rw [if_pos rfl] at f1
      obtain ⟨b, e, q⟩ := f1.here R1
      cases e; exact q
    | false =>
      rw [if_neg Bool.false_ne_true] at f1
      refine ⟨O, H0, own1, ρ1, R1, f1.blx.map fun d ρ2 own2 H2 R2 k2 ⟨q, e, f2⟩ => ⟨q, e, ?_⟩⟩
      obtain ⟨b, e, q⟩ := f2.here R2
      cases e; exact q
  refine ⟨PE.imp (pe_or ha.1 hb) fun σ H Q ⟨O, H0, own, ρ, R, f⟩ => ?_, fun _ => w.pt, fun _ _ _ _ => w⟩
  simp only [evX] at f
  refine ⟨O, H0, own, ρ, R, f.blx.map fun d ρ1 own1 H1 R1 k1 ⟨r, e, f1⟩ v p => ?_⟩
  subst e
  refine ⟨r, p.bool, ?_⟩
  cases r with
  | true =>
    rw [if_pos rfl] at f1
    exact f1.here R1 _ (.bl true)
  | false =>
    rw [if_neg Bool.false_ne_true] at f1
    refine ⟨O, H0, own1, ρ1, R1, f1.blx.map fun d ρ2 own2 H2 R2 k2 ⟨q, e, f2⟩ v p => ?_⟩
    subst e
    exact f2.here R2 v p
theorem xone_and {b : Xe} {e : Expr} {pos : Pos} (h : SndX X K C cv G xa W b e) (t : tstX b = true) : PE X (.BoolOp .And [e] pos) (tX K C cv G xa W b) ∧ PW X (.BoolOp .And [e] pos) (tXB K C cv G xa W b) := ⟨pe_one h.1, pw_and1 (h.2.1 t)⟩
theorem xone_or {b : Xe} {e : Expr} {pos : Pos} (h : SndX X K C cv G xa W b e) (t : tstX b = true) : PE X (.BoolOp .Or [e] pos) (tX K C cv G xa W b) ∧ PW X (.BoolOp .Or [e] pos) (tXB K C cv G xa W b) := ⟨pe_one h.1, pw_or1 (h.2.1 t)⟩
theorem x_not {a : Xe} {e : Expr} {pos : Pos} (ha : SndX X K C cv G xa W a e) (ta : tstX a = true) : SndX X K C cv G xa W (.not a) (.UnaryOp .Not e pos) := by
  refine ⟨PE.imp (pe_not ha.1) fun σ H Q ⟨O, H0, own, ρ, R, f⟩ => ?_, fun _ => PT.imp (pt_not (ha.2.1 ta)) fun σ H Q ⟨O, H0, own, ρ, R, f⟩ => ?_, fun _ _ _ z => by cases z⟩
  · simp only [evX] at f
    refine ⟨O, H0, own, ρ, R, f.blx.map fun d ρ1 own1 H1 R1 k1 ⟨r, e, f1⟩ v p => ?_⟩
    subst e
    exact ⟨r, p.bool, f1.here R1 _ (.bl _)⟩
  · simp only [evX] at f
    refine ⟨O, H0, own, ρ, R, f.blx.map fun d ρ1 own1 H1 R1 k1 ⟨r, e, f1⟩ => ⟨r, e, ?_⟩⟩
    obtain ⟨b, e, q⟩ := f1.here R1
    cases e; exact q
/-- an expression with effects, as a test -/
theorem snd_x {x : Xe} {e : Expr} (h : PE X e (tX K C cv G xa W x)) (he : ∀ whole, isTrue e X.env whole = (do let v ← whole; standAt e.pos; holding [v] (truthy v))) (nb : ∀ op vs p, e ≠ .BoolOp op vs p) : SndX X K C cv G xa W x e := by
  refine ⟨h, fun _ => PT.imp (pt_val h he) fun σ H Q ⟨O, H0, own, ρ, R, f⟩ => ⟨O, H0, own, ρ, R, f.map fun d ρ1 own1 H1 R1 k1 ⟨b, e, q⟩ v p => ?_⟩, fun op vs p z => absurd z (nb op vs p)⟩
  subst e
  exact ⟨b, p.bool, q⟩
theorem x_len (hX : XC X K C cv G T xa W k hot) {x : Str} {a : Xe} {e : Expr} {p pos : Pos} (h1 : x = Bl.len.nm) (h2 : bltB T X.env.scope x = true) (st : noStar e = true) (ha : PE X e (tX K C cv G xa W a)) :
    PE X (.Call (.Name x p) [e] [] pos) (tX K C cv G xa W (.bi .len a)) := by
  obtain ⟨g, m, d1⟩ := bltB_ok hX h2
  have eK := hX.eK
  have s1 := star_cons st X.env []
  have pa : PA X [e] (tCons (tX K C cv G xa W a) tNil) := pa_cons ha pa_nil s1
  subst eK
  subst h1
  refine PE.imp (pe_callB call_len g m PySem.boot_len pa (by decide) (by decide) s1 rfl) fun σ H Q ⟨O, H0, own, ρ, R, f⟩ => ?_
  simp only [evX] at f
  exact ⟨O, H0, own, ρ, R, f.bd.map fun d ρ1 own1 H1 R1 k1 f1 v p => b_len cv W σ O own1 H1 d v Q (fun p hp => R1.fresh hp) (.inl p) ((FinX.pure R1 f1).map fun d H2 s2 g v rv => g v rv)⟩
def tXl (K : PySem.W.Frag) (C : Nat → D) (cv : Nat → Value) (G : Nat → List D → Rs D) (xa : XA) (W : WX) (x : Xe) : TA := fun σ H R => ∃ O H0 own ρ, Rel K xa O H0 own σ H ρ ∧ FinX K cv W xa O H0 own σ H (evX C G x ρ) fun d ρ' own' H' => ∃ ds, d = .list ds ∧ ∀ vs, RpL K (er (hid O own') H') vs ds → R vs H'
theorem xl_nil : PA X [] (tXl K C cv G xa W .nil) := PA.imp pa_nil fun σ H R ⟨O, H0, own, ρ, R0, f⟩ => by
  simp only [evX] at f
  obtain ⟨ds, e, q⟩ := f.here R0
  cases e
  exact q [] .nil
theorem xl_cons {a r : Xe} {e : Expr} {es : List Expr} (st : noStar e = true) (ha : PE X e (tX K C cv G xa W a)) (hs : PA X es (tXl K C cv G xa W r)) : PA X (e :: es) (tXl K C cv G xa W (.cons a r)) := by
  refine PA.imp (pa_cons ha hs (star_cons st _ _)) fun σ H R ⟨O, H0, own, ρ, R0, f⟩ => ?_
  simp only [evX] at f
  refine ⟨O, H0, own, ρ, R0, f.bd.map fun d ρ1 own1 H1 R1 k1 f1 v p1 => ⟨O, H0, own1, ρ1, R1, f1.bd.map fun dl ρ2 own2 H2 R2 k2 f2 => ?_⟩⟩
  cases dl with
  | list ds =>
    refine ⟨ds, rfl, fun vs rv => ?_⟩
    obtain ⟨ds', e, q⟩ := FinX.here (show FinX K cv W xa O H0 own2 σ H2 (.ok (.list (d :: ds)) ρ2) _ from f2) R2
    cases e
    exact q (v :: vs) (.cons (p1.mono k2.same) rv)
  | _ => exact False.elim f2
theorem x_lst {a : Xe} {es : List Expr} {p : Pos} (h : PA X es (tXl K C cv G xa W a)) : PE X (.List es p) (tX K C cv G xa W (.lst a)) := by
  refine PE.imp (pe_lst h) fun σ H Q ⟨O, H0, own, ρ, R, f⟩ => ?_
  simp only [evX] at f
  refine ⟨O, H0, own, ρ, R, f.bd.map fun d ρ1 own1 H1 R1 k1 f1 => ?_⟩
  cases d with
  | list ds =>
    refine ⟨ds, rfl, fun vs rv => ?_⟩
    simp only [lstX] at f1
    split at f1
    · rename_i z
      have z' : vs.length ≤ cap := by rw [rv.length]; exact z
      exact ⟨z', fun q hq => (show FinX K cv W xa O H0 own1 σ H1 (.ok (.list ds) ρ1) _ from f1) own1 _ (R1.mono (same_upd hq)) (Kp.id (same_upd hq)) _ (new_lst hq (R1.fresh hq) z' rv)⟩
    · exact False.elim f1
  | _ => exact False.elim f1
/-- a copy, by a method without arguments: what is read -/
def tCp (K : PySem.W.Frag) (cv : Nat → Value) (G : Nat → List D → Rs D) (xa : XA) (W : WX) (i c m : Nat) : TE := fun σ H Q => ∃ O H0 own ρ fs, Rel K xa O H0 own σ H ρ ∧ ρ[i]? = some (.ob c fs) ∧
  match prN c (G m [obD c fs]) with
    | .ok (fs1, fs2) => ∀ x H' fv1, Rel K xa (fun b => O b ∨ b = x) H0 own σ H' (ρ.set i (.ob c fs2)) → Kp O own H own H' → H x = none → ObAt K H' x c fv1 → fs1.length ≤ 100 → FRp K (er (hid (fun b => O b ∨ b = x) own) H') fv1 fs1 → Q (.ref x) H'
    | .exc x => ∀ H', Rel K xa O H0 own σ H' ρ → Kp O own H own H' → W (cv x) none σ H'
    | .bad => False
theorem x_cp (hX : XC X K C cv G T xa W k hot) (hh : hot = false) {i c m : Nat} {x z : Str} {p1 p q : Pos} (h1 : nmB X.N i x = true) (h2 : visB X.env.scope x = true) (hm : T.mts.lookup m = some (c, (z, 1))) (hl : p.endLine = q.line) :
    PE X (.Call (.Attribute (.Name x p1) z p) [] [] q) (tCp K cv G xa W i c m) := by
  obtain ⟨n, d1, d2⟩ := nmB_ok h1
  refine PE.imp (run_meth (es := .nil) (C := C) hX hh (pe_var (pos := p1) n (visB_ok h2) d1 d2) rfl hm hl (by decide) rfl rfl c_nil) fun σ H Q ⟨O, H0, own, ρ, fs, R, e0, f⟩ => ?_
  obtain ⟨a, fv, e1, e2, e3, e4, e5⟩ := R.ob i c fs e0
  refine ⟨.ref a, e2, a, fv, fs, rfl, e3, e5.mono er_le, O, H0, own, ρ, R, ?_⟩
  simp only [evEs]
  intro H' s vs rv
  have hv : vs = [] := by cases rv; rfl
  subst hv
  have R' := R.mono s
  refine prN_in (pre := []) (dpre := []) (post := []) (dpost := []) R' e0 e1 .nil .nil rfl ?_
  show match prN c (G m [obD c fs]) with
    | .ok (fs1, fs2) => _
    | .exc x => _
    | .bad => _
  cases eg : prN c (G m [obD c fs]) with
  | bad => rw [eg] at f; exact f
  | exc x => rw [eg] at f; exact fun H2 R2 k2 => f H2 R2 ((Kp.id s).trans k2)
  | ok w =>
    obtain ⟨fs1, fs2⟩ := w
    rw [eg] at f
    exact fun x H2 fv1 R2 k2 hx => f x H2 fv1 R2 ((Kp.id s).trans k2) (s.free hx)
/-- .. and a method of the copy -/
theorem x_meth2 (hX : XC X K C cv G T xa W k hot) (hh : hot = false) {i c m n : Nat} {es : Exs} {x y z : Str} {p1 p2 q2 p q : Pos} {as : List Expr} (h1 : nmB X.N i x = true) (h2 : visB X.env.scope x = true) (hm : T.mts.lookup m = some (c, (y, 1))) (hl1 : p2.endLine = q2.line) (hn : T.mts.lookup n = some (c, (z, es.len + 1))) (hl : p.endLine = q.line) (h20 : as.length < 20) (hst : as.all noStar = true) (hes : es.len = as.length) (ha : PA X as (tEs K C cv G xa W es)) :
    PE X (.Call (.Attribute (.Call (.Attribute (.Name x p1) y p2) [] [] q2) z p) as [] q) (tX K C cv G xa W (.meth2 i c m n es)) := by
  refine PE.imp (run_meth hX hh (x_cp hX hh h1 h2 hm hl1) rfl (by rw [← hes]; exact hn) hl h20 hst hes ha) fun σ H Q ⟨O, H0, own, ρ, R, f⟩ => ?_
  simp only [evX] at f
  split at f
  case h_2 => exact False.elim f
  rename_i c' fs e0
  split at f
  case isFalse => exact False.elim f
  rename_i ec
  subst ec
  refine ⟨O, H0, own, ρ, fs, R, e0, ?_⟩
  cases eg : prN c' (G m [obD c' fs]) with
  | bad => rw [eg] at f; exact f
  | exc w => rw [eg] at f; exact fun H' R' k' => f own H' R' k'
  | ok w =>
    obtain ⟨fs1, fs2⟩ := w
    rw [eg] at f
    dsimp only at f ⊢
    intro x0 H' fv1 R' k' hx ox hl1 hf1
    have hO : ¬ O x0 := fun z => R.hd x0 z hx
    have hno : ∀ j, own j ≠ some x0 := fun j e => by
      obtain ⟨o, ho⟩ := R.ownAt e
      rw [hx] at ho; cases ho
    -- the copy forgotten again
    have back : ∀ H2, Rel K xa (fun b => O b ∨ b = x0) H0 own σ H2 (ρ.set i (.ob c' fs2)) → Rel K xa O H0 own σ H2 (ρ.set i (.ob c' fs2)) := fun H2 R2 => by
      have se : Same (er (hid (fun b => O b ∨ b = x0) own) H2) (er (hid O own) H2) := same_er fun a o e n => ⟨e, fun z => n (z.elim (fun z => .inl (.inl z)) .inr)⟩
      exact ⟨R2.len, R2.keep, R2.inj, fun j a e z => R2.dis j a e (.inl z), fun b z => R2.hd b (.inl z), fun j d e => let ⟨v, g1, g2⟩ := R2.cl j d e; ⟨v, g1, g2.mono se⟩, fun j ds e => let ⟨a, ys, g1, g2, g3, g4, g5⟩ := R2.ow j ds e; ⟨a, ys, g1, g2, g3, g4, g5.mono se⟩, R2.no, R2.ex, fun j d gs e => let ⟨a, gv, g1, g2, g3, g4, g5⟩ := R2.ob j d gs e; ⟨a, gv, g1, g2, g3, g4, g5.mono se⟩, R2.me⟩
    refine ⟨x0, fv1, fs1, rfl, ox, hf1.mono er_le, _, H0, own, _, R', ?_⟩
    cases ee : evEs C G es (ρ.set i (.ob c' fs2)) with
    | bad => rw [ee] at f; exact f
    | exc w => rw [ee] at f; exact fun H2 s2 => f own H2 ((back _ R').mono s2) (k'.trans (Kp.id s2))
    | ok ds =>
      rw [ee] at f
      dsimp only at f
      intro H2 s2 vs rv
      have R2 := R'.mono s2
      have hlen : (V.ref x0 :: vs).length = as.length + 1 := by rw [List.length_cons, rv.length, evEs_len ee, hes]
      have e6 : (fun b => hid O own b ∨ b = x0) = hid (fun b => O b ∨ b = x0) own := hid_or
      refine ⟨[], vs, [], ds, hid O own, x0, c', fs1, fv1, rfl, hlen, rfl, fun z => z.elim hO fun ⟨j, e⟩ => hno j e, fun b z => R2.hidden (by rw [← e6]; exact .inl z), ⟨ox.1, ox.2.choose, s2 _ _ ox.2.choose_spec⟩, hl1, by rw [e6]; exact hf1.mono (same_erO s2), .nil, by rw [e6]; exact rv, ?_⟩
      have fin : ∀ H3 fv', Same (er (fun b => b = x0) H2) H3 → ObAt K H3 x0 c' fv' → Rel K xa O H0 own σ H3 (ρ.set i (.ob c' fs2)) ∧ Kp O own H own H3 := by
        intro H3 fv' s3 ox3
        have st : ∀ b o, b ≠ x0 → H2 b = some o → H3 b = some o := fun b o n e => s3 b o (by rw [er_out (O := fun b => b = x0) n]; exact e)
        have se : Same (er (hid (fun b => O b ∨ b = x0) own) H2) (er (hid O own) H3) := same_er fun a o e nn => ⟨st a o (fun z => nn (by rw [z]; exact .inl (.inr rfl))) e, fun z => nn (z.elim (fun z => .inl (.inl z)) .inr)⟩
        refine ⟨⟨R2.len, fun b o e => ⟨st b o (fun z => by rw [z] at e; have := (R.keep x0 o e).1; rw [hx] at this; cases this) (R2.keep b o e).1, (R2.keep b o e).2⟩, R2.inj, fun j a e z => R2.dis j a e (.inl z), fun b z => ?_, fun j d e => let ⟨v, g1, g2⟩ := R2.cl j d e; ⟨v, g1, g2.mono se⟩, fun j ds e => ?_, R2.no, R2.ex, fun j d gs e => ?_, R2.me⟩, fun b o e nn => ?_⟩
        · cases q : H2 b with
          | none => exact absurd q (R2.hd b (.inl z))
          | some o => rw [st b o (fun w => hO (by rw [← w]; exact z)) q]; simp
        · obtain ⟨a, ys, g1, g2, g3, g4, g5⟩ := R2.ow j ds e
          exact ⟨a, ys, g1, g2, st _ _ (fun z => hno j (by rw [← z]; exact g1)) g3, g4, g5.mono se⟩
        · obtain ⟨a, gv, g1, g2, ⟨oc, dx, g3⟩, g4, g5⟩ := R2.ob j d gs e
          exact ⟨a, gv, g1, g2, ⟨oc, dx, st _ _ (fun z => hno j (by rw [← z]; exact g1)) g3⟩, g4, g5.mono se⟩
        · exact ⟨st b o (fun z => by rw [z, hx] at e; cases e) (s2 _ _ (k' b o e nn).1), nn⟩
      show match G n (obD c' fs1 :: ds) with
        | .ok r => _
        | .exc w => _
        | .bad => _
      cases eg2 : G n (obD c' fs1 :: ds) with
      | bad => rw [eg2] at f; exact f
      | exc w =>
        rw [eg2] at f
        exact fun H3 fv' s3 ox3 _ => let ⟨q1, q2⟩ := fin H3 fv' s3 ox3; f own H3 q1 q2
      | ok r =>
        rw [eg2] at f
        dsimp only at f ⊢
        split at f
        · exact False.elim f
        · rename_i d o nd e1
          cases e1
          split at f
          · rename_i c3 fs3 eu
            split at f
            · rename_i hc
              obtain ⟨rfl, hl3⟩ := hc
              exact ⟨d, o, fs3, rfl, eu, hl3, .inl ⟨fun kvs z => nd kvs z, fun v H3 fv' s3 ox3 _ hr => let ⟨q1, q2⟩ := fin H3 fv' s3 ox3; f own H3 q1 q2 v (hr.mono (same_er fun a u e nn => ⟨e, fun z => nn (.inl z)⟩))⟩⟩
            · exact False.elim f
          · exact False.elim f
        · rename_i e1; cases e1
        · exact False.elim f
end
end Pu

/-! Pu, part 14c: every expression with effects is kept; a class's call; attribute targets. -/
namespace Pu
open PySem PySem.Spec PyProof.Rows L2
section
variable {K : PySem.W.Frag} {C : Nat → D} {cv : Nat → Value} {G : Nat → List D → Rs D} {T : Tb} {k : Nat} {X : Cx} {xa : XA} {W : WX} {hot : Bool}
mutual
theorem sndX : ∀ (x : Xe) {e : Expr}, XC X K C cv G T xa W k hot → hot = false → ckX T X.N x X.env.scope e = true → SndX X K C cv G xa W x e
  | .pur a, e, hX, hh, h => by
    unfold ckX at h
    simp only [Bool.and_eq_true] at h
    exact x_pur hX (no_own h.1.1) (sndE a hX (fun z => by rw [hh] at z; cases z) h.2)
  | .meth i c m es, e, hX, hh, h => by
    unfold ckX at h
    split at h
    · simp only [Bool.and_eq_true, decide_eq_true_eq] at h
      obtain ⟨⟨⟨⟨⟨h1, h2⟩, h3⟩, h4⟩, h5⟩, h6⟩ := h
      obtain ⟨l1, l2⟩ := ckEs_len h6
      exact snd_x (x_meth hX hh h1 h2 h3 h4 h5 l2 l1 (sndEs es hX (fun z => by rw [hh] at z; cases z) h6)) (fun _ => rfl) (fun _ _ _ z => by cases z)
    · cases h
  | .meth2 i c m n es, e, hX, hh, h => by
    unfold ckX at h
    split at h
    · simp only [Bool.and_eq_true, decide_eq_true_eq] at h
      obtain ⟨⟨⟨⟨⟨⟨⟨h1, h2⟩, h3⟩, h4⟩, h5⟩, h6⟩, h7⟩, h8⟩ := h
      obtain ⟨l1, l2⟩ := ckEs_len h8
      exact snd_x (x_meth2 hX hh h1 h2 h3 h5 h4 h6 h7 l2 l1 (sndEs es hX (fun z => by rw [hh] at z; cases z) h8)) (fun _ => rfl) (fun _ _ _ z => by cases z)
    · cases h
  | .callo f p i es, e, hX, hh, h => by
    unfold ckX at h
    split at h
    · simp only [Bool.and_eq_true, decide_eq_true_eq] at h
      obtain ⟨⟨h1, h2⟩, h3⟩ := h
      exact snd_x (x_callo hX hh h1 h2 h3) (fun _ => rfl) (fun _ _ _ z => by cases z)
    · cases h
  | .op o a b, e, hX, hh, h => by
    unfold ckX at h
    split at h
    · simp only [Bool.and_eq_true] at h
      exact snd_x (x_op hX.eK h.1.1 (sndX a hX hh h.1.2).1 (sndX b hX hh h.2).1) (fun _ => rfl) (fun _ _ _ z => by cases z)
    · cases h
  | .cmp c a b, e, hX, hh, h => by
    unfold ckX at h
    split at h
    · simp only [Bool.and_eq_true] at h
      exact x_cmp hX.eK (hX.rm hh).units h.1.1.1 h.1.1.2 (sndX a hX hh h.1.2).1 (sndX b hX hh h.2).1
    · cases h
  | .and a b, e, hX, hh, h => by
    unfold ckX at h
    simp only [Bool.and_eq_true] at h
    obtain ⟨⟨ta, tb⟩, h⟩ := h
    split at h
    · simp only [Bool.and_eq_true] at h
      have q := xone_and (pos := by assumption) (sndX b hX hh h.2) tb
      exact x_and (sndX a hX hh h.1) ta q.1 q.2
    · simp only [Bool.and_eq_true] at h
      have q := sndX b hX hh h.2
      exact x_and (sndX a hX hh h.1) ta q.1 (q.2.2 _ _ _ rfl)
    · cases h
  | .or a b, e, hX, hh, h => by
    unfold ckX at h
    simp only [Bool.and_eq_true] at h
    obtain ⟨⟨ta, tb⟩, h⟩ := h
    split at h
    · simp only [Bool.and_eq_true] at h
      have q := xone_or (pos := by assumption) (sndX b hX hh h.2) tb
      exact x_or (sndX a hX hh h.1) ta q.1 q.2
    · simp only [Bool.and_eq_true] at h
      have q := sndX b hX hh h.2
      exact x_or (sndX a hX hh h.1) ta q.1 (q.2.2 _ _ _ rfl)
    · cases h
  | .not a, e, hX, hh, h => by
    unfold ckX at h
    simp only [Bool.and_eq_true] at h
    obtain ⟨ta, h⟩ := h
    split at h
    · exact x_not (sndX a hX hh h) ta
    · cases h
  | .bi b a, e, hX, hh, h => by
    unfold ckX at h
    split at h
    · simp only [Bool.and_eq_true, decide_eq_true_eq] at h
      obtain ⟨⟨⟨⟨h1, h2⟩, h3⟩, h4⟩, h5⟩ := h
      subst h1
      exact snd_x (x_len hX h2 h3 h4 (sndX a hX hh h5).1) (fun _ => rfl) (fun _ _ _ z => by cases z)
    · cases h
  | .lst a, e, hX, hh, h => by
    unfold ckX at h
    split at h
    · exact snd_x (x_lst (sndXl a hX hh h)) (fun _ => rfl) (fun _ _ _ z => by cases z)
    · cases h
  | .nil, e, hX, hh, h => by
    unfold ckX at h
    cases h
  | .cons _ _, e, hX, hh, h => by
    unfold ckX at h
    cases h
theorem sndXl : ∀ (x : Xe) {es : List Expr}, XC X K C cv G T xa W k hot → hot = false → ckXl T X.N x X.env.scope es = true → PA X es (tXl K C cv G xa W x)
  | .nil, es, hX, hh, h => by
    unfold ckXl at h
    rw [List.isEmpty_iff] at h
    subst h
    exact xl_nil
  | .cons a r, es, hX, hh, h => by
    unfold ckXl at h
    split at h
    · simp only [Bool.and_eq_true] at h
      obtain ⟨⟨h1, h2⟩, h3⟩ := h
      exact xl_cons h1 (sndX a hX hh h2).1 (sndXl r hX hh h3)
    · cases h
  | .pur _, es, hX, hh, h => by unfold ckXl at h; cases h
  | .meth _ _ _ _, es, hX, hh, h => by unfold ckXl at h; cases h
  | .meth2 _ _ _ _ _, es, hX, hh, h => by unfold ckXl at h; cases h
  | .callo _ _ _ _, es, hX, hh, h => by unfold ckXl at h; cases h
  | .op _ _ _, es, hX, hh, h => by unfold ckXl at h; cases h
  | .cmp _ _ _, es, hX, hh, h => by unfold ckXl at h; cases h
  | .and _ _, es, hX, hh, h => by unfold ckXl at h; cases h
  | .or _ _, es, hX, hh, h => by unfold ckXl at h; cases h
  | .not _, es, hX, hh, h => by unfold ckXl at h; cases h
  | .bi _ _, es, hX, hh, h => by unfold ckXl at h; cases h
  | .lst _, es, hX, hh, h => by unfold ckXl at h; cases h
end
end
/-! ### a class's call -/
section
variable {X : Cx} {CX : CXT} {k : Nat} {f Ca : Addr} {fd : FuncData} {ps : List Str} {sp : Sp} {E : L2.St → XK} {x : Str} {p pos : Pos} {e : Expr} {es : List Expr} {t : TA}
theorem run_makeS {pins : List (Addr × Obj)} {σ : L2.St} {H : Hp} {s : Shared} {Q : VK} {us : List Value} {vs : List V} (M : Mk X.K Ca f) (F : FnOk X.prog X.w X.K X.mg X.base CX k f fd ps sp) (hr : Room (k + 1) X.A) (hb : Binds X.K fd ps [])
    (hx : PassesAt CX X σ (E σ)) (I : Inv X pins σ H s) (r : Vals vs us)
    (h : ∀ x dx, H x = none → H dx = none → dx ≠ x → sp (.ref x :: vs) (upd (upd H dx (.own x)) x (.ins Ca dx [])) (fun v H2 => v = .non ∧ Q (.ref x) H2) (E σ)) :
    wpAny (model X.prog X.w) X.A (call (.ref Ca) us) (EP X pins σ Q) X.xe s := by
  have hq := h (s.heap.objs.size + 1) s.heap.objs.size (I.hok.fresh (Nat.le_succ _)) (I.hok.fresh (Nat.le_refl _)) (Nat.ne_of_lt (Nat.lt_succ_self _))
  have I2 := Inv.made (C := Ca) I
  have r2 : Vals (V.ref (s.heap.objs.size + 1) :: vs) (Value.ref (s.heap.objs.size + 1) :: us) := .cons rfl r
  have hl : (Value.ref (s.heap.objs.size + 1) :: us ++ []).length = ps.length := by
    have e := r2.length
    rw [F.len _ _ _ _ hq] at e
    rw [List.append_nil]
    exact e.symm
  have b := hb _ (Value.ref (s.heap.objs.size + 1) :: us) I2.kIn hl
  rw [List.append_nil] at b
  refine wpAny_call (make_map (f := f) I.kIn M.makes M.init (beq_iff_eq.mp M.fn) (codeAny_mono (F.run _ X.stack _ _ ⟨Value.ref (s.heap.objs.size + 1) :: us, []⟩ (Value.ref (s.heap.objs.size + 1) :: us) _ _ (E σ) (hr.make Ca us [])
    (I2.env0.make Ca us []) b r2 hq) fun r s' hq' => ?_))
  cases r with
  | error e => exact hx pins _ _ e s' I2 hq'
  | ok fl =>
    cases fl with
    | ret u =>
      obtain ⟨v, H', I3, rv, ev, q3⟩ := I2.after hq'
      subst ev
      exact ⟨rv, ⟨V.ref (s.heap.objs.size + 1), H', I3, rfl, q3⟩⟩
    | next => exact False.elim hq'
    | brk => exact False.elim hq'
    | cont => exact False.elim hq'
def tMakeS (Ca : Addr) (sp : Sp) (E : L2.St → XK) (t : TA) : TE := fun σ H Q => t σ H fun vs H1 => ∀ x dx, H1 x = none → H1 dx = none → dx ≠ x → sp (.ref x :: vs) (upd (upd H1 dx (.own x)) x (.ins Ca dx [])) (fun v H2 => v = .non ∧ Q (.ref x) H2) (E σ)
theorem pe_makeS (M : Mk X.K Ca f) (F : FnOk X.prog X.w X.K X.mg X.base CX k f fd ps sp) (hr : Room (k + 1) X.A) (hg : Gl X x) (hm : X.mg x = some (.ref Ca)) (hb : Binds X.K fd ps []) (hx : ∀ σ, PassesAt CX X σ (E σ))
    (ha : PA X (e :: es) t) (hdb : (x == ("__debug__" : Str)) = false) (he : starEach (e :: es) X.env = (false, eval e X.env) :: starEach es X.env) (hpl : (backTo pos (starEach es X.env)).any (·.1) = false) :
    PE X (.Call (.Name x p) (e :: es) [] pos) (tMakeS Ca sp E t) := by
  refine ⟨fun pins s σ H Q I h => ?_⟩
  refine wpAny_Call_Name_kw (ld_glob I hg hm ?_ hdb)
  refine PySem.W.callWith_K (h₀ := X.base) I.ok.mod.kin M.kp (thn (ha.run pos pins s σ H _ I h) fun us s1 ⟨vs, H1, I1, r, q⟩ => ⟨I1.kIn, ?_⟩) he hpl
  exact run_makeS M F hr hb (hx σ) I1 r q
end
section
variable {K : PySem.W.Frag} {C : Nat → D} {cv : Nat → Value} {G : Nat → List D → Rs D} {T : Tb} {k : Nat} {X : Cx} {xa : XA} {W : WX} {hot : Bool}
variable {O : Addr → Prop} {H0 : Hp} {own : Ow} {σ : L2.St} {H H' : Hp} {ρ : Env} {Q : VK}
/-- what a class's call answers -/
def evMk (C : Nat → D) (G : Nat → List D → Rs D) (c m : Nat) (es : Exs) (ρ : Env) : Rs Slot := (evEs C G es ρ).bd fun ds => (G m (obD c [] :: ds)).bd (prOb c)
def tMk (K : PySem.W.Frag) (C : Nat → D) (cv : Nat → Value) (G : Nat → List D → Rs D) (xa : XA) (W : WX) (c m : Nat) (es : Exs) : TE := fun σ H Q => ∃ O H0 own ρ, Rel K xa O H0 own σ H ρ ∧
  Fin cv W σ H (evMk C G c m es ρ) fun s H' => ∀ x fv fs, s = .ob c fs → H x = none → ObAt K H' x c fv → fs.length ≤ 100 → FRp K (er (hid (fun b => O b ∨ b = x) own) H') fv fs → Q (.ref x) H'
theorem prOb_ok {c : Nat} {r : D} {s : Slot} (h : prOb c r = .ok s) : ∃ o fs, r = .tuple [.none, o] ∧ unOb o = some (c, fs) ∧ fs.length ≤ 100 ∧ s = .ob c fs := by
  unfold prOb at h
  split at h
  · rename_i o
    split at h
    · rename_i c' fs e
      split at h
      · rename_i z
        obtain ⟨z1, z2⟩ := z
        subst z1
        cases h
        exact ⟨o, fs, rfl, e, z2, rfl⟩
      · cases h
    · cases h
  · cases h
theorem prOb_noexc {c : Nat} {r : D} {x : Nat} : prOb c r ≠ .exc x := by
  intro h
  unfold prOb at h
  split at h
  · split at h
    · split at h <;> cases h
    · cases h
  · cases h
theorem c_mk (hX : XC X K C cv G T xa W k hot) (hh : hot = false) {c m : Nat} {es : Exs} {v : Expr} (h : ckMk T X.N c m es X.env.scope v = true) : PE X v (tMk K C cv G xa W c m es) ∧ isCall v = true ∧ isComp v = false ∧ noStar v = true := by
  unfold ckMk at h
  split at h
  · rename_i x p a as q
    simp only [Bool.and_eq_true, decide_eq_true_eq] at h
    obtain ⟨⟨⟨h1, h2⟩, h3⟩, h4⟩ := h
    subst h1
    obtain ⟨g, d1⟩ := glB_ok h2
    obtain ⟨f, fd, ps, oc, hmt, hnm, hi, b, F⟩ := hX.lk.mt m c _ _ h3
    obtain ⟨M, hmg⟩ := hi rfl
    obtain ⟨l1, l2⟩ := ckEs_len h4
    rw [List.all_cons, Bool.and_eq_true] at l2
    have eK := hX.eK
    subst eK
    refine ⟨PE.imp (pe_makeS M F (hX.rm hh) g hmg b (fun σ => passAt hX.tk σ) (sndEs es hX (fun z => by rw [hh] at z; cases z) h4) d1 (star_cons l2.1 _ _) (back_any l2.2)) fun σ H Q ⟨O, H0, own, ρ, R, f⟩ => ?_, rfl, rfl, rfl⟩
    unfold evMk at f
    refine ⟨O, H0, own, ρ, R, ?_⟩
    cases ee : evEs C G es ρ with
    | bad => rw [ee] at f; exact f
    | exc w => rw [ee] at f; exact f
    | ok ds =>
    rw [ee] at f
    intro H1 s1 vs rv x dx hx hd ne
    have f1 : Fin cv W σ H1 ((G m (obD c [] :: ds)).bd (prOb c)) _ := Fin.mono (show Fin cv W σ H ((G m (obD c [] :: ds)).bd (prOb c)) _ from f) s1
    have R1 := R.mono s1
    have hxO : ¬ hid O own x := R1.fresh hx
    have sN : Same H1 (upd (upd H1 dx (.own x)) x (.ins (He.ga X.K (clsNm c)) dx [])) := fun b o e => by
      rw [upd_ne (ne_of_none e hx), upd_ne (ne_of_none e hd)]; exact e
    have sE : Same (er (hid O own) H1) (er (fun b => hid O own b ∨ b = x) (upd (upd H1 dx (.own x)) x (.ins (He.ga X.K (clsNm c)) dx []))) := same_er fun b o e n => ⟨sN b o e, fun z => z.elim n (ne_of_none e hx)⟩
    have back : ∀ H', Same (er (fun b => b = x) (upd (upd H1 dx (.own x)) x (.ins (He.ga X.K (clsNm c)) dx []))) H' → Same H1 H' := fun H' s b o e => s b o (by rw [er_out (O := fun b => b = x) (ne_of_none e hx)]; exact sN b o e)
    refine ⟨[], vs, [], ds, hid O own, x, c, [], [], rfl, ?_, rfl, hxO, fun b z => ?_, ⟨oc, dx, upd_same⟩, Nat.zero_le _, .nil, .nil, rv.mono sE, ?_⟩
    · rw [List.length_cons, rv.length, evEs_len ee]
    · cases q : H1 b with
      | none => exact absurd q (R1.hidden z)
      | some o => rw [sN b o q]; simp
    · show match G m (obD c [] :: ds) with
        | .ok r => _
        | .exc w => _
        | .bad => _
      cases eg : G m (obD c [] :: ds) with
      | bad => rw [eg] at f1; exact f1
      | exc w =>
        rw [eg] at f1
        exact fun H' fv' s oa hf => f1 H' (back H' s)
      | ok r =>
        rw [eg] at f1
        dsimp only [bdk] at f1 ⊢
        cases ep : prOb c r with
        | bad => rw [ep] at f1; exact False.elim f1
        | exc w => exact absurd ep prOb_noexc
        | ok s =>
          obtain ⟨o, fs, e1, e2, e3, e4⟩ := prOb_ok ep
          subst e1 e4
          rw [ep] at f1
          refine ⟨.none, o, fs, rfl, e2, e3, .inl ⟨fun kvs z => (by cases z), fun v H' fv' s oa hf hr => ⟨(by cases hr; rfl), ?_⟩⟩⟩
          exact f1 H' (back H' s) x fv' fs rfl (s1.free hx) oa e3 (by rw [← hid_or]; exact hf)
  · cases h
/-- a name's own object is no one's from now on -/
theorem Rel.giveO (R : Rel K xa O H0 own σ H ρ) {i c : Nat} {fs : List (Nat × D)} {a : Addr} (e0 : ρ[i]? = some (.ob c fs)) (ho : own i = some a) : Rel K xa (fun b => O b ∨ b = a) H0 (offO own i) (σ.set i none) H (ρ.set i .no) ∧ (hid (fun b => O b ∨ b = a) (offO own i) = hid O own) := by
  have eh : hid (fun b => O b ∨ b = a) (offO own i) = hid O own := funext fun b => propext ⟨fun z => by
    rcases z with (z | z) | ⟨j, z⟩
    · exact .inl z
    · exact .inr ⟨i, by rw [z]; exact ho⟩
    · exact .inr ⟨j, offO_le z⟩, fun z => by
    rcases z with z | ⟨j, z⟩
    · exact .inl (.inl z)
    · by_cases hj : j = i
      · subst hj; rw [ho] at z; cases z; exact .inl (.inr rfl)
      · exact .inr ⟨j, by unfold offO; rw [if_neg hj]; exact z⟩⟩
  have hi : i < σ.length := by rw [R.len]; exact (List.getElem?_eq_some_iff.mp e0).1
  have R1 := R.put (i := i) (s := .no) (y := none) rfl (fun _ z => by cases z) (fun _ z => by cases z) hi
  have hoff : ∀ j b, offO own i j = some b → b ≠ a := fun j b z w => by
    subst w
    have e := R.inj j i b (offO_le z) ho
    subst e
    unfold offO at z
    rw [if_pos rfl] at z
    cases z
  have se : ∀ j : Nat, ∀ s, (ρ.set i .no)[j]? = some s → s ≠ .no → ρ[j]? = some s ∧ j ≠ i := fun j s e n => by
    by_cases hj : j = i
    · subst hj
      rw [List.getElem?_set_self (by rw [← R.len]; exact hi)] at e
      cases e; exact absurd rfl n
    · rw [List.getElem?_set_ne (Ne.symm hj)] at e
      exact ⟨e, hj⟩
  refine ⟨⟨R1.len, R1.keep, R1.inj, fun j b z w => w.elim (R1.dis j b z) (hoff j b z), fun b z => z.elim (R.hd b) fun z => by rw [z]; obtain ⟨o, e⟩ := R.ownAt ho; rw [e]; simp, fun j d e => ?_, fun j ds e => ?_, R1.no, R1.ex, fun j c' gs e => ?_, R1.me⟩, eh⟩
  · obtain ⟨e1, hj⟩ := se j _ e (by simp)
    obtain ⟨v, h1, h2⟩ := R.cl j d e1
    exact ⟨v, by rw [List.getElem?_set_ne (Ne.symm hj)]; exact h1, by rw [eh]; exact h2⟩
  · obtain ⟨e1, hj⟩ := se j _ e (by simp)
    obtain ⟨b, xs, h1, h2, h3, h4, h5⟩ := R.ow j ds e1
    exact ⟨b, xs, by unfold offO; rw [if_neg hj]; exact h1, by rw [List.getElem?_set_ne (Ne.symm hj)]; exact h2, h3, h4, by rw [eh]; exact h5⟩
  · obtain ⟨e1, hj⟩ := se j _ e (by simp)
    obtain ⟨b, gv, h1, h2, h3, h4, h5⟩ := R.ob j c' gs e1
    exact ⟨b, gv, by unfold offO; rw [if_neg hj]; exact h1, by rw [List.getElem?_set_ne (Ne.symm hj)]; exact h2, h3, h4, by rw [eh]; exact h5⟩
end
/-! ### attribute targets -/
section
variable {X : Cx} {o : Expr} {f : Str} {pos : Pos} {to : TE}
def gFld (K : PySem.W.Frag) (to : TE) (f : Str) : TG := fun v σ H Q => to σ H fun x H1 => ∃ a C dx fs, x = .ref a ∧ H1 a = some (.ins C dx fs) ∧ Cls K C ∧ NoAttr K C f ∧ fs.length < 1000 ∧ Q σ (upd H1 a (.ins C dx (putF f v fs)))
theorem pg_fld (ho : PE X o to) : PG X (.Attribute o f pos) (gFld X.K to f) := by
  refine ⟨fun pins s σ H v u Q I r h => ?_⟩
  rw [PySem.assign_Attribute]
  refine wpAny_bind (wpAny_holding (thn (ho.run pins s σ H _ I h) fun ov s1 ⟨x, H1, I1, r1, a, C, dx, fs, ex, ea, c, n, l, q⟩ => ?_))
  subst ex
  obtain rfl : ov = Value.ref a := r1
  refine wpAny_bind (wpAny_standAt (wpAny_bind (wpAny_holding (setattr_ok I1 ea c n l r fun s3 I3 => ?_))))
  exact wpAny_release ⟨σ, _, I3, q⟩
def gX (K : PySem.W.Frag) : Tx1 → TG
  | .sl i => gName i
  | .at_ i f => gFld K (tVar i) (fldNm f)
def gXs (K : PySem.W.Frag) : List Tx1 → TGs
  | [] => gNil
  | t :: ts => gCons (gX K t) (gXs K ts)
theorem ckTx_len {N : List Str} {p vis : Str → Bool} {env : PySem.Env} : ∀ {ts : List Tx1} {es : List Expr}, ckTx N p vis ts es = true → (assignEach es env).length = ts.length ∧ (assignEach es env).findIdx? (·.1) = none
  | [], [], _ => ⟨rfl, rfl⟩
  | [], _ :: _, h => by simp [ckTx] at h
  | .sl _ :: _, [], h => by simp [ckTx] at h
  | .at_ _ _ :: _, [], h => by simp [ckTx] at h
  | .sl i :: ts, e :: es, h => by
    unfold ckTx at h
    rw [Bool.and_eq_true] at h
    obtain ⟨h1, h2⟩ := ckTx_len (env := env) h.2
    cases e <;> first | (exact absurd (show false = true from h.1) Bool.false_ne_true) | skip
    refine ⟨by show (assignEach es env).length + 1 = ts.length + 1; rw [h1], ?_⟩
    show List.findIdx? (·.1) ((false, _) :: assignEach es env) = none
    rw [List.findIdx?_cons]
    simp only [Bool.false_eq_true, if_false]
    rw [h2] <;> rfl
  | .at_ i f :: ts, e :: es, h => by
    unfold ckTx at h
    rw [Bool.and_eq_true] at h
    obtain ⟨h1, h2⟩ := ckTx_len (env := env) h.2
    cases e <;> first | (exact absurd (show false = true from h.1) Bool.false_ne_true) | skip
    refine ⟨by show (assignEach es env).length + 1 = ts.length + 1; rw [h1], ?_⟩
    show List.findIdx? (·.1) ((false, _) :: assignEach es env) = none
    rw [List.findIdx?_cons]
    simp only [Bool.false_eq_true, if_false]
    rw [h2] <;> rfl
theorem pgs_x {p vis : Str → Bool} (hN : X.N.Nodup) (hp : ∀ x, p x = true → Loc X.env.scope x ∧ (X.fn x = true ∨ X.env.scope.names.lookup x = some .local)) (hv : ∀ x, vis x = true → Vis X.env.scope x) : ∀ {ts : List Tx1} {es : List Expr}, ckTx X.N p vis ts es = true → PGs X es (gXs X.K ts)
  | [], [], _ => pgs_nil
  | [], _ :: _, h => by simp [ckTx] at h
  | .sl _ :: _, [], h => by simp [ckTx] at h
  | .at_ _ _ :: _, [], h => by simp [ckTx] at h
  | .sl i :: ts, e :: es, h => by
    unfold ckTx at h
    rw [Bool.and_eq_true] at h
    cases e <;> first | (exact absurd (show false = true from h.1) Bool.false_ne_true) | skip
    exact pgs_cons (pg_one hN hp h.1) (pgs_x hN hp hv h.2) rfl
  | .at_ i f :: ts, e :: es, h => by
    unfold ckTx at h
    rw [Bool.and_eq_true] at h
    obtain ⟨h1, h2⟩ := h
    split at h1
    · rename_i x px y py
      simp only [Bool.and_eq_true, decide_eq_true_eq] at h1
      obtain ⟨⟨⟨h1, h3⟩, h4⟩, h5⟩ := h1
      subst h4
      obtain ⟨n, d1, d2⟩ := nmB_ok h1
      exact pgs_cons (pg_fld (pe_var n (hv _ h3) d1 d2)) (pgs_x hN hp hv h2) rfl
    · cases h1
theorem ckTx_at {N : List Str} {p vis : Str → Bool} : ∀ {ts : List Tx1} {es : List Expr}, ckTx N p vis ts es = true → ∀ t ∈ ts, (∀ i, t = .sl i → i < N.length) ∧ ∀ i f, t = .at_ i f → f < 8
  | [], _, _, _, h => by cases h
  | .sl _ :: _, [], h, _, _ => by simp [ckTx] at h
  | .at_ _ _ :: _, [], h, _, _ => by simp [ckTx] at h
  | .sl i :: ts, e :: es, h, t, ht => by
    unfold ckTx at h
    rw [Bool.and_eq_true] at h
    rcases List.mem_cons.mp ht with rfl | ht
    · refine ⟨fun j e => ?_, fun j g e => by cases e⟩
      cases e
      have h1 := h.1
      split at h1
      · rw [Bool.and_eq_true] at h1
        exact (List.getElem?_eq_some_iff.mp (nmB_ok h1.1).1).1
      · cases h1
    · exact ckTx_at h.2 t ht
  | .at_ i f :: ts, e :: es, h, t, ht => by
    unfold ckTx at h
    rw [Bool.and_eq_true] at h
    rcases List.mem_cons.mp ht with rfl | ht
    · refine ⟨fun j e => by (cases e), fun j g e => ?_⟩
      cases e
      have h1 := h.1
      split at h1
      · simp only [Bool.and_eq_true, decide_eq_true_eq] at h1
        exact h1.2
      · cases h1
    · exact ckTx_at h.2 t ht
end
section
variable {K : PySem.W.Frag} {xa : XA} {O : Addr → Prop} {H0 : Hp}
/-- an attribute of a name's own object, stored -/
theorem Rel.fset {own : Ow} {σ : L2.St} {H : Hp} {ρ : Env} (R : Rel K xa O H0 own σ H ρ) {i c f : Nat} {fs : List (Nat × D)} {v : V} {d : D} (e0 : ρ[i]? = some (.ob c fs)) (hl : fs.length < 100) (hf : f < 8) (p : Rp K (er (hid O own) H) v d) :
    ∃ a dx fv, σ[i]? = some (some (.ref a)) ∧ H a = some (.ins (He.ga K (clsNm c)) dx fv) ∧ Cls K (He.ga K (clsNm c)) ∧ NoAttr K (He.ga K (clsNm c)) (fldNm f) ∧ fv.length < 1000 ∧
      Rel K xa O H0 own σ (upd H a (.ins (He.ga K (clsNm c)) dx (putF (fldNm f) v fv))) (ρ.set i (.ob c (putN f d fs))) ∧ Kp O own H own (upd H a (.ins (He.ga K (clsNm c)) dx (putF (fldNm f) v fv))) := by
  obtain ⟨a, fv, e1, e2, ⟨oc, dx, e3⟩, e4, e5⟩ := R.ob i c fs e0
  have ah : hid O own a := .inr ⟨i, e1⟩
  have s1 : Same (er (fun b => b = a) H) (upd H a (.ins (He.ga K (clsNm c)) dx (putF (fldNm f) v fv))) := fun b o e => by
    obtain ⟨n, e⟩ := er_some e
    rw [upd_ne n]; exact e
  have se : Same (er (hid O own) H) (er (hid O own) (upd H a (.ins (He.ga K (clsNm c)) dx (putF (fldNm f) v fv)))) := same_er fun b o e n => ⟨by rw [upd_ne (fun z => n (by rw [z]; exact ah))]; exact e, n⟩
  have l := e5.length
  obtain ⟨q1, q2⟩ := R.reob e0 e1 s1 ⟨oc, dx, upd_same⟩ (Nat.le_trans (putN_len f d fs) hl) ((e5.mono se).put hf (p.mono se))
  exact ⟨a, dx, fv, e2, e3, oc.cls, oc.na f hf, by omega, q1, q2⟩
theorem setTs_len : ∀ {ts : List Tx1} {ds : List D} {ρ ρ1 : Env}, setTs ts ds ρ = some ρ1 → ds.length = ts.length
  | [], [], _, _, _ => rfl
  | [], _ :: _, _, _, e => by unfold setTs at e; cases e
  | .sl _ :: _, [], _, _, e => by simp [setTs] at e
  | .at_ _ _ :: _, [], _, _, e => by simp [setTs] at e
  | .sl i :: ts, d :: ds, ρ, ρ1, e => by
    unfold setTs at e
    rw [List.length_cons, List.length_cons, setTs_len e]
  | .at_ i f :: ts, d :: ds, ρ, ρ1, e => by
    unfold setTs at e
    split at e
    · split at e
      · rw [List.length_cons, List.length_cons, setTs_len e]
      · cases e
    · cases e
theorem gXs_set {Q : L2.St → Hp → Prop} : ∀ {ts : List Tx1} {vs : List V} {ds : List D} {own : Ow} {σ : L2.St} {H : Hp} {ρ ρ1 : Env}, Rel K xa O H0 own σ H ρ → setTs ts ds ρ = some ρ1 → RpL K (er (hid O own) H) vs ds → (∀ t ∈ ts, (∀ i, t = .sl i → i < σ.length) ∧ ∀ i f, t = .at_ i f → f < 8) →
    (∀ own1 σ1 H1, Rel K xa O H0 own1 σ1 H1 ρ1 → Kp O own H own1 H1 → Q σ1 H1) → gXs K ts vs σ H Q
  | [], vs, [], own, σ, H, ρ, ρ1, R, e, rv, _, q => by
    unfold setTs at e
    cases e
    cases rv
    exact ⟨rfl, q own σ H R Kp.refl⟩
  | [], _, _ :: _, _, _, _, _, _, _, e, _, _, _ => by unfold setTs at e; cases e
  | .sl _ :: _, _, [], _, _, _, _, _, _, e, _, _, _ => by simp [setTs] at e
  | .at_ _ _ :: _, _, [], _, _, _, _, _, _, e, _, _, _ => by simp [setTs] at e
  | .sl i :: ts, _, d :: ds, own, σ, H, ρ, ρ1, R, e, .cons (v := v) (vs := vs) p rv, hi, q => by
    unfold setTs at e
    have so : Same (er (hid O own) H) (er (hid O (offO own i)) H) := er_own fun _ _ => offO_le
    refine ⟨v, vs, rfl, gXs_set (R.set p) e (rv.mono so) (fun t ht => ⟨fun j ej => by rw [List.length_set]; exact (hi t (List.mem_cons_of_mem _ ht)).1 j ej, (hi t (List.mem_cons_of_mem _ ht)).2⟩) fun own1 σ1 H1 R1 k1 => q own1 σ1 H1 R1 ((Kp.off (Same.refl _)).trans k1)⟩
  | .at_ i f :: ts, _, d :: ds, own, σ, H, ρ, ρ1, R, e, .cons (v := v) (vs := vs) p rv, hi, q => by
    unfold setTs at e
    split at e
    · rename_i c fs e0
      split at e
      · rename_i hl
        obtain ⟨a, dx, fv, h1, h2, h3, h4, h5, R1, k1⟩ := R.fset e0 hl ((hi _ List.mem_cons_self).2 i f rfl) p
        refine ⟨v, vs, rfl, .ref a, h1, a, _, dx, fv, rfl, h2, h3, h4, h5, ?_⟩
        exact gXs_set R1 e (rv.mono k1.same) (fun t ht => hi t (List.mem_cons_of_mem _ ht)) fun own2 σ2 H2 R2 k2 => q own2 σ2 H2 R2 (k1.trans k2)
      · cases e
    · cases e
end
end Pu

/-! Pu, part 15: parallel assignments. -/
namespace Pu
open PySem PySem.Spec PyProof.Rows L2

theorem swN_ok {env : PySem.Env} {ts vs : List Expr} {r : Option (List Str)} {k1 k2 : _} {p1 p2 : Pos} (hk : env.scope.kind = .function) (h : swN env.scope ts vs = some r) : swappedStores [.Tuple ts k1 p1] (.Tuple vs k2 p2) env = pure r := by
  have hb : env.blockKind = .function := by unfold Env.blockKind; rw [hk]; rfl
  have hn : (env.blockKind != .function) = false := by rw [hb]; rfl
  unfold swN at h
  unfold swappedStores
  simp only [hn, Bool.or_false, pure_bind] at h ⊢
  split at h
  · rename_i c
    split
    · cases h; rfl
    · rename_i c2; exact absurd c c2
  rename_i c
  split
  · rename_i c2; exact absurd c2 c
  split at h
  · rename_i c
    split
    · cases h; rfl
    · rename_i c2; exact absurd c c2
  rename_i c
  split
  · rename_i c2; exact absurd c2 c
  split at h
  · rename_i c
    split
    · cases h; rfl
    · rename_i c2; exact absurd c c2
  rename_i c
  split
  · rename_i c2; exact absurd c2 c
  split at h
  · rename_i c
    split
    · cases h; rfl
    · rename_i c2; exact absurd c c2
  rename_i c
  split
  · rename_i c2; exact absurd c2 c
  split at h
  · cases h
  rename_i c
  split
  · rename_i c2; exact absurd c2 c
  cases h; rfl
def setV : List Nat → List V → L2.St → L2.St
  | i :: is, v :: vs, σ => (setV is vs σ).set i (some v)
  | _, _, σ => σ
theorem setV_length : ∀ {is : List Nat} {vs : List V} {σ : L2.St}, (setV is vs σ).length = σ.length
  | [], _, _ => by unfold setV; rfl
  | _ :: _, [], _ => by unfold setV; rfl
  | i :: is, v :: vs, σ => by unfold setV; rw [List.length_set, setV_length]
theorem setV_set {i : Nat} {v : V} : ∀ {is : List Nat} {vs : List V} {σ : L2.St}, i ∉ is → setV is vs (σ.set i (some v)) = (setV is vs σ).set i (some v)
  | [], _, _, _ => by unfold setV; rfl
  | _ :: _, [], _, _ => by unfold setV; rfl
  | j :: is, u :: vs, σ, h => by
    have h1 : i ≠ j := fun e => h (by rw [e]; exact List.mem_cons_self)
    have h2 : i ∉ is := fun e => h (List.mem_cons_of_mem _ e)
    unfold setV
    rw [setV_set h2, List.set_comm _ _ h1]
theorem gNs_set {P : L2.St → Hp → Prop} {H : Hp} : ∀ {is : List Nat} {vs : List V} {σ : L2.St}, is.Nodup → vs.length = is.length → P (setV is vs σ) H → gNs is vs σ H P
  | [], [], _, _, _, p => ⟨rfl, p⟩
  | [], _ :: _, _, _, e, _ => by cases e
  | _ :: _, [], _, _, e, _ => by cases e
  | i :: is, v :: vs, σ, nd, e, p => by
    rw [List.nodup_cons] at nd
    refine ⟨v, vs, rfl, ?_⟩
    refine gNs_set nd.2 (by simpa using e) ?_
    rw [setV_set nd.1]
    exact p
/-- the parts' values, with the new lists hidden -/
inductive AdR (K : PySem.W.Frag) (xm : Option (Nat × Addr)) (H0 : Hp) (own : Ow) (H : Hp) (O' : Addr → Prop) : (Addr → Prop) → List Nat → List V → List Slot → Prop
  | nil : AdR K xm H0 own H O' O' [] [] []
  | cl {O : Addr → Prop} {i : Nat} {is : List Nat} {v : V} {vs : List V} {d : D} {ss : List Slot} : Rp K (er (hid O' own) H) v d → AdR K xm H0 own H O' O is vs ss → AdR K xm H0 own H O' O (i :: is) (v :: vs) (.cl d :: ss)
  | ow {O : Addr → Prop} {i : Nat} {is : List Nat} {p : Addr} {vs xs : List V} {ds : List D} {ss : List Slot} : ¬ O p → H0 p = none → H p = some (.lst xs) → xs.length ≤ cap → RpL K (er (hid O' own) H) xs ds →
      AdR K xm H0 own H O' (fun a => O a ∨ a = p) is vs ss → AdR K xm H0 own H O' O (i :: is) (.ref p :: vs) (.ow ds :: ss)
  | ob {O : Addr → Prop} {i : Nat} {is : List Nat} {p : Addr} {vs : List V} {c : Nat} {fs : List (Nat × D)} {fv : List (Str × V)} {ss : List Slot} : ¬ O p → H0 p = none → ObAt K H p c fv → fs.length ≤ 100 → FRp K (er (hid O' own) H) fv fs → (∀ a, xm ≠ some (i, a)) →
      AdR K xm H0 own H O' (fun a => O a ∨ a = p) is vs ss → AdR K xm H0 own H O' O (i :: is) (.ref p :: vs) (.ob c fs :: ss)
section
variable {K : PySem.W.Frag} {C : Nat → D} {cv : Nat → Value} {G : Nat → List D → Rs D} {T : Tb} {k : Nat} {X : Cx} {xa : XA} {W : WX} {hot : Bool}
variable {O O' : Addr → Prop} {H0 : Hp} {own : Ow} {σ : L2.St} {H H' : Hp} {ρ : Env}
theorem AdR.len {is : List Nat} {us : List V} {ss : List Slot} (A : AdR K xa.m H0 own H O' O is us ss) : us.length = is.length := by
  induction A with
  | nil => rfl
  | cl _ _ ih => simp [ih]
  | ow _ _ _ _ _ _ ih => simp [ih]
  | ob _ _ _ _ _ _ _ ih => simp [ih]
theorem AdR.go {is : List Nat} {us : List V} {ss : List Slot} (A : AdR K xa.m H0 own H O' O is us ss) (R : Rel K xa O' H0 own σ H ρ) (hi : ∀ i ∈ is, i < σ.length) :
    ∃ own1, Rel K xa O H0 own1 (setV is us σ) H (setPs is ss ρ) ∧ ∀ a, hid O own1 a → hid O' own a := by
  induction A with
  | nil => exact ⟨own, by unfold setV setPs; exact R, fun a h => h⟩
  | @cl O i is v vs d ss r A ih =>
    obtain ⟨own1, R1, h1⟩ := ih fun j hj => hi j (List.mem_cons_of_mem _ hj)
    refine ⟨offO own1 i, ?_, fun a h => h1 a (h.elim .inl fun ⟨j, e⟩ => .inr ⟨j, offO_le e⟩)⟩
    unfold setV setPs
    exact R1.set (r.mono (same_er fun a o e n => ⟨e, fun c => n (h1 a c)⟩))
  | @ow O i is p vs xs ds ss n h0 hp z l A ih =>
    obtain ⟨own1, R1, h1⟩ := ih fun j hj => hi j (List.mem_cons_of_mem _ hj)
    refine ⟨setO own1 i p, ?_, fun a h => h1 a (hid_setO h)⟩
    unfold setV setPs
    exact R1.adopt n h0 hp z (l.mono (same_er fun a o e n => ⟨e, fun c => n (h1 a c)⟩)) (by rw [setV_length]; exact hi i List.mem_cons_self)
  | @ob O i is p vs c fs fv ss n h0 oa z l hm A ih =>
    obtain ⟨own1, R1, h1⟩ := ih fun j hj => hi j (List.mem_cons_of_mem _ hj)
    refine ⟨setO own1 i p, ?_, fun a h => h1 a (hid_setO h)⟩
    unfold setV setPs
    exact R1.adoptO n h0 oa z (l.mono (same_er fun a o e n => ⟨e, fun c => n (h1 a c)⟩)) (by rw [setV_length]; exact hi i List.mem_cons_self) hm
def tP (K : PySem.W.Frag) (C : Nat → D) (cv : Nat → Value) (G : Nat → List D → Rs D) (xa : XA) (W : WX) (ps : Ps) : TA := fun σ H R => ∃ O H0 own ρ, Rel K xa O H0 own σ H ρ ∧
  Fin cv W σ H (evP C G ps ρ) fun ss H' => ∀ us O', (∀ b, O' b → O b ∨ H b = none) → Rel K xa O' H0 own σ H' ρ → AdR K xa.m H0 own H' O' O ps.slots us ss → R us H'
theorem prt_list {r : Rs D} : r.bd (prt true) = (r.bd asList).bd fun ds => .ok (.ow ds) := by
  cases r with
  | ok d => cases d <;> rfl
  | exc c => rfl
  | bad => rfl
theorem prt_cl {r : Rs D} : r.bd (prt false) = r.bd fun d => .ok (.cl d) := by cases r <;> rfl
theorem sndP (hX : XC X K C cv G T xa W k hot) (hh : hot = false) : ∀ {ps : Ps} {ts vs : List Expr}, ckP T X.N ps X.env.scope ts vs = true → PA X vs (tP K C cv G xa W ps) ∧ ∀ i ∈ ps.slots, i < X.N.length
  | .nil, [], [], h => ⟨PA.imp pa_nil fun σ H R ⟨O, H0, own, ρ, R', f⟩ => by
      simp only [evP] at f
      exact f.ok [] O (fun b h => .inl h) R' .nil, fun i hi => by cases hi⟩
  | .nil, [], _ :: _, h => by simp [ckP] at h
  | .nil, _ :: _, _, h => by simp [ckP] at h
  | .cons i o e r, [], _, h => by simp [ckP] at h
  | .cons i o e r, _ :: _, [], h => by simp [ckP] at h
  | .mk i c m es r, [], _, h => by simp [ckP] at h
  | .mk i c m es r, _ :: _, [], h => by simp [ckP] at h
  | .mk i c m es r, t :: ts, v :: vs, h => by
    unfold ckP at h
    simp only [Bool.and_eq_true, decide_eq_true_eq] at h
    obtain ⟨⟨⟨⟨ht, st⟩, hme⟩, he⟩, hr⟩ := h
    obtain ⟨pr, hl⟩ := sndP hX hh hr
    have hi0 : i < X.N.length := by
      split at ht
      · rw [Bool.and_eq_true] at ht
        exact (List.getElem?_eq_some_iff.mp (nmB_ok ht.1).1).1
      · cases ht
    have hm : ∀ a, xa.m ≠ some (i, a) := fun a e => hme (hX.me i a e)
    refine ⟨?_, fun j hj => ?_⟩
    · refine PA.imp (pa_cons (c_mk hX hh he).1 pr (star_cons st _ _)) fun σ H Q ⟨O, H0, own, ρ, R, f⟩ => ?_
      simp only [evP] at f
      have f := Fin.bd (r := evMk C G c m es ρ) f
      refine ⟨O, H0, own, ρ, R, f.map fun s H1 s1 f1 x fv fs es hx oa hl hf => ?_⟩
      subst es
      have h0 : H0 x = none := by
        cases q : H0 x with
        | none => rfl
        | some o => rw [(R.keep x o q).1] at hx; cases hx
      refine ⟨fun a => O a ∨ a = x, H0, own, ρ, R.birth hx s1 oa.2.choose_spec, Fin.map (Fin.bd f1) fun ss H2 s2 f2 us O' hO R' A => ?_⟩
      refine f2.ok (.ref x :: us) O' (fun b hb => ?_) R' (.ob (fun c => R.hd x c hx) h0 ⟨oa.1, oa.2.choose, s2 _ _ oa.2.choose_spec⟩ hl (hf.mono (same_er fun a u e n => ⟨s2 a u e, fun c => ?_⟩)) hm A)
      · rcases hO b hb with (c | c) | c
        · exact .inl c
        · subst c; exact .inr hx
        · exact .inr (s1.free c)
      · rcases c with c | c
        · rcases hO a c with c | c
          · exact n (.inl c)
          · rw [c] at e; cases e
        · exact n (.inr c)
    · rcases List.mem_cons.mp hj with e | hj
      · subst e; exact hi0
      · exact hl j hj
  | .cons i o e r, t :: ts, v :: vs, h => by
    unfold ckP at h
    simp only [Bool.and_eq_true] at h
    obtain ⟨⟨⟨⟨⟨ht, no⟩, st⟩, hf⟩, he⟩, hr⟩ := h
    obtain ⟨pr, hl⟩ := sndP hX hh hr
    have hi0 : i < X.N.length := by
      split at ht
      · rw [Bool.and_eq_true] at ht
        exact (List.getElem?_eq_some_iff.mp (nmB_ok ht.1).1).1
      · cases ht
    refine ⟨?_, fun j hj => ?_⟩
    · cases o with
      | false =>
        refine PA.imp (pa_cons (sndE e hX (fun z => by rw [hh] at z; cases z) he).1 pr (star_cons st _ _)) fun σ H Q ⟨O, H0, own, ρ, R, f⟩ => ?_
        simp only [evP, prt_cl, bd_bd] at f
        refine ⟨O, H0, own, ρ, R, f.bd.map fun d H1 s1 f1 x p1 => ⟨O, H0, own, ρ, R.mono s1, Fin.map (Fin.bd f1) fun ss H2 s2 f2 us O' hO R' A => ?_⟩⟩
        refine f2.ok (x :: us) O' (fun b hb => (hO b hb).elim .inl fun z => .inr (s1.free z)) R' (.cl ((p1.2 (no_own no)).mono (same_er fun a u e n => ⟨s2 a u e, fun c => ?_⟩)) A)
        rcases c with c | c
        · rcases hO a c with c | c
          · exact n (.inl c)
          · rw [c] at e; cases e
        · exact n (.inr c)
      | true =>
        have hfe : freshX e = true := by simpa using hf
        refine PA.imp (pa_cons (sndF hX hh hfe he) pr (star_cons st _ _)) fun σ H Q ⟨O, H0, own, ρ, R, f⟩ => ?_
        simp only [evP, prt_list] at f
        rw [bd_bd] at f
        refine ⟨O, H0, own, ρ, R, f.bd.map fun ds H1 s1 f1 p fr => ?_⟩
        obtain ⟨xs, g1, g2, g3, g4⟩ := id fr
        have h0 : H0 p = none := by
          cases q : H0 p with
          | none => rfl
          | some o => rw [(R.keep p o q).1] at g1; cases g1
        refine ⟨fun a => O a ∨ a = p, H0, own, ρ, R.birth g1 s1 g2, Fin.map (Fin.bd f1) fun ss H2 s2 f2 us O' hO R' A => ?_⟩
        refine f2.ok (.ref p :: us) O' (fun b hb => ?_) R' (.ow (fun c => R.hd p c g1) h0 (s2 _ _ g2) g3 (g4.mono (same_er fun a u e n => ⟨s2 a u e, fun c => ?_⟩)) A)
        · rcases hO b hb with (c | c) | c
          · exact .inl c
          · subst c; exact .inr g1
          · exact .inr (s1.free c)
        · rcases c with c | c
          · rcases hO a c with c | c
            · exact n (.inl c)
            · rw [c] at e; cases e
          · exact n (.inr c)
    · rcases List.mem_cons.mp hj with e | hj
      · subst e; exact hi0
      · exact hl j hj
theorem ckP_tgs {N : List Str} {sc : Scope} : ∀ {ps : Ps} {ts vs : List Expr}, ckP T N ps sc ts vs = true → ckTgs N (locB sc) ps.slots ts = true
  | .nil, [], [], h => rfl
  | .nil, [], _ :: _, h => by simp [ckP] at h
  | .nil, _ :: _, _, h => by simp [ckP] at h
  | .cons i o e r, [], _, h => by simp [ckP] at h
  | .cons i o e r, _ :: _, [], h => by simp [ckP] at h
  | .cons i o e r, t :: ts, v :: vs, h => by
    unfold ckP at h
    simp only [Bool.and_eq_true] at h
    obtain ⟨⟨⟨⟨⟨ht, no⟩, st⟩, hf⟩, he⟩, hr⟩ := h
    unfold Ps.slots ckTgs
    rw [Bool.and_eq_true]
    exact ⟨ht, ckP_tgs hr⟩
  | .mk i c m es r, [], _, h => by simp [ckP] at h
  | .mk i c m es r, _ :: _, [], h => by simp [ckP] at h
  | .mk i c m es r, t :: ts, v :: vs, h => by
    unfold ckP at h
    simp only [Bool.and_eq_true] at h
    obtain ⟨⟨⟨⟨ht, st⟩, hme⟩, he⟩, hr⟩ := h
    unfold Ps.slots ckTgs
    rw [Bool.and_eq_true]
    exact ⟨ht, ckP_tgs hr⟩
/-- the parts' values, stored -/
theorem par_in {ps : Ps} {σ : L2.St} {H : Hp} {D : Ends} {R : List V → Hp → Prop} (hl : ∀ i ∈ ps.slots, i < σ.length) (f : ∃ O H0 own ρ, Rel K xa O H0 own σ H ρ ∧ Fo K cv W xa O H0 own H (evS C G (.par ps) ρ) D)
    (hR : ∀ us H', us.length = ps.slots.length → (∀ H'', Same H' H'' → D.nx (setV ps.slots us σ) H'') → R us H') : tP K C cv G xa W ps σ H R := by
  obtain ⟨O, H0, own, ρ, R0, f⟩ := f
  simp only [evS] at f
  refine ⟨O, H0, own, ρ, R0, (Fo.fin2 R0 f).map fun ss H1 s1 f1 us O' hO R' A => hR us H1 A.len fun H2 s2 => ?_⟩
  obtain ⟨own1, R1, h1⟩ := A.go R' hl
  refine f1 own1 _ _ (R1.mono s2) fun b o e n => ⟨s2 _ _ (s1 b o e), fun c => ?_⟩
  rcases h1 b c with c | c
  · rcases hO b c with c | c
    · exact n (.inl c)
    · rw [c] at e; cases e
  · exact n (.inr c)
end
end Pu

/-! Pu, part 16: every statement of the small language is kept. -/
namespace Pu
open PySem PySem.Spec PyProof.Rows L2
structure XT (X : Cx) (K : PySem.W.Frag) (C : Nat → D) (cv : Nat → Value) (G : Nat → List D → Rs D) (T : Tb) (xa : XA) (W : WX) (k : Nat) (hot : Bool) : Prop where
  xc : XC X K C cv G T xa W k hot
  fn : ∀ x, X.fn x = true
  kd : X.env.scope.kind = .function
  po : hot = false → PassesOwn (model X.prog X.w) X.A X.env X.xe
  st : hot = false → X.stack = X.env :: X.outer ∧ X.env.frame = some X.env.locals
section
variable (K : PySem.W.Frag) (C : Nat → D) (cv : Nat → Value) (G : Nat → List D → Rs D) (xa : XA) (W : WX)
def tSt (x : S) : TS := fun D σ H => ∃ O H0 own ρ, Rel K xa O H0 own σ H ρ ∧ Fo K cv W xa O H0 own H (evS C G x ρ) D
def tSs (x : Ss) : TS := fun D σ H => ∃ O H0 own ρ, Rel K xa O H0 own σ H ρ ∧ Fo K cv W xa O H0 own H (evSs C G x ρ) D
end
theorem PS.imp {X : Cx} {e : Stmt} {t t' : TS} (h : PS X e t) (f : ∀ D σ H, t' D σ H → t D σ H) : PS X e t' := ⟨fun pins s σ H D I w => h.run pins s σ H D I (f _ _ _ w)⟩
theorem PSs.imp {X : Cx} {e : List Stmt} {t t' : TS} (h : PSs X e t) (f : ∀ D σ H, t' D σ H → t D σ H) : PSs X e t' := ⟨fun pins s σ H D I w => h.run pins s σ H D I (f _ _ _ w)⟩
section
variable {K : PySem.W.Frag} {C : Nat → D} {cv : Nat → Value} {G : Nat → List D → Rs D} {T : Tb} {k : Nat} {xa : XA} {W : WX} {hot : Bool}
variable {O O' : Addr → Prop} {H0 : Hp} {own : Ow} {σ : L2.St} {H H' : Hp} {ρ : Env} {o : Out} {Ed : Ends}
theorem Fo.seq {g : Env → Out} (f : Fo K cv W xa O H0 own H (o.seq g) Ed) : Fo K cv W xa O H0 own H o { Ed with nx := fun σ' H' => ∃ O H0 own ρ, Rel K xa O H0 own σ' H' ρ ∧ Fo K cv W xa O H0 own H' (g ρ) Ed } := by
  cases o with
  | next ρ => exact fun own' σ' H' R kp => ⟨O, H0, own', ρ, R, Fo.mono (show Fo K cv W xa O H0 own H (g ρ) Ed from f) kp⟩
  | brk ρ => exact f
  | cont ρ => exact f
  | exc c ρ => exact f
  | retm d ρ => exact f
  | ret d => exact f
  | bad => exact f
def Ends.loop (Ed : Ends) (N : L2.St → Hp → Prop) : Ends := { Ed with nx := N, ct := N, bk := Ed.nx }
theorem Fo.loop {g : Env → Out} (f : Fo K cv W xa O H0 own H (o.turn g) Ed) : Fo K cv W xa O H0 own H o (Ends.loop Ed fun σ' H' => ∃ own' ρ', Rel K xa O H0 own' σ' H' ρ' ∧ Kp O own H own' H' ∧ Fo K cv W xa O H0 own' H' (g ρ') Ed) := by
  cases o with
  | next ρ => exact fun own' σ' H' R kp => ⟨own', ρ, R, kp, Fo.mono (show Fo K cv W xa O H0 own H (g ρ) Ed from f) kp⟩
  | cont ρ => exact fun own' σ' H' R kp => ⟨own', ρ, R, kp, Fo.mono (show Fo K cv W xa O H0 own H (g ρ) Ed from f) kp⟩
  | brk ρ => exact f
  | exc c ρ => exact f
  | retm d ρ => exact f
  | ret d => exact f
  | bad => exact f
theorem Fo.ends {N N' : L2.St → Hp → Prop} (f : Fo K cv W xa O H0 own H o (Ends.loop Ed N)) (h : ∀ σ' H', N σ' H' → N' σ' H') : Fo K cv W xa O H0 own H o (Ends.loop Ed N') := by
  cases o with
  | next ρ => exact fun own' σ' H' R kp => h _ _ (f own' σ' H' R kp)
  | cont ρ => exact fun own' σ' H' R kp => h _ _ (f own' σ' H' R kp)
  | brk ρ => exact f
  | exc c ρ => exact f
  | retm d ρ => exact f
  | ret d => exact f
  | bad => exact f
theorem QR.out {v : V} {d : D} (R : Rel K xa O H0 own σ H ρ) (q : QR K O own H v d) : Rp K (er O H) v d := by
  have s : Same (er (hid O own) H) (er O H) := same_er fun a o e n => ⟨e, fun c => n (.inl c)⟩
  rcases q with q | ⟨i, a, xs, ds, h1, h2, h3, h4, h5, h6⟩
  · exact q.mono s
  · subst h2 h3
    exact .lst (.of (by rw [er_out (R.dis i a h1)]; exact h4)) h5 (h6.mono s)
theorem Rel.same0 (R : Rel K xa O H0 own σ H ρ) : Same H0 H := fun b o e => (R.keep b o e).1
theorem Rel.h0 (R : Rel K xa O H0 own σ H ρ) {p : Addr} (h : H p = none) : H0 p = none := by
  cases q : H0 p with
  | none => rfl
  | some o => rw [(R.keep p o q).1] at h; cases h
/-- a slot forgotten, wherever it is -/
theorem Rel.clear (R : Rel K xa O H0 own σ H ρ) {i : Nat} : Rel K xa O H0 (offO own i) (σ.set i none) H (ρ.set i .no) := by
  by_cases hi : i < σ.length
  · exact R.put rfl (fun _ z => by cases z) (fun _ z => by cases z) hi
  · have h1 : ρ[i]? = none := List.getElem?_eq_none (by rw [← R.len]; omega)
    rw [List.set_eq_of_length_le (by omega), List.set_eq_of_length_le (by rw [← R.len]; omega), offO_self (R.no i fun s e => by rw [h1] at e; cases e)]
    exact R
theorem Rel.putA (R : Rel K xa O H0 own σ H ρ) {i : Nat} {s : Slot} {y : Option V} (hs : s.holds = false)
    (hc : ∀ d, s = .cl d → ∃ v, y = some v ∧ Rp K (er (hid O (offO own i)) H) v d) (he : ∀ c, s = .ex c → ∃ a, xa.e = some (a, c) ∧ y = some (.ref a)) : Rel K xa O H0 (offO own i) (σ.set i y) H (ρ.set i s) := by
  by_cases hi : i < σ.length
  · exact R.put hs hc he hi
  · have h1 : ρ[i]? = none := List.getElem?_eq_none (by rw [← R.len]; omega)
    rw [List.set_eq_of_length_le (by omega), List.set_eq_of_length_le (by rw [← R.len]; omega), offO_self (R.no i fun s e => by rw [h1] at e; cases e)]
    exact R
theorem Fo.suite0 {ac : Addr × Nat} (f : Fo K cv W xa O H0 own H (o.suite none) Ed) : Fo K cv W0 ⟨some ac, xa.m⟩ O H0 own H o Ed := by
  cases o with
  | next ρ =>
    simp only [Out.suite] at f
    split at f
    · rename_i ne
      exact fun own' σ' H' R kp => f own' σ' H' (R.down ne rfl) kp
    · exact False.elim f
  | ret d => exact f
  | retm d ρ =>
    simp only [Out.suite] at f
    split at f
    · rename_i ne
      exact ⟨fun own' σ' H' v R kp => f.1 own' σ' H' v (R.down ne rfl) kp, fun c1 fs1 e own' σ' H' x fv1 h0 hO R kp => f.2 c1 fs1 e own' σ' H' x fv1 h0 hO (R.down ne rfl) kp⟩
    · exact False.elim f
  | _ => exact False.elim f
theorem Fo.suite1 {ac : Addr × Nat} {i : Nat} (f : Fo K cv W xa O H0 own H (o.suite (some i)) Ed) : Fo K cv W0 ⟨some ac, xa.m⟩ O H0 own H o { nx := fun σ' H' => Ed.nx (σ'.set i none) H', rt := Ed.rt, bk := fun σ' H' => Ed.bk (σ'.set i none) H', ct := fun σ' H' => Ed.ct (σ'.set i none) H' } := by
  cases o with
  | next ρ =>
    simp only [Out.suite] at f
    split at f
    · rename_i ne
      exact fun own' σ' H' R kp => f _ _ H' (R.clear.down ne rfl) (kp.trans (Kp.off (Same.refl _)))
    · exact False.elim f
  | ret d => exact f
  | retm d ρ =>
    simp only [Out.suite] at f
    split at f
    · rename_i ne
      exact ⟨fun own' σ' H' v R kp r => f.1 _ _ H' v (R.clear.down ne rfl) (kp.trans (Kp.off (Same.refl _))) (r.mono (er_own fun _ _ => offO_le)),
        fun c1 fs1 e own' σ' H' x fv1 h0 hO R kp oa hl hf => f.2 c1 fs1 e _ _ H' x fv1 h0 hO (R.clear.down ne rfl) (kp.trans (Kp.off (Same.refl _))) oa hl (hf.mono (er_own fun _ _ => offO_le))⟩
    · exact False.elim f
  | _ => exact False.elim f
end
section
variable {α β : Type}
theorem fm_all {f : α → Option β} : ∀ {l : List α}, (l.filterMap f).length = l.length → l.map f = (l.filterMap f).map some
  | [], _ => rfl
  | a :: l, h => by
    cases e : f a with
    | none =>
      rw [List.filterMap_cons_none e] at h
      have := List.length_filterMap_le f l
      rw [List.length_cons] at h
      omega
    | some b =>
      rw [List.filterMap_cons_some e, List.length_cons, List.length_cons] at h
      rw [List.filterMap_cons_some e, List.map_cons, List.map_cons, e, fm_all (by omega)]
end
theorem swsole_tup {t v : Expr} {l : Nat} {env : PySem.Env} (h : isTuple t = true) : swapsWithSole [t] v l env = pure false := by
  cases t <;> first | (cases h; done) | skip
  cases v <;> rfl
theorem swst_tup {ts : List Expr} {kk : _} {p : Pos} {v : Expr} {env : PySem.Env} (h : isTuple v = false) : swappedStores [.Tuple ts kk p] v env = pure none := by
  cases v <;> first | rfl | cases h
theorem sw_call {v : Expr} {l : Nat} {env : PySem.Env} (h : isCall v = true) : swapsWith v none l env = pure false := by
  cases v <;> first | rfl | cases h
theorem ckSs_cons {T : Tb} {N : List Str} {sc : Scope} {s : S} {ss : Ss} {l : List Stmt} (hs : ∀ i, s ≠ .frz i) (h : ckSs T N sc (.cons s ss) l = true) : ∃ x r, l = x :: r ∧ ckS T N sc s x = true ∧ ckSs T N sc ss r = true := by
  cases l with
  | nil => exfalso; cases s <;> first | (exact hs _ rfl) | (unfold ckSs at h; cases h)
  | cons x r => exact ⟨x, r, rfl, (Bool.and_eq_true _ _).mp (by cases s <;> first | (exact absurd rfl (hs _)) | (unfold ckSs at h; exact h))⟩
theorem tg2 {N : List Str} {p : Str → Bool} {is : List Nat} {x y : Str} {a b : Pos} (h : ckTgs N p is [.Name x a, .Name y b] = true) : ∃ i j, is = [i, j] ∧ N[i]? = some x ∧ N[j]? = some y := by
  cases is with
  | nil => cases h
  | cons i is =>
    cases is with
    | nil => simp [ckTgs] at h
    | cons j is =>
      cases is with
      | nil =>
        simp only [ckTgs, Bool.and_eq_true] at h
        exact ⟨i, j, rfl, (nmB_ok h.1.1).1, (nmB_ok h.2.1.1).1⟩
      | cons _ _ => simp [ckTgs] at h
theorem tg3 {N : List Str} {p : Str → Bool} {is : List Nat} {x y z : Str} {a b c : Pos} (h : ckTgs N p is [.Name x a, .Name y b, .Name z c] = true) : ∃ i j l, is = [i, j, l] ∧ N[i]? = some x ∧ N[j]? = some y ∧ N[l]? = some z := by
  cases is with
  | nil => cases h
  | cons i is =>
    cases is with
    | nil => simp [ckTgs] at h
    | cons j is =>
      cases is with
      | nil => simp [ckTgs] at h
      | cons l is =>
        cases is with
        | nil =>
          simp only [ckTgs, Bool.and_eq_true] at h
          exact ⟨i, j, l, rfl, (nmB_ok h.1.1).1, (nmB_ok h.2.1.1).1, (nmB_ok h.2.2.1.1).1⟩
        | cons _ _ => simp [ckTgs] at h
/-- the names that are stored from the right -/
theorem swN_names {sc : Scope} {ts vs : List Expr} {l : List Str} (h : swN sc ts vs = some (some l)) : vs.length = ts.length ∧ (ts.length = 2 ∨ ts.length = 3) ∧
    ∃ ps : List Pos, ts = List.zipWith (fun x p => Expr.Name x p) l ps ∧ ps.length = l.length ∧ ∀ x ∈ l, sc.names.lookup x = some .local := by
  unfold swN at h
  split at h
  · cases h
  rename_i c1
  split at h
  · cases h
  dsimp only at h
  split at h
  · cases h
  rename_i c3
  split at h
  · cases h
  split at h
  · cases h
  cases h
  simp only [Bool.or_eq_true, Bool.not_eq_true', Bool.or_eq_false_iff, beq_eq_false_iff_ne, bne_iff_ne, not_or, Decidable.not_not, beq_iff_eq, Bool.not_eq_eq_eq_not, Bool.not_true] at c1 c3
  refine ⟨c1.2, ?_, ?_⟩
  · have := c1.1
    omega
  · have e := c3.1
    generalize hf : nmF sc ((ts.head?.map (·.pos.line)).getD 0) = f at e
    have hfm := fm_all e
    have key : ∀ t id, f t = some id → ∃ pos, t = .Name id pos ∧ sc.names.lookup id = some .local := by
      intro t id ht
      rw [← hf] at ht
      cases t <;> first | (cases ht; done) | skip
      unfold nmF at ht
      dsimp only at ht
      split at ht
      · rename_i c
        cases ht
        rw [Bool.and_eq_true] at c
        exact ⟨_, rfl, by simpa using c.1⟩
      · cases ht
    have go : ∀ (ts : List Expr) (l : List Str), ts.map f = l.map some → ∃ ps : List Pos, ts = List.zipWith (fun x p => Expr.Name x p) l ps ∧ ps.length = l.length ∧ ∀ x ∈ l, sc.names.lookup x = some .local := by
      intro ts
      induction ts with
      | nil =>
        intro l h
        cases l with
        | nil => exact ⟨[], rfl, rfl, fun x hx => by cases hx⟩
        | cons _ _ => cases h
      | cons t ts ih =>
        intro l h
        cases l with
        | nil => cases h
        | cons x l =>
          rw [List.map_cons, List.map_cons, List.cons.injEq] at h
          obtain ⟨ps, h1, h2, h3⟩ := ih l h.2
          obtain ⟨p, h4, h5⟩ := key t x h.1
          refine ⟨p :: ps, by rw [h4, h1]; rfl, by simp [h2], fun y hy => ?_⟩
          rcases List.mem_cons.mp hy with e | hy
          · subst e; exact h5
          · exact h3 y hy
    subst hf
    exact go _ _ hfm
end Pu

/-! Pu, part 17: every statement of the small language is kept. -/
namespace Pu
open PySem PySem.Spec PyProof.Rows L2
section
variable {K : PySem.W.Frag} {C : Nat → D} {cv : Nat → Value} {G : Nat → List D → Rs D} {T : Tb} {k : Nat}
theorem XT.tr {X : Cx} {xa : XA} {W W' : WX} (h : XT X K C cv G T xa W k false) {pn : List (Addr × Obj)} {xe : Value → Shared → Prop} (tk : Takes (X.tr pn xe) W') (po : PassesOwn (model X.prog X.w) X.A X.env xe) : XT (X.tr pn xe) K C cv G T xa W' k false where
  xc := ⟨h.xc.eK, h.xc.calm, h.xc.rm, h.xc.nd, tk, h.xc.lk, fun a c D e => (by rw [h.xc.xan rfl] at e; cases e), h.xc.xan, h.xc.me⟩
  fn := h.fn
  kd := h.kd
  po := fun _ => po
  st := h.st
theorem XT.suite {X : Cx} {xa : XA} {W : WX} (h : XT X K C cv G T xa W k false) {a : Addr} {oe : Obj} {pn : List (Addr × Obj)} {c : Nat} (hz : Zc (cv c) none oe) (hf : ∃ vs, oe.data = .fields vs) : XT (X.suite a ((a, oe) :: pn)) K C cv G T ⟨some (a, c), xa.m⟩ W0 k true where
  xc := ⟨h.xc.eK, fun z => (by cases z), fun z => (by cases z), h.xc.nd, takes0, h.xc.lk, fun b d D e hd => (by
    cases e
    obtain ⟨Ca, e1, e2⟩ := h.xc.lk.any c
    rw [hd] at e1; cases e1
    rw [hd] at hz
    have eK := h.xc.eK
    subst eK
    exact call_isE e2 hz hf), fun z => (by cases z), h.xc.me⟩
  fn := h.fn
  kd := h.kd
  po := fun z => by cases z
  st := fun z => by cases z
theorem len2 {α : Type} {l : List α} (h : l.length = 2) : ∃ a b, l = [a, b] := by
  match l, h with
  | [a, b], _ => exact ⟨a, b, rfl⟩
theorem len3 {α : Type} {l : List α} (h : l.length = 3) : ∃ a b c, l = [a, b, c] := by
  match l, h with
  | [a, b, c], _ => exact ⟨a, b, c, rfl⟩
theorem is_app {o : Expr} {x : Str} {p : Pos} : o = .Name x p → noSup o = true := fun e => by subst e; rfl
theorem hot_noS {hot : Bool} {x : S} (hh : hot = true → hotS x = true) (n : hotS x = false) : hot = false := by
  cases hot with
  | false => rfl
  | true => rw [hh rfl] at n; cases n
theorem few {e : Expr} {pos : Pos} {env : PySem.Env} (st : noStar e = true) : ((backTo pos (starEach [e] env)).all (fun x => !x.1) && (backToKw pos (keywordEach [] env)).all (fun x => x.1.isSome) && decide ([e].length + ([] : List Keyword).length + (if ([] : List Keyword).isEmpty then 0 else 1) < 30)) = true := by
  rw [star_cons st env []]; rfl
mutual
theorem sndS : ∀ (x : S) {X : Cx} {xa : XA} {W : WX} {hot : Bool} {st : Stmt}, XT X K C cv G T xa W k hot → (hot = true → hotS x = true) → ckS T X.N X.env.scope x st = true → PS X st (tSt K C cv G xa W x)
  | .set i e, X, xa, W, hot, st, hX, hh, h => by
    unfold ckS at h
    split at h
    · simp only [Bool.and_eq_true] at h
      obtain ⟨⟨⟨⟨h1, h2⟩, h3⟩, h4⟩, h5⟩ := h
      obtain ⟨n, _, _⟩ := nmB_ok h1
      refine PS.impL (ps_set hX.xc.nd n (locB_ok h2) (sndE e hX.xc (fun z => by have := hh z; unfold hotS at this; exact this) h5).1 (sw_no (by simpa using h4)) (.inl (hX.fn _))) fun D σ H hl ⟨O, H0, own, ρ, R, f⟩ => ?_
      simp only [evS] at f
      have hi : i < σ.length := by rw [hl]; exact (List.getElem?_eq_some_iff.mp n).1
      exact ⟨O, H0, own, ρ, R, (Fo.fin2 R f).map fun d H1 s1 f1 v p1 => f1 _ _ _ ((R.mono s1).set (p1.2 (no_own h3))) (Kp.off s1)⟩
    · cases h
  | .seto i e, X, xa, W, hot, st, hX, hh, h => by
    have hf := hot_noS hh (by simp [hotS])
    subst hf
    unfold ckS at h
    split at h
    · simp only [Bool.and_eq_true] at h
      obtain ⟨⟨⟨⟨h1, h2⟩, h3⟩, h4⟩, h5⟩ := h
      obtain ⟨n, _, _⟩ := nmB_ok h1
      refine PS.impL (setF hX.xc rfl hX.fn hX.kd h1 h2 h3 h4 h5) fun D σ H hl ⟨O, H0, own, ρ, R, f⟩ => ?_
      simp only [evS] at f
      have hi : i < σ.length := by rw [hl]; exact (List.getElem?_eq_some_iff.mp n).1
      refine ⟨O, H0, own, ρ, R, (Fo.fin2 R f).map fun ds H1 s1 f1 p fr => ?_⟩
      obtain ⟨xs, g1, g2, g3, g4⟩ := id fr
      refine f1 _ _ _ ((R.birth g1 s1 g2).adopt (fun c => R.hd p c g1) (R.h0 g1) g2 g3 g4 hi) (Kp.of s1 fun b hb c => ?_)
      rcases hid_setO c with (c | c) | c
      · exact .inl c
      · subst c; exact absurd g1 hb
      · exact .inr c
    · cases h
  | .par ps, X, xa, W, hot, st, hX, hh, h => by
    have hf := hot_noS hh (by simp [hotS])
    subst hf
    unfold ckS at h
    split at h
    · rename_i ts kt pt vs kv pv pos
      simp only [Bool.and_eq_true, decide_eq_true_eq] at h
      obtain ⟨⟨⟨nd, hln⟩, hp⟩, hs⟩ := h
      obtain ⟨pa, hlt⟩ := sndP hX.xc rfl hp
      have hc := hX.xc.calm rfl
      have hN := hX.xc.nd
      cases e0 : swN X.env.scope ts vs with
      | none => rw [e0] at hs; cases hs
      | some r =>
        have sw := swN_ok (k1 := kt) (p1 := pt) (k2 := kv) (p2 := pv) hX.kd e0
        have tg := ckP_tgs hp
        cases r with
        | none =>
          refine PS.impL (ps_asg (pe_tup pa) (pg_tup hc (pgs_of hN (fun x hx => ⟨locB_ok hx, .inl (hX.fn x)⟩) tg) (tgs_len tg).1 (tgs_len tg).2) rfl sw rfl) fun D σ H hl w => ?_
          refine par_in (fun i hi => by rw [hl]; exact hlt i hi) w fun us H' hu q => ?_
          refine ⟨by rw [hu]; exact Nat.le_trans hln (by decide), fun p hp => ⟨p, us, rfl, .of upd_same, hu, gNs_set nd hu (q _ (same_upd hp))⟩⟩
        | some l =>
          obtain ⟨h1, h2, qs, h3, h4, h5⟩ := swN_names e0
          have hll : ts.length = l.length := by rw [h3, List.length_zipWith, h4, Nat.min_self]
          rcases h2 with h2 | h2
          · obtain ⟨x, y, rfl⟩ := len2 (hll ▸ h2)
            obtain ⟨p, q, rfl⟩ := len2 (h4.trans (hll ▸ h2))
            obtain ⟨a, b, rfl⟩ := len2 (h1.trans h2)
            subst h3
            obtain ⟨i, j, ei, n1, n2⟩ := tg2 tg
            have hij : i ≠ j := by rw [ei] at nd; simp at nd; exact nd
            refine PS.impL (ps_par hc hN n1 n2 hij (h5 x (by simp)) (h5 y (by simp)) pa sw rfl) fun D σ H hl w => ?_
            refine par_in (fun i hi => by rw [hl]; exact hlt i hi) w fun us H' hu q => ?_
            rw [ei] at hu q
            obtain ⟨v, w, rfl⟩ := len2 hu
            refine ⟨v, w, rfl, ?_⟩
            have := q H' (Same.refl _)
            simp only [setV] at this
            rw [List.set_comm _ _ hij]
            exact this
          · obtain ⟨x, y, z, rfl⟩ := len3 (hll ▸ h2)
            obtain ⟨p, q, r, rfl⟩ := len3 (h4.trans (hll ▸ h2))
            obtain ⟨a, b, c, rfl⟩ := len3 (h1.trans h2)
            subst h3
            obtain ⟨i, j, m, ei, n1, n2, n3⟩ := tg3 tg
            have hij : i ≠ j ∧ i ≠ m ∧ j ≠ m := by
              rw [ei] at nd
              simp at nd
              exact ⟨nd.1.1, nd.1.2, nd.2⟩
            refine PS.impL (ps_par3 hc hN n1 n2 n3 hij.1 hij.2.1 hij.2.2 (h5 x (by simp)) (h5 y (by simp)) (h5 z (by simp)) pa sw rfl) fun D σ H hl w => ?_
            refine par_in (fun i hi => by rw [hl]; exact hlt i hi) w fun us H' hu q => ?_
            rw [ei] at hu q
            obtain ⟨v, w, u, rfl⟩ := len3 hu
            refine ⟨v, w, u, rfl, ?_⟩
            have := q H' (Same.refl _)
            simp only [setV] at this
            rw [List.set_comm _ _ hij.1, List.set_comm _ _ hij.2.1, List.set_comm _ _ hij.2.2]
            first
              | exact this
              | (rw [List.set_comm _ _ hij.1]; exact this)
    · cases h
  | .unp is e, X, xa, W, hot, st, hX, hh, h => by
    have hf := hot_noS hh (by simp [hotS])
    subst hf
    unfold ckS at h
    split at h
    · simp only [Bool.and_eq_true] at h
      obtain ⟨⟨⟨h1, h2⟩, h3⟩, h4⟩ := h
      have hc := hX.xc.calm rfl
      have hN := hX.xc.nd
      have eK := hX.xc.eK
      subst eK
      refine PS.impL (ps_asg (sndE e hX.xc (fun z => by cases z) h4).1 (pg_tup hc (pgs_of hN (fun x hx => ⟨locB_ok hx, .inl (hX.fn x)⟩) h3) (tgs_len h3).1 (tgs_len h3).2) (swsole_tup rfl) (swst_tup (by simpa using h1)) rfl) fun D σ H hl ⟨O, H0, own, ρ, R, f⟩ => ?_
      simp only [evS] at f
      refine ⟨O, H0, own, ρ, R, (Fo.fin2 R f).map fun d H1 s1 f1 v p1 => ?_⟩
      split at f1
      · rename_i ρ1 eb
        refine bind_ok (tg := .tup is) (vs := is) (R.mono s1) (p1.2 (no_own h2)) eb (fun i hi => hi) fun σ1 own1 R1 le eq so => ?_
        exact f1 _ _ _ R1 (Kp.of s1 fun b _ c => c.elim .inl fun ⟨j, e⟩ => .inr ⟨j, le j b e⟩)
      · exact False.elim f1
    · cases h
  | .app i e, X, xa, W, hot, st, hX, hh, h => by
    have hf := hot_noS hh (by simp [hotS])
    subst hf
    unfold ckS at h
    split at h
    · simp only [Bool.and_eq_true, decide_eq_true_eq] at h
      obtain ⟨⟨⟨⟨⟨⟨h1, h2⟩, h3⟩, h4⟩, h5⟩, h6⟩, h7⟩ := h
      obtain ⟨n, n1, n2⟩ := nmB_ok h3
      have eK := hX.xc.eK
      subst eK h1
      have s1 := star_cons h6 X.env []
      have pa := pa_cons (sndE e hX.xc (fun z => by cases z) h7).1 pa_nil s1
      refine PS.imp (ps_expr (pe_bm PySem.F.plainAttrs_list PySem.F.slot_list_append PySem.F.type_list_append mt_append (pe_var n (visB_ok h4) n1 n2) pa rfl (few h6) (by rw [h2]; exact beq_self_eq_true _) s1 rfl) rfl) fun D σ H ⟨O, H0, own, ρ, R, f⟩ => ?_
      simp only [evS] at f
      split at f
      · rename_i ds er0
        obtain ⟨a, xs, g1, g2, g3, g4, g5⟩ := R.ow i ds er0
        refine ⟨_, g2, .inl ⟨rfl, xs, .of g3⟩, O, H0, own, ρ, R, (Fo.fin2 R f).map fun d H1 z1 f1 v p1 => ?_⟩
        split at f1
        · rename_i hz
          have e1 := g5.length
          refine ⟨a, xs, v, rfl, rfl, z1 _ _ g3, by rw [e1]; exact hz, ?_⟩
          refine f1 own σ _ ((R.mono z1).grow g1 er0 (by rw [List.length_append, e1]; exact hz) ((g5.mono (same_erO z1)).append (.cons (p1.2 (no_own h5)) .nil))) fun b o eb nb => ⟨?_, nb⟩
          rw [upd_ne fun z => nb (by rw [z]; exact .inr ⟨i, g1⟩)]
          exact z1 b o eb
        · exact False.elim f1
      · exact False.elim f
    · cases h
  | .ext i e, X, xa, W, hot, st, hX, hh, h => by
    have hf := hot_noS hh (by simp [hotS])
    subst hf
    unfold ckS at h
    split at h
    · simp only [Bool.and_eq_true, decide_eq_true_eq] at h
      obtain ⟨⟨⟨⟨⟨⟨⟨h1, h2⟩, h3⟩, h4⟩, h5⟩, h6⟩, hfr⟩, h7⟩ := h
      obtain ⟨n, n1, n2⟩ := nmB_ok h3
      have eK := hX.xc.eK
      subst eK h1
      have s1 := star_cons h6 X.env []
      have pa := pa_cons (sndF hX.xc rfl hfr h7) pa_nil s1
      refine PS.imp (ps_expr (pe_bm PySem.F.plainAttrs_list PySem.F.slot_list_extend PySem.F.type_list_extend mt_extend (pe_var n (visB_ok h4) n1 n2) pa rfl (few h6) (by rw [h2]; exact beq_self_eq_true _) s1 rfl) rfl) fun D σ H ⟨O, H0, own, ρ, R, f⟩ => ?_
      simp only [evS] at f
      split at f
      · rename_i ds er0
        obtain ⟨a, xs, g1, g2, g3, g4, g5⟩ := R.ow i ds er0
        refine ⟨_, g2, .inl ⟨rfl, xs, .of g3⟩, O, H0, own, ρ, R, (Fo.fin2 R f).map fun es H1 z1 f1 p fr => ?_⟩
        obtain ⟨zs, q1, q2, q3, q4⟩ := id fr
        split at f1
        · rename_i hz
          have e1 := g5.length
          have e2 := q4.length
          have hz' : xs.length + zs.length ≤ cap := by rw [e1, e2]; exact hz
          refine ⟨a, p, xs, zs, rfl, rfl, z1 _ _ g3, q2, hz', ?_⟩
          refine f1 own σ _ ((R.mono z1).grow g1 er0 (by rw [List.length_append]; exact hz') ((g5.mono (same_erO z1)).append (q4.mono (same_er fun b o eb nb => ⟨eb, fun c => nb (c.elim (fun z => .inl (.inl z)) .inr)⟩)))) fun b o eb nb => ⟨?_, nb⟩
          rw [upd_ne fun z => nb (by rw [z]; exact .inr ⟨i, g1⟩)]
          exact z1 b o eb
        · exact False.elim f1
      · exact False.elim f
    · cases h
  | .ex e, X, xa, W, hot, st, hX, hh, h => by
    have hf := hot_noS hh (by simp [hotS])
    subst hf
    unfold ckS at h
    split at h
    · simp only [Bool.and_eq_true] at h
      refine PS.imp (ps_expr (sndE e hX.xc (fun z => by cases z) h.2).1 (sw_call h.1)) fun D σ H ⟨O, H0, own, ρ, R, f⟩ => ?_
      simp only [evS] at f
      exact ⟨O, H0, own, ρ, R, (Fo.fin2 R f).map fun d H1 s1 f1 v p1 => f1 own σ H1 (R.mono s1) (Kp.of s1 fun _ _ c => c)⟩
    · cases h
  | .ret e, X, xa, W, hot, st, hX, hh, h => by
    unfold ckS at h
    split at h
    · refine PS.imp (ps_ret (sndE e hX.xc (fun z => by have := hh z; unfold hotS at this; exact this) h).1) fun D σ H ⟨O, H0, own, ρ, R, f⟩ => ?_
      simp only [evS] at f
      exact ⟨O, H0, own, ρ, R, (Fo.fin2 R f).map fun d H1 s1 f1 v p1 => f1 v H1 (R.mono s1).same0 (QR.out (R.mono s1) p1.1)⟩
    · cases h
  | .ret0, X, xa, W, hot, st, hX, hh, h => by
    unfold ckS at h
    split at h
    · refine PS.imp ps_retN fun D σ H ⟨O, H0, own, ρ, R, f⟩ => ?_
      simp only [evS] at f
      exact f .non H R.same0 .non
    · cases h
  | .ite c a b, X, xa, W, hot, st, hX, hh, h => by
    have hf := hot_noS hh (by simp [hotS])
    subst hf
    unfold ckS at h
    rw [Bool.and_eq_true] at h
    obtain ⟨tc, h⟩ := h
    split at h
    · simp only [Bool.and_eq_true] at h
      refine PS.imp (ps_if ((sndE c hX.xc (fun z => by cases z) h.1.1).2.1 tc) (sndSs a hX (fun z => by cases z) h.1.2) (sndSs b hX (fun z => by cases z) h.2)) fun D σ H ⟨O, H0, own, ρ, R, f⟩ => ?_
      simp only [evS] at f
      refine ⟨O, H0, own, ρ, R, (Fo.fin R f).map fun r H1 s1 f1 => ?_⟩
      cases r with
      | true => exact ⟨O, H0, own, ρ, R.mono s1, f1⟩
      | false => exact ⟨O, H0, own, ρ, R.mono s1, f1⟩
    · cases h
  | .for_ tg it b, X, xa, W, hot, st, hX, hh, h => by
    have hf := hot_noS hh (by simp [hotS])
    subst hf
    unfold ckS at h
    split at h
    · simp only [Bool.and_eq_true] at h
      obtain ⟨⟨⟨h1, h2⟩, h3⟩, h4⟩ := h
      rename_i vt vi vb vp
      have hc := hX.xc.calm rfl
      have hN := hX.xc.nd
      have pg : PG X vt (gT K tg) := by rw [← hX.xc.eK]; exact pg_of hc hN (fun x hx => ⟨locB_ok hx, .inl (hX.fn x)⟩) h2
      refine PS.impL (ps_for (hX.po rfl) hc (sndI it hX.xc rfl _ _ (ckTg_tup h2) h3) pg (sndSs b hX (fun z => by cases z) h4) (fun x => fsi h1)) fun D σ H hl ⟨O, H0, own, ρ, R, f⟩ => ?_
      simp only [evS] at f
      refine ⟨O, H0, own, ρ, R, (Fo.fin2 R f).map fun ds H1 s1 f1 J hlen hJ => ?_⟩
      refine ⟨fun i m σ' H => m = ds.length - i ∧ i ≤ ds.length ∧ ∃ own' ρ', Rel K xa O H0 own' σ' H ρ' ∧ Kp O own H1 own' H ∧ Fo K cv W xa O H0 own' H (forL (evSs C G b) tg (ds.drop i) ρ') D,
        ⟨ds.length, rfl, Nat.zero_le _, own, ρ, R.mono s1, Kp.refl, Fo.mono f1 (Kp.of s1 fun _ _ c => c)⟩, ?_⟩
      rintro i m σ2 H2 ⟨rfl, hi, own2, ρ2, R2, k2, f2⟩
      by_cases hlt : i < ds.length
      · have hd : ds[i]? = some ds[i] := List.getElem?_eq_getElem hlt
        rw [List.drop_eq_getElem_cons hlt] at f2
        unfold forL at f2
        have sJ : Same (er (hid O own) H1) H2 := fun a u e => er_le a u (k2.same a u e)
        cases eb : bindTg tg ds[i] ρ2 with
        | none => rw [eb] at f2; exact False.elim f2
        | some ρ3 =>
          rw [eb] at f2
          refine .inr ⟨hJ.go i _ H2 sJ hd, fun σ' H => ∃ own' ρ', Rel K xa O H0 own' σ' H ρ' ∧ Kp O own H1 own' H ∧ Fo K cv W xa O H0 own' H (forL (evSs C G b) tg (ds.drop (i + 1)) ρ') D,
            fun σ' H' w => ⟨ds.length - (i + 1), by omega, rfl, hlt, w⟩, fun x H3 y => ?_⟩
          obtain ⟨s3, cl⟩ := hJ.yld i _ H2 x H3 sJ hd y
          refine bind_ok (vs := tg.slots) (R2.mono s3) (cl O own2 (fun b hb => R2.hidden hb) k2.same) eb (fun j hj => hj) fun σ3 own3 R3 le eq so => ?_
          have k3 : Kp O own2 H2 own3 H3 := Kp.of s3 fun b _ c => c.elim .inl fun ⟨j, e⟩ => .inr ⟨j, le j b e⟩
          have f3 : Fo K cv W xa O H0 own3 H3 (Out.turn (fun ρ4 => forL (evSs C G b) tg (ds.drop (i + 1)) ρ4) (evSs C G b ρ3)) D := Fo.mono f2 k3
          exact ⟨O, H0, own3, ρ3, R3, (Fo.loop f3).ends (fun σ' H' ⟨own', ρ', R', kp, f'⟩ => ⟨own', ρ', R', k2.trans (k3.trans kp), f'⟩)⟩
      · have e : i = ds.length := by omega
        subst e
        rw [List.drop_length] at f2
        exact .inl ⟨hJ.stop _ H2 (fun a u e => er_le a u (k2.same a u e)) (Nat.le_refl _), f2 own2 σ2 H2 R2 Kp.refl⟩
    · cases h
  | .while_ c b, X, xa, W, hot, st, hX, hh, h => by
    have hf := hot_noS hh (by simp [hotS])
    subst hf
    unfold ckS at h
    rw [Bool.and_eq_true] at h
    obtain ⟨tc, h⟩ := h
    split at h
    · simp only [Bool.and_eq_true] at h
      refine PS.imp (ps_while (hX.po rfl) ((sndE c hX.xc (fun z => by cases z) h.1).2.1 tc) (sndSs b hX (fun z => by cases z) h.2)) fun D σ H ⟨O, H0, own, ρ, R, f⟩ => ?_
      simp only [evS] at f
      refine ⟨fun m σ H => ∃ own' ρ', Rel K xa O H0 own' σ H ρ' ∧ Fo K cv W xa O H0 own' H (whileL (evB C G c) (evSs C G b) m ρ') D, ⟨fuel, own, ρ, R, f⟩, ?_⟩
      rintro m σ1 H1 ⟨own1, ρ1, R1, f1⟩
      cases m with
      | zero => exact False.elim f1
      | succ m =>
        unfold whileL at f1
        refine ⟨O, H0, own1, ρ1, R1, (Fo.fin R1 f1).map fun r H2 s2 f2 => ?_⟩
        cases r with
        | false => exact f2 own1 σ1 H2 (R1.mono s2) Kp.refl
        | true =>
          have f3 : Fo K cv W xa O H0 own1 H2 (Out.turn (fun ρ2 => whileL (evB C G c) (evSs C G b) m ρ2) (evSs C G b ρ1)) D := f2
          refine ⟨_, fun σ' H' ⟨own', ρ', R', kp, f'⟩ => ⟨m, Nat.lt_succ_self m, own', ρ', R', f'⟩, O, H0, own1, ρ1, R1.mono s2, Fo.loop f3⟩
    · cases h
  | .raise c, X, xa, W, hot, st, hX, hh, h => by
    have hf := hot_noS hh (by simp [hotS])
    subst hf
    unfold ckS at h
    split at h
    · simp only [Bool.and_eq_true, decide_eq_true_eq] at h
      obtain ⟨g, d1⟩ := glB_ok h.2
      obtain ⟨Ca, ec, mc, q, kp, sb, ty⟩ := hX.xc.lk.cls c _ h.1
      have eK := hX.xc.eK
      subst eK
      refine PS.imp (ps_raise (hX.xc.calm rfl) hX.xc.tk (pmk_own PySem.F.excBase_ValueError q mc kp (raises_own sb ty) g d1)) fun D σ H ⟨O, H0, own, ρ, R, f⟩ => ?_
      simp only [evS] at f
      have := f own σ H R Kp.refl
      rw [ec] at this
      exact this
    · cases h
  | .try_ b c sl s, X, xa, W, hot, st, hX, hh, h => by
    have hf := hot_noS hh (by simp [hotS])
    subst hf
    have hxa := hX.xc.xan rfl
    unfold ckS at h
    split at h
    · rename_i x y np nm z zs hp pos
      simp only [Bool.and_eq_true, decide_eq_true_eq] at h
      obtain ⟨⟨⟨⟨⟨h1, h2⟩, h3⟩, h4⟩, hts⟩, h5⟩ := h
      obtain ⟨g, d1⟩ := glB_ok h2
      obtain ⟨Ca, ec, mc, _⟩ := hX.xc.lk.cls c _ h1
      have hn : Names X y (cv c) := ⟨g, d1, .inl (by rw [ec]; exact mc)⟩
      obtain ⟨st1, st2⟩ := hX.st rfl
      have sub : ∀ d, PySem.W.exmOne X.K (cv d) (cv c) = some (subC d c) := fun d => by rw [hX.xc.eK]; exact (hX.xc.lk.sub d c y h1).2
      have nsub : ∀ {d : Nat}, subC d c = false → ¬ subC d c = true := fun h z => by rw [h] at z; cases z
      cases sl with
      | none =>
        cases nm with
        | some _ => cases h5
        | none =>
          refine PS.imp (ps_try_only st1 st2 hn hX.xc.tk (fun W' pn xe tk po => sndSs b (hX.tr tk po) (fun z => by cases z) h3) (ts := fun a cls d D σ H => d = none ∧ ∃ e, cv e = cls ∧ tSs K C cv G ⟨some (a, e), xa.m⟩ W0 s D σ H)
            (fun a oe cls d pn hz hf => ⟨fun pins s1 σ H D I ⟨hd, e, he, w⟩ => by subst hd he; exact (sndSs s (hX.suite hz hf) (fun _ => hts) h4).run pins s1 σ H D I w⟩)) fun D σ H ⟨O, H0, own, ρ, R, f⟩ => ?_
          simp only [evS] at f
          refine ⟨O, H0, own, ρ, R, ?_⟩
          cases e0 : evSs C G b ρ with
          | exc d ρ1 =>
            rw [e0] at f
            dsimp only at f
            intro own' σ' H' R' kp
            refine ⟨subC d c, sub d, fun hb a na => ?_, fun hb => ?_⟩
            · rw [if_pos hb] at f
              exact ⟨rfl, d, rfl, O, H0, own', ρ1, R'.up hxa, Fo.suite0 (Fo.mono f kp)⟩
            · rw [if_neg (nsub hb)] at f
              exact f own' σ' H' R' kp
          | _ => rw [e0] at f; exact f
      | some i =>
        cases nm with
        | none => cases h5
        | some n =>
          rw [Bool.and_eq_true] at h5
          obtain ⟨ni, _, _⟩ := nmB_ok h5.1
          refine PS.imp (ps_try_as st1 st2 hX.xc.nd ni (lclB_ok h5.2) hn hX.xc.tk (fun W' pn xe tk po => sndSs b (hX.tr tk po) (fun z => by cases z) h3) (ts := fun a cls d D σ H => d = none ∧ ∃ e, cv e = cls ∧ tSs K C cv G ⟨some (a, e), xa.m⟩ W0 s D σ H)
            (fun a oe cls d pn hz hf => ⟨fun pins s1 σ H D I ⟨hd, e, he, w⟩ => by subst hd he; exact (sndSs s (hX.suite hz hf) (fun _ => hts) h4).run pins s1 σ H D I w⟩)) fun D σ H ⟨O, H0, own, ρ, R, f⟩ => ?_
          simp only [evS] at f
          refine ⟨O, H0, own, ρ, R, ?_⟩
          cases e0 : evSs C G b ρ with
          | exc d ρ1 =>
            rw [e0] at f
            dsimp only at f
            intro own' σ' H' R' kp
            refine ⟨subC d c, sub d, fun hb a na => ?_, fun hb => ?_⟩
            · rw [if_pos hb] at f
              exact ⟨rfl, d, rfl, O, H0, _, _, (R'.up hxa).putA (s := .ex d) (y := some (.ref a)) rfl (fun _ z => by cases z) (fun _ z => by cases z; exact ⟨a, rfl, rfl⟩), Fo.suite1 (Fo.mono f (kp.trans (Kp.off (Same.refl _))))⟩
            · rw [if_neg (nsub hb)] at f
              exact f own' σ' H' R' kp
          | _ => rw [e0] at f; exact f
    · cases h
  | .brk, X, xa, W, hot, st, hX, hh, h => by
    unfold ckS at h
    split at h
    · refine PS.imp ps_break fun D σ H ⟨O, H0, own, ρ, R, f⟩ => ?_
      simp only [evS] at f
      exact f own σ H R Kp.refl
    · cases h
  | .cont, X, xa, W, hot, st, hX, hh, h => by
    unfold ckS at h
    split at h
    · refine PS.imp ps_continue fun D σ H ⟨O, H0, own, ρ, R, f⟩ => ?_
      simp only [evS] at f
      exact f own σ H R Kp.refl
    · cases h
  | .pass, X, xa, W, hot, st, hX, hh, h => by
    unfold ckS at h
    split at h
    · refine PS.imp ps_pass fun D σ H ⟨O, H0, own, ρ, R, f⟩ => ?_
      simp only [evS] at f
      exact f own σ H R Kp.refl
    · cases h
  | .frz i, X, xa, W, hot, st, hX, hh, h => by
    unfold ckS at h
    cases h
  | .xs x, X, xa, W, hot, st, hX, hh, h => by
    have h : ckXs T X.N X.env.scope x st = true := by unfold ckS at h; exact h
    cases x with
    | set i e =>
      have hf := hot_noS hh (by simp [hotS])
      subst hf
      dsimp only [ckXs] at h
      split at h
      · simp only [Bool.and_eq_true] at h
        obtain ⟨⟨⟨h1, h2⟩, h3⟩, h4⟩ := h
        obtain ⟨n, _, _⟩ := nmB_ok h1
        refine PS.imp (ps_set hX.xc.nd n (locB_ok h2) (sndX e hX.xc rfl h4).1 (sw_no (by simpa using h3)) (.inl (hX.fn _))) fun D σ H ⟨O, H0, own, ρ, R, f⟩ => ?_
        simp only [evS, evXs] at f
        exact ⟨O, H0, own, ρ, R, (FinX.out f).map fun d ρ1 own1 H1 R1 k1 f1 v p1 => f1 _ _ _ (R1.set p1) (Kp.off (Same.refl _))⟩
      · cases h
    | ret e =>
      dsimp only [ckXs] at h
      split at h
      · rename_i v0 _ _
        have ps : PE X v0 (tX K C cv G xa W e) := by
          cases hot with
          | false => exact (sndX e hX.xc rfl h).1
          | true =>
            have hhh := hh rfl
            cases e with
            | pur a =>
              unfold hotS at hhh
              rw [Bool.and_eq_true] at hhh
              unfold ckX at h
              simp only [Bool.and_eq_true] at h
              exact (x_pur hX.xc (no_own h.1.1) (sndE a hX.xc (fun _ => hhh.1) h.2)).1
            | _ => simp [hotS] at hhh
        refine PS.imp (ps_ret ps) fun D σ H ⟨O, H0, own, ρ, R, f⟩ => ?_
        simp only [evS, evXs] at f
        exact ⟨O, H0, own, ρ, R, (FinX.out f).map fun d ρ1 own1 H1 R1 k1 f1 v p1 => f1.1 own1 σ H1 v R1 Kp.refl p1⟩
      · cases h
    | reto i =>
      have hf := hot_noS hh (by simp [hotS])
      subst hf
      dsimp only [ckXs] at h
      split at h
      · rw [Bool.and_eq_true] at h
        obtain ⟨n, d1, d2⟩ := nmB_ok h.1
        refine PS.imp (ps_ret (pe_var n (visB_ok h.2) d1 d2)) fun D σ H ⟨O, H0, own, ρ, R, f⟩ => ?_
        simp only [evS, evXs] at f
        split at f
        · rename_i c fs e0
          obtain ⟨a, fv, e1, e2, e3, e4, e5⟩ := R.ob i c fs e0
          obtain ⟨R1, eh⟩ := R.giveO e0 e1
          have h0 : H0 a = none := by
            cases q : H0 a with
            | none => rfl
            | some o => exact absurd e1 ((R.keep a o q).2 i)
          exact ⟨.ref a, e2, f.2 c fs rfl _ _ H a fv h0 (R.dis i a e1) R1 (Kp.off (Same.refl _)) e3 e4 (by rw [eh]; exact e5)⟩
        · exact False.elim f
      · cases h
    | ex e =>
      have hf := hot_noS hh (by simp [hotS])
      subst hf
      dsimp only [ckXs] at h
      split at h
      · rw [Bool.and_eq_true] at h
        refine PS.imp (ps_expr (sndX e hX.xc rfl h.2).1 (sw_call h.1)) fun D σ H ⟨O, H0, own, ρ, R, f⟩ => ?_
        simp only [evS, evXs] at f
        exact ⟨O, H0, own, ρ, R, (FinX.out f).map fun d ρ1 own1 H1 R1 k1 f1 v p1 => f1 own1 σ H1 R1 Kp.refl⟩
      · cases h
    | fset i g e =>
      have hf := hot_noS hh (by simp [hotS])
      subst hf
      dsimp only [ckXs] at h
      split at h
      · simp only [Bool.and_eq_true, decide_eq_true_eq] at h
        obtain ⟨⟨⟨⟨⟨⟨h1, h2⟩, h3⟩, h4⟩, h5⟩, h6⟩, h7⟩ := h
        subst h3
        obtain ⟨n, d1, d2⟩ := nmB_ok h1
        have eK := hX.xc.eK
        subst eK
        refine PS.imp (ps_fld (pe_var n (visB_ok h2) d1 d2) (sndE e hX.xc (fun z => by cases z) h7).1 (sw_no (by simpa using h6))) fun D σ H ⟨O, H0, own, ρ, R, f⟩ => ?_
        simp only [evS, evXs] at f
        refine ⟨O, H0, own, ρ, R, (Fo.fin R f).map fun d H1 s1 f1 v p1 => ?_⟩
        split at f1
        · rename_i c fs e0
          split at f1
          · rename_i hl
            obtain ⟨a, dx, fv, q1, q2, q3, q4, q5, R1, k1⟩ := (R.mono s1).fset e0 hl h4 (p1.2 (no_own h5))
            exact ⟨.ref a, q1, a, _, dx, fv, rfl, q2, q3, q4, q5, f1 _ _ _ R1 k1⟩
          · exact False.elim f1
        · exact False.elim f1
      · cases h
    | px ts es =>
      have hf := hot_noS hh (by simp [hotS])
      subst hf
      dsimp only [ckXs] at h
      split at h
      · rename_i l kt pt vs kv pv pos _
        simp only [Bool.and_eq_true, decide_eq_true_eq] at h
        obtain ⟨⟨⟨h1, h2⟩, h3⟩, h4⟩ := h
        have hc := hX.xc.calm rfl
        have hN := hX.xc.nd
        have sw := swN_ok (k1 := kt) (p1 := pt) (k2 := kv) (p2 := pv) (r := none) hX.kd (by
          split at h4
          · assumption
          · cases h4)
        have eK := hX.xc.eK
        subst eK
        refine PS.impL (ps_asg (pe_tup (sndEs es hX.xc (fun z => by cases z) h3)) (pg_tup hc (pgs_x hN (fun x hx => ⟨locB_ok hx, .inl (hX.fn x)⟩) (fun x hx => visB_ok hx) h2) (ckTx_len h2).1 (ckTx_len h2).2) rfl sw rfl) fun D σ H hl ⟨O, H0, own, ρ, R, f⟩ => ?_
        simp only [evS, evXs] at f
        refine ⟨O, H0, own, ρ, R, (Fo.fin R f).map fun ds H1 s1 f1 us p1 => ?_⟩
        split at f1
        · rename_i ρ1 e1
          have R1 := R.mono s1
          have hz : us.length = ts.length := by
            rw [p1.length]
            exact setTs_len e1
          refine ⟨by rw [hz]; exact Nat.le_trans h1 (by decide), fun q hq => ⟨q, us, rfl, .of upd_same, hz, ?_⟩⟩
          refine gXs_set (R1.mono (same_upd hq)) e1 (p1.mono (same_erO (same_upd hq))) (fun t ht => by rw [hl]; exact ckTx_at h2 t ht) fun own1 σ1 H2 R2 k2 => f1 own1 σ1 H2 R2 ((Kp.of (same_upd hq) fun _ _ c => c).trans k2)
        · exact False.elim f1
      · cases h
    | mk i c m es =>
      have hf := hot_noS hh (by simp [hotS])
      subst hf
      dsimp only [ckXs] at h
      split at h
      · simp only [Bool.and_eq_true, decide_eq_true_eq] at h
        obtain ⟨⟨⟨hme, h1⟩, h2⟩, h3⟩ := h
        obtain ⟨n, _, _⟩ := nmB_ok h1
        obtain ⟨q1, q2, q3, q4⟩ := c_mk hX.xc rfl h3
        refine PS.impL (ps_set hX.xc.nd n (locB_ok h2) q1 (sw_no q3) (.inl (hX.fn _))) fun D σ H hl ⟨O, H0, own, ρ, R, f⟩ => ?_
        simp only [evS, evXs] at f
        have hi : i < σ.length := by rw [hl]; exact (List.getElem?_eq_some_iff.mp n).1
        have f := Fo.fin2 (r := evMk C G c m es ρ) R f
        refine ⟨O, H0, own, ρ, R, f.map fun s H1 s1 f1 x fv fs es hx oa hl hf => ?_⟩
        subst es
        refine f1 _ _ _ ((R.birth hx s1 oa.2.choose_spec).adoptO (fun c => R.hd x c hx) (R.h0 hx) oa hl hf hi fun a e => hme (hX.xc.me i a e)) (Kp.of s1 fun b hb c => ?_)
        rcases hid_setO c with (c | c) | c
        · exact .inl c
        · subst c; exact absurd hx hb
        · exact .inr c
      · cases h
    | mkx c m es =>
      have hf := hot_noS hh (by simp [hotS])
      subst hf
      dsimp only [ckXs] at h
      split at h
      · obtain ⟨q1, q2, q3, q4⟩ := c_mk hX.xc rfl h
        refine PS.imp (ps_expr q1 (sw_call q2)) fun D σ H ⟨O, H0, own, ρ, R, f⟩ => ?_
        simp only [evS, evXs] at f
        have f := Fo.fin2 (r := evMk C G c m es ρ) R f
        exact ⟨O, H0, own, ρ, R, f.map fun s H1 s1 f1 x fv fs es hx oa hl hf => f1 own σ H1 (R.mono s1) (Kp.of s1 fun _ _ c => c)⟩
      · cases h
    | cpy i j c m =>
      have hf := hot_noS hh (by simp [hotS])
      subst hf
      dsimp only [ckXs] at h
      split at h
      · simp only [Bool.and_eq_true, decide_eq_true_eq] at h
        obtain ⟨⟨⟨⟨⟨⟨hme, h1⟩, h2⟩, h3⟩, h4⟩, h5⟩, h6⟩ := h
        obtain ⟨n, _, _⟩ := nmB_ok h1
        refine PS.impL (ps_set hX.xc.nd n (locB_ok h2) (x_cp hX.xc rfl h3 h4 h5 h6) (sw_no rfl) (.inl (hX.fn _))) fun D σ H hl ⟨O, H0, own, ρ, R, f⟩ => ?_
        simp only [evS, evXs] at f
        have hi : i < σ.length := by rw [hl]; exact (List.getElem?_eq_some_iff.mp n).1
        split at f
        · rename_i c' fs e0
          split at f
          · rename_i ec
            subst ec
            refine ⟨O, H0, own, ρ, fs, R, e0, ?_⟩
            cases eg : prN c' (G m [obD c' fs]) with
            | bad => rw [eg] at f; exact f
            | exc x => rw [eg] at f; exact fun H' R' k' => f own σ H' R' k'
            | ok w =>
              obtain ⟨fs1, fs2⟩ := w
              rw [eg] at f
              intro x H' fv1 R' k' hx oa hl1 hf1
              refine f _ _ _ (R'.adoptO (fun c => R.hd x c hx) (R.h0 hx) oa hl1 hf1 hi fun a e => hme (hX.xc.me i a e)) fun b o eb nb => ⟨(k' b o eb nb).1, fun c => ?_⟩
              rcases hid_setO c with (c | c) | c
              · exact nb (.inl c)
              · subst c; rw [hx] at eb; cases eb
              · exact nb (.inr c)
          · exact False.elim f
        · exact False.elim f
      · cases h
  | .xite c a b, X, xa, W, hot, st, hX, hh, h => by
    have hf := hot_noS hh (by simp [hotS])
    subst hf
    unfold ckS at h
    rw [Bool.and_eq_true] at h
    obtain ⟨tc, h⟩ := h
    split at h
    · simp only [Bool.and_eq_true] at h
      refine PS.imp (ps_if ((sndX c hX.xc rfl h.1.1).2.1 tc) (sndSs a hX (fun z => by cases z) h.1.2) (sndSs b hX (fun z => by cases z) h.2)) fun D σ H ⟨O, H0, own, ρ, R, f⟩ => ?_
      simp only [evS] at f
      refine ⟨O, H0, own, ρ, R, (FinX.out f).map fun d ρ1 own1 H1 R1 k1 f1 => ?_⟩
      unfold iteX at f1
      split at f1
      · exact ⟨true, rfl, O, H0, own1, ρ1, R1, f1⟩
      · exact ⟨false, rfl, O, H0, own1, ρ1, R1, f1⟩
      · exact False.elim f1
    · cases h
theorem sndSs : ∀ (x : Ss) {X : Cx} {xa : XA} {W : WX} {hot : Bool} {st : List Stmt}, XT X K C cv G T xa W k hot → (hot = true → hotSs x = true) → ckSs T X.N X.env.scope x st = true → PSs X st (tSs K C cv G xa W x)
  | .nil, X, xa, W, hot, st, hX, hh, h => by
    unfold ckSs at h
    rw [List.isEmpty_iff] at h
    subst h
    refine PSs.imp pss_nil fun D σ H ⟨O, H0, own, ρ, R, f⟩ => ?_
    simp only [evSs] at f
    exact f own σ H R Kp.refl
  | .cons s ss, X, xa, W, hot, st, hX, hh, h => by
    have hh' : (hot = true → hotS s = true) ∧ (hot = true → hotSs ss = true) := by
      refine ⟨fun z => ?_, fun z => ?_⟩ <;> (have := hh z; simp [hotSs] at this; first | exact this.1 | exact this.2)
    by_cases hz : ∃ i, s = .frz i
    · obtain ⟨i, hz⟩ := hz
      subst hz
      have h' : ckSs T X.N X.env.scope ss st = true := by unfold ckSs at h; exact h
      refine PSs.imp (sndSs ss hX hh'.2 h') fun D σ H ⟨O, H0, own, ρ, R, f⟩ => ?_
      simp only [evSs, evS] at f
      split at f
      · rename_i ds e
        exact ⟨O, H0, _, _, R.freeze e, Fo.mono (show Fo K cv W xa O H0 own H (evSs C G ss _) D from f) (Kp.off (Same.refl _))⟩
      · exact False.elim f
    · obtain ⟨x, r, e, h1, h2⟩ := ckSs_cons (fun i e => hz ⟨i, e⟩) h
      subst e
      refine PSs.imp (pss_cons (sndS s hX hh'.1 h1) (sndSs ss hX hh'.2 h2)) fun D σ H ⟨O, H0, own, ρ, R, f⟩ => ?_
      simp only [evSs] at f
      exact ⟨O, H0, own, ρ, R, Fo.seq f⟩
end
end
end Pu

/-! Pu, part 18: defs; the whole text up to a level; the law's end. -/
namespace Pu
open PySem PySem.Spec PyProof.Rows L2

/-- a def: its name, its names' slots, its parameters, its body, the statement -/
structure Df where
  name : Str
  N : List Str
  ps : List Str
  body : Ss
  st : Stmt
  qual : Str := name
  /-- the place of an object among the arguments -/
  me : Option Nat := none
/-- a def with an object at p, by its list of arguments -/
def evDl (C : Nat → D) (G : Nat → List D → Rs D) (n p : Nat) (b : Ss) (ds : List D) : Rs D := match ds.drop p with
  | o :: post => (match unOb o with
    | some (c, fs) => evDo C G n p b (ds.take p) c fs post
    | none => .bad)
  | [] => .bad
/-- what the defs answer, k calls deep -/
def Gk (fs : List (Nat × Df)) (os : List (Nat × (Nat × Df))) (C : Nat → D) : Nat → Nat → List D → Rs D
  | 0, _, _ => .bad
  | k + 1, f, ds => match fs.lookup f with
    | some d => evD C (Gk fs os C k) d.N.length d.body ds
    | none => match os.lookup f with
      | some q => evDl C (Gk fs os C k) q.2.N.length q.1 q.2.body ds
      | none => .bad
theorem evDl_at {C : Nat → D} {G : Nat → List D → Rs D} {n p : Nat} {b : Ss} {pre post : List D} {c : Nat} {fs : List (Nat × D)} (h : pre.length = p) : evDl C G n p b (pre ++ obD c fs :: post) = evDo C G n p b pre c fs post := by
  unfold evDl
  rw [List.drop_left' h, List.take_left' h]
  dsimp only
  rw [unOb_ob]
/-- a class's statements -/
def clsBody (s : Stmt) : List Stmt := match s with
  | .ClassDef _ _ _ b _ _ _ _ _ _ _ => b
  | _ => []
/-- the text is what the small language says -/
structure DOk (T : Tb) (d : Df) : Prop where
  sc : FnScope d.N d.ps (defScope d.st)
  ck : ckSs { T with me := d.me } d.N (defScope d.st) d.body (defBody d.st) = true
  bd : ∀ (kV doc pm : Value) (an : Option Addr) (cdv ct : Value) (us : List Value), us.length = d.ps.length → bindArgs (PySem.W.fnOf d.name d.qual (defArgs d.st) (defBody d.st) (defScope d.st) .none kV doc pm an cdv ct) ⟨us, []⟩ = pure (d.ps.zip us)
/-- the facts of the heap that a table of names needs -/
structure Wd (K : PySem.W.Frag) (mg : Str → Option Value) (C : Nat → D) (cv : Nat → Value) (T : Tb) : Prop where
  glob : ∀ i x, T.consts.lookup i = some x → ∃ v u, mg x = some u ∧ RelV v u ∧ Rp K (fun _ => none) v (C i)
  blt : ∀ x, T.blts.contains x = true → mg x = none
  cls : ∀ c x, T.cls.lookup c = some x → ∃ Ca, cv c = .ref Ca ∧ mg x = some (.ref Ca) ∧ PySem.W.excIn K Ca veT "ValueError.__new__" = true ∧ PySem.W.keepIn K (.ref Ca) = true ∧
    PySem.W.subIn K (.ref Ca) (.type "BaseException") = some true ∧ PySem.W.typeIn K (.ref Ca) = some (.type "type")
  any : ∀ c, ∃ Ca, cv c = .ref Ca ∧ ExcC K Ca
  sub : ∀ c d y, T.cls.lookup d = some y → PySem.W.kitOne K (cv c) (cv d) = some (subC c d) ∧ PySem.W.exmOne K (cv c) (cv d) = some (subC c d)
section
variable {P : Program} {w : World} {K : PySem.W.Frag} {mg : Str → Option Value} {base : Heap} {C : Nat → D} {cv : Nat → Value} {T : Tb} {fs : List (Nat × Df)} {os : List (Nat × (Nat × Df))}
theorem start_rel {O : Addr → Prop} {H : Hp} {vs : List V} {ds : List D} {n : Nat} {N : List Str} (hn : N.length = n) (hO : ∀ b, O b → H b ≠ none) (r : RpL K (er O H) vs ds) :
    Rel K ⟨none, none⟩ O H (fun _ => none) (L2.start N vs) H (ds.map Slot.cl ++ List.replicate (n - ds.length) Slot.no) := by
  have hl := r.length
  have hid0 : hid O (fun _ => none) = O := funext fun a => propext ⟨fun c => c.elim id fun ⟨i, e⟩ => (by cases e), fun c => .inl c⟩
  have get : ∀ (i : Nat) (s : Slot), (ds.map Slot.cl ++ List.replicate (n - ds.length) Slot.no)[i]? = some s → (∃ d, ds[i]? = some d ∧ s = .cl d) ∨ s = .no := by
    intro i s e
    by_cases hi : i < ds.length
    · rw [List.getElem?_append_left (by simpa using hi), List.getElem?_map] at e
      cases q : ds[i]? with
      | none => rw [q] at e; cases e
      | some d => rw [q] at e; exact .inl ⟨d, rfl, (Option.some.inj e).symm⟩
    · rw [List.getElem?_append_right (by simpa using hi)] at e
      exact .inr (List.eq_of_mem_replicate (List.mem_of_getElem? e))
  refine ⟨?_, fun b o e => ⟨e, fun i z => by cases z⟩, fun _ _ _ z => (by cases z), fun _ _ z => (by cases z), hO, fun i d e => ?_, fun i es e => ?_, fun _ _ => rfl, fun i c e => ?_, fun i c gs e => ?_, fun _ _ _ _ h => (by cases h)⟩
  · unfold L2.start
    simp only [List.length_append, List.length_map, List.length_replicate, hl, hn]
  · rcases get i _ e with ⟨d', h1, h2⟩ | h
    · cases h2
      obtain ⟨v, h3, h4⟩ := r.get h1
      refine ⟨v, ?_, by rw [hid0]; exact h4⟩
      unfold L2.start
      rw [List.getElem?_append_left (by rw [List.length_map]; exact (List.getElem?_eq_some_iff.mp h3).1), List.getElem?_map, h3]; rfl
    · cases h
  · rcases get i _ e with ⟨d', h1, h2⟩ | h2 <;> cases h2
  · rcases get i _ e with ⟨d', h1, h2⟩ | h2 <;> cases h2
  · rcases get i _ e with ⟨d', h1, h2⟩ | h2 <;> cases h2
/-- the same, with an object of the frame's own -/
theorem start_relO {O : Addr → Prop} {H : Hp} {pre post : List V} {dpre dpost : List D} {a : Addr} {c : Nat} {gs : List (Nat × D)} {fv : List (Str × V)} {n p : Nat} {N : List Str} (hn : N.length = n) (hp : pre.length = p) (hO : ∀ b, O b → H b ≠ none) (hOa : ¬ O a) (oa : ObAt K H a c fv) (hl : gs.length ≤ 100)
    (hf : FRp K (er (fun b => O b ∨ b = a) H) fv gs) (rp : RpL K (er (fun b => O b ∨ b = a) H) pre dpre) (rq : RpL K (er (fun b => O b ∨ b = a) H) post dpost) :
    Rel K ⟨none, some (p, a)⟩ O (er (fun b => b = a) H) (fun j => if j = p then some a else none) (L2.start N (pre ++ .ref a :: post)) H (dpre.map Slot.cl ++ Slot.ob c gs :: dpost.map Slot.cl ++ List.replicate (n - (dpre.length + (dpost.length + 1))) Slot.no) := by
  have e1 := rp.length
  have e2 := rq.length
  have hown : ∀ {j b}, (if j = p then some a else none) = some b → j = p ∧ b = a := fun {j b} h => by
    split at h
    · cases h; exact ⟨by assumption, rfl⟩
    · cases h
  have eh : hid O (fun j => if j = p then some a else none) = fun b => O b ∨ b = a := funext fun b => propext ⟨fun z => z.elim .inl fun ⟨j, e⟩ => .inr (hown e).2, fun z => z.elim .inl fun z => .inr ⟨p, by rw [z]; exact if_pos rfl⟩⟩
  have get : ∀ (i : Nat) (s : Slot), (dpre.map Slot.cl ++ Slot.ob c gs :: dpost.map Slot.cl ++ List.replicate (n - (dpre.length + (dpost.length + 1))) Slot.no)[i]? = some s →
      (∃ d v, s = .cl d ∧ (L2.start N (pre ++ .ref a :: post))[i]? = some (some v) ∧ Rp K (er (fun b => O b ∨ b = a) H) v d) ∨ (i = p ∧ s = .ob c gs) ∨ s = .no := by
    intro i s e
    unfold L2.start
    by_cases h1 : i < dpre.length
    · left
      rw [List.append_assoc, List.getElem?_append_left (by simpa using h1), List.getElem?_map] at e
      cases q : dpre[i]? with
      | none => rw [q] at e; cases e
      | some d =>
        rw [q] at e
        obtain ⟨v, h3, h4⟩ := rp.get q
        refine ⟨d, v, (Option.some.inj e).symm, ?_, h4⟩
        rw [List.map_append, List.append_assoc, List.getElem?_append_left (by rw [List.length_map, e1]; exact h1), List.getElem?_map, h3]; rfl
    by_cases h2 : i = dpre.length
    · right; left
      refine ⟨by omega, ?_⟩
      rw [List.append_assoc, List.getElem?_append_right (by simpa using (by omega : dpre.length ≤ i))] at e
      rw [show i - (dpre.map Slot.cl).length = 0 by rw [List.length_map]; omega] at e
      exact (Option.some.inj e).symm
    by_cases h3 : i < dpre.length + 1 + dpost.length
    · left
      rw [List.append_assoc, List.getElem?_append_right (by simpa using (by omega : dpre.length ≤ i)), List.cons_append] at e
      obtain ⟨m, rfl⟩ : ∃ m, i = dpre.length + 1 + m := ⟨i - (dpre.length + 1), by omega⟩
      rw [show dpre.length + 1 + m - (dpre.map Slot.cl).length = m + 1 by rw [List.length_map]; omega, List.getElem?_cons_succ, List.getElem?_append_left (by rw [List.length_map]; omega), List.getElem?_map] at e
      cases q : dpost[m]? with
      | none => rw [q] at e; cases e
      | some d =>
        rw [q] at e
        obtain ⟨v, h4, h5⟩ := rq.get q
        refine ⟨d, v, (Option.some.inj e).symm, ?_, h5⟩
        rw [List.map_append, List.append_assoc, List.getElem?_append_right (by rw [List.length_map, e1]; omega), show dpre.length + 1 + m - (pre.map some).length = m + 1 by rw [List.length_map, e1]; omega, List.map_cons, List.cons_append, List.getElem?_cons_succ, List.getElem?_append_left (by rw [List.length_map, e2]; omega), List.getElem?_map, h4]
        rfl
    · right; right
      rw [List.getElem?_append_right (by simp; omega)] at e
      exact List.eq_of_mem_replicate (List.mem_of_getElem? e)
  have atp : (L2.start N (pre ++ .ref a :: post))[p]? = some (some (.ref a)) := by
    unfold L2.start
    rw [List.map_append, List.append_assoc, List.getElem?_append_right (by rw [List.length_map]; omega), show p - (pre.map some).length = 0 by rw [List.length_map]; omega]
    rfl
  refine ⟨?_, fun b o e => ?_, fun i j b h1 h2 => ?_, fun i b h => ?_, hO, fun i d e => ?_, fun i es e => ?_, fun i h => ?_, fun i x e => ?_, fun i c' gs' e => ?_, fun q b c' gs' h e => ?_⟩
  · unfold L2.start
    simp only [List.length_append, List.length_map, List.length_replicate, List.length_cons, e1, e2, hn]
  · obtain ⟨n, e⟩ := er_some e
    exact ⟨e, fun i z => n (hown z).2⟩
  · rw [(hown h1).1, (hown h2).1]
  · rw [(hown h).2]; exact hOa
  · rcases get i _ e with ⟨d', v, h1, h2, h3⟩ | ⟨_, h1⟩ | h1
    · cases h1
      exact ⟨v, h2, by rw [eh]; exact h3⟩
    · cases h1
    · cases h1
  · rcases get i _ e with ⟨d', v, h1, h2, h3⟩ | ⟨_, h1⟩ | h1 <;> cases h1
  · by_cases hi : i = p
    · exfalso
      subst hi
      have := h (.ob c gs) (by
        rw [List.append_assoc, List.getElem?_append_right (by rw [List.length_map]; omega), show i - (dpre.map Slot.cl).length = 0 by rw [List.length_map]; omega]
        rfl)
      cases this
    · exact if_neg hi
  · rcases get i _ e with ⟨d', v, h1, h2, h3⟩ | ⟨_, h1⟩ | h1 <;> cases h1
  · rcases get i _ e with ⟨d', v, h1, h2, h3⟩ | ⟨hi, h1⟩ | h1
    · cases h1
    · cases h1
      subst hi
      exact ⟨a, fv, if_pos rfl, atp, oa, hl, by rw [eh]; exact hf⟩
    · cases h1
  · cases h
    exact if_pos rfl
theorem Lk.at_ {P : Program} {w : World} {base : Heap} {G : Nat → List D → Rs D} {k : Nat} (L : Lk P w K mg base C cv G T k) (m : Option Nat) : Lk P w K mg base C cv G { T with me := m } k := ⟨L.glob, L.fn, L.blt, L.cls, L.any, L.sub, L.mt, L.fo⟩
theorem def_ok {k : Nat} {d : Df} {f : Nat} {fa : Addr} {fd : FuncData} (L : Lk P w K mg base C cv (Gk fs os C k) T k) (hf : fs.lookup f = some d) (h : DOk T d) (F : FunD K d.name d.qual (defArgs d.st) (defBody d.st) (defScope d.st) [] [] fa fd) :
    FnOk P w K mg base (L2.CX P w) (2 * k + 2) fa fd d.ps (spG K cv (Gk fs os C (k + 1) f) d.ps.length) := by
  refine F.ok h.sc (fun vs H Q E ⟨ds, O, hl, _⟩ => hl) fun cdv A outer s H vs Q E hr ⟨ds, O, hl, hO, r, hg⟩ => ?_
  have xt : XT (cxOf (L2.CX P w) P w K mg base d.N d.qual (defScope d.st) fa cdv A outer s H E) K C cv (Gk fs os C k) { T with me := d.me } ⟨none, none⟩ (fun cls dd _ H => E cls dd H) k false :=
    ⟨⟨rfl, fun _ => rfl, fun _ => hr, h.sc.nd, takes_of rfl rfl rfl rfl, L.at_ _, fun _ _ _ e => (by cases e), fun _ => rfl, fun _ _ e => (by cases e)⟩, fun _ => rfl, h.sc.kind, fun _ => passes_of rfl, fun _ => ⟨rfl, rfl⟩⟩
  refine ⟨_, sndSs d.body xt (fun z => by cases z) h.ck, O, H, fun _ => none, _, start_rel (n := d.N.length) rfl hO r, ?_⟩
  unfold Gk at hg
  rw [hf] at hg
  unfold evD at hg
  dsimp only at hg
  cases e : evSs C (Gk fs os C k) d.body (ds.map Slot.cl ++ List.replicate (d.N.length - ds.length) Slot.no) with
  | next ρ =>
    rw [e] at hg
    exact fun own' σ' H' R kp => hg .non H' R.same0 .non
  | ret v =>
    rw [e] at hg
    exact hg
  | retm v ρ =>
    rw [e] at hg
    dsimp only at hg
    have nd : (∀ l, v ≠ .dict l) ∧ noDict v = .ok v := by
      cases v <;> first | exact ⟨fun _ z => (by cases z), rfl⟩ | exact False.elim hg
    rw [nd.2] at hg
    exact ⟨fun own' σ' H' u R kp r => hg u H' R.same0 (r.mono (same_er fun b o e n => ⟨e, fun z => n (.inl z)⟩)), fun c1 fs1 ed => absurd ed (by unfold obD; exact nd.1 _)⟩
  | exc c ρ =>
    rw [e] at hg
    exact fun own' σ' H' R kp => hg H' R.same0
  | brk ρ => rw [e] at hg; exact False.elim hg
  | cont ρ => rw [e] at hg; exact False.elim hg
  | bad => rw [e] at hg; exact False.elim hg
theorem no_dict {H : Hp} {v : V} {kvs : List (D × D)} (h : Rp K H v (.dict kvs)) : False := by cases h
theorem obD_inj {c c1 : Nat} {f f1 : List (Nat × D)} (h : obD c f = obD c1 f1) : c = c1 ∧ f = f1 := by
  have := congrArg unOb h
  rw [unOb_ob, unOb_ob] at this
  cases this
  exact ⟨rfl, rfl⟩
/-- .. a def with an object among its arguments -/
theorem defo_ok {k p : Nat} {d : Df} {g : List D → Rs D} {fa : Addr} {fd : FuncData} (L : Lk P w K mg base C cv (Gk fs os C k) T k) (hm : d.me = some p) (hg0 : ∀ pre c gs post, pre.length = p → g (pre ++ obD c gs :: post) = evDo C (Gk fs os C k) d.N.length p d.body pre c gs post) (h : DOk T d) (F : FunD K d.name d.qual (defArgs d.st) (defBody d.st) (defScope d.st) [] [] fa fd) :
    FnOk P w K mg base (L2.CX P w) (2 * k + 2) fa fd d.ps (spO K cv g d.ps.length p) := by
  refine F.ok h.sc (fun vs H Q E ⟨_, _, _, _, _, _, _, _, _, _, hl, _⟩ => hl) fun cdv A outer s H vs Q E hr ⟨pre, post, dpre, dpost, O, a, c, gs, fv, ev, hl, hp, hOa, hO, oa, hz, hf, rp, rq, hg⟩ => ?_
  subst ev
  have xt : XT (cxOf (L2.CX P w) P w K mg base d.N d.qual (defScope d.st) fa cdv A outer s H E) K C cv (Gk fs os C k) { T with me := d.me } ⟨none, some (p, a)⟩ (fun cls dd _ H => E cls dd H) k false :=
    ⟨⟨rfl, fun _ => rfl, fun _ => hr, h.sc.nd, takes_of rfl rfl rfl rfl, L.at_ _, fun _ _ _ e => (by cases e), fun _ => rfl, fun q b e => (by cases e; exact hm)⟩, fun _ => rfl, h.sc.kind, fun _ => passes_of rfl, fun _ => ⟨rfl, rfl⟩⟩
  refine ⟨_, sndSs d.body xt (fun z => by cases z) h.ck, O, er (fun b => b = a) H, _, _, start_relO (n := d.N.length) rfl hp hO hOa oa hz hf rp rq, ?_⟩
  rw [hg0 _ _ _ _ (by rw [← rp.length, hp])] at hg
  -- where the object is behind it
  have back : ∀ {O1 : Addr → Prop} {own' : Ow} {σ' : L2.St} {H' : Hp} {ρ : Env} {c' : Nat} {gs' : List (Nat × D)}, Rel K ⟨none, some (p, a)⟩ O1 (er (fun b => b = a) H) own' σ' H' ρ → ρ[p]? = some (.ob c' gs') → own' p = some a ∧ ∃ fv', ObAt K H' a c' fv' ∧ FRp K (er (hid O1 own') H') fv' gs' := fun {O1 own' σ' H' ρ c' gs'} R e => by
    have q := R.me p a c' gs' rfl e
    obtain ⟨b, gv, h1, h2, h3, h4, h5⟩ := R.ob p c' gs' e
    rw [q] at h1
    cases h1
    exact ⟨q, gv, h3, h5⟩
  have se : ∀ {O1 O2 : Addr → Prop} {own' : Ow} {H' : Hp}, (∀ b, O2 b → O1 b ∨ b = a) → own' p = some a → Same (er (hid O1 own') H') (er O2 H') := fun {O1 O2 own' H'} hs q => same_er fun b o e n => ⟨e, fun z => n ((hs b z).elim .inl fun z => .inr ⟨p, by rw [z]; exact q⟩)⟩
  unfold evDo at hg
  cases e : evSs C (Gk fs os C k) d.body (dpre.map Slot.cl ++ Slot.ob c gs :: dpost.map Slot.cl ++ List.replicate (d.N.length - (dpre.length + (dpost.length + 1))) Slot.no) with
  | next ρ =>
    rw [e] at hg
    dsimp only at hg
    unfold endO at hg
    split at hg
    case h_3 => exact False.elim hg
    · rename_i r er
      split at er
      · rename_i c' gs' e2
        cases er
        obtain ⟨d0, o, f', h1, h2, h3, h4⟩ := hg
        cases h1
        rw [unOb_ob] at h2
        cases h2
        rcases h4 with ⟨_, h4⟩ | ⟨c1, fs1, h4, _⟩
        · intro own' σ' H' R kp
          obtain ⟨q, gv, q1, q2⟩ := back R e2
          exact h4 .non H' gv R.same0 q1 (q2.mono (se (fun b z => z) q)) .non
        · exact absurd h4 (by unfold obD; intro z; cases z)
      · cases er
    · rename_i er
      split at er <;> cases er
  | retm v ρ =>
    rw [e] at hg
    dsimp only at hg
    unfold endO at hg
    split at hg
    case h_3 => exact False.elim hg
    · rename_i r er
      split at er
      · rename_i c' gs' e2
        cases er
        obtain ⟨d0, o, f', h1, h2, h3, h4⟩ := hg
        cases h1
        rw [unOb_ob] at h2
        cases h2
        rcases h4 with ⟨nd, h4⟩ | ⟨c1, fs1, ed, hl1, h4⟩
        · refine ⟨fun own' σ' H' u R kp r => ?_, fun c1 fs1 ed => absurd ed (by unfold obD; exact nd _)⟩
          obtain ⟨q, gv, q1, q2⟩ := back R e2
          exact h4 u H' gv R.same0 q1 (q2.mono (se (fun b z => z) q)) (r.mono (se (fun b z => z) q))
        · refine ⟨fun own' σ' H' u R kp r => ?_, fun c2 fs2 ed2 own' σ' H' x fv1 h0 hOx R kp ox hl2 hf2 => ?_⟩
          · subst ed; exact (no_dict r).elim
          · obtain ⟨rfl, rfl⟩ := obD_inj (ed.symm.trans ed2)
            obtain ⟨q, gv, q1, q2⟩ := back R e2
            have hx : H x = none := by
              by_cases hxa : x = a
              · exact absurd (Or.inr hxa.symm) (R.dis p a q)
              · rw [er_out (O := fun b => b = a) hxa] at h0; exact h0
            exact h4 x H' gv fv1 R.same0 q1 hx ox (q2.mono (se (fun b z => by rcases z with (z | z) | z; exact .inl (.inl z); exact .inr z; exact .inl (.inr z)) q)) (hf2.mono (se (fun b z => by rcases z with (z | z) | z; exact .inl (.inl z); exact .inr z; exact .inl (.inr z)) q))
      · cases er
    · rename_i er
      split at er <;> cases er
  | exc x ρ =>
    rw [e] at hg
    dsimp only at hg
    unfold excO at hg
    split at hg
    case h_3 => exact False.elim hg
    · rename_i er
      split at er
      · split at er <;> cases er
      · cases er
    · rename_i x' er
      split at er
      · rename_i c' gs' e2
        split at er
        · rename_i ec
          obtain ⟨rfl, ec⟩ := ec
          have ec := fbeq_eq ec
          subst ec
          cases er
          intro own' σ' H' R kp
          obtain ⟨q, gv, q1, q2⟩ := back R e2
          exact hg H' gv R.same0 q1 (q2.mono (se (fun b z => z) q))
        · cases er
      · cases er
  | ret v => rw [e] at hg; exact False.elim hg
  | brk ρ => rw [e] at hg; exact False.elim hg
  | cont ρ => rw [e] at hg; exact False.elim hg
  | bad => rw [e] at hg; exact False.elim hg
/-- what is to be known of a def with an object at p -/
def OdOk (T : Tb) (fs : List (Nat × Df)) (os : List (Nat × (Nat × Df))) (m p : Nat) (d : Df) : Prop := DOk T d ∧ d.me = some p ∧ fs.lookup m = none ∧ os.lookup m = some (p, d)
theorem OdOk.g {m p : Nat} {d : Df} (h : OdOk T fs os m p d) (k : Nat) : ∀ pre c gs post, pre.length = p → Gk fs os C (k + 1) m (pre ++ obD c gs :: post) = evDo C (Gk fs os C k) d.N.length p d.body pre c gs post := fun pre c gs post e => by
  obtain ⟨_, _, h3, h4⟩ := h
  unfold Gk
  rw [h3]
  dsimp only
  rw [h4]
  exact evDl_at e
/-- the whole text, at each level -/
theorem lk_all (W : Wd K mg C cv T) (hT : ∀ f x n, T.fns.lookup f = some (x, n) → ∃ d, fs.lookup f = some d ∧ d.name = x ∧ d.ps.length = n)
    (hd : ∀ f d, fs.lookup f = some d → DOk T d ∧ ∃ fa fd, mg d.name = some (.ref fa) ∧ FunD K d.name d.qual (defArgs d.st) (defBody d.st) (defScope d.st) [] [] fa fd)
    (hm : ∀ m c x n, T.mts.lookup m = some (c, (x, n)) → ∃ d, d.ps.length = n ∧ OdOk T fs os m 0 d ∧ ∃ f fd, ObC K c ∧ Meth K (He.ga K (clsNm c)) x f ∧ (∀ g, g < 8 → fldNm g ≠ x) ∧ (x = ("__init__" : Str) → Mk K (He.ga K (clsNm c)) f ∧ mg (clsNm c) = some (.ref (He.ga K (clsNm c)))) ∧ FunD K d.name d.qual (defArgs d.st) (defBody d.st) (defScope d.st) [] [] f fd)
    (ho : ∀ f x n p, T.fos.lookup f = some (x, (n, p)) → ∃ d, d.ps.length = n ∧ OdOk T fs os f p d ∧ ∃ fa fd, mg x = some (.ref fa) ∧ FunD K d.name d.qual (defArgs d.st) (defBody d.st) (defScope d.st) [] [] fa fd) : ∀ k, Lk P w K mg base C cv (Gk fs os C k) T k
  | 0 => ⟨W.glob, fun f x n e => by
      obtain ⟨d, h1, rfl, rfl⟩ := hT f x n e
      obtain ⟨ok, fa, fd, m, F⟩ := hd f d h1
      refine ⟨fa, fd, d.ps, m, F.kp, F.bindsN ok.bd, fun vs H Q E ⟨ds, O, hl, _⟩ => hl, fun A outer s H args us vs Q E hr he hb hv ⟨ds, O, hl, _, _, z⟩ => ?_⟩
      exact False.elim z, W.blt, W.cls, W.any, W.sub, fun m c x n e => by
      obtain ⟨d, rfl, ok, f, fd, q1, q2, q3, q4, F⟩ := hm m c x n e
      exact ⟨f, fd, d.ps, q1, q2, q3, q4, F.bindsN ok.1.bd, fun vs H Q E ⟨_, _, _, _, _, _, _, _, _, _, hl, _⟩ => hl, fun A outer s H args us vs Q E hr he hb hv ⟨_, _, _, _, _, _, _, _, _, _, _, _, _, _, _, _, _, _, _, z⟩ => False.elim z⟩, fun f x n p e => by
      obtain ⟨d, rfl, ok, fa, fd, m, F⟩ := ho f x n p e
      exact ⟨fa, fd, d.ps, m, F.kp, F.bindsN ok.1.bd, fun vs H Q E ⟨_, _, _, _, _, _, _, _, _, _, hl, _⟩ => hl, fun A outer s H args us vs Q E hr he hb hv ⟨_, _, _, _, _, _, _, _, _, _, _, _, _, _, _, _, _, _, _, z⟩ => False.elim z⟩⟩
  | k + 1 => ⟨W.glob, fun f x n e => by
      obtain ⟨d, h1, rfl, rfl⟩ := hT f x n e
      obtain ⟨ok, fa, fd, m, F⟩ := hd f d h1
      exact ⟨fa, fd, d.ps, m, F.kp, F.bindsN ok.bd, def_ok (lk_all W hT hd hm ho k) h1 ok F⟩, W.blt, W.cls, W.any, W.sub, fun m c x n e => by
      obtain ⟨d, rfl, ok, f, fd, q1, q2, q3, q4, F⟩ := hm m c x n e
      exact ⟨f, fd, d.ps, q1, q2, q3, q4, F.bindsN ok.1.bd, defo_ok (lk_all W hT hd hm ho k) ok.2.1 (ok.g k) ok.1 F⟩, fun f x n p e => by
      obtain ⟨d, rfl, ok, fa, fd, m, F⟩ := ho f x n p e
      exact ⟨fa, fd, d.ps, m, F.kp, F.bindsN ok.1.bd, defo_ok (lk_all W hT hd hm ho k) ok.2.1 (ok.g k) ok.1 F⟩⟩
end

/-! ### the text's table, its facts -/
structure Tx where
  cs : List (Nat × (Str × D))
  fs : List (Nat × Df)
  cl : List (Nat × Str)
  bl : List Str
  base : Str
  /-- methods: the class -/
  ms : List (Nat × (Nat × Df)) := []
  /-- defs with an object among the arguments: its place -/
  os : List (Nat × (Nat × Df)) := []
  /-- the classes -/
  oc : List Nat := []
def Tx.tb (t : Tx) : Tb := ⟨t.cs.map fun p => (p.1, p.2.1), t.fs.map fun p => (p.1, (p.2.name, p.2.ps.length)), t.cl, t.bl, t.ms.map fun p => (p.1, (p.2.1, (p.2.2.name, p.2.2.ps.length))), t.os.map fun p => (p.1, (p.2.2.name, (p.2.2.ps.length, p.2.1))), none⟩
def Tx.obs (t : Tx) : List (Nat × (Nat × Df)) := t.ms.map (fun p => (p.1, (0, p.2.2))) ++ t.os
def Tx.C (t : Tx) (i : Nat) : D := match t.cs.lookup i with
  | some p => p.2
  | none => .none
def Tx.nm (t : Tx) (c : Nat) : Str := match t.cl.lookup c with
  | some x => x
  | none => t.base
def Tx.cv (t : Tx) (K : PySem.W.Frag) (c : Nat) : Value := .ref (He.ga K (t.nm c))
/-- a value of the heap is this data -/
def rpB (K : PySem.W.Frag) : Nat → Value → D → Bool
  | 0, _, _ => false
  | n + 1, u, d => match u, d with
    | .none, .none => true
    | .bool a, .bool b => a == b
    | .int i _, .int j => decide (i = j)
    | .str x _, .str y => decide (x = y)
    | .ref a, .tuple ds => (match K.lookup a with
      | some ⟨.type c, _, .seq its _, _⟩ => decide (c = "tuple") && (decide (its.size ≤ 1000) && (decide (its.toList.length = ds.length) && (its.toList.zip ds).all fun q => rpB K n q.1 q.2))
      | _ => false)
    | _, _ => false
theorem zip_rp {K : PySem.W.Frag} {H : Hp} {f : Value → D → Bool} (hf : ∀ u d, f u d = true → ∃ v, RelV v u ∧ Rp K H v d) : ∀ {us : List Value} {ds : List D}, us.length = ds.length → ((us.zip ds).all fun q => f q.1 q.2) = true → ∃ vs, Vals vs us ∧ RpL K H vs ds
  | [], [], _, _ => ⟨[], .nil, .nil⟩
  | [], _ :: _, e, _ => by cases e
  | _ :: _, [], e, _ => by cases e
  | u :: us, d :: ds, e, h => by
    rw [List.zip_cons_cons, List.all_cons, Bool.and_eq_true] at h
    obtain ⟨v, h1, h2⟩ := hf u d h.1
    obtain ⟨vs, h3, h4⟩ := zip_rp hf (us := us) (ds := ds) (by simpa using e) h.2
    exact ⟨v :: vs, .cons h1 h3, .cons h2 h4⟩
theorem rpB_ok {K : PySem.W.Frag} {H : Hp} : ∀ (n : Nat) (u : Value) (d : D), rpB K n u d = true → ∃ v, RelV v u ∧ Rp K H v d
  | 0, _, _, h => by cases h
  | n + 1, u, d, h => by
    unfold rpB at h
    split at h
    · exact ⟨.non, rfl, .non⟩
    · rw [beq_iff_eq] at h; subst h; exact ⟨.bl _, rfl, .bl _⟩
    · rw [decide_eq_true_eq] at h; subst h; exact ⟨.int _, ⟨_, rfl⟩, .int _⟩
    · rw [decide_eq_true_eq] at h; subst h; exact ⟨.str _, ⟨_, rfl⟩, .str _⟩
    · split at h
      · rename_i a ds _ c od its m osl q
        simp only [Bool.and_eq_true, decide_eq_true_eq] at h
        obtain ⟨h1, h2, h3, h4⟩ := h
        obtain ⟨vs, r1, r2⟩ := zip_rp (fun u d => rpB_ok n u d) h3 h4
        subst h1
        have z : its.size ≤ sizeLine := Nat.le_trans h2 (by decide)
        refine ⟨.ref a, rfl, .tup (.inr ⟨_, its, m, q, rfl, rfl, z, r1⟩) ?_ r2⟩
        rw [r1.length]
        show its.toList.length ≤ cap
        rw [Array.length_toList]
        exact z
      · cases h
    · cases h
def gloB (K : PySem.W.Frag) (x : Str) (d : D) : Bool := match PySem.W.nsIn K mainGlobals x with
  | some (some u) => rpB K 6 u d
  | _ => false
def excB (K : PySem.W.Frag) (a : Addr) : Bool :=
  He.eqO (PySem.W.findIn K (.ref a) "__getattribute__") (some (some (.builtin "BaseException.__getattribute__"))) && (He.eqO (PySem.W.findIn K (.ref a) "__getattr__") (some none) && (decide (PySem.W.subIn K (.ref a) (.type "BaseException") = some true) &&
  (PySem.W.hasDictIn K a && (He.eqO (PySem.W.findIn K (.ref a) "__class__") (some (some (.builtin "object.__class__"))) && (He.eqO (PySem.W.specialIn K (.builtin "object.__class__") "__get__") (some (some (.builtin "getset_descriptor.__get__"))) &&
  (decide (PySem.W.takesIn K (.builtin "object.__class__") = some true) && decide (PySem.W.mroIn K a (.type "object") = some true)))))))
theorem excB_ok {K : PySem.W.Frag} {a : Addr} (h : excB K a = true) : ExcC K a := by
  unfold excB at h
  simp only [Bool.and_eq_true, decide_eq_true_eq] at h
  obtain ⟨h1, h2, h3, h4, h5, h6, h7, h8⟩ := h
  exact ⟨He.eqO_ok h1, He.eqO_ok h2, h3, h4, He.eqO_ok h5, He.eqO_ok h6, h7, h8⟩
def Tx.ex (t : Tx) (K : PySem.W.Frag) : Bool := (t.cs.all fun p => gloB K p.2.1 p.2.2) && ((t.cl.all fun p => excB K (He.ga K p.2)) && t.cl.all fun p => t.cl.all fun q =>
  decide (PySem.W.kitOne K (.ref (He.ga K p.2)) (.ref (He.ga K q.2)) = some (subC p.1 q.1)) && decide (PySem.W.exmOne K (.ref (He.ga K p.2)) (.ref (He.ga K q.2)) = some (subC p.1 q.1)))
def Df.d (d : Df) : He.DefD := ⟨(d.name, none), d.name, d.qual, defArgs d.st, defBody d.st, defScope d.st, [], []⟩
def Df.dm (d : Df) (c : Nat) : He.DefD := ⟨(clsNm c, some d.name), d.name, d.qual, defArgs d.st, defBody d.st, defScope d.st, [], []⟩
def Tx.fn (t : Tx) : List He.DefD := (t.fs.map fun p => p.2.d) ++ (t.ms.map (fun p => p.2.2.dm p.2.1) ++ t.os.map fun p => p.2.2.d)
def clsFa (c : Nat) : List He.Fa := .glo (clsNm c) :: .cls (clsNm c) :: .mkr (clsNm c) :: (List.range 8).map fun f => .noat (clsNm c) (fldNm f)
def Tx.fa (t : Tx) : List He.Fa := (t.fs.map fun p => He.Fa.glo p.2.name) ++ (t.bl.map He.Fa.free ++ (t.cl.map (fun p => He.Fa.glo p.2) ++ (t.cl.map (fun p => He.Fa.exc p.2) ++ (t.ms.map (fun p => He.Fa.meth (clsNm p.2.1) p.2.2.name) ++ (t.oc.flatMap clsFa ++ t.os.map fun p => He.Fa.glo p.2.2.name)))))
theorem lookup_mem {α : Type} {i : Nat} {x : α} : ∀ {l : List (Nat × α)}, l.lookup i = some x → (i, x) ∈ l
  | [], h => by cases h
  | (j, y) :: r, h => by
    rw [List.lookup_cons] at h
    split at h
    · rename_i c
      cases h
      rw [beq_iff_eq] at c
      subst c
      exact List.mem_cons_self
    · exact List.mem_cons_of_mem _ (lookup_mem h)
theorem lookup_map {α β : Type} {g : α → β} {i : Nat} {x : β} : ∀ {l : List (Nat × α)}, (l.map fun p => (p.1, g p.2)).lookup i = some x → ∃ y, l.lookup i = some y ∧ x = g y
  | [], h => by cases h
  | (j, y) :: r, h => by
    rw [List.map_cons, List.lookup_cons] at h
    rw [List.lookup_cons]
    split at h
    · rename_i c
      rw [c]
      cases h
      exact ⟨y, rfl, rfl⟩
    · rename_i c
      rw [c]
      exact lookup_map h
/-- what is to be known of the text -/
structure Tx.Ok (t : Tx) : Prop where
  defs : ∀ p ∈ t.fs, DOk t.tb p.2
  base : t.cl.lookup 0 = some t.base
  mds : ∀ p ∈ t.ms, DOk t.tb p.2.2 ∧ p.2.2.me = some 0 ∧ t.fs.lookup p.1 = none ∧ ∀ g, g < 8 → fldNm g ≠ p.2.2.name
  ocs : ∀ p ∈ t.ms, p.2.1 ∈ t.oc
  ods : ∀ p ∈ t.os, DOk t.tb p.2.2 ∧ p.2.2.me = some p.2.1 ∧ t.fs.lookup p.1 = none ∧ t.ms.lookup p.1 = none
section
variable {t : Tx} {K : PySem.W.Frag} {h : Heap} {mg : Str → Option Value} {ts : List He.Tab} {tf : List He.Defn} {w : World}
theorem Tx.wd (ok : t.Ok) (X : K.In h) (G : h.Ns mainGlobals mg) (cd : He.SaysD t.fa t.fn K) (ex : t.ex K = true) : Wd K mg t.C (t.cv K) t.tb := by
  unfold Tx.ex at ex
  simp only [Bool.and_eq_true, List.all_eq_true, decide_eq_true_eq] at ex
  obtain ⟨e1, e2, e3⟩ := ex
  have m1 : ∀ {c x}, t.cl.lookup c = some x → He.Fa.glo x ∈ t.fa := fun {c x} h => List.mem_append_right _ (List.mem_append_right _ (List.mem_append_left _ (List.mem_map.mpr ⟨(c, x), lookup_mem h, rfl⟩)))
  have m2 : ∀ {c x}, t.cl.lookup c = some x → He.Fa.exc x ∈ t.fa := fun {c x} h => List.mem_append_right _ (List.mem_append_right _ (List.mem_append_right _ (List.mem_append_left _ (List.mem_map.mpr ⟨(c, x), lookup_mem h, rfl⟩))))
  have nm : ∀ {c x}, t.cl.lookup c = some x → t.nm c = x := fun {c x} h => by unfold Tx.nm; rw [h]
  have any : ∀ c, ∃ c', t.cl.lookup c' = some (t.nm c) ∧ ((t.cl.lookup c).isSome = true → c' = c) ∧ (t.cl.lookup c = none → c' = 0) := fun c => by
    unfold Tx.nm
    cases q : t.cl.lookup c with
    | none => exact ⟨0, ok.base, fun z => (by cases z), fun _ => rfl⟩
    | some x => exact ⟨c, q, fun _ => rfl, fun z => by cases z⟩
  refine ⟨fun i x e => ?_, fun x hx => ?_, fun c x e => ?_, fun c => ?_, fun c d y e => ?_⟩
  · obtain ⟨y, h1, rfl⟩ := lookup_map e
    have q := e1 _ (lookup_mem h1)
    unfold gloB at q
    split at q
    · rename_i u hu
      obtain ⟨v, r1, r2⟩ := rpB_ok (H := fun _ => none) 6 u _ q
      refine ⟨v, u, PySem.W.mg_of X G hu, r1, ?_⟩
      unfold Tx.C
      rw [h1]
      exact r2
    · cases q
  · have hx' : x ∈ t.bl := by simpa [Tx.tb] using hx
    exact He.free_ok X G (cd.facts (List.mem_append_right _ (List.mem_append_left _ (List.mem_map.mpr ⟨x, hx', rfl⟩))))
  · have q := He.exc_ok (cd.facts (m2 e))
    refine ⟨He.ga K x, by unfold Tx.cv; rw [nm e], He.glo_ok X G (cd.facts (m1 e)), q.1, q.2.1, q.2.2.1, q.2.2.2⟩
  · obtain ⟨c', h1, _⟩ := any c
    exact ⟨_, rfl, excB_ok (e2 _ (lookup_mem h1))⟩
  · obtain ⟨c', h1, h2, h3⟩ := any c
    have e' : t.cl.lookup d = some y := e
    have q := e3 _ (lookup_mem h1) _ (lookup_mem e')
    have es : subC c' d = subC c d := by
      cases q : t.cl.lookup c with
      | some x => rw [h2 (by rw [q]; rfl)]
      | none =>
        rw [h3 q]
        unfold subC
        by_cases hd : d = 0
        · subst hd; rfl
        · have hc : c ≠ d := fun z => by rw [z, e'] at q; cases q
          have h0 : (0 : Nat) ≠ d := fun z => hd z.symm
          simp [hd, hc, h0]
    rw [es] at q
    unfold Tx.cv
    rw [nm e']
    exact q
theorem lookup_app {α : Type} {i : Nat} {x : α} {l2 : List (Nat × α)} : ∀ {l1 : List (Nat × α)}, l1.lookup i = some x → (l1 ++ l2).lookup i = some x
  | [], h => by cases h
  | (j, y) :: r, h => by
    cases q : i == j with
    | true => simp only [List.cons_append, List.lookup_cons, q] at h ⊢; exact h
    | false => simp only [List.cons_append, List.lookup_cons, q] at h ⊢; exact lookup_app h
theorem lookup_app0 {α β : Type} {g : β → α} {i : Nat} {l2 : List (Nat × α)} : ∀ {l1 : List (Nat × β)}, l1.lookup i = none → ((l1.map fun p => (p.1, g p.2)) ++ l2).lookup i = l2.lookup i
  | [], h => rfl
  | (j, y) :: r, h => by
    cases q : i == j with
    | true => simp only [List.lookup_cons, q] at h; cases h
    | false => simp only [List.map_cons, List.cons_append, List.lookup_cons, q] at h ⊢; exact lookup_app0 h
theorem lookup_mapE {α β : Type} {g : α → β} {i : Nat} : ∀ {l : List (Nat × α)}, (l.map fun p => (p.1, g p.2)).lookup i = (l.lookup i).map g
  | [] => rfl
  | (j, y) :: r => by
    cases q : i == j with
    | true => simp only [List.map_cons, List.lookup_cons, q, Option.map_some]
    | false => simp only [List.map_cons, List.lookup_cons, q]; exact lookup_mapE
theorem Tx.lk (ok : t.Ok) (X : K.In h) (G : h.Ns mainGlobals mg) (cd : He.SaysD t.fa t.fn K) (ex : t.ex K = true) {P : Program} {base : Heap} (k : Nat) : Lk P w K mg base t.C (t.cv K) (Gk t.fs t.obs t.C k) t.tb k := by
  refine lk_all (t.wd ok X G cd ex) (fun f x n e => ?_) (fun f d e => ⟨ok.defs _ (lookup_mem e), ?_⟩) (fun m c x n e => ?_) (fun f x n p e => ?_) k
  · obtain ⟨y, h1, h2⟩ := lookup_map (g := fun d : Df => (d.name, d.ps.length)) (show (t.fs.map fun p => (p.1, (p.2.name, p.2.ps.length))).lookup f = some (x, n) from e)
    cases h2
    exact ⟨y, h1, rfl, rfl⟩
  · obtain ⟨fd, F⟩ := cd.defs (d := d.d) (List.mem_append_left _ (List.mem_map.mpr ⟨(f, d), lookup_mem e, rfl⟩))
    exact ⟨_, fd, He.glo_ok X G (cd.facts (List.mem_append_left _ (List.mem_map.mpr ⟨(f, d), lookup_mem e, rfl⟩))), F⟩
  · obtain ⟨y, h1, h2⟩ := lookup_map (g := fun q : Nat × Df => (q.1, (q.2.name, q.2.ps.length))) (show (t.ms.map fun p => (p.1, (p.2.1, (p.2.2.name, p.2.2.ps.length)))).lookup m = some (c, (x, n)) from e)
    cases h2
    obtain ⟨c, d⟩ := y
    have hm := lookup_mem h1
    obtain ⟨o1, o2, o3, o4⟩ := ok.mds _ hm
    obtain ⟨fd, F⟩ := cd.defs (d := d.dm c) (List.mem_append_right _ (List.mem_append_left _ (List.mem_map.mpr ⟨(m, (c, d)), hm, rfl⟩)))
    have fc : ∀ f ∈ clsFa c, f.ok K = true := fun f hf => cd.facts (List.mem_append_right _ (List.mem_append_right _ (List.mem_append_right _ (List.mem_append_right _ (List.mem_append_right _ (List.mem_append_left _ (List.mem_flatMap.mpr ⟨_, ok.ocs _ hm, hf⟩)))))))
    have oc : ObC K c := ⟨He.cls_ok (fc _ (List.mem_cons_of_mem _ List.mem_cons_self)), fun f hf => He.noat_ok (fc _ (List.mem_cons_of_mem _ (List.mem_cons_of_mem _ (List.mem_cons_of_mem _ (List.mem_map.mpr ⟨f, List.mem_range.mpr hf, rfl⟩)))))⟩
    have mt : Meth K (He.ga K (clsNm c)) d.name (He.ma K (He.ga K (clsNm c)) d.name) := He.meth_ok (cd.facts (List.mem_append_right _ (List.mem_append_right _ (List.mem_append_right _ (List.mem_append_right _ (List.mem_append_left _ (List.mem_map.mpr ⟨_, hm, rfl⟩)))))))
    refine ⟨d, rfl, ⟨o1, o2, o3, lookup_app (by rw [lookup_mapE (g := fun q : Nat × Df => (0, q.2)), h1]; rfl)⟩, _, fd, oc, mt, o4, fun e => ?_, F⟩
    have hn : d.name = "__init__" := e
    have mk := He.mkr_ok (fc _ (List.mem_cons_of_mem _ (List.mem_cons_of_mem _ List.mem_cons_self)))
    rw [← hn] at mk
    exact ⟨mk, He.glo_ok X G (fc _ List.mem_cons_self)⟩
  · obtain ⟨y, h1, h2⟩ := lookup_map (g := fun q : Nat × Df => (q.2.name, (q.2.ps.length, q.1))) (show (t.os.map fun p => (p.1, (p.2.2.name, (p.2.2.ps.length, p.2.1)))).lookup f = some (x, (n, p)) from e)
    cases h2
    obtain ⟨p, d⟩ := y
    have hm := lookup_mem h1
    obtain ⟨o1, o2, o3, o4⟩ := ok.ods _ hm
    obtain ⟨fd, F⟩ := cd.defs (d := d.d) (List.mem_append_right _ (List.mem_append_right _ (List.mem_map.mpr ⟨(f, (p, d)), hm, rfl⟩)))
    refine ⟨d, rfl, ⟨o1, o2, o3, ?_⟩, _, fd, He.glo_ok X G (cd.facts (List.mem_append_right _ (List.mem_append_right _ (List.mem_append_right _ (List.mem_append_right _ (List.mem_append_right _ (List.mem_append_right _ (List.mem_map.mpr ⟨_, hm, rfl⟩)))))))), F⟩
    unfold Tx.obs
    rw [lookup_app0 (g := fun q : Nat × Df => (0, q.2)) o4]
    exact h1
/-- THE END: the law's def answers True to every script -/
theorem Tx.walk {l : PySem.W.OpenLaw} {q : Program} {loose : List Str} {XP : (Str → Option Value) → Heap → Prop} {dr : DefRec} {n k : Nat} {f : Nat} {d : Df} {x : Str} (ok : t.Ok) (hn : l.most = some n) (hn2 : n ≤ sizeLine) (hdf : dr.params.defaults = []) (hr : Room (2 * k + 2) callerA)
    (hf : t.fs.lookup f = some d) (hname : dr.name = d.name) (hps : d.ps = [x]) (law : ∀ ns : List Int, ns.length ≤ n → Gk t.fs t.obs t.C (k + 1) f [.list (ns.map PyData.int)] = .ok (.bool true)) :
    PySem.W.WalkO q loose XP (fun w h => ∃ K : PySem.W.Frag, K.In h ∧ He.SaysX t.fa t.fn ts tf t.ex w h K) l.row.toRowW dr [] (fun f vs => PySem.call f vs) := by
  refine Att.attach_call hn hdf fun w s₀ s₁ mg mb fa o pm cd doc a vs ns Gr Y ho hd hcd hmg hobj hints hlen hg => ?_
  obtain ⟨K, KX, c⟩ := Y
  have cdd := c.t.d
  obtain ⟨fd, F⟩ := cdd.defs (d := d.d) (List.mem_append_left _ (List.mem_map.mpr ⟨(f, d), lookup_mem hf, rfl⟩))
  have dok := ok.defs _ (lookup_mem hf)
  have mgd : mg d.name = some (.ref (He.ga K d.name)) := He.glo_ok KX Gr.T.g (cdd.facts (List.mem_append_left _ (List.mem_map.mpr ⟨(f, d), lookup_mem hf, rfl⟩)))
  have efa : fa = He.ga K d.name := by
    rw [hname, mgd] at hmg
    cases hmg
    rfl
  subst efa
  have hb : ∀ (s : Shared) (u : Value), BindsTo s fd ⟨[u], []⟩ [(x, u)] := fun s u => by
    have q := FunD.bindsA F dok.bd s [u] (by rw [hps]; rfl)
    rw [hps] at q
    exact q
  refine law_call (CX := L2.CX l.prog w) (sp := spG K (t.cv K) (Gk t.fs t.obs t.C (k + 1) f) d.ps.length) KX Gr.T.g Gr.T.b Gr.T.builtins Gr.T.nolimit hg hobj hints (Nat.le_trans hlen hn2) hr (fun base KB GB => ?_) hb (fun H hO hS => ?_) fun H e s' hz => ?_
  · have q := def_ok (t.lk (P := l.prog) (base := base) (w := w) ok KB GB cdd c.more k) hf dok F
    rw [hps] at q ⊢
    exact q
  · have e0 : er (fun _ => False) H = H := funext fun b => er_out (fun z => z)
    refine ⟨[.list (ns.map PyData.int)], fun _ => False, by rw [hps]; rfl, fun b z => z.elim, ?_, ?_⟩
    · rw [e0]
      exact .cons (.lst hS (by rw [List.length_map]; exact Nat.le_trans hlen hn2) (RpL.of_ints ns)) .nil
    · rw [law ns hlen]
      intro v H' _ r
      cases r
      rfl
  · obtain ⟨_, _, _, _, _, _, _, _, _, _, _, _, z⟩ := hz
    exact z
end
end Pu

/-! Pu, part 19: words for the specs. -/
namespace Pu
open PySem PySem.Spec PyProof.Rows L2
theorem ite_and {p : Prop} [Decidable p] {q : Bool} : (if p then Rs.ok (PyData.bool q) else .ok (.bool false)) = .ok (.bool (decide p && q)) := by
  by_cases h : p <;> simp [h]
theorem ite_or {p : Prop} [Decidable p] {q : Bool} : (if p then Rs.ok (PyData.bool true) else .ok (.bool q)) = .ok (.bool (decide p || q)) := by
  by_cases h : p <;> simp [h]
@[simp] theorem turnm {g : Env → Out} {d : D} {ρ : Env} : (Out.retm d ρ).turn g = .retm d ρ := rfl
theorem prm_o {ρ : Env} {i c c' : Nat} {fs : List (Nat × D)} {d : D} (h : ∀ l, d ≠ .dict l) : prM ρ i c (.ok (.tuple [d, obD c' fs])) = if c' = c ∧ fs.length ≤ 100 then .ok d (ρ.set i (.ob c fs)) else .bad := by
  cases d <;> first | (exact absurd rfl (h _)) | (unfold prM; dsimp only; rw [unOb_ob])
theorem prm_n {ρ : Env} {i c c' : Nat} {fs : List (Nat × D)} : prM ρ i c (.ok (.tuple [.none, obD c' fs])) = if c' = c ∧ fs.length ≤ 100 then .ok .none (ρ.set i (.ob c fs)) else .bad := prm_o fun _ z => by cases z
theorem prm_b {ρ : Env} {i c c' : Nat} {fs : List (Nat × D)} {b : Bool} : prM ρ i c (.ok (.tuple [.bool b, obD c' fs])) = if c' = c ∧ fs.length ≤ 100 then .ok (.bool b) (ρ.set i (.ob c fs)) else .bad := prm_o fun _ z => by cases z
theorem prm_i {ρ : Env} {i c c' : Nat} {fs : List (Nat × D)} {b : Int} : prM ρ i c (.ok (.tuple [.int b, obD c' fs])) = if c' = c ∧ fs.length ≤ 100 then .ok (.int b) (ρ.set i (.ob c fs)) else .bad := prm_o fun _ z => by cases z
theorem prm_l {ρ : Env} {i c c' : Nat} {fs : List (Nat × D)} {b : List D} : prM ρ i c (.ok (.tuple [.list b, obD c' fs])) = if c' = c ∧ fs.length ≤ 100 then .ok (.list b) (ρ.set i (.ob c fs)) else .bad := prm_o fun _ z => by cases z
theorem prm_t {ρ : Env} {i c c' : Nat} {fs : List (Nat × D)} {b : List D} : prM ρ i c (.ok (.tuple [.tuple b, obD c' fs])) = if c' = c ∧ fs.length ≤ 100 then .ok (.tuple b) (ρ.set i (.ob c fs)) else .bad := prm_o fun _ z => by cases z
theorem prm_x {ρ : Env} {i c x : Nat} : prM ρ i c (.exc x) = .exc x ρ := rfl
theorem prob_u {c c' : Nat} {fs : List (Nat × D)} : prOb c (.tuple [.none, obD c' fs]) = if c' = c ∧ fs.length ≤ 100 then .ok (.ob c fs) else .bad := by unfold prOb; dsimp only; rw [unOb_ob]
theorem prn_u {c c1 c2 : Nat} {f1 f2 : List (Nat × D)} : prN c (.ok (.tuple [obD c1 f1, obD c2 f2])) = if c1 = c ∧ c2 = c ∧ f1.length ≤ 100 ∧ f2.length ≤ 100 then .ok (f1, f2) else .bad := by unfold prN; dsimp only; rw [unOb_ob, unOb_ob]
mutual
theorem dbeq_refl : ∀ {d : D} {n : Nat}, okD n d = true → dbeq d d = true
  | .none, _, _ => rfl
  | .bool b, _, _ => by unfold dbeq; exact beq_self_eq_true b
  | .int b, _, _ => by unfold dbeq; exact decide_eq_true rfl
  | .str b, _, _ => by unfold dbeq; exact decide_eq_true rfl
  | .list b, 0, h => by cases h
  | .list b, n + 1, h => by unfold dbeq; exact dbeqs_refl (n := n) (by unfold okD at h; exact h)
  | .tuple b, 0, h => by cases h
  | .tuple b, n + 1, h => by unfold dbeq; exact dbeqs_refl (n := n) (by unfold okD at h; exact h)
  | .dict b, 0, h => by cases h
  | .dict b, n + 1, h => by unfold okD at h; cases h
theorem dbeqs_refl : ∀ {d : List D} {n : Nat}, d.all (okD n) = true → dbeqs d d = true
  | [], _, _ => rfl
  | d :: r, n, h => by
    rw [List.all_cons, Bool.and_eq_true] at h
    unfold dbeqs
    rw [dbeq_refl h.1, dbeqs_refl h.2] <;> rfl
end
theorem fbeq_refl : ∀ {fs : List (Nat × D)}, (∀ p ∈ fs, ∃ n, okD n p.2 = true) → fbeq fs fs = true
  | [], _ => rfl
  | (i, a) :: r, h => by
    obtain ⟨n, e⟩ := h _ List.mem_cons_self
    unfold fbeq
    rw [decide_eq_true rfl, dbeq_refl e, fbeq_refl fun p hp => h p (List.mem_cons_of_mem _ hp)] <;> rfl
@[simp] theorem turnn {g : Env → Out} {ρ : Env} : (Out.next ρ).turn g = g ρ := rfl
@[simp] theorem turnc {g : Env → Out} {ρ : Env} : (Out.cont ρ).turn g = g ρ := rfl
@[simp] theorem turnb {g : Env → Out} {ρ : Env} : (Out.brk ρ).turn g = .next ρ := rfl
@[simp] theorem turnr {g : Env → Out} {d : D} : (Out.ret d).turn g = .ret d := rfl
@[simp] theorem turnx {g : Env → Out} {c : Nat} {ρ : Env} : (Out.exc c ρ).turn g = .exc c ρ := rfl
theorem compL_ok {f : D → Rs (Option D)} {g : D → Option D} : ∀ {ds : List D}, (∀ d ∈ ds, f d = .ok (g d)) → compL f ds = .ok (ds.filterMap g)
  | [], _ => rfl
  | d :: ds, h => by
    have ih := compL_ok (f := f) (g := g) (ds := ds) fun x hx => h x (List.mem_cons_of_mem _ hx)
    unfold compL
    rw [h d List.mem_cons_self, ih]
    cases e : g d with
    | none => rw [List.filterMap_cons_none e]
    | some v => rw [List.filterMap_cons_some e]
theorem compL_map {f : D → Rs (Option D)} {α : Type} {e : α → D} {g : α → Option D} {xs : List α} (h : ∀ i ∈ xs, f (e i) = .ok (g i)) : compL f (xs.map e) = .ok (xs.filterMap g) := by
  induction xs with
  | nil => rfl
  | cons x xs ih =>
    rw [List.map_cons]
    unfold compL
    rw [h x List.mem_cons_self, ih fun y hy => h y (List.mem_cons_of_mem _ hy)]
    cases e : g x with
    | none => rw [List.filterMap_cons_none e]
    | some v => rw [List.filterMap_cons_some e]
theorem compL_each {f : D → Rs (Option D)} {α : Type} {e : α → D} {g : α → D} {xs : List α} (h : ∀ i ∈ xs, f (e i) = .ok (some (g i))) : compL f (xs.map e) = .ok (xs.map g) := by
  rw [compL_map (g := fun i => some (g i)) h, List.filterMap_eq_map']
theorem compL_pick {f : D → Rs (Option D)} {α : Type} {e : α → D} {p : α → Bool} {xs : List α} (h : ∀ i ∈ xs, f (e i) = .ok (if p i = true then some (e i) else none)) : compL f (xs.map e) = .ok ((xs.filter p).map e) := by
  rw [compL_map h]
  congr 1
  induction xs with
  | nil => rfl
  | cons x xs ih =>
    have ih' := ih fun i hi => h i (List.mem_cons_of_mem _ hi)
    cases e : p x with
    | true => rw [List.filterMap_cons_some (by rw [e]; rfl), List.filter_cons_of_pos e, List.map_cons, ih']
    | false => rw [List.filterMap_cons_none (by rw [e]; rfl), List.filter_cons_of_neg (by rw [e]; exact Bool.false_ne_true), ih']
theorem compL2_map {f : D → Rs (List D)} {α : Type} {e : α → D} {g : α → List D} {xs : List α} (h : ∀ i ∈ xs, f (e i) = .ok (g i)) : compL2 f (xs.map e) = .ok (xs.flatMap g) := by
  induction xs with
  | nil => rfl
  | cons x xs ih =>
    rw [List.map_cons]
    unfold compL2
    rw [h x List.mem_cons_self, ih fun y hy => h y (List.mem_cons_of_mem _ hy)]
    rfl
theorem blsOf_map (bs : List Bool) : blsOf (bs.map PyData.bool) = some bs := by
  induction bs with
  | nil => rfl
  | cons b bs ih => rw [List.map_cons]; unfold blsOf; rw [ih] <;> rfl
theorem intsOf_map (bs : List Int) : intsOf (bs.map PyData.int) = some bs := by
  induction bs with
  | nil => rfl
  | cons b bs ih => rw [List.map_cons]; unfold intsOf; rw [ih] <;> rfl
theorem int_beq (a b : Int) : (a == b) = decide (a = b) := by by_cases h : a = b <;> simp [h]
theorem bi_len_t (a : List D) : biD .len (.tuple a) = .ok (.int a.length) := rfl
theorem bi_len_l (a : List D) : biD .len (.list a) = .ok (.int a.length) := rfl
theorem bi_tup_l (a : List D) : biD .tuple (.list a) = .ok (.tuple a) := rfl
theorem bi_tup_t (a : List D) : biD .tuple (.tuple a) = .ok (.tuple a) := rfl
theorem bi_lst_l (a : List D) : biD .list (.list a) = .ok (.list a) := rfl
theorem bi_lst_t (a : List D) : biD .list (.tuple a) = .ok (.list a) := rfl
theorem bi_all {α : Type} {p : α → Bool} {xs : List α} : biD .all (.list (xs.map fun x => PyData.bool (p x))) = .ok (.bool (xs.all p)) := by
  have e : (xs.map fun x => PyData.bool (p x)) = (xs.map p).map PyData.bool := by rw [List.map_map] <;> rfl
  rw [e]
  simp only [biD]
  rw [blsOf_map]
  simp
theorem bi_any {α : Type} {p : α → Bool} {xs : List α} : biD .any (.list (xs.map fun x => PyData.bool (p x))) = .ok (.bool (xs.any p)) := by
  have e : (xs.map fun x => PyData.bool (p x)) = (xs.map p).map PyData.bool := by rw [List.map_map] <;> rfl
  rw [e]
  simp only [biD]
  rw [blsOf_map]
  simp
/-- a for whose turns all go on -/
theorem forL_run {f : Env → Out} {tg : Tg} {α β : Type} {e : β → D} {R : α → Env → Prop} {step : α → β → α} : ∀ {xs : List β} {a : α} {ρ : Env},
    (∀ a ρ x, R a ρ → x ∈ xs → ∃ ρ1, bindTg tg (e x) ρ = some ρ1 ∧ ∃ ρ2, (f ρ1 = .next ρ2 ∨ f ρ1 = .cont ρ2) ∧ R (step a x) ρ2) → R a ρ → ∃ ρ', forL f tg (xs.map e) ρ = .next ρ' ∧ R (xs.foldl step a) ρ'
  | [], a, ρ, _, r => ⟨ρ, rfl, r⟩
  | x :: xs, a, ρ, h, r => by
    obtain ⟨ρ1, h1, ρ2, h2, h3⟩ := h a ρ x r List.mem_cons_self
    obtain ⟨ρ', h4, h5⟩ := forL_run (xs := xs) (fun a ρ y r hy => h a ρ y r (List.mem_cons_of_mem _ hy)) h3
    refine ⟨ρ', ?_, h5⟩
    rw [List.map_cons]
    unfold forL
    rw [h1]
    rcases h2 with h2 | h2 <;> (dsimp only; rw [h2]; exact h4)
/-- a for that may answer: inl is an answer, inr goes on -/
def runL {α β : Type} (step : α → β → Sum D α) : α → List β → Sum D α
  | a, [] => .inr a
  | a, x :: xs => match step a x with
    | .inl v => .inl v
    | .inr b => runL step b xs
theorem forL_ret {f : Env → Out} {tg : Tg} {α β : Type} {e : β → D} {R : α → Env → Prop} {step : α → β → Sum D α} : ∀ {xs : List β} {a : α} {ρ : Env},
    (∀ a ρ x, R a ρ → x ∈ xs → ∃ ρ1, bindTg tg (e x) ρ = some ρ1 ∧ match step a x with
      | .inl v => f ρ1 = .ret v
      | .inr b => ∃ ρ2, (f ρ1 = .next ρ2 ∨ f ρ1 = .cont ρ2) ∧ R b ρ2) → R a ρ → match runL step a xs with
      | .inl v => forL f tg (xs.map e) ρ = .ret v
      | .inr b => ∃ ρ', forL f tg (xs.map e) ρ = .next ρ' ∧ R b ρ'
  | [], a, ρ, _, r => ⟨ρ, rfl, r⟩
  | x :: xs, a, ρ, h, r => by
    obtain ⟨ρ1, h1, h2⟩ := h a ρ x r List.mem_cons_self
    unfold runL
    rw [List.map_cons]
    unfold forL
    rw [h1]
    cases e1 : step a x with
    | inl v =>
      rw [e1] at h2
      dsimp only at h2 ⊢
      rw [h2]
      rfl
    | inr b =>
      rw [e1] at h2
      obtain ⟨ρ2, h2, h3⟩ := h2
      have ih := forL_ret (xs := xs) (fun a ρ y r hy => h a ρ y r (List.mem_cons_of_mem _ hy)) h3
      dsimp only
      rcases h2 with h2 | h2 <;> (rw [h2]; exact ih)
/-- a while: W is what the turns come to -/
theorem whileL_run {c : Env → Rs Bool} {f : Env → Out} {α : Type} {R : α → Env → Prop} {cond : α → Bool} {step : α → α} {W : α → α} {μ : α → Nat} (hW : ∀ a, W a = if cond a = true then W (step a) else a)
    (h : ∀ a ρ, R a ρ → c ρ = .ok (cond a) ∧ (cond a = true → μ (step a) < μ a ∧ ∃ ρ2, (f ρ = .next ρ2 ∨ f ρ = .cont ρ2) ∧ R (step a) ρ2)) : ∀ (n : Nat) (a : α) (ρ : Env), R a ρ → μ a < n → ∃ ρ', whileL c f n ρ = .next ρ' ∧ R (W a) ρ'
  | 0, a, ρ, _, z => absurd z (Nat.not_lt_zero _)
  | n + 1, a, ρ, r, z => by
    obtain ⟨h1, h2⟩ := h a ρ r
    unfold whileL
    rw [h1, hW]
    cases e : cond a with
    | false => exact ⟨ρ, rfl, r⟩
    | true =>
      obtain ⟨h3, ρ2, h4, h5⟩ := h2 e
      obtain ⟨ρ', h6, h7⟩ := whileL_run hW h n (step a) ρ2 h5 (by omega)
      refine ⟨ρ', ?_, h7⟩
      dsimp only [Rs.out]
      rw [if_pos rfl]
      rcases h4 with h4 | h4 <;> (rw [h4]; exact h6)
/-- a tuple, a list of whole numbers -/
abbrev tu (xs : List Int) : D := .tuple (xs.map PyData.int)
abbrev li (xs : List Int) : D := .list (xs.map PyData.int)
theorem eqv_int (a b : Int) : PyData.eqv (.int a) (.int b) = decide (a = b) := by simp only [PyData.eqv]; by_cases h : a = b <;> simp [h]
theorem eqvs_ints : ∀ (a b : List Int), PyData.eqvAll (a.map PyData.int) (b.map PyData.int) = decide (a = b)
  | [], [] => by simp [PyData.eqvAll]
  | [], _ :: _ => by simp [PyData.eqvAll]
  | _ :: _, [] => by simp [PyData.eqvAll]
  | x :: a, y :: b => by simp [PyData.eqvAll, eqv_int, eqvs_ints a b]
theorem eqv_tu (a b : List Int) : PyData.eqv (tu a) (tu b) = decide (a = b) := by simp only [PyData.eqv]; exact eqvs_ints a b
theorem eqv_li (a b : List Int) : PyData.eqv (li a) (li b) = decide (a = b) := by simp only [PyData.eqv]; exact eqvs_ints a b
theorem ok_tu (n : Nat) (a : List Int) : okD (n + 2) (tu a) = true := by simp [okD]
theorem ok_li (n : Nat) (a : List Int) : okD (n + 2) (li a) = true := by simp [okD]

/-! ### the operators, one by one -/
theorem op_ai (i j : Int) : op2 .add (.int i) (.int j) = .ok (.int (i + j)) := rfl
theorem op_at (a b : List D) : op2 .add (.tuple a) (.tuple b) = if a.length + b.length ≤ cap then .ok (.tuple (a ++ b)) else .bad := rfl
theorem op_al (a b : List D) : op2 .add (.list a) (.list b) = if a.length + b.length ≤ cap then .ok (.list (a ++ b)) else .bad := rfl
theorem op_si (i j : Int) : op2 .sub (.int i) (.int j) = .ok (.int (i - j)) := rfl
theorem op_mi (i j : Int) : op2 .mul (.int i) (.int j) = if (-(2 ^ 64) < i ∧ i < 2 ^ 64) ∨ (-(2 ^ 64) < j ∧ j < 2 ^ 64) then .ok (.int (i * j)) else .bad := rfl
theorem op_mt (a : List D) (k : Int) : op2 .mul (.tuple a) (.int k) = if a ≠ [] ∧ 0 ≤ k ∧ k ≤ 1000 ∧ a.length ≤ 1000 then .ok (.tuple (List.replicate k.toNat a).flatten) else .bad := rfl
theorem op_mb (i : Int) (b : Bool) : op2 .mul (.int i) (.bool b) = .ok (.int (i * if b = true then (1 : Int) else 0)) := rfl
theorem rp_i (ds : List D) (k : Int) : repD ds (.int k) = if 0 ≤ k ∧ k ≤ 1000 then .ok (.list (List.replicate k.toNat ds).flatten) else .bad := rfl
theorem rv_l (ds : List D) : revD (.list ds) = .ok (.list ds.reverse) := rfl
theorem op_fd (i j : Int) : op2 .fdiv (.int i) (.int j) = if 0 < j ∧ j.natAbs.log2 < 9000 then .ok (.int (i / j)) else .bad := rfl
theorem op_md (i j : Int) : op2 .mod (.int i) (.int j) = if 0 < j then .ok (.int (i % j)) else .bad := rfl
theorem idx_t (a : List D) (i : Int) : idxD (.tuple a) (.int i) = Rs.of (L2.atI a i) := by simp only [idxD]; cases L2.atI a i <;> rfl
theorem idx_l (a : List D) (i : Int) : idxD (.list a) (.int i) = Rs.of (L2.atI a i) := by simp only [idxD]; cases L2.atI a i <;> rfl
theorem slc_t (a : List D) (l h : Option Int) : slcD (.tuple a) l h = .ok (.tuple (cutD a l h)) := rfl
theorem slc_l (a : List D) (l h : Option Int) : slcD (.list a) l h = .ok (.list (cutD a l h)) := rfl
theorem isa_i (t : Ty) (i : Int) : isaD t (.int i) = .ok (.bool (decide (t = .int))) := rfl
theorem isa_b (t : Ty) (i : Bool) : isaD t (.bool i) = .ok (.bool (decide (t = .bool) || decide (t = .int))) := rfl
theorem isa_s (t : Ty) (i : Str) : isaD t (.str i) = .ok (.bool (decide (t = .str))) := rfl
theorem isa_t (t : Ty) (i : List D) : isaD t (.tuple i) = .ok (.bool (decide (t = .tuple))) := rfl
theorem isa_l (t : Ty) (i : List D) : isaD t (.list i) = .ok (.bool (decide (t = .list))) := rfl
theorem isa_n (t : Ty) : isaD t .none = .ok (.bool false) := by cases t <;> rfl
theorem b2_min (i j : Int) : bi2D .min (.int i) (.int j) = .ok (.int (min i j)) := by
  simp only [bi2D]; congr 2; rw [Int.min_def]; split <;> split <;> omega
theorem b2_max (i j : Int) : bi2D .max (.int i) (.int j) = .ok (.int (max i j)) := by
  simp only [bi2D]; congr 2; rw [Int.max_def]; split <;> split <;> omega
theorem cp_lt (i j : Int) : cmpD .lt (.int i) (.int j) = some (decide (i < j)) := rfl
theorem cp_le (i j : Int) : cmpD .le (.int i) (.int j) = some (decide (i ≤ j)) := rfl
theorem cp_gt (i j : Int) : cmpD .gt (.int i) (.int j) = some (decide (j < i)) := rfl
theorem cp_ge (i j : Int) : cmpD .ge (.int i) (.int j) = some (decide (j ≤ i)) := rfl
theorem cp_eq (a b : D) : cmpD .eq a b = if okD 8 a = true ∧ okD 8 b = true then some (PyData.eqv a b) else none := rfl
theorem cp_ne (a b : D) : cmpD .ne a b = if okD 8 a = true ∧ okD 8 b = true then some (!PyData.eqv a b) else none := rfl
theorem cp_is (a b : D) : cmpD .is_ a b = isD a b := rfl
theorem cp_isnot (a b : D) : cmpD .isnot a b = (isD a b).map (!·) := rfl
theorem cp_int (a : D) (ds : List D) : cmpD .in_ a (.tuple ds) = if flatD a = true ∧ ds.all flatD = true then some (inD a ds) else none := rfl
theorem cp_nint (a : D) (ds : List D) : cmpD .notin a (.tuple ds) = if flatD a = true ∧ ds.all flatD = true then some (!inD a ds) else none := rfl
theorem cp_inl (a : D) (ds : List D) : cmpD .in_ a (.list ds) = if flatD a = true ∧ ds.all flatD = true then some (inD a ds) else none := rfl
theorem cp_ninl (a : D) (ds : List D) : cmpD .notin a (.list ds) = if flatD a = true ∧ ds.all flatD = true then some (!inD a ds) else none := rfl
theorem is_nn : isD .none .none = some true := rfl
theorem is_bb (a b : Bool) : isD (.bool a) (.bool b) = some (decide (a = b)) := rfl
theorem is_in (i : Int) : isD (.int i) .none = some false := rfl
theorem is_bn (i : Bool) : isD (.bool i) .none = some false := rfl
theorem is_sn (i : Str) : isD (.str i) .none = some false := rfl
theorem is_tn (i : List D) : isD (.tuple i) .none = some false := rfl
theorem is_ln (i : List D) : isD (.list i) .none = some false := rfl
theorem ok_n (n : Nat) : okD (n + 1) .none = true := rfl
theorem ok_b (n : Nat) (b : Bool) : okD (n + 1) (.bool b) = true := rfl
theorem ok_i (n : Nat) (b : Int) : okD (n + 1) (.int b) = true := rfl
theorem ok_t (n : Nat) (b : List D) : okD (n + 1) (.tuple b) = b.all (okD n) := rfl
theorem ok_l (n : Nat) (b : List D) : okD (n + 1) (.list b) = b.all (okD n) := rfl
theorem ok_7 : okD 7 = okD (6 + 1) := rfl
theorem ok_8 : okD 8 = okD (7 + 1) := rfl
theorem ok_6 : okD 6 = okD (5 + 1) := rfl
theorem eqv_tup (a b : List D) : PyData.eqv (.tuple a) (.tuple b) = PyData.eqvAll a b := by simp only [PyData.eqv]
theorem eqv_lst (a b : List D) : PyData.eqv (.list a) (.list b) = PyData.eqvAll a b := by simp only [PyData.eqv]
theorem eqv_nn : PyData.eqv .none .none = true := by simp only [PyData.eqv]
theorem eqv_bb (a b : Bool) : PyData.eqv (.bool a) (.bool b) = (a == b) := by simp only [PyData.eqv]
theorem eqv_tn (a : List D) : PyData.eqv (.tuple a) .none = false := by simp only [PyData.eqv]
theorem eqv_nt (a : List D) : PyData.eqv .none (.tuple a) = false := by simp only [PyData.eqv]
theorem eqa_nn : PyData.eqvAll [] [] = true := by simp only [PyData.eqvAll]
theorem eqa_nc (a : D) (b : List D) : PyData.eqvAll [] (a :: b) = false := by simp only [PyData.eqvAll]
theorem eqa_cn (a : D) (b : List D) : PyData.eqvAll (a :: b) [] = false := by simp only [PyData.eqvAll]
theorem eqa_cc (a c : D) (b d : List D) : PyData.eqvAll (a :: b) (c :: d) = (PyData.eqv a c && PyData.eqvAll b d) := by simp only [PyData.eqvAll]
theorem ssn {C : Nat → D} {G : Nat → List D → Rs D} {ρ : Env} : evSs C G .nil ρ = .next ρ := by simp only [evSs]
theorem ssc {C : Nat → D} {G : Nat → List D → Rs D} {ρ : Env} {s : S} {ss : Ss} : evSs C G (.cons s ss) ρ = (evS C G s ρ).seq (evSs C G ss) := by simp only [evSs]
theorem fln {f : Env → Out} {tg : Tg} {ρ : Env} : forL f tg [] ρ = .next ρ := rfl
theorem flc {f : Env → Out} {tg : Tg} {d : D} {ds : List D} {ρ : Env} : forL f tg (d :: ds) ρ = match bindTg tg d ρ with
    | none => .bad
    | some ρ1 => (f ρ1).turn (forL f tg ds) := rfl
end Pu

/-! Pu, part 20: slices and items of data; what the program's defs compute, in plain words. -/
namespace Pu
open PySem PySem.Spec PyProof.Rows L2
theorem cut_tail (d : D) (ds : List D) : cutD (d :: ds) (some 1) none = ds := by
  simp [cutD, HT.sIx]
theorem cut_to (xs : List D) {n : Int} (h : 0 ≤ n) : cutD xs none (some n) = xs.take n.toNat := by
  have h' : ¬ n < 0 := by omega
  simp only [cutD, HT.sIx, if_neg h', List.drop_zero, Nat.sub_zero]
  by_cases h2 : n.toNat ≤ xs.length
  · rw [Nat.min_eq_left h2]
  · rw [Nat.min_eq_right (by omega), List.take_length, List.take_of_length_le (by omega)]
theorem cut_from (xs : List D) {n : Int} (h : 0 ≤ n) : cutD xs (some n) none = xs.drop n.toNat := by
  have h' : ¬ n < 0 := by omega
  simp only [cutD, HT.sIx, if_neg h']
  by_cases h2 : n.toNat ≤ xs.length
  · rw [Nat.min_eq_left h2, List.take_of_length_le (by simp)]
  · rw [Nat.min_eq_right (by omega), List.drop_length, List.drop_of_length_le (by omega)]; simp
theorem cut_both (xs : List D) {a b : Int} (h : 0 ≤ a) (hb : 0 ≤ b) : cutD xs (some a) (some b) = (xs.take b.toNat).drop a.toNat := by
  have h' : ¬ a < 0 := by omega
  have h2 : ¬ b < 0 := by omega
  simp only [cutD, HT.sIx, if_neg h', if_neg h2]
  apply List.ext_getElem?
  intro i
  simp only [List.getElem?_take, List.getElem?_drop]
  by_cases c : a.toNat ≤ xs.length
  · rw [Nat.min_eq_left c]
    by_cases c2 : a.toNat + i < b.toNat
    · rw [if_pos c2]
      by_cases c3 : a.toNat + i < xs.length
      · rw [if_pos (by omega)]
      · rw [List.getElem?_eq_none (by omega)]; simp
    · rw [if_neg c2, if_neg (by omega)]
  · rw [Nat.min_eq_right (show xs.length ≤ a.toNat by omega), if_neg (by omega)]
    by_cases c2 : a.toNat + i < b.toNat
    · rw [if_pos c2, List.getElem?_eq_none (by omega)]
    · rw [if_neg c2]
theorem at_nat {α : Type} (xs : List α) {i : Int} (h : 0 ≤ i) : L2.atI xs i = xs[i.toNat]? := by
  unfold L2.atI L2.ixN
  by_cases c : i < xs.length
  · rw [if_pos h, if_pos c]; rfl
  · rw [if_pos h, if_neg c, List.getElem?_eq_none (by omega)]; rfl
/-- overlong forms, policies, decoders -/
inductive Ov where
  | none | zero | all
  deriving DecidableEq
def Ov.s : Ov → Str
  | .none => "none" | .zero => "zero" | .all => "all"
inductive Po where
  | stop | byte | pre | announced | run | skip | keep
  deriving DecidableEq
def Po.s : Po → Str
  | .stop => "stop" | .byte => "byte" | .pre => "prefix" | .announced => "announced" | .run => "run" | .skip => "skip" | .keep => "keep"
structure Dc where
  L : Int
  ov : Ov
  su : Bool
  po : Po
def Dc.d (c : Dc) : D := .tuple [.int c.L, .str c.ov.s, .bool c.su, .str c.po.s]
def Dc.Ok (c : Dc) : Prop := 1 ≤ c.L ∧ c.L ≤ 4
theorem ov_none (o : Ov) : PyData.eqv (.str o.s) (.str "none") = decide (o = .none) := by cases o <;> decide +kernel
theorem ov_zero (o : Ov) : PyData.eqv (.str o.s) (.str "zero") = decide (o = .zero) := by cases o <;> decide +kernel
theorem ov_all (o : Ov) : PyData.eqv (.str o.s) (.str "all") = decide (o = .all) := by cases o <;> decide +kernel
theorem ok_ov (n : Nat) (o : Ov) : okD (n + 1) (.str o.s) = true := by cases o <;> (simp only [okD]; decide +kernel)
theorem ok_po (n : Nat) (o : Po) : okD (n + 1) (.str o.s) = true := by cases o <;> (simp only [okD]; decide +kernel)
theorem po_stop (o : Po) : PyData.eqv (.str o.s) (.str "stop") = decide (o = .stop) := by cases o <;> decide +kernel
theorem po_byte (o : Po) : PyData.eqv (.str o.s) (.str "byte") = decide (o = .byte) := by cases o <;> decide +kernel
theorem po_prefix (o : Po) : PyData.eqv (.str o.s) (.str "prefix") = decide (o = .pre) := by cases o <;> decide +kernel
theorem po_ann (o : Po) : PyData.eqv (.str o.s) (.str "announced") = decide (o = .announced) := by cases o <;> decide +kernel
theorem po_run (o : Po) : PyData.eqv (.str o.s) (.str "run") = decide (o = .run) := by cases o <;> decide +kernel
theorem po_skip (o : Po) : PyData.eqv (.str o.s) (.str "skip") = decide (o = .skip) := by cases o <;> decide +kernel
theorem po_keep (o : Po) : PyData.eqv (.str o.s) (.str "keep") = decide (o = .keep) := by cases o <;> decide +kernel
theorem ok_s1 (n : Nat) : okD (n + 1) (.str "none") = true := by simp only [okD]; decide +kernel
theorem ok_s2 (n : Nat) : okD (n + 1) (.str "zero") = true := by simp only [okD]; decide +kernel
theorem ok_s3 (n : Nat) : okD (n + 1) (.str "all") = true := by simp only [okD]; decide +kernel
theorem ok_s4 (n : Nat) : okD (n + 1) (.str "stop") = true := by simp only [okD]; decide +kernel
theorem ok_s5 (n : Nat) : okD (n + 1) (.str "byte") = true := by simp only [okD]; decide +kernel
theorem ok_s6 (n : Nat) : okD (n + 1) (.str "prefix") = true := by simp only [okD]; decide +kernel
theorem ok_s7 (n : Nat) : okD (n + 1) (.str "announced") = true := by simp only [okD]; decide +kernel
theorem ok_s8 (n : Nat) : okD (n + 1) (.str "run") = true := by simp only [okD]; decide +kernel
theorem ok_s9 (n : Nat) : okD (n + 1) (.str "skip") = true := by simp only [okD]; decide +kernel
theorem ok_s10 (n : Nat) : okD (n + 1) (.str "keep") = true := by simp only [okD]; decide +kernel

/-! ### codes -/
def noD : D → Bool
  | .dict _ => false
  | _ => true
def isInt (v : D) (a b : Int) : Bool := match v with
  | .int i => decide (a ≤ i) && decide (i ≤ b)
  | _ => false
def isCont (b : Int) : Bool := decide (128 ≤ b) && decide (b ≤ 191)
def ann (b : Int) : Int := if b < 128 then 1 else if 192 ≤ b ∧ b < 224 then 2 else if 224 ≤ b ∧ b < 240 then 3 else if 240 ≤ b ∧ b < 248 then 4 else 0
theorem ann_range (b : Int) : 0 ≤ ann b ∧ ann b ≤ 4 := by
  unfold ann
  repeat' split
  all_goals omega
def leads (n : Int) : Int := if n = 2 then 192 else if n = 3 then 224 else if n = 4 then 240 else if n = 5 then 248 else 0
def fold64 (v : Int) (r : List Int) : Int := r.foldl (fun v b => 64 * v + b - 128) v
def valF : List Int → Int
  | [] => 0
  | b :: r => fold64 (b - leads (ann b)) r
def isStr : D → Bool
  | .tuple ds => decide (ds.length ≤ 60) && ds.all fun d => isInt d 0 255
  | _ => false
def isSeq : List Int → Bool
  | [] => false
  | b :: r => decide (ann b = (r.length : Int) + 1) && r.all isCont
def least (n : Int) : Int := if n = 2 then 128 else if n = 3 then 2048 else if n = 4 then 65536 else if n = 5 then 2097152 else 0
/-- begins -/
def beg (c : Dc) : List Int → Bool
  | [] => false
  | b :: r => if ((r.length : Int) + 1 ≤ ann b ∧ ann b ≤ c.L) ∧ r.all isCont = true then
      (if c.ov = .zero ∧ (b :: r) = ([192, 128] : List Int).take (r.length + 1) then true else
        let m := (ann b - ((r.length : Int) + 1)).toNat
        let low := max (fold64 (valF (b :: r)) (List.replicate m 128)) (if c.ov = .all then 0 else least (ann b))
        let high := min (fold64 (valF (b :: r)) (List.replicate m 191)) 1114111
        decide (low ≤ high) && (c.su || (decide (low < 55296) || decide (57343 < high)))) else false

/-! ### comparisons of whole numbers -/
theorem cp_eqi (i j : Int) : cmpD .eq (.int i) (.int j) = some (decide (i = j)) := by rw [← eqv_int]; rfl
theorem cp_nei (i j : Int) : cmpD .ne (.int i) (.int j) = some (!decide (i = j)) := by rw [← eqv_int]; rfl
/-! ### decoders -/
def ovB (x : Str) : Bool := inD (.str x) [.str "none", .str "zero", .str "all"]
def poB (x : Str) : Bool := inD (.str x) [.str "stop", .str "byte", .str "prefix", .str "announced", .str "run", .str "skip", .str "keep"]
theorem cp_ovn (x : Str) : cmpD .notin (.str x) (.tuple [.str "none", .str "zero", .str "all"]) = some (!ovB x) := rfl
theorem cp_po (x : Str) : cmpD .in_ (.str x) (.tuple [.str "stop", .str "byte", .str "prefix", .str "announced", .str "run", .str "skip", .str "keep"]) = some (poB x) := rfl
theorem ovB_ok (o : Ov) : ovB o.s = true := by cases o <;> decide +kernel
theorem poB_ok (o : Po) : poB o.s = true := by cases o <;> decide +kernel
def ovD : D → Bool
  | .str x => ovB x
  | _ => false
def poD : D → Bool
  | .str x => poB x
  | _ => false
def blD : D → Bool
  | .bool _ => true
  | _ => false
def isDec (v : D) : Bool := match v with
  | .tuple [a, b, c, d] => isInt a 1 4 && (ovD b && (blD c && poD d))
  | _ => false
theorem isDec_ok {c : Dc} (h : c.Ok) : isDec c.d = true := by
  obtain ⟨h1, h2⟩ := h
  simp [isDec, Dc.d, isInt, ovD, poD, blD, ovB_ok, poB_ok, h1, h2]
theorem at_0 {α : Type} (x : α) (xs : List α) : L2.atI (x :: xs) 0 = some x := by rw [at_nat _ (by omega)]; rfl
theorem cp_ovz (o : Ov) : cmpD .eq (.str o.s) (.str "zero") = some (decide (o = .zero)) := by simp [cmpD, ok_ov 7, ok_s2 7, ov_zero]
theorem cp_ova (o : Ov) : cmpD .eq (.str o.s) (.str "all") = some (decide (o = .all)) := by simp [cmpD, ok_ov 7, ok_s3 7, ov_all]
theorem cp_ovo (o : Ov) : cmpD .eq (.str o.s) (.str "none") = some (decide (o = .none)) := by simp [cmpD, ok_ov 7, ok_s1 7, ov_none]
theorem cp_po1 (o : Po) : cmpD .eq (.str o.s) (.str "stop") = some (decide (o = .stop)) := by simp [cmpD, ok_po 7, ok_s4 7, po_stop]
theorem cp_po2 (o : Po) : cmpD .eq (.str o.s) (.str "prefix") = some (decide (o = .pre)) := by simp [cmpD, ok_po 7, ok_s6 7, po_prefix]
theorem cp_po3 (o : Po) : cmpD .eq (.str o.s) (.str "announced") = some (decide (o = .announced)) := by simp [cmpD, ok_po 7, ok_s7 7, po_ann]
theorem cp_po4 (o : Po) : cmpD .eq (.str o.s) (.str "run") = some (decide (o = .run)) := by simp [cmpD, ok_po 7, ok_s8 7, po_run]
theorem cp_po5 (o : Po) : cmpD .eq (.str o.s) (.str "skip") = some (decide (o = .skip)) := by simp [cmpD, ok_po 7, ok_s9 7, po_skip]
theorem cp_po6 (o : Po) : cmpD .eq (.str o.s) (.str "keep") = some (decide (o = .keep)) := by simp [cmpD, ok_po 7, ok_s10 7, po_keep]
end Pu

/-! Pu, part 21: the law's own helpers in plain words, and that they say what the program says. -/
namespace Pu
open PySem PySem.Spec PyProof.Rows L2
def lval : List Int → Int
  | [] => 0
  | b :: r => fold64 (b - leads ((r.length : Int) + 1)) r
/-- _law_valid -/
def lv (c : Dc) : List Int → Bool
  | [] => false
  | b :: r => if ann b ≠ (r.length : Int) + 1 ∨ c.L < (r.length : Int) + 1 then false else
      if r.all isCont = false then false else
      if 1114111 < lval (b :: r) ∨ ((55295 < lval (b :: r) ∧ lval (b :: r) < 57344) ∧ c.su = false) then false else
      if c.ov = .all ∨ (c.ov = .zero ∧ b :: r = [192, 128]) then true else decide (least ((r.length : Int) + 1) ≤ lval (b :: r))
/-- _law_begins -/
def lb (c : Dc) (xs : List Int) : Bool :=
  let m := ann (xs.headD 0) - xs.length
  if m ≤ 0 then decide (m = 0) && lv c xs else [128, 144, 160].any fun y => lv c (xs ++ [y] ++ List.replicate (m - 1).toNat 128)
def Bys (xs : List Int) : Prop := ∀ b ∈ xs, 0 ≤ b ∧ b ≤ 255
theorem lead_le {b : Int} (h : 0 ≤ b) : 0 ≤ b - leads (ann b) := by
  unfold ann leads
  repeat' split
  all_goals omega
theorem fold_nonneg : ∀ (r : List Int) (v : Int), 0 ≤ v → (∀ b ∈ r, 128 ≤ b) → 0 ≤ fold64 v r
  | [], v, h, _ => h
  | b :: r, v, h, hb => by
    have := hb b List.mem_cons_self
    exact fold_nonneg r (64 * v + b - 128) (by omega) fun x hx => hb x (List.mem_cons_of_mem _ hx)
theorem conts_ge {r : List Int} (h : r.all isCont = true) : ∀ b ∈ r, 128 ≤ b ∧ b ≤ 191 := fun b hb => by
  have := List.all_eq_true.mp h b hb
  unfold isCont at this
  simpa using this
/-- beg with its parts named -/
theorem beg_eq (c : Dc) (b : Int) (r : List Int) (h1 : (r.length : Int) + 1 ≤ ann b) (h2 : ann b ≤ c.L) (h3 : r.all isCont = true) : beg c (b :: r) = if c.ov = .zero ∧ b :: r = ([192, 128] : List Int).take (r.length + 1) then true else
    (decide (max (fold64 (valF (b :: r)) (List.replicate (ann b - ((r.length : Int) + 1)).toNat 128)) (if c.ov = .all then 0 else least (ann b)) ≤ min (fold64 (valF (b :: r)) (List.replicate (ann b - ((r.length : Int) + 1)).toNat 191)) 1114111) &&
      (c.su || (decide (max (fold64 (valF (b :: r)) (List.replicate (ann b - ((r.length : Int) + 1)).toNat 128)) (if c.ov = .all then 0 else least (ann b)) < 55296) || decide (57343 < min (fold64 (valF (b :: r)) (List.replicate (ann b - ((r.length : Int) + 1)).toNat 191)) 1114111)))) := by
  unfold beg
  dsimp only
  rw [if_pos ⟨⟨h1, h2⟩, h3⟩]
theorem beg_no1 (c : Dc) (b : Int) (r : List Int) (h : ¬ ((r.length : Int) + 1 ≤ ann b ∧ ann b ≤ c.L)) : beg c (b :: r) = false := by
  unfold beg
  dsimp only
  rw [if_neg fun z => h z.1]
theorem beg_no2 (c : Dc) (b : Int) (r : List Int) (h : r.all isCont = false) : beg c (b :: r) = false := by
  unfold beg
  dsimp only
  rw [if_neg fun z => by rw [h] at z; cases z.2]
theorem maxS (a b : Int) : (b ≤ a ∧ max a b = a) ∨ (a < b ∧ max a b = b) := by
  by_cases h : b ≤ a
  · exact .inl ⟨h, Int.max_eq_left h⟩
  · exact .inr ⟨by omega, Int.max_eq_right (by omega)⟩
theorem minS (a b : Int) : (a ≤ b ∧ min a b = a) ∨ (b < a ∧ min a b = b) := by
  by_cases h : a ≤ b
  · exact .inl ⟨h, Int.min_eq_left h⟩
  · exact .inr ⟨by omega, Int.min_eq_right (by omega)⟩
theorem lv_beg (c : Dc) (xs : List Int) (hb : Bys xs) : lv c xs = (isSeq xs && beg c xs) := by
  cases xs with
  | nil => rfl
  | cons b r =>
    have b0 := (hb b List.mem_cons_self).1
    unfold lv isSeq
    dsimp only
    by_cases h1 : ann b = (r.length : Int) + 1
    case neg => rw [if_pos (.inl h1), decide_eq_false h1]; rfl
    by_cases h2 : c.L < (r.length : Int) + 1
    case pos => rw [if_pos (.inr h2), beg_no1 c b r (by omega), Bool.and_false]
    rw [if_neg (by omega), decide_eq_true h1, Bool.true_and]
    cases h3 : r.all isCont
    case false => rfl
    rw [if_neg Bool.noConfusion, Bool.true_and, beg_eq c b r (by omega) (by omega) h3]
    have hm : (ann b - ((r.length : Int) + 1)).toNat = 0 := by omega
    rw [hm]
    rw [show fold64 (valF (b :: r)) (List.replicate 0 128) = valF (b :: r) from rfl, show fold64 (valF (b :: r)) (List.replicate 0 191) = valF (b :: r) from rfl]
    have hv : lval (b :: r) = valF (b :: r) := by show fold64 (b - leads ((r.length : Int) + 1)) r = fold64 (b - leads (ann b)) r; rw [h1]
    rw [hv]
    have hz : (b :: r = ([192, 128] : List Int).take (r.length + 1)) ↔ b :: r = [192, 128] := by
      constructor
      · intro e
        cases r with
        | nil =>
          have e' : b = 192 := by simpa using e
          subst e'
          exact absurd h1 (by decide)
        | cons x r =>
          cases r with
          | nil => simpa using e
          | cons y r => simp at e
      · intro e
        rw [e]
        have : r = [128] := by injection e
        rw [this]; rfl
    have hv0 : 0 ≤ valF (b :: r) := fold_nonneg r _ (lead_le b0) fun x hx => (conts_ge h3 x hx).1
    have hz0 : b :: r = [192, 128] → valF (b :: r) = 0 := fun e => by rw [e]; rfl
    rw [← h1]
    simp only [hz]
    generalize hvv : valF (b :: r) = v at hv0 hz0 ⊢
    generalize hl : least (ann b) = l
    by_cases z : c.ov = .zero ∧ b :: r = [192, 128]
    · have := hz0 z.2
      subst this
      rw [if_pos z, if_neg (by omega), if_pos (.inr z)]
    · rw [if_neg z, Bool.eq_iff_iff]
      simp only [Bool.and_eq_true, Bool.or_eq_true, decide_eq_true_eq]
      have hi := minS v 1114111
      generalize min v 1114111 = high at hi ⊢
      by_cases ha : c.ov = .all
      · rw [if_pos ha]
        have lo := maxS v 0
        generalize max v 0 = low at lo ⊢
        cases c.su with
        | false =>
          by_cases h4 : 1114111 < v ∨ ((55295 < v ∧ v < 57344) ∧ false = false)
          · rw [if_pos h4]
            simp only [Bool.false_eq_true, false_iff, false_or]
            omega
          · rw [if_neg h4, if_pos (.inl ha)]
            simp only [eq_self, and_true] at h4
            simp only [true_iff, Bool.false_eq_true, false_or]
            omega
        | true =>
          by_cases h4 : 1114111 < v ∨ ((55295 < v ∧ v < 57344) ∧ true = false)
          · rw [if_pos h4]
            simp only [Bool.true_eq_false, and_false, or_false] at h4
            simp only [Bool.false_eq_true, false_iff, eq_self, true_or, and_true]
            omega
          · rw [if_neg h4, if_pos (.inl ha)]
            simp only [Bool.true_eq_false, and_false, or_false] at h4
            simp only [true_iff, eq_self, true_or, and_true]
            omega
      · rw [if_neg ha]
        have lo := maxS v l
        generalize max v l = low at lo ⊢
        have hn : ¬ (c.ov = .all ∨ (c.ov = .zero ∧ b :: r = [192, 128])) := fun x => x.elim ha z
        cases c.su with
        | false =>
          by_cases h4 : 1114111 < v ∨ ((55295 < v ∧ v < 57344) ∧ false = false)
          · rw [if_pos h4]
            simp only [Bool.false_eq_true, false_iff, false_or]
            omega
          · rw [if_neg h4, if_neg hn, decide_eq_true_eq]
            simp only [eq_self, and_true] at h4
            simp only [Bool.false_eq_true, false_or]
            omega
        | true =>
          by_cases h4 : 1114111 < v ∨ ((55295 < v ∧ v < 57344) ∧ true = false)
          · rw [if_pos h4]
            simp only [Bool.true_eq_false, and_false, or_false] at h4
            simp only [Bool.false_eq_true, false_iff, eq_self, true_or, and_true]
            omega
          · rw [if_neg h4, if_neg hn, decide_eq_true_eq]
            simp only [Bool.true_eq_false, and_false, or_false] at h4
            simp only [eq_self, true_or, and_true]
            omega
theorem fold_rep {v x y : Int} (n : Nat) : fold64 v (x :: List.replicate n y) = fold64 (64 * v + x - 128) (List.replicate n y) := rfl
theorem conts_le : ∀ (r : List Int) (v : Int), fold64 v r = fold64 v r := fun _ _ => rfl
theorem seq_ext {b y : Int} {r : List Int} {n : Nat} (h3 : r.all isCont = true) (hy : isCont y = true) (h : ann b = (r.length : Int) + 1 + 1 + n) : isSeq (b :: (r ++ [y] ++ List.replicate n 128)) = true := by
  unfold isSeq
  dsimp only
  rw [Bool.and_eq_true, decide_eq_true_eq]
  refine ⟨by simp only [List.length_append, List.length_replicate, List.length_cons, List.length_nil]; omega, ?_⟩
  rw [List.all_append, List.all_append, h3, List.all_cons, hy]
  simp [isCont]
/-- the bounds of a beginning's value -/
theorem v0_range {b : Int} {r : List Int} (b0 : 0 ≤ b) (h3 : r.all isCont = true) (h1 : (r.length : Int) + 1 < ann b) : (ann b = 2 ∧ r = [] ∧ 0 ≤ valF (b :: r) ∧ valF (b :: r) ≤ 31 ∧ valF (b :: r) = b - 192) ∨ (ann b = 3 ∧ r.length = 0 ∧ 0 ≤ valF (b :: r) ∧ valF (b :: r) ≤ 15) ∨ (ann b = 3 ∧ r.length = 1 ∧ 0 ≤ valF (b :: r) ∧ valF (b :: r) ≤ 1023) ∨
    (ann b = 4 ∧ r.length = 0 ∧ 0 ≤ valF (b :: r) ∧ valF (b :: r) ≤ 7) ∨ (ann b = 4 ∧ r.length = 1 ∧ 0 ≤ valF (b :: r) ∧ valF (b :: r) ≤ 511) ∨ (ann b = 4 ∧ r.length = 2 ∧ 0 ≤ valF (b :: r) ∧ valF (b :: r) ≤ 32767) := by
  have hc := conts_ge h3
  have ha : (ann b = 2 ∧ 192 ≤ b ∧ b < 224 ∧ leads (ann b) = 192) ∨ (ann b = 3 ∧ 224 ≤ b ∧ b < 240 ∧ leads (ann b) = 224) ∨ (ann b = 4 ∧ 240 ≤ b ∧ b < 248 ∧ leads (ann b) = 240) := by
    unfold ann at h1 ⊢
    split at h1
    · omega
    · split at h1
      · rename_i q; left; rw [if_neg (by omega), if_pos q]; exact ⟨rfl, q.1, q.2, rfl⟩
      · split at h1
        · rename_i q1 q2 q; right; left; rw [if_neg (by omega), if_neg q2, if_pos q]; exact ⟨rfl, q.1, q.2, rfl⟩
        · split at h1
          · rename_i q1 q2 q3 q; right; right; rw [if_neg (by omega), if_neg q2, if_neg q3, if_pos q]; exact ⟨rfl, q.1, q.2, rfl⟩
          · omega
  cases r with
  | nil =>
    have hv : valF [b] = b - leads (ann b) := rfl
    rw [hv]
    simp only [List.length_nil, List.nil_eq, true_and]
    rcases ha with ⟨h, h2, h4, h5⟩ | ⟨h, h2, h4, h5⟩ | ⟨h, h2, h4, h5⟩ <;> rw [h5] <;> simp [h] <;> omega
  | cons x r =>
    have hx := hc x List.mem_cons_self
    cases r with
    | nil =>
      have hv : valF [b, x] = 64 * (b - leads (ann b)) + x - 128 := rfl
      rw [hv]
      simp only [List.length_cons, List.length_nil] at h1 ⊢
      rcases ha with ⟨h, h2, h4, h5⟩ | ⟨h, h2, h4, h5⟩ | ⟨h, h2, h4, h5⟩ <;> rw [h5] <;> simp [h] at h1 ⊢ <;> omega
    | cons y r =>
      have hy := hc y (List.mem_cons_of_mem _ List.mem_cons_self)
      cases r with
      | nil =>
        have hv : valF [b, x, y] = 64 * (64 * (b - leads (ann b)) + x - 128) + y - 128 := rfl
        rw [hv]
        simp only [List.length_cons, List.length_nil] at h1 ⊢
        rcases ha with ⟨h, h2, h4, h5⟩ | ⟨h, h2, h4, h5⟩ | ⟨h, h2, h4, h5⟩ <;> rw [h5] <;> simp [h] at h1 ⊢ <;> omega
      | cons z r =>
        simp only [List.length_cons] at h1
        have := (ann_range b).2
        omega
def okLH (su : Bool) (l lo hi : Int) : Bool := decide (max lo l ≤ min hi 1114111) && (su || (decide (max lo l < 55296) || decide (57343 < min hi 1114111)))
theorem okLH_iff (su : Bool) (l lo hi : Int) : okLH su l lo hi = true ↔ (lo ≤ hi ∧ lo ≤ 1114111 ∧ l ≤ hi ∧ l ≤ 1114111) ∧ (su = true ∨ (lo < 55296 ∧ l < 55296) ∨ 57343 < hi) := by
  unfold okLH
  simp only [Bool.and_eq_true, Bool.or_eq_true, decide_eq_true_eq]
  have h1 := maxS lo l
  have h2 := minS hi 1114111
  generalize max lo l = a at h1 ⊢
  generalize min hi 1114111 = z at h2 ⊢
  cases su
  · simp only [Bool.false_eq_true, false_or]; omega
  · simp only [eq_self, true_or, and_true]; omega
theorem beg_eq' (c : Dc) (b : Int) (r : List Int) (h1 : (r.length : Int) + 1 ≤ ann b) (h2 : ann b ≤ c.L) (h3 : r.all isCont = true) : beg c (b :: r) = if c.ov = .zero ∧ b :: r = ([192, 128] : List Int).take (r.length + 1) then true else
    okLH c.su (if c.ov = .all then 0 else least (ann b)) (fold64 (valF (b :: r)) (List.replicate (ann b - ((r.length : Int) + 1)).toNat 128)) (fold64 (valF (b :: r)) (List.replicate (ann b - ((r.length : Int) + 1)).toNat 191)) := beg_eq c b r h1 h2 h3
theorem row_val (b y : Int) (r : List Int) (n : Nat) : valF (b :: (r ++ [y] ++ List.replicate n 128)) = fold64 (valF (b :: r)) (y :: List.replicate n 128) := by
  show fold64 (b - leads (ann b)) (r ++ [y] ++ List.replicate n 128) = _
  unfold fold64 valF
  rw [List.append_assoc, List.foldl_append]
  rfl
theorem lb_beg (c : Dc) (b : Int) (r : List Int) (hb : Bys (b :: r)) : lb c (b :: r) = beg c (b :: r) := by
  have b0 := (hb b List.mem_cons_self).1
  have hlen : (((b :: r).length : Nat) : Int) = (r.length : Int) + 1 := by simp
  unfold lb
  rw [List.headD_cons, hlen]
  dsimp only
  by_cases hm : ann b - ((r.length : Int) + 1) ≤ 0
  · rw [if_pos hm]
    by_cases h0 : ann b - ((r.length : Int) + 1) = 0
    · rw [decide_eq_true h0, Bool.true_and, lv_beg c _ hb]
      cases h3 : r.all isCont
      · rw [beg_no2 c b r h3, Bool.and_false]
      · have : isSeq (b :: r) = true := by unfold isSeq; dsimp only; rw [h3, Bool.and_true, decide_eq_true_eq]; omega
        rw [this, Bool.true_and]
    · rw [decide_eq_false h0, Bool.false_and, beg_no1 c b r (by omega)]
  · rw [if_neg hm]
    have hbr : ∀ y : Int, 0 ≤ y → y ≤ 255 → Bys (b :: r ++ [y] ++ List.replicate (ann b - ((r.length : Int) + 1) - 1).toNat 128) := fun y y0 y1 x hx => by
      rcases List.mem_append.mp hx with hx | hx
      · rcases List.mem_append.mp hx with hx | hx
        · exact hb x hx
        · rw [List.mem_singleton] at hx; subst hx; exact ⟨y0, y1⟩
      · rw [List.eq_of_mem_replicate hx]; omega
    have hrow : ∀ y, b :: r ++ [y] ++ List.replicate (ann b - ((r.length : Int) + 1) - 1).toNat 128 = b :: (r ++ [y] ++ List.replicate (ann b - ((r.length : Int) + 1) - 1).toNat 128) := fun y => rfl
    have hrl : ∀ y, (((r ++ [y] ++ List.replicate (ann b - ((r.length : Int) + 1) - 1).toNat 128).length : Nat) : Int) + 1 = ann b := fun y => by
      simp only [List.length_append, List.length_replicate, List.length_cons, List.length_nil]; omega
    have each : ∀ y, (y = 128 ∨ y = 144 ∨ y = 160) → lv c (b :: r ++ [y] ++ List.replicate (ann b - ((r.length : Int) + 1) - 1).toNat 128) = if ann b ≤ c.L ∧ r.all isCont = true then (if c.ov = .zero ∧ b :: (r ++ [y] ++ List.replicate (ann b - ((r.length : Int) + 1) - 1).toNat 128) = [192, 128] then true else okLH c.su (if c.ov = .all then 0 else least (ann b)) (fold64 (valF (b :: r)) (y :: List.replicate (ann b - ((r.length : Int) + 1) - 1).toNat 128)) (fold64 (valF (b :: r)) (y :: List.replicate (ann b - ((r.length : Int) + 1) - 1).toNat 128))) else false := by
      intro y hy
      rw [lv_beg c _ (hbr y (by omega) (by omega)), hrow]
      cases h3 : r.all isCont
      · rw [if_neg (fun z => by cases z.2)]
        have : isSeq (b :: (r ++ [y] ++ List.replicate (ann b - ((r.length : Int) + 1) - 1).toNat 128)) = false := by
          unfold isSeq
          dsimp only
          rw [List.all_append, List.all_append, h3]; simp
        rw [this, Bool.false_and]
      · have hy' : isCont y = true := by unfold isCont; rcases hy with e | e | e <;> subst e <;> rfl
        rw [seq_ext h3 hy' (by omega), Bool.true_and]
        by_cases h2 : ann b ≤ c.L
        · rw [if_pos ⟨h2, rfl⟩, beg_eq' c b _ (by rw [hrl]; omega) h2 (by rw [List.all_append, List.all_append, h3, List.all_cons, hy']; simp [isCont]), hrl, row_val]
          rw [show (ann b - ann b).toNat = 0 from by omega]
          have hz : (b :: (r ++ [y] ++ List.replicate (ann b - ((r.length : Int) + 1) - 1).toNat 128) = ([192, 128] : List Int).take ((r ++ [y] ++ List.replicate (ann b - ((r.length : Int) + 1) - 1).toNat 128).length + 1)) ↔ b :: (r ++ [y] ++ List.replicate (ann b - ((r.length : Int) + 1) - 1).toNat 128) = [192, 128] := by
            have hl2 : 2 ≤ (r ++ [y] ++ List.replicate (ann b - ((r.length : Int) + 1) - 1).toNat 128).length + 1 := by
              simp only [List.length_append, List.length_cons, List.length_nil]; omega
            rw [List.take_of_length_le (by exact hl2)]
          simp only [hz]
          rfl
        · rw [if_neg (fun z => h2 z.1), beg_no1 c b _ (by rw [hrl]; omega)]
    simp only [List.any_cons, List.any_nil, Bool.or_false]
    rw [each 128 (.inl rfl), each 144 (.inr (.inl rfl)), each 160 (.inr (.inr rfl))]
    by_cases h2 : ann b ≤ c.L
    case neg => rw [if_neg (fun z => h2 z.1), if_neg (fun z => h2 z.1), if_neg (fun z => h2 z.1), beg_no1 c b r (fun z => h2 z.2)]; rfl
    cases h3 : r.all isCont
    case false => rw [if_neg (fun z => by cases z.2), if_neg (fun z => by cases z.2), if_neg (fun z => by cases z.2), beg_no2 c b r h3]; rfl
    have hcc : ann b ≤ c.L ∧ true = true := ⟨h2, rfl⟩
    rw [if_pos hcc, if_pos hcc, if_pos hcc, beg_eq' c b r (by omega) h2 h3]
    have vr := v0_range b0 h3 (by omega)
    by_cases hZ : c.ov = .zero ∧ b :: r = ([192, 128] : List Int).take (r.length + 1)
    · obtain ⟨z1, z2⟩ := hZ
      have hbr2 : b = 192 := by
        rw [List.take_succ_cons] at z2
        injection z2
      have hr : r = [] := by
        subst hbr2
        cases r with
        | nil => rfl
        | cons x r =>
          have : ann 192 = 2 := by decide
          simp only [List.length_cons] at hm
          omega
      subst hbr2 hr
      have q : c.ov = .zero ∧ (192 : Int) :: ([] ++ [128] ++ List.replicate (ann 192 - (((List.length ([] : List Int) : Nat) : Int) + 1) - 1).toNat 128) = [192, 128] := ⟨z1, by decide⟩
      rw [if_pos (by exact q), Bool.true_or]
      have q2 : c.ov = .zero ∧ [(192 : Int)] = List.take ((List.length ([] : List Int)) + 1) [192, 128] := ⟨z1, z2⟩
      rw [if_pos (by exact q2)]
    · have nz : ∀ y, ¬ (c.ov = .zero ∧ b :: (r ++ [y] ++ List.replicate (ann b - ((r.length : Int) + 1) - 1).toNat 128) = [192, 128]) := fun y z => by
        obtain ⟨z1, z2⟩ := z
        have hb2 : b = 192 := by injection z2
        subst hb2
        have : ann 192 = 2 := by decide
        have hr : r = [] := by
          cases r with
          | nil => rfl
          | cons x r => simp only [List.length_cons] at hm; omega
        subst hr
        exact hZ ⟨z1, rfl⟩
      rw [if_neg (nz 128), if_neg (nz 144), if_neg (nz 160), if_neg hZ, Bool.eq_iff_iff]
      simp only [Bool.or_eq_true, okLH_iff]
      generalize hv : valF (b :: r) = v at vr ⊢
      rcases vr with ⟨ha, hr, v1, v2, _⟩ | ⟨ha, hr, v1, v2⟩ | ⟨ha, hr, v1, v2⟩ | ⟨ha, hr, v1, v2⟩ | ⟨ha, hr, v1, v2⟩ | ⟨ha, hr, v1, v2⟩
      · have hr' : r.length = 0 := by rw [hr]; rfl
        have e1 : (ann b - ((r.length : Int) + 1) - 1).toNat = 0 := by omega
        have e2 : (ann b - ((r.length : Int) + 1)).toNat = 1 := by omega
        have e3 : least (ann b) = 128 := by rw [ha]; rfl
        rw [e1, e2, e3]
        simp only [List.replicate, fold64, List.foldl_cons, List.foldl_nil]
        by_cases ho : c.ov = .all
        · rw [if_pos ho]
          cases c.su
          · simp only [Bool.false_eq_true, false_or]; omega
          · simp only [eq_self, true_or, and_true]; omega
        · rw [if_neg ho]
          cases c.su
          · simp only [Bool.false_eq_true, false_or]; omega
          · simp only [eq_self, true_or, and_true]; omega
      · have hr' : r.length = 0 := hr
        have e1 : (ann b - ((r.length : Int) + 1) - 1).toNat = 1 := by omega
        have e2 : (ann b - ((r.length : Int) + 1)).toNat = 2 := by omega
        have e3 : least (ann b) = 2048 := by rw [ha]; rfl
        rw [e1, e2, e3]
        simp only [List.replicate, fold64, List.foldl_cons, List.foldl_nil]
        by_cases ho : c.ov = .all
        · rw [if_pos ho]
          cases c.su
          · simp only [Bool.false_eq_true, false_or]; omega
          · simp only [eq_self, true_or, and_true]; omega
        · rw [if_neg ho]
          cases c.su
          · simp only [Bool.false_eq_true, false_or]; omega
          · simp only [eq_self, true_or, and_true]; omega
      · have hr' : r.length = 1 := hr
        have e1 : (ann b - ((r.length : Int) + 1) - 1).toNat = 0 := by omega
        have e2 : (ann b - ((r.length : Int) + 1)).toNat = 1 := by omega
        have e3 : least (ann b) = 2048 := by rw [ha]; rfl
        rw [e1, e2, e3]
        simp only [List.replicate, fold64, List.foldl_cons, List.foldl_nil]
        by_cases ho : c.ov = .all
        · rw [if_pos ho]
          cases c.su
          · simp only [Bool.false_eq_true, false_or]; omega
          · simp only [eq_self, true_or, and_true]; omega
        · rw [if_neg ho]
          cases c.su
          · simp only [Bool.false_eq_true, false_or]; omega
          · simp only [eq_self, true_or, and_true]; omega
      · have hr' : r.length = 0 := hr
        have e1 : (ann b - ((r.length : Int) + 1) - 1).toNat = 2 := by omega
        have e2 : (ann b - ((r.length : Int) + 1)).toNat = 3 := by omega
        have e3 : least (ann b) = 65536 := by rw [ha]; rfl
        rw [e1, e2, e3]
        simp only [List.replicate, fold64, List.foldl_cons, List.foldl_nil]
        by_cases ho : c.ov = .all
        · rw [if_pos ho]
          cases c.su
          · simp only [Bool.false_eq_true, false_or]; omega
          · simp only [eq_self, true_or, and_true]; omega
        · rw [if_neg ho]
          cases c.su
          · simp only [Bool.false_eq_true, false_or]; omega
          · simp only [eq_self, true_or, and_true]; omega
      · have hr' : r.length = 1 := hr
        have e1 : (ann b - ((r.length : Int) + 1) - 1).toNat = 1 := by omega
        have e2 : (ann b - ((r.length : Int) + 1)).toNat = 2 := by omega
        have e3 : least (ann b) = 65536 := by rw [ha]; rfl
        rw [e1, e2, e3]
        simp only [List.replicate, fold64, List.foldl_cons, List.foldl_nil]
        by_cases ho : c.ov = .all
        · rw [if_pos ho]
          cases c.su
          · simp only [Bool.false_eq_true, false_or]; omega
          · simp only [eq_self, true_or, and_true]; omega
        · rw [if_neg ho]
          cases c.su
          · simp only [Bool.false_eq_true, false_or]; omega
          · simp only [eq_self, true_or, and_true]; omega
      · have hr' : r.length = 2 := hr
        have e1 : (ann b - ((r.length : Int) + 1) - 1).toNat = 0 := by omega
        have e2 : (ann b - ((r.length : Int) + 1)).toNat = 1 := by omega
        have e3 : least (ann b) = 65536 := by rw [ha]; rfl
        rw [e1, e2, e3]
        simp only [List.replicate, fold64, List.foldl_cons, List.foldl_nil]
        by_cases ho : c.ov = .all
        · rw [if_pos ho]
          cases c.su
          · simp only [Bool.false_eq_true, false_or]; omega
          · simp only [eq_self, true_or, and_true]; omega
        · rw [if_neg ho]
          cases c.su
          · simp only [Bool.false_eq_true, false_or]; omega
          · simp only [eq_self, true_or, and_true]; omega
end Pu

/-! Pu, part 22: pieces and items of a string, in plain words. -/
namespace Pu
open PySem PySem.Spec PyProof.Rows L2
/-- good_size -/
def gsz (c : Dc) (xs : List Int) : Int :=
  let s := ann (xs.headD 0)
  if 0 < s ∧ s ≤ xs.length ∧ beg c (xs.take s.toNat) = true then s else 0
/-- how far a beginning goes -/
def preN (c : Dc) (xs : List Int) : Nat → Nat → Nat
  | 0, n => n
  | k + 1, n => if n < xs.length ∧ beg c (xs.take (n + 1)) = true then preN c xs k (n + 1) else n
/-- how far continuations go -/
def annN (xs : List Int) : Nat → Nat → Nat
  | 0, n => n
  | k + 1, n => if (n : Int) < min (xs.length : Int) (ann (xs.headD 0)) ∧ isCont ((xs[n]?).getD 0) = true then annN xs k (n + 1) else n
/-- bad_size -/
def bsz (c : Dc) (xs : List Int) : Nat := match c.po with
  | .stop => xs.length
  | .pre => preN c xs 60 1
  | .announced => annN xs 60 1
  | _ => 1
/-- find_pieces, from a place on -/
def pcs (c : Dc) : Nat → Int → List Int → List (Int × Int × Int)
  | 0, _, _ => []
  | k + 1, p, xs => if xs = [] then [] else
      if 0 < gsz c xs then (p, gsz c xs, valF (xs.take (gsz c xs).toNat)) :: pcs c k (p + gsz c xs) (xs.drop (gsz c xs).toNat)
      else (p, (bsz c xs : Int), -1) :: pcs c k (p + bsz c xs) (xs.drop (bsz c xs))
def trD (t : Int × Int × Int) : D := .tuple [.int t.1, .int t.2.1, .int t.2.2]
theorem preN_ge (c : Dc) (xs : List Int) : ∀ k n, n ≤ preN c xs k n
  | 0, n => Nat.le_refl _
  | k + 1, n => by
    unfold preN
    split
    · exact Nat.le_trans (Nat.le_succ n) (preN_ge c xs k (n + 1))
    · exact Nat.le_refl _
theorem preN_le (c : Dc) (xs : List Int) : ∀ k n, n ≤ xs.length → preN c xs k n ≤ xs.length
  | 0, n, h => h
  | k + 1, n, h => by
    unfold preN
    split
    · rename_i q; exact preN_le c xs k (n + 1) q.1
    · exact h
theorem annN_ge (xs : List Int) : ∀ k n, n ≤ annN xs k n
  | 0, n => Nat.le_refl _
  | k + 1, n => by
    unfold annN
    split
    · exact Nat.le_trans (Nat.le_succ n) (annN_ge xs k (n + 1))
    · exact Nat.le_refl _
theorem annN_le (xs : List Int) : ∀ k n, n ≤ xs.length → annN xs k n ≤ xs.length
  | 0, n, h => h
  | k + 1, n, h => by
    unfold annN
    split
    · rename_i q
      have := minS (xs.length : Int) (ann (xs.headD 0))
      exact annN_le xs k (n + 1) (by omega)
    · exact h
theorem bsz_range (c : Dc) (xs : List Int) (h : xs ≠ []) : 1 ≤ bsz c xs ∧ bsz c xs ≤ xs.length := by
  have hl := List.length_pos_iff.mpr h
  unfold bsz
  cases c.po with
  | stop => exact ⟨hl, Nat.le_refl _⟩
  | pre => exact ⟨preN_ge c xs 60 1, preN_le c xs 60 1 hl⟩
  | announced => exact ⟨annN_ge xs 60 1, annN_le xs 60 1 hl⟩
  | _ => exact ⟨Nat.le_refl _, hl⟩
theorem gsz_range (c : Dc) (xs : List Int) : 0 ≤ gsz c xs ∧ gsz c xs ≤ 4 ∧ (0 < gsz c xs → gsz c xs ≤ xs.length) := by
  have := ann_range (xs.headD 0)
  unfold gsz
  dsimp only
  split
  · rename_i q; exact ⟨by omega, by omega, fun _ => q.2.1⟩
  · exact ⟨by omega, by omega, fun z => absurd z (by omega)⟩
def bitems (po : Po) (b : Int) (ab : Bool) : List Int := match po with
  | .keep => [0 - b]
  | .skip => []
  | .run => if ab = true then [] else [-1]
  | _ => [-1]
def stepI (c : Dc) (xs : List Int) (a : List Int × Bool) (t : Int × Int × Int) : List Int × Bool := (a.1 ++ (if t.2.2 = -1 then bitems c.po ((xs[t.1.toNat]?).getD 0) a.2 else [t.2.2]), decide (t.2.2 = -1))
theorem bitems_len (po : Po) (b : Int) (ab : Bool) : (bitems po b ab).length ≤ 1 := by cases po <;> cases ab <;> simp [bitems]
theorem pcs_mem (c : Dc) : ∀ (m : Nat) (p : Int) (xs : List Int) (t : Int × Int × Int), t ∈ pcs c m p xs → p ≤ t.1 ∧ t.1 < p + xs.length
  | 0, _, _, _, h => by cases h
  | m + 1, p, xs, t, h => by
    unfold pcs at h
    split at h
    · cases h
    · rename_i hx
      have hl := List.length_pos_iff.mpr hx
      split at h
      · rename_i hg
        obtain ⟨g0, g4, gl⟩ := gsz_range c xs
        have gle := gl hg
        rcases List.mem_cons.mp h with e | h
        · subst e; dsimp only; omega
        · have := pcs_mem c m _ _ t h
          rw [List.length_drop] at this
          omega
      · obtain ⟨q1, q2⟩ := bsz_range c xs hx
        rcases List.mem_cons.mp h with e | h
        · subst e; dsimp only; omega
        · have := pcs_mem c m _ _ t h
          rw [List.length_drop] at this
          omega
theorem pcs_len (c : Dc) : ∀ (m : Nat) (p : Int) (xs : List Int), (pcs c m p xs).length ≤ m
  | 0, _, _ => Nat.le_refl _
  | m + 1, p, xs => by
    unfold pcs
    split
    · simp
    · split
      · rw [List.length_cons]; exact Nat.succ_le_succ (pcs_len c m _ _)
      · rw [List.length_cons]; exact Nat.succ_le_succ (pcs_len c m _ _)
def itemsF (c : Dc) (xs : List Int) (ab : Bool) : List Int × Bool := (pcs c 60 0 xs).foldl (stepI c xs) ([], ab)
end Pu

/-! Pu, part 23: pieces tile a string; cutting at a piece's border. -/
namespace Pu
open PySem PySem.Spec PyProof.Rows L2
/-- the size of the first piece -/
def fsz (c : Dc) (xs : List Int) : Nat := if 0 < gsz c xs then (gsz c xs).toNat else bsz c xs
def fva (c : Dc) (xs : List Int) : Int := if 0 < gsz c xs then valF (xs.take (gsz c xs).toNat) else -1
theorem fsz_range (c : Dc) (xs : List Int) (h : xs ≠ []) : 1 ≤ fsz c xs ∧ fsz c xs ≤ xs.length := by
  unfold fsz
  obtain ⟨g0, g4, gl⟩ := gsz_range c xs
  split
  · rename_i hg; have := gl hg; omega
  · exact bsz_range c xs h
theorem pcs_cons (c : Dc) (m : Nat) (p : Int) (xs : List Int) (h : xs ≠ []) : pcs c (m + 1) p xs = (p, (fsz c xs : Int), fva c xs) :: pcs c m (p + fsz c xs) (xs.drop (fsz c xs)) := by
  rw [pcs, if_neg h]
  unfold fsz fva
  split
  · rename_i hg
    rw [show (((gsz c xs).toNat : Nat) : Int) = gsz c xs from by omega]
  · rfl
theorem pcs_nil' (c : Dc) (m : Nat) (p : Int) : pcs c m p [] = [] := by cases m <;> rfl
/-- more fuel changes nothing -/
theorem pcs_fuel (c : Dc) : ∀ (m n : Nat) (p : Int) (xs : List Int), xs.length ≤ m → xs.length ≤ n → pcs c m p xs = pcs c n p xs
  | 0, n, p, xs, h, _ => by rw [List.length_eq_zero_iff.mp (Nat.le_zero.mp h), pcs_nil', pcs_nil']
  | m + 1, 0, p, xs, _, h => by rw [List.length_eq_zero_iff.mp (Nat.le_zero.mp h), pcs_nil', pcs_nil']
  | m + 1, n + 1, p, xs, h1, h2 => by
    by_cases hx : xs = []
    · rw [hx, pcs_nil', pcs_nil']
    · obtain ⟨f1, f2⟩ := fsz_range c xs hx
      rw [pcs_cons c m p xs hx, pcs_cons c n p xs hx, pcs_fuel c m n _ (xs.drop (fsz c xs)) (by rw [List.length_drop]; omega) (by rw [List.length_drop]; omega)]
def sh (q : Int) (t : Int × Int × Int) : Int × Int × Int := (q + t.1, t.2.1, t.2.2)
theorem pcs_shift (c : Dc) (q : Int) : ∀ (m : Nat) (p : Int) (xs : List Int), pcs c m (q + p) xs = (pcs c m p xs).map (sh q)
  | 0, _, _ => rfl
  | m + 1, p, xs => by
    by_cases hx : xs = []
    · rw [hx, pcs_nil', pcs_nil']; rfl
    · rw [pcs_cons c m _ xs hx, pcs_cons c m _ xs hx, List.map_cons, ← pcs_shift c q m, Int.add_assoc]; rfl
theorem preN_take (c : Dc) (xs : List Int) (t : Nat) (ht : t ≤ xs.length) : ∀ (k n : Nat), n ≤ t → preN c xs k n ≤ t → preN c (xs.take t) k n = preN c xs k n
  | 0, n, _, _ => rfl
  | k + 1, n, hn, h => by
    have hl : (xs.take t).length = t := by rw [List.length_take]; omega
    unfold preN at h ⊢
    rw [hl]
    by_cases hq : n < xs.length ∧ beg c (xs.take (n + 1)) = true
    · rw [if_pos hq] at h ⊢
      have := preN_ge c xs k (n + 1)
      have e : (xs.take t).take (n + 1) = xs.take (n + 1) := by rw [List.take_take, Nat.min_eq_left (by omega)]
      rw [e, if_pos ⟨by omega, hq.2⟩]
      exact preN_take c xs t ht k (n + 1) (by omega) h
    · rw [if_neg hq]
      rw [if_neg]
      intro z
      have e : (xs.take t).take (n + 1) = xs.take (n + 1) := by rw [List.take_take, Nat.min_eq_left (by omega)]
      rw [e] at z
      exact hq ⟨by omega, z.2⟩
theorem headD_take (xs : List Int) (t : Nat) (h : 1 ≤ t) : (xs.take t).headD 0 = xs.headD 0 := by
  cases xs with
  | nil => rw [List.take_nil]
  | cons b r =>
    obtain ⟨s, rfl⟩ : ∃ s, t = s + 1 := ⟨t - 1, by omega⟩
    rfl
theorem annN_take (xs : List Int) (t : Nat) (ht : t ≤ xs.length) (h1 : 1 ≤ t) : ∀ (k n : Nat), n ≤ t → annN xs k n ≤ t → annN (xs.take t) k n = annN xs k n
  | 0, n, _, _ => rfl
  | k + 1, n, hn, h => by
    have hl : (xs.take t).length = t := by rw [List.length_take]; omega
    unfold annN at h ⊢
    rw [hl, headD_take xs t h1]
    have m1 := minS (xs.length : Int) (ann (xs.headD 0))
    have m2 := minS (t : Int) (ann (xs.headD 0))
    by_cases hq : (n : Int) < min (xs.length : Int) (ann (xs.headD 0)) ∧ isCont ((xs[n]?).getD 0) = true
    · rw [if_pos hq] at h ⊢
      have := annN_ge xs k (n + 1)
      have e : (xs.take t)[n]? = xs[n]? := by rw [List.getElem?_take]; rw [if_pos (by omega)]
      rw [e, if_pos ⟨by omega, hq.2⟩]
      exact annN_take xs t ht h1 k (n + 1) (by omega) h
    · rw [if_neg hq, if_neg]
      intro z
      have hnt : n < t := by omega
      have e : (xs.take t)[n]? = xs[n]? := by rw [List.getElem?_take]; rw [if_pos hnt]
      rw [e] at z
      exact hq ⟨by omega, z.2⟩
/-- a string cut behind its first piece has the same first piece -/
theorem gsz_take (c : Dc) (xs : List Int) (t : Nat) (h1 : 1 ≤ t) (ht : t ≤ xs.length) (hg : gsz c xs ≤ t) : gsz c (xs.take t) = gsz c xs := by
  have hl : (xs.take t).length = t := by rw [List.length_take]; omega
  unfold gsz at hg ⊢
  dsimp only at hg ⊢
  rw [headD_take xs t h1, hl]
  have a0 := (ann_range (xs.headD 0)).1
  by_cases q : 0 < ann (xs.headD 0) ∧ ann (xs.headD 0) ≤ xs.length ∧ beg c (xs.take (ann (xs.headD 0)).toNat) = true
  · rw [if_pos q] at hg ⊢
    have e : (xs.take t).take (ann (xs.headD 0)).toNat = xs.take (ann (xs.headD 0)).toNat := by rw [List.take_take, Nat.min_eq_left (by omega)]
    rw [e, if_pos ⟨q.1, hg, q.2.2⟩]
  · rw [if_neg q, if_neg]
    intro z
    have e : (xs.take t).take (ann (xs.headD 0)).toNat = xs.take (ann (xs.headD 0)).toNat := by rw [List.take_take, Nat.min_eq_left (by omega)]
    rw [e] at z
    exact q ⟨z.1, by omega, z.2.2⟩
theorem bsz_take (c : Dc) (xs : List Int) (t : Nat) (h1 : 1 ≤ t) (ht : t ≤ xs.length) (hb : bsz c xs ≤ t) : bsz c (xs.take t) = bsz c xs := by
  have hl : (xs.take t).length = t := by rw [List.length_take]; omega
  unfold bsz at hb ⊢
  cases hp : c.po <;> rw [hp] at hb <;> dsimp only at hb ⊢
  case stop => omega
  case pre => exact preN_take c xs t ht 60 1 h1 hb
  case announced => exact annN_take xs t ht h1 60 1 h1 hb
theorem first_take (c : Dc) (xs : List Int) (t : Nat) (hx : xs ≠ []) (ht : t ≤ xs.length) (hf : fsz c xs ≤ t) : fsz c (xs.take t) = fsz c xs ∧ fva c (xs.take t) = fva c xs := by
  have h1 := (fsz_range c xs hx).1
  obtain ⟨g0, g4, gl⟩ := gsz_range c xs
  have hgt : gsz c xs ≤ t := by
    unfold fsz at hf
    split at hf
    · omega
    · omega
  have hg := gsz_take c xs t (by omega) ht hgt
  unfold fsz fva
  rw [hg]
  constructor
  · split
    · rfl
    · rename_i q
      refine bsz_take c xs t (by omega) ht ?_
      unfold fsz at hf
      rw [if_neg q] at hf
      exact hf
  · split
    · rw [List.take_take, Nat.min_eq_left (by omega)]
    · rfl
end Pu

/-! Pu, part 24: beginnings are closed under taking a prefix; valid sequences; the first piece. -/
namespace Pu
open PySem PySem.Spec PyProof.Rows L2
theorem fold_mono : ∀ (r : List Int) (v w : Int), v ≤ w → fold64 v r ≤ fold64 w r
  | [], v, w, h => h
  | b :: r, v, w, h => fold_mono r (64 * v + b - 128) (64 * w + b - 128) (by omega)
theorem fold_app (v : Int) (r s : List Int) : fold64 v (r ++ s) = fold64 (fold64 v r) s := by unfold fold64; rw [List.foldl_append]
theorem okLH_mono {su : Bool} {l lo hi lo' hi' : Int} (h1 : lo ≤ lo') (h2 : hi' ≤ hi) (h : okLH su l lo' hi' = true) : okLH su l lo hi = true := by
  rw [okLH_iff] at h ⊢
  obtain ⟨h3, h4⟩ := h
  refine ⟨by omega, ?_⟩
  rcases h4 with h4 | h4 | h4
  · exact .inl h4
  · exact .inr (.inl (by omega))
  · exact .inr (.inr (by omega))
theorem beg_facts {c : Dc} {b : Int} {r : List Int} (h : beg c (b :: r) = true) : (r.length : Int) + 1 ≤ ann b ∧ ann b ≤ c.L ∧ r.all isCont = true := by
  by_cases h1 : (r.length : Int) + 1 ≤ ann b ∧ ann b ≤ c.L
  · refine ⟨h1.1, h1.2, ?_⟩
    cases h3 : r.all isCont
    · rw [beg_no2 c b r h3] at h; cases h
    · rfl
  · rw [beg_no1 c b r h1] at h; cases h
theorem beg_init (c : Dc) (b x : Int) (r : List Int) (h : beg c (b :: (r ++ [x])) = true) : beg c (b :: r) = true := by
  obtain ⟨h1, h2, h3⟩ := beg_facts h
  have hl : (r ++ [x]).length = r.length + 1 := by simp
  rw [List.all_append, Bool.and_eq_true] at h3
  have hx : 128 ≤ x ∧ x ≤ 191 := by simpa [isCont] using h3.2
  have h1' : (r.length : Int) + 1 + 1 ≤ ann b := by rw [hl] at h1; omega
  rw [beg_eq' c b (r ++ [x]) h1 h2 (by rw [List.all_append, h3.1, h3.2]; rfl)] at h
  rw [beg_eq' c b r (by omega) h2 h3.1]
  by_cases hz : c.ov = .zero ∧ b :: r = ([192, 128] : List Int).take (r.length + 1)
  · rw [if_pos hz]
  · rw [if_neg hz]
    rw [if_neg] at h
    · have hm : (ann b - ((r.length : Int) + 1)).toNat = (ann b - (((r ++ [x]).length : Int) + 1)).toNat + 1 := by rw [hl]; omega
      have hv : valF (b :: (r ++ [x])) = 64 * valF (b :: r) + x - 128 := by
        show fold64 _ (r ++ [x]) = _
        rw [fold_app]
        rfl
      rw [hm]
      rw [hv] at h
      refine okLH_mono ?_ ?_ h
      · show fold64 (64 * valF (b :: r) + 128 - 128) _ ≤ _
        exact fold_mono _ _ _ (by omega)
      · show _ ≤ fold64 (64 * valF (b :: r) + 191 - 128) _
        exact fold_mono _ _ _ (by omega)
    · intro z
      refine hz ⟨z.1, ?_⟩
      have := congrArg (List.take (r.length + 1)) z.2
      rw [List.take_take, hl] at this
      simpa using this
theorem beg_app (c : Dc) (b : Int) : ∀ (s r : List Int), beg c (b :: (r ++ s)) = true → beg c (b :: r) = true
  | [], r, h => by rwa [List.append_nil] at h
  | x :: s, r, h => by
    refine beg_init c b x r (beg_app c b s (r ++ [x]) ?_)
    rwa [List.append_assoc]
/-- a beginning's prefix is a beginning -/
theorem beg_take (c : Dc) (xs : List Int) (n : Nat) (hn : 1 ≤ n) (h : beg c xs = true) : beg c (xs.take n) = true := by
  cases xs with
  | nil => cases h
  | cons b r =>
    obtain ⟨m, rfl⟩ : ∃ m, n = m + 1 := ⟨n - 1, by omega⟩
    rw [List.take_succ_cons]
    refine beg_app c b (r.drop m) (r.take m) ?_
    rw [List.take_append_drop]
    exact h
theorem ann_cont {b : Int} (h : isCont b = true) : ann b = 0 := by
  simp only [isCont, Bool.and_eq_true, decide_eq_true_eq] at h
  unfold ann
  rw [if_neg (by omega), if_neg (by omega), if_neg (by omega), if_neg (by omega)]
/-- no beginning begins with a continuation byte -/
theorem beg_cont (c : Dc) {b : Int} (r : List Int) (h : isCont b = true) : beg c (b :: r) = false := by
  refine beg_no1 c b r ?_
  rw [ann_cont h]
  omega
/-- valid -/
def vld (c : Dc) (xs : List Int) : Bool := isSeq xs && beg c xs
theorem vld_iff {c : Dc} {b : Int} {r : List Int} : vld c (b :: r) = true ↔ ann b = (r.length : Int) + 1 ∧ beg c (b :: r) = true := by
  unfold vld isSeq
  dsimp only
  rw [Bool.and_eq_true, Bool.and_eq_true, decide_eq_true_eq]
  constructor
  · exact fun h => ⟨h.1.1, h.2⟩
  · exact fun h => ⟨⟨h.1, (beg_facts h.2).2.2⟩, h.2⟩
theorem vld_ne {c : Dc} {xs : List Int} (h : vld c xs = true) : xs ≠ [] := by
  intro e; subst e; cases h
theorem gsz_cons (c : Dc) (b : Int) (r : List Int) : gsz c (b :: r) = if 0 < ann b ∧ ann b ≤ (r.length : Int) + 1 ∧ beg c ((b :: r).take (ann b).toNat) = true then ann b else 0 := by
  unfold gsz
  rw [List.headD_cons, List.length_cons]
  rfl
/-- a valid sequence ahead is the first piece -/
theorem gsz_vld {c : Dc} {row : List Int} (h : vld c row = true) (ys : List Int) : gsz c (row ++ ys) = row.length := by
  cases row with
  | nil => cases h
  | cons b r =>
    obtain ⟨h1, h2⟩ := vld_iff.mp h
    rw [List.cons_append, gsz_cons, List.length_append]
    have e : (ann b).toNat = r.length + 1 := by omega
    rw [e, List.take_succ_cons, List.take_left' rfl, if_pos ⟨by omega, by omega, h2⟩, h1]
    simp
/-- the good piece is valid -/
theorem vld_gsz {c : Dc} {xs : List Int} (h : 0 < gsz c xs) : vld c (xs.take (gsz c xs).toNat) = true := by
  cases xs with
  | nil =>
    have : gsz c [] = 0 := by
      unfold gsz
      dsimp only
      rw [if_neg]
      intro z
      have := z.2.1
      have := z.1
      simp only [List.length_nil] at *
      omega
    rw [this] at h; omega
  | cons b r =>
    have a4 := (ann_range b).2
    rw [gsz_cons] at h ⊢
    split at h
    · rename_i q
      rw [if_pos q]
      obtain ⟨n, hn⟩ : ∃ n : Nat, (ann b).toNat = n + 1 := ⟨(ann b).toNat - 1, by omega⟩
      have q3 := q.2.2
      rw [hn, List.take_succ_cons] at q3 ⊢
      refine vld_iff.mpr ⟨?_, q3⟩
      rw [List.length_take]
      omega
    · omega
/-- which beginnings of some bytes are valid -/
theorem vld_take {c : Dc} {xs : List Int} {n : Nat} (hn : 1 ≤ n) (h : vld c (xs.take n) = true) : 0 < gsz c xs ∧ gsz c xs = ((xs.take n).length : Int) := by
  have e := gsz_vld h (xs.drop n)
  rw [List.take_append_drop] at e
  have := List.length_pos_iff.mpr (vld_ne h)
  omega
theorem bys_take {xs : List Int} (h : Bys xs) (n : Nat) : Bys (xs.take n) := fun b hb => h b (List.mem_of_mem_take hb)
theorem bys_drop {xs : List Int} (h : Bys xs) (n : Nat) : Bys (xs.drop n) := fun b hb => h b (List.mem_of_mem_drop hb)
theorem bys_app {xs ys : List Int} (h : Bys xs) (g : Bys ys) : Bys (xs ++ ys) := fun b hb => (List.mem_append.mp hb).elim (h b) (g b)
/-- a valid sequence's value -/
theorem vld_val {c : Dc} {xs : List Int} (hb : Bys xs) (h : vld c xs = true) : 0 ≤ valF xs ∧ valF xs ≤ 1114111 := by
  cases xs with
  | nil => cases h
  | cons b r =>
    obtain ⟨h1, h2⟩ := vld_iff.mp h
    obtain ⟨h3, h4, h5⟩ := beg_facts h2
    have v0 : 0 ≤ valF (b :: r) := fold_nonneg r _ (lead_le (hb b List.mem_cons_self).1) fun x hx => (conts_ge h5 x hx).1
    refine ⟨v0, ?_⟩
    rw [beg_eq' c b r h3 h4 h5] at h2
    split at h2
    · rename_i z
      have zz := z.2
      rw [List.take_succ_cons] at zz
      injection zz with z1 z2
      subst z1
      have : r.length = 1 := by
        have : ann 192 = 2 := by decide
        omega
      rw [this] at z2
      subst z2
      decide
    · rw [okLH_iff] at h2
      have hm : (ann b - ((r.length : Int) + 1)).toNat = 0 := by omega
      rw [hm] at h2
      exact h2.1.2.1
theorem fva_good {c : Dc} {xs : List Int} (h : 0 < gsz c xs) : fva c xs = valF (xs.take (fsz c xs)) ∧ fsz c xs = (gsz c xs).toNat ∧ vld c (xs.take (fsz c xs)) = true := by
  have e : fsz c xs = (gsz c xs).toNat := by unfold fsz; rw [if_pos h]
  refine ⟨?_, e, ?_⟩
  · unfold fva; rw [if_pos h, e]
  · rw [e]; exact vld_gsz h
theorem fva_bad {c : Dc} {xs : List Int} (h : ¬ 0 < gsz c xs) : fva c xs = -1 ∧ fsz c xs = bsz c xs := by
  constructor
  · unfold fva; rw [if_neg h]
  · unfold fsz; rw [if_neg h]
theorem fva_iff {c : Dc} {xs : List Int} (hb : Bys xs) : (0 ≤ fva c xs ↔ 0 < gsz c xs) ∧ (fva c xs = -1 ↔ ¬ 0 < gsz c xs) := by
  by_cases h : 0 < gsz c xs
  · obtain ⟨e1, e2, e3⟩ := fva_good h
    have := vld_val (bys_take hb _) e3
    rw [← e1] at this
    exact ⟨⟨fun _ => h, fun _ => this.1⟩, ⟨fun z => by omega, fun z => absurd h z⟩⟩
  · obtain ⟨e1, e2⟩ := fva_bad h
    rw [e1]
    exact ⟨⟨fun z => by omega, fun z => absurd z h⟩, ⟨fun _ => h, fun _ => rfl⟩⟩
/-- a first piece is at most four bytes long, but with stop -/
theorem preN_beg (c : Dc) (xs : List Int) : ∀ (k n : Nat), (n = 1 ∨ beg c (xs.take n) = true) → (preN c xs k n = 1 ∨ beg c (xs.take (preN c xs k n)) = true)
  | 0, n, h => h
  | k + 1, n, h => by
    unfold preN
    split
    · rename_i q; exact preN_beg c xs k (n + 1) (.inr q.2)
    · exact h
end Pu

/-! Pu, part 25: boundaries, cuts, items piece by piece. -/
namespace Pu
open PySem PySem.Spec PyProof.Rows L2
/-- boundaries, counted from the string's beginning -/
inductive Bd (c : Dc) : List Int → Nat → Prop where
  | zero (xs : List Int) : Bd c xs 0
  | next (xs : List Int) (j : Nat) : xs ≠ [] → Bd c (xs.drop (fsz c xs)) j → Bd c xs (fsz c xs + j)
theorem Bd.le {c : Dc} {xs : List Int} {j : Nat} (h : Bd c xs j) : j ≤ xs.length := by
  induction h with
  | zero xs => exact Nat.zero_le _
  | next xs j hx _ ih =>
    have := (fsz_range c xs hx).2
    rw [List.length_drop] at ih
    omega
/-- induction along the pieces -/
theorem piece_ind (c : Dc) {P : List Int → Prop} (h0 : P []) (h1 : ∀ xs, xs ≠ [] → P (xs.drop (fsz c xs)) → P xs) : ∀ xs, P xs := by
  have : ∀ n (xs : List Int), xs.length ≤ n → P xs := by
    intro n
    induction n with
    | zero => intro xs h; rw [List.length_eq_zero_iff.mp (Nat.le_zero.mp h)]; exact h0
    | succ n ih =>
      intro xs h
      by_cases hx : xs = []
      · rw [hx]; exact h0
      · have := fsz_range c xs hx
        exact h1 xs hx (ih _ (by rw [List.length_drop]; omega))
  exact fun xs => this _ xs (Nat.le_refl _)
theorem Bd.full (c : Dc) : ∀ xs, Bd c xs xs.length := by
  refine piece_ind c (.zero _) fun xs hx ih => ?_
  have h := fsz_range c xs hx
  have := Bd.next xs _ hx ih
  rwa [List.length_drop, show fsz c xs + (xs.length - fsz c xs) = xs.length from by omega] at this
/-- with fuel enough -/
theorem pcs_step (c : Dc) {m : Nat} (p : Int) {xs : List Int} (h : xs ≠ []) (hm : xs.length ≤ m) : pcs c m p xs = (p, (fsz c xs : Int), fva c xs) :: pcs c m (p + fsz c xs) (xs.drop (fsz c xs)) := by
  obtain ⟨n, rfl⟩ : ∃ n, m = n + 1 := ⟨m - 1, by have := List.length_pos_iff.mpr h; omega⟩
  have f := fsz_range c xs h
  rw [pcs_cons c n p xs h]
  rw [pcs_fuel c n (n + 1) _ _ (by rw [List.length_drop]; omega) (by rw [List.length_drop]; omega)]
theorem Bd.mem {c : Dc} {m : Nat} : ∀ (xs : List Int) (p : Int), xs.length ≤ m → ∀ t ∈ pcs c m p xs, p ≤ t.1 ∧ Bd c xs (t.1 - p).toNat ∧ t.2.1 = fsz c (xs.drop (t.1 - p).toNat) ∧ t.2.2 = fva c (xs.drop (t.1 - p).toNat) ∧ (t.1 - p).toNat < xs.length := by
  refine piece_ind c (fun p _ t ht => ?_) fun xs hx ih p hm t ht => ?_
  · rw [pcs_nil'] at ht; cases ht
  · rw [pcs_step c p hx hm] at ht
    have f := fsz_range c xs hx
    have l := List.length_pos_iff.mpr hx
    rcases List.mem_cons.mp ht with e | ht
    · subst e
      dsimp only
      rw [show (p - p).toNat = 0 from by omega, List.drop_zero]
      exact ⟨by omega, .zero _, rfl, rfl, l⟩
    · obtain ⟨h1, h2, h3, h4, h5⟩ := ih (p + fsz c xs) (by rw [List.length_drop]; omega) t ht
      have := Bd.next xs _ hx h2
      have e : (t.1 - p).toNat = fsz c xs + (t.1 - (p + fsz c xs)).toNat := by omega
      rw [List.drop_drop] at h3 h4
      rw [List.length_drop] at h5
      rw [e]
      exact ⟨by omega, this, h3, h4, by omega⟩
/-- cutting at a boundary -/
theorem pcs_cut {c : Dc} {xs : List Int} {j : Nat} (h : Bd c xs j) : ∀ (m : Nat) (p : Int), xs.length ≤ m → pcs c m p xs = pcs c m p (xs.take j) ++ pcs c m (p + j) (xs.drop j) := by
  induction h with
  | zero xs =>
    intro m p _
    rw [List.take_zero, List.drop_zero, pcs_nil', List.nil_append, show p + ((0 : Nat) : Int) = p from by omega]
  | next xs j hx hb ih =>
    intro m p hm
    have f := fsz_range c xs hx
    have l := List.length_pos_iff.mpr hx
    have hj := hb.le
    rw [List.length_drop] at hj
    have hne : xs.take (fsz c xs + j) ≠ [] := by
      intro e
      have := congrArg List.length e
      rw [List.length_take] at this
      simp only [List.length_nil] at this
      omega
    obtain ⟨e1, e2⟩ := first_take c xs (fsz c xs + j) hx (by omega) (by omega)
    rw [pcs_step c p hx hm, pcs_step c p hne (by rw [List.length_take]; omega), e1, e2, List.cons_append]
    have i := ih m (p + fsz c xs) (by rw [List.length_drop]; omega)
    rw [i, List.take_drop, List.drop_drop]
    rw [show (p : Int) + ((fsz c xs + j : Nat) : Int) = p + fsz c xs + j from by omega]
/-- items, piece by piece -/
def its (c : Dc) (xs : List Int) (ab : Bool) : List Int × Bool := if h : xs = [] then ([], ab) else
  ((if fva c xs = -1 then bitems c.po (xs.headD 0) ab else [fva c xs]) ++ (its c (xs.drop (fsz c xs)) (decide (fva c xs = -1))).1, (its c (xs.drop (fsz c xs)) (decide (fva c xs = -1))).2)
termination_by xs.length
decreasing_by
  all_goals
    have := fsz_range c xs h
    have := List.length_pos_iff.mpr h
    rw [List.length_drop]
    omega
theorem its_nil (c : Dc) (ab : Bool) : its c [] ab = ([], ab) := by rw [its, dif_pos rfl]
theorem its_cons (c : Dc) {xs : List Int} (ab : Bool) (h : xs ≠ []) : its c xs ab = ((if fva c xs = -1 then bitems c.po (xs.headD 0) ab else [fva c xs]) ++ (its c (xs.drop (fsz c xs)) (decide (fva c xs = -1))).1, (its c (xs.drop (fsz c xs)) (decide (fva c xs = -1))).2) := by
  rw [its, dif_neg h]
theorem headD_drop {xs ys : List Int} {n : Nat} (h : xs.drop n = ys) (hy : ys ≠ []) : (xs[n]?).getD 0 = ys.headD 0 := by
  subst h
  rw [List.headD_eq_head?_getD, List.head?_drop]
theorem fold_its (c : Dc) (s : List Int) {m : Nat} : ∀ (xs : List Int) (n : Nat) (acc : List Int) (ab : Bool), xs.length ≤ m → s.drop n = xs → (pcs c m n xs).foldl (stepI c s) (acc, ab) = (acc ++ (its c xs ab).1, (its c xs ab).2) := by
  refine piece_ind c (fun n acc ab _ _ => ?_) fun xs hx ih n acc ab hm hs => ?_
  · rw [pcs_nil', its_nil, List.append_nil]; rfl
  · have f := fsz_range c xs hx
    rw [pcs_step c _ hx hm, List.foldl_cons, its_cons c ab hx]
    have e : stepI c s (acc, ab) ((n : Int), (fsz c xs : Int), fva c xs) = (acc ++ (if fva c xs = -1 then bitems c.po (xs.headD 0) ab else [fva c xs]), decide (fva c xs = -1)) := by
      unfold stepI
      dsimp only
      rw [Int.toNat_natCast, headD_drop hs hx]
    rw [e]
    have := ih (n + fsz c xs) (acc ++ (if fva c xs = -1 then bitems c.po (xs.headD 0) ab else [fva c xs])) (decide (fva c xs = -1)) (by rw [List.length_drop]; omega) (by rw [← hs, List.drop_drop])
    rw [show ((n + fsz c xs : Nat) : Int) = (n : Int) + (fsz c xs : Int) from by omega] at this
    rw [this, List.append_assoc]
theorem itemsF_its (c : Dc) (xs : List Int) (ab : Bool) (h : xs.length ≤ 60) : itemsF c xs ab = its c xs ab := by
  unfold itemsF
  have := fold_its c xs xs 0 [] ab h (List.drop_zero)
  rw [show ((0 : Nat) : Int) = 0 from rfl, List.nil_append] at this
  exact this
/-- items, cut at a boundary -/
theorem its_cut {c : Dc} {xs : List Int} {j : Nat} (h : Bd c xs j) : ∀ ab, its c xs ab = ((its c (xs.take j) ab).1 ++ (its c (xs.drop j) (its c (xs.take j) ab).2).1, (its c (xs.drop j) (its c (xs.take j) ab).2).2) := by
  induction h with
  | zero xs => intro ab; rw [List.take_zero, List.drop_zero, its_nil, List.nil_append]
  | next xs j hx hb ih =>
    intro ab
    have f := fsz_range c xs hx
    have l := List.length_pos_iff.mpr hx
    have hj := hb.le
    rw [List.length_drop] at hj
    have hne : xs.take (fsz c xs + j) ≠ [] := by
      intro e
      have := congrArg List.length e
      rw [List.length_take] at this
      simp only [List.length_nil] at this
      omega
    obtain ⟨e1, e2⟩ := first_take c xs (fsz c xs + j) hx (by omega) (by omega)
    rw [its_cons c ab hx, its_cons c ab hne, e1, e2, ih, headD_take xs _ (by omega)]
    rw [List.take_drop, List.drop_drop, List.append_assoc]
theorem bitems_ab {po : Po} (h : po ≠ .run) (b : Int) (x y : Bool) : bitems po b x = bitems po b y := by
  cases po <;> first | rfl | exact absurd rfl h
/-- but with run, what stands before changes nothing -/
theorem its_ab {c : Dc} (h : c.po ≠ .run) (xs : List Int) (x y : Bool) : (its c xs x).1 = (its c xs y).1 := by
  by_cases hx : xs = []
  · rw [hx, its_nil, its_nil]
  · rw [its_cons c x hx, its_cons c y hx]
    dsimp only
    rw [bitems_ab h _ x y]
theorem its_len (c : Dc) : ∀ (xs : List Int) (ab : Bool), (its c xs ab).1.length ≤ xs.length := by
  refine piece_ind c (fun ab => by rw [its_nil]; exact Nat.le_refl _) fun xs hx ih ab => ?_
  have f := fsz_range c xs hx
  have i := ih (decide (fva c xs = -1))
  rw [List.length_drop] at i
  rw [its_cons c ab hx]
  dsimp only
  rw [List.length_append]
  have : (if fva c xs = -1 then bitems c.po (xs.headD 0) ab else [fva c xs]).length ≤ 1 := by
    split
    · exact bitems_len _ _ _
    · exact Nat.le_refl _
  omega
/-- a clean string's items -/
def clean (c : Dc) (xs : List Int) : Bool := (pcs c 60 0 xs).all fun t => !decide (t.2.2 = -1)
theorem vld_first {c : Dc} {row : List Int} (h : vld c row = true) (ys : List Int) : fsz c (row ++ ys) = row.length ∧ fva c (row ++ ys) = valF row := by
  have g := gsz_vld h ys
  have l := List.length_pos_iff.mpr (vld_ne h)
  have hg : 0 < gsz c (row ++ ys) := by omega
  obtain ⟨e1, e2, e3⟩ := fva_good hg
  have e : fsz c (row ++ ys) = row.length := by rw [e2, g]; omega
  refine ⟨e, ?_⟩
  rw [e1, e, List.take_left' rfl]
theorem pcs_row {c : Dc} {row : List Int} (h : vld c row = true) (ys : List Int) {m : Nat} (p : Int) (hm : (row ++ ys).length ≤ m) : pcs c m p (row ++ ys) = (p, (row.length : Int), valF row) :: pcs c m (p + row.length) ys := by
  obtain ⟨e1, e2⟩ := vld_first h ys
  have hne : row ++ ys ≠ [] := by
    intro e
    exact vld_ne h (List.append_eq_nil_iff.mp e).1
  rw [pcs_step c p hne hm, e1, e2, List.drop_left' rfl]
theorem its_row {c : Dc} {row : List Int} (hb : Bys row) (h : vld c row = true) (ys : List Int) (ab : Bool) : its c (row ++ ys) ab = (valF row :: (its c ys false).1, (its c ys false).2) := by
  obtain ⟨e1, e2⟩ := vld_first h ys
  have hne : row ++ ys ≠ [] := by
    intro e
    exact vld_ne h (List.append_eq_nil_iff.mp e).1
  have v := vld_val hb h
  rw [its_cons c ab hne, e1, e2, List.drop_left' rfl, if_neg (by omega), decide_eq_false (by omega)]
  rfl
/-- strings of valid sequences -/
theorem its_rows {c : Dc} : ∀ {rows : List (List Int)}, (∀ r ∈ rows, Bys r ∧ vld c r = true) → ∀ ab, (its c rows.flatten ab).1 = rows.map valF
  | [], _, ab => by rw [List.flatten_nil, its_nil]; rfl
  | r :: rows, h, ab => by
    obtain ⟨h1, h2⟩ := h r List.mem_cons_self
    rw [List.flatten_cons, its_row h1 h2, List.map_cons]
    dsimp only
    rw [its_rows (fun x hx => h x (List.mem_cons_of_mem _ hx)) false]
theorem clean_rows {c : Dc} {m : Nat} : ∀ {rows : List (List Int)} (p : Int), (∀ r ∈ rows, Bys r ∧ isSeq r = true) → rows.flatten.length ≤ m → ((pcs c m p rows.flatten).all fun t => !decide (t.2.2 = -1)) = rows.all (vld c)
  | [], p, _, _ => by rw [List.flatten_nil, pcs_nil']; rfl
  | r :: rows, p, h, hm => by
    obtain ⟨h1, h2⟩ := h r List.mem_cons_self
    rw [List.flatten_cons] at hm ⊢
    cases hv : vld c r with
    | true =>
      rw [pcs_row hv _ _ hm, List.all_cons, List.all_cons, hv]
      have v := vld_val h1 hv
      rw [List.length_append] at hm
      rw [clean_rows (rows := rows) _ (fun x hx => h x (List.mem_cons_of_mem _ hx)) (by omega)]
      dsimp only
      rw [decide_eq_false (by omega)]
      rfl
    | false =>
      have hb : beg c r = false := by
        unfold vld at hv
        rw [h2, Bool.true_and] at hv
        exact hv
      cases r with
      | nil => cases h2
      | cons b r =>
        have hg : gsz c (b :: r ++ rows.flatten) = 0 := by
          unfold isSeq at h2
          dsimp only at h2
          rw [Bool.and_eq_true, decide_eq_true_eq] at h2
          rw [List.cons_append, gsz_cons, show (ann b).toNat = r.length + 1 from by omega, List.take_succ_cons, List.take_left' rfl, hb, if_neg (fun z => by cases z.2.2)]
        obtain ⟨e1, e2⟩ := fva_bad (c := c) (xs := b :: r ++ rows.flatten) (by omega)
        rw [pcs_step c p (by simp) hm, List.all_cons, List.all_cons, hv, e1]
        rfl
end Pu

/-! Pu, part 26: more words for specs. -/
namespace Pu
open PySem PySem.Spec PyProof.Rows L2
theorem ne_same {a : D} (h : okD 8 a = true) (e : PyData.eqv a a = true) : cmpD .ne a a = some false := by
  simp only [cmpD]
  rw [if_pos ⟨h, h⟩, e]
  rfl
theorem ok_trs (n : Nat) (l : List (Int × Int × Int)) : okD (n + 3) (.list (l.map trD)) = true := by
  rw [ok_l, List.all_map, List.all_eq_true]
  intro x _
  rfl
theorem eqv_tr (a b : Int × Int × Int) : PyData.eqv (trD a) (trD b) = decide (a = b) := by
  obtain ⟨x, y, z⟩ := a
  obtain ⟨x', y', z'⟩ := b
  simp only [trD, PyData.eqv, PyData.eqvAll, eqv_int, Prod.mk.injEq]
  by_cases h1 : x = x' <;> by_cases h2 : y = y' <;> by_cases h3 : z = z' <;> simp [h1, h2, h3]
theorem eqva_trs : ∀ (a b : List (Int × Int × Int)), PyData.eqvAll (a.map trD) (b.map trD) = decide (a = b)
  | [], [] => by simp [PyData.eqvAll]
  | [], _ :: _ => by simp [PyData.eqvAll]
  | _ :: _, [] => by simp [PyData.eqvAll]
  | x :: a, y :: b => by simp [PyData.eqvAll, eqv_tr, eqva_trs a b]
theorem eqv_trs (a b : List (Int × Int × Int)) : PyData.eqv (.list (a.map trD)) (.list (b.map trD)) = decide (a = b) := by simp only [PyData.eqv]; exact eqva_trs a b
theorem ne_trs (a : List (Int × Int × Int)) : cmpD .ne (.list (a.map trD)) (.list (a.map trD)) = some false := ne_same (ok_trs 5 a) (by rw [eqv_trs]; simp)
theorem ne_li (a : List Int) : cmpD .ne (li a) (li a) = some false := ne_same (ok_li 6 a) (by rw [eqv_li]; simp)
theorem forL_inv {f : Env → Out} {tg : Tg} {R : Env → Prop} : ∀ {ds : List D} {ρ : Env}, (∀ ρ d, R ρ → d ∈ ds → ∃ ρ1, bindTg tg d ρ = some ρ1 ∧ ∃ ρ2, (f ρ1 = .next ρ2 ∨ f ρ1 = .cont ρ2) ∧ R ρ2) → R ρ → ∃ ρ', forL f tg ds ρ = .next ρ' ∧ R ρ'
  | [], ρ, _, r => ⟨ρ, rfl, r⟩
  | d :: ds, ρ, h, r => by
    obtain ⟨ρ1, h1, ρ2, h2, h3⟩ := h ρ d r List.mem_cons_self
    obtain ⟨ρ', h4, h5⟩ := forL_inv (ds := ds) (fun ρ y r hy => h ρ y r (List.mem_cons_of_mem _ hy)) h3
    refine ⟨ρ', ?_, h5⟩
    rw [flc, h1]
    rcases h2 with h2 | h2 <;> (dsimp only; rw [h2]; exact h4)
theorem filter_split {PA PB : List (Int × Int × Int)} {n : Int} (ha : ∀ t ∈ PA, t.1 < n) (hb : ∀ t ∈ PB, n ≤ t.1) : (PA ++ PB).filter (fun t => decide (t.1 < n)) = PA := by
  rw [List.filter_append, List.filter_eq_self.mpr (fun t ht => by simpa using ha t ht), List.filter_eq_nil_iff.mpr (fun t ht => by simpa using hb t ht), List.append_nil]
theorem clean_neg (c : Dc) (xs : List Int) (hb : Bys xs) (hl : xs.length ≤ 60) : decide (((pcs c 60 0 xs).filter fun t => decide (t.2.2 < 0)) = []) = clean c xs := by
  unfold clean
  rw [Bool.eq_iff_iff, decide_eq_true_eq, List.filter_eq_nil_iff, List.all_eq_true]
  have hv : ∀ t ∈ pcs c 60 0 xs, (t.2.2 < 0 ↔ t.2.2 = -1) := fun t ht => by
    obtain ⟨_, _, _, h4, _⟩ := Bd.mem xs 0 hl t ht
    have := fva_iff (c := c) (bys_drop hb (t.1 - 0).toNat)
    rw [← h4] at this
    have h5 : ¬ 0 ≤ t.2.2 ↔ t.2.2 = -1 := by rw [this.1, this.2]
    omega
  constructor
  · intro h t ht
    have := h t ht
    have := hv t ht
    simp only [decide_eq_true_eq] at *
    simp only [Bool.not_eq_true', decide_eq_false_iff_not]
    omega
  · intro h t ht
    have := h t ht
    have := hv t ht
    simp only [Bool.not_eq_true', decide_eq_false_iff_not] at *
    simp only [decide_eq_true_eq]
    omega
theorem eq_nil_trs (l : List (Int × Int × Int)) : cmpD .eq (.list (l.map trD)) (.list []) = some (decide (l = [])) := by
  have o := ok_trs 5 l
  have e := eqv_trs l []
  simp only [List.map_nil] at e
  rw [← e]
  simp only [cmpD]
  rw [if_pos ⟨o, rfl⟩]
theorem vld_lval {c : Dc} {r : List Int} (h : vld c r = true) : lval r = valF r := by
  cases r with
  | nil => rfl
  | cons b r =>
    have := (vld_iff.mp h).1
    show fold64 (b - leads ((r.length : Int) + 1)) r = fold64 (b - leads (ann b)) r
    rw [this]
theorem vld_len {c : Dc} {r : List Int} (h : vld c r = true) : r.length ≤ 4 := by
  cases r with
  | nil => cases h
  | cons b r =>
    have := (vld_iff.mp h).1
    have := (ann_range b).2
    rw [List.length_cons]
    omega
theorem vld_beg {c : Dc} {r : List Int} (h : isSeq r = true) : vld c r = beg c r := by unfold vld; rw [h, Bool.true_and]
theorem vld_seq {c : Dc} {r : List Int} (h : vld c r = true) : isSeq r = true := by unfold vld at h; rw [Bool.and_eq_true] at h; exact h.1
theorem flat_le : ∀ {rows : List (List Int)}, (∀ r ∈ rows, r.length ≤ 4) → rows.flatten.length ≤ 4 * rows.length
  | [], _ => by simp
  | r :: rows, h => by
    have h1 := h r List.mem_cons_self
    have h2 := flat_le (rows := rows) fun x hx => h x (List.mem_cons_of_mem _ hx)
    rw [List.flatten_cons, List.length_append, List.length_cons]
    omega
theorem enumD_mem : ∀ {ds : List D} {i : Nat} {d : D}, d ∈ enumD i ds → ∃ (j : Nat) (x : D), d = .tuple [.int j, x] ∧ i ≤ j ∧ j < i + ds.length ∧ x ∈ ds
  | [], _, _, h => by cases h
  | y :: ds, i, d, h => by
    unfold enumD at h
    rcases List.mem_cons.mp h with e | h
    · subst e
      exact ⟨i, y, rfl, Nat.le_refl _, by simp, List.mem_cons_self⟩
    · obtain ⟨j, x, h1, h2, h3, h4⟩ := enumD_mem (ds := ds) h
      exact ⟨j, x, h1, by omega, by rw [List.length_cons]; omega, List.mem_cons_of_mem _ h4⟩
/-- ranges: the bounds are not for simp -/
theorem ev_range2 {C : Nat → D} {g : Nat → List D → Rs D} {ρ : Env} {a b : Ex} {n m : Int} {R : List D} (h1 : evE C g a ρ = .ok (.int n)) (h2 : evE C g b ρ = .ok (.int m)) (hn : -1000000 ≤ n) (hn2 : n ≤ 1000000) (hm : -1000000 ≤ m) (hm2 : m ≤ 1000000) (hR : rangeL n m = R) (hd : m - n ≤ 1000000) : evI C g (.range2 a b) ρ = .ok R := by
  have h : -(2 ^ 62) ≤ n ∧ n < 2 ^ 62 ∧ -(2 ^ 62) ≤ m ∧ m < 2 ^ 62 ∧ m - n ≤ 1000000 := ⟨Int.le_trans (by decide) hn, Int.lt_of_le_of_lt hn2 (by decide), Int.le_trans (by decide) hm, Int.lt_of_le_of_lt hm2 (by decide), hd⟩
  simp only [evI, h1, h2, bdk]
  rw [if_pos h, hR]
theorem ev_range1 {C : Nat → D} {g : Nat → List D → Rs D} {ρ : Env} {a : Ex} {n : Int} {R : List D} (h1 : evE C g a ρ = .ok (.int n)) (hn : -1000000 ≤ n) (hn2 : n ≤ 1000000) (hR : rangeL 0 n = R) : evI C g (.range1 a) ρ = .ok R := by
  have h : -(2 ^ 62) ≤ n ∧ n ≤ 1000000 := ⟨Int.le_trans (by decide) hn, hn2⟩
  simp only [evI, h1, bdk]
  rw [if_pos h, hR]
theorem whileL_no {c : Env → Rs Bool} {f : Env → Out} {ρ : Env} (h : c ρ = .ok false) (n : Nat) : whileL c f (n + 1) ρ = .next ρ := by
  unfold whileL
  rw [h]
  rfl
theorem whileL_yes {c : Env → Rs Bool} {f : Env → Out} {ρ ρ2 : Env} {n : Nat} (h : c ρ = .ok true) (h2 : f ρ = .next ρ2) : whileL c f (n + 1) ρ = whileL c f n ρ2 := by
  conv => lhs; unfold whileL
  rw [h]
  simp only [outk, if_true]
  rw [h2]
  rfl
/-- comprehensions -/
theorem comp_each {C : Nat → D} {g : Nat → List D → Rs D} {ρ : Env} {elt : Ex} {tg : Tg} {it : Itr} {α : Type} {e h : α → D} {xs : List α} (ei : evI C g it ρ = .ok (xs.map e)) (hw : wipeOk tg.slots ρ = true)
    (hb : ∀ x ∈ xs, ∃ ρ1, bindTg tg (e x) (wipeE tg.slots ρ) = some ρ1 ∧ evE C g elt ρ1 = .ok (h x)) : evE C g (.comp elt tg it .no) ρ = .ok (.list (xs.map h)) := by
  unfold evE
  rw [ei]
  simp only [bdk]
  rw [if_pos hw, compL_each (g := h)]
  · rfl
  · intro x hx
    obtain ⟨ρ1, h1, h2⟩ := hb x hx
    rw [h1]
    simp only [evC, bdk, if_true, h2]
theorem comp_pick {C : Nat → D} {g : Nat → List D → Rs D} {ρ : Env} {elt cd : Ex} {tg : Tg} {it : Itr} {α : Type} {e h : α → D} {p : α → Bool} {xs : List α} (ei : evI C g it ρ = .ok (xs.map e)) (hw : wipeOk tg.slots ρ = true)
    (hb : ∀ x ∈ xs, ∃ ρ1, bindTg tg (e x) (wipeE tg.slots ρ) = some ρ1 ∧ evE C g cd ρ1 = .ok (.bool (p x)) ∧ (p x = true → evE C g elt ρ1 = .ok (h x))) : evE C g (.comp elt tg it (.one cd)) ρ = .ok (.list ((xs.filter p).map h)) := by
  unfold evE
  rw [ei]
  simp only [bdk]
  have key : (xs.filterMap fun x => if p x = true then some (h x) else none) = (xs.filter p).map h := by
    clear ei hb hw
    induction xs with
    | nil => rfl
    | cons x xs ih =>
      cases q : p x with
      | true => rw [List.filterMap_cons_some (by rw [q]; rfl), List.filter_cons_of_pos q, List.map_cons, ih]
      | false => rw [List.filterMap_cons_none (by rw [q]; rfl), List.filter_cons_of_neg (by rw [q]; exact Bool.false_ne_true), ih]
  rw [if_pos hw, compL_map (g := fun x => if p x = true then some (h x) else none), key]
  · rfl
  · intro x hx
    obtain ⟨ρ1, h1, h2, h3⟩ := hb x hx
    rw [h1]
    simp only [evC, h2, blk, bdk]
    cases q : p x with
    | true => simp only [if_true, h3 q, bdk]
    | false => rfl
theorem ev_seq {C : Nat → D} {g : Nat → List D → Rs D} {ρ : Env} {a : Ex} {ds : List D} (h : evE C g a ρ = .ok (.list ds)) : evI C g (.seq a) ρ = .ok ds := by
  unfold evI
  rw [h]
  rfl
theorem ev_seqt {C : Nat → D} {g : Nat → List D → Rs D} {ρ : Env} {a : Ex} {ds : List D} (h : evE C g a ρ = .ok (.tuple ds)) : evI C g (.seq a) ρ = .ok ds := by
  unfold evI
  rw [h]
  rfl
theorem ev_call1 {C : Nat → D} {g : Nat → List D → Rs D} {ρ : Env} {f : Nat} {a : Ex} {x : D} {r : Rs D} (h : evE C g a ρ = .ok x) (e : g f [x] = r) : evE C g (.call f (.cons a .nil)) ρ = r := by
  simp only [evE, evEs, h, bdk, e]
theorem ev_call2 {C : Nat → D} {g : Nat → List D → Rs D} {ρ : Env} {f : Nat} {a b : Ex} {x y : D} {r : Rs D} (h : evE C g a ρ = .ok x) (h2 : evE C g b ρ = .ok y) (e : g f [x, y] = r) : evE C g (.call f (.cons a (.cons b .nil))) ρ = r := by
  simp only [evE, evEs, h, h2, bdk, e]
theorem ev_call3 {C : Nat → D} {g : Nat → List D → Rs D} {ρ : Env} {f : Nat} {a b c : Ex} {x y z : D} {r : Rs D} (h : evE C g a ρ = .ok x) (h2 : evE C g b ρ = .ok y) (h3 : evE C g c ρ = .ok z) (e : g f [x, y, z] = r) : evE C g (.call f (.cons a (.cons b (.cons c .nil)))) ρ = r := by
  simp only [evE, evEs, h, h2, h3, bdk, e]
theorem at4_3 (a b c d : D) : L2.atI [a, b, c, d] 3 = some d := rfl
theorem at4_1 (a b c d : D) : L2.atI [a, b, c, d] 1 = some b := rfl
theorem at3_0 (a b c : D) : L2.atI [a, b, c] 0 = some a := rfl
theorem at3_1 (a b c : D) : L2.atI [a, b, c] 1 = some b := rfl
theorem at3_2 (a b c : D) : L2.atI [a, b, c] 2 = some c := rfl
theorem ok_tus' (n : Nat) (l : List (List Int)) : okD (n + 3) (.list (l.map tu)) = true := by
  rw [ok_l, List.all_map, List.all_eq_true]
  intro x _
  exact ok_tu n x
theorem eqva_tus : ∀ (a b : List (List Int)), PyData.eqvAll (a.map tu) (b.map tu) = decide (a = b)
  | [], [] => by simp [PyData.eqvAll]
  | [], _ :: _ => by simp [PyData.eqvAll]
  | _ :: _, [] => by simp [PyData.eqvAll]
  | x :: a, y :: b => by
    have h := eqv_tu x y
    simp only [tu] at h ⊢
    simp [PyData.eqvAll, h, eqva_tus a b]
theorem eq_nil_tus (l : List (List Int)) : cmpD .eq (.list (l.map tu)) (.list []) = some (decide (l = [])) := by
  have o := ok_tus' 5 l
  simp only [cmpD]
  rw [if_pos ⟨o, rfl⟩]
  cases l with
  | nil => rfl
  | cons x l => simp [PyData.eqv, PyData.eqvAll]
theorem eq_nil_li (l : List Int) : cmpD .eq (li l) (.list []) = some (decide (l = [])) := by
  have h := eqv_li l []
  simp only [cmpD]
  rw [if_pos ⟨ok_li 6 l, rfl⟩, show (PyData.list []) = li [] from rfl, h]
theorem ne_nil_li (l : List Int) : cmpD .ne (li l) (.list []) = some (!decide (l = [])) := by
  have h := eqv_li l []
  simp only [cmpD]
  rw [if_pos ⟨ok_li 6 l, rfl⟩, show (PyData.list []) = li [] from rfl, h]
theorem eq_li (a b : List Int) : cmpD .eq (li a) (li b) = some (decide (a = b)) := by
  simp only [cmpD]
  rw [if_pos ⟨ok_li 6 a, ok_li 6 b⟩, eqv_li]
theorem ne_li' (a b : List Int) : cmpD .ne (li a) (li b) = some (!decide (a = b)) := by
  simp only [cmpD]
  rw [if_pos ⟨ok_li 6 a, ok_li 6 b⟩, eqv_li]
theorem eq_tu (a b : List Int) : cmpD .eq (tu a) (tu b) = some (decide (a = b)) := by
  simp only [cmpD]
  rw [if_pos ⟨ok_tu 6 a, ok_tu 6 b⟩, eqv_tu]
theorem ne_tu' (a b : List Int) : cmpD .ne (tu a) (tu b) = some (!decide (a = b)) := by
  simp only [cmpD]
  rw [if_pos ⟨ok_tu 6 a, ok_tu 6 b⟩, eqv_tu]
theorem ne_tu (a : List Int) : cmpD .ne (tu a) (tu a) = some false := by rw [ne_tu']; simp
theorem ne_tus (a : List (List Int)) : cmpD .ne (.list (a.map tu)) (.list (a.map tu)) = some false := ne_same (ok_tus' 5 a) (by rw [eqv_lst, eqva_tus]; simp)
/-- lists of places -/
def ni (j : Nat) : D := .int j
abbrev nl (js : List Nat) : D := .list (js.map ni)
theorem nl_li (js : List Nat) : nl js = li (js.map fun (j : Nat) => (j : Int)) := by
  unfold nl li
  rw [List.map_map]
  rfl
theorem natmap_inj (a b : List Nat) : ((a.map fun (j : Nat) => (j : Int)) = b.map fun (j : Nat) => (j : Int)) ↔ a = b := by
  constructor
  · intro h
    refine List.map_inj_right ?_ |>.mp h
    intro x y hxy
    exact Int.ofNat.inj hxy
  · rintro rfl; rfl
theorem eq_nl (a b : List Nat) : cmpD .eq (nl a) (nl b) = some (decide (a = b)) := by
  rw [nl_li, nl_li, eq_li]
  congr 1
  rw [Bool.eq_iff_iff, decide_eq_true_eq, decide_eq_true_eq]
  exact natmap_inj a b
theorem ne_nl (a b : List Nat) : cmpD .ne (nl a) (nl b) = some (!decide (a = b)) := by
  rw [nl_li, nl_li, ne_li']
  congr 2
  rw [Bool.eq_iff_iff, decide_eq_true_eq, decide_eq_true_eq]
  exact natmap_inj a b
theorem in_nl (a : Nat) (b : List Nat) : cmpD .in_ (ni a) (nl b) = some (decide (a ∈ b)) := by
  have hf : (b.map ni).all flatD = true := by rw [List.all_map, List.all_eq_true]; intro x _; rfl
  simp only [cmpD, nl, itemsD]
  rw [if_pos ⟨rfl, hf⟩]
  congr 1
  unfold inD
  rw [List.any_map, Bool.eq_iff_iff, List.any_eq_true, decide_eq_true_eq]
  constructor
  · rintro ⟨x, hx, h⟩
    simp only [Function.comp, ni, eqv_int, decide_eq_true_eq] at h
    have : x = a := by omega
    subst this
    exact hx
  · intro h
    exact ⟨a, h, by simp [Function.comp, ni, eqv_int]⟩
theorem notin_nl (a : Nat) (b : List Nat) : cmpD .notin (ni a) (nl b) = some (!decide (a ∈ b)) := by
  have h := in_nl a b
  simp only [cmpD] at h ⊢
  cases q : itemsD (nl b) with
  | none => rw [q] at h; cases h
  | some ds =>
    rw [q] at h
    dsimp only at h ⊢
    split at h
    · rename_i z
      rw [if_pos z]
      rw [← Option.some.inj h]
    · cases h
end Pu

/-! Pu, part 27: safe cuts are boundaries. -/
namespace Pu
open PySem PySem.Spec PyProof.Rows L2
/-- the boundaries, ascending -/
def bds (c : Dc) (xs : List Int) : List Nat := if h : xs = [] then [0] else 0 :: (bds c (xs.drop (fsz c xs))).map (fsz c xs + ·)
termination_by xs.length
decreasing_by
  have := fsz_range c xs h
  have := List.length_pos_iff.mpr h
  rw [List.length_drop]
  omega
theorem bds_nil (c : Dc) : bds c [] = [0] := by rw [bds, dif_pos rfl]
theorem bds_cons (c : Dc) {xs : List Int} (h : xs ≠ []) : bds c xs = 0 :: (bds c (xs.drop (fsz c xs))).map (fsz c xs + ·) := by rw [bds, dif_neg h]
theorem mem_bds (c : Dc) : ∀ (xs : List Int) (j : Nat), j ∈ bds c xs ↔ Bd c xs j := by
  refine piece_ind c (fun j => ?_) fun xs hx ih j => ?_
  · rw [bds_nil, List.mem_singleton]
    constructor
    · rintro rfl; exact .zero _
    · intro h
      have := h.le
      simpa using this
  · rw [bds_cons c hx, List.mem_cons, List.mem_map]
    constructor
    · rintro (rfl | ⟨i, hi, rfl⟩)
      · exact .zero _
      · exact .next xs i hx ((ih i).mp hi)
    · intro h
      cases h with
      | zero => exact .inl rfl
      | next _ i _ hb => exact .inr ⟨i, (ih i).mpr hb, rfl⟩
theorem bds_sorted (c : Dc) : ∀ xs, (bds c xs).Pairwise (· < ·) := by
  refine piece_ind c ?_ fun xs hx ih => ?_
  · rw [bds_nil]; exact List.pairwise_singleton _ _
  · have f := (fsz_range c xs hx).1
    rw [bds_cons c hx, List.pairwise_cons]
    refine ⟨fun j hj => ?_, ?_⟩
    · obtain ⟨i, _, rfl⟩ := List.mem_map.mp hj
      omega
    · rw [List.pairwise_map]
      exact ih.imp fun {a b} h => by omega
theorem sorted_ext : ∀ {l m : List Nat}, l.Pairwise (· < ·) → m.Pairwise (· < ·) → (∀ x, x ∈ l ↔ x ∈ m) → l = m
  | [], [], _, _, _ => rfl
  | [], b :: m, _, _, h => by have := (h b).mpr List.mem_cons_self; cases this
  | a :: l, [], _, _, h => by have := (h a).mp List.mem_cons_self; cases this
  | a :: l, b :: m, h1, h2, h => by
    rw [List.pairwise_cons] at h1 h2
    have e : a = b := by
      rcases List.mem_cons.mp ((h a).mp List.mem_cons_self) with e | e
      · exact e
      · rcases List.mem_cons.mp ((h b).mpr List.mem_cons_self) with e' | e'
        · exact e'.symm
        · have := h1.1 b e'
          have := h2.1 a e
          omega
    subst e
    rw [sorted_ext h1.2 h2.2 fun x => ?_]
    constructor
    · intro hx
      rcases List.mem_cons.mp ((h x).mp (List.mem_cons_of_mem _ hx)) with e | e
      · subst e; have := h1.1 x hx; omega
      · exact e
    · intro hx
      rcases List.mem_cons.mp ((h x).mpr (List.mem_cons_of_mem _ hx)) with e | e
      · subst e; have := h2.1 x hx; omega
      · exact e
/-- the pieces' first bytes, and the end -/
theorem pcs_bds (c : Dc) {m : Nat} : ∀ (xs : List Int) (p : Int), xs.length ≤ m → (pcs c m p xs).map (·.1) ++ [p + xs.length] = (bds c xs).map fun (j : Nat) => p + j := by
  refine piece_ind c (fun p _ => ?_) fun xs hx ih p hm => ?_
  · rw [pcs_nil', bds_nil]; rfl
  · have f := fsz_range c xs hx
    rw [pcs_step c p hx hm, bds_cons c hx, List.map_cons, List.map_cons, List.map_map, List.cons_append]
    have := ih (p + fsz c xs) (by rw [List.length_drop]; omega)
    rw [List.length_drop] at this
    rw [show p + (fsz c xs : Int) + ((xs.length - fsz c xs : Nat) : Int) = p + xs.length from by omega] at this
    rw [this]
    congr 1
    · simp
    · apply List.map_congr_left
      intro j _
      simp only [Function.comp]
      omega
/-- how many items are codes -/
def nn (l : List Int) : Nat := (l.filter fun v => decide (0 ≤ v)).length
theorem nn_app (a b : List Int) : nn (a ++ b) = nn a + nn b := by unfold nn; rw [List.filter_append, List.length_append]
theorem nn_bitems (po : Po) {b : Int} (h : 128 ≤ b) (ab : Bool) : nn (bitems po b ab) = 0 := by
  have e : decide (0 ≤ 0 - b) = false := decide_eq_false (by omega)
  cases po <;> cases ab <;> first | rfl | (simp only [bitems, nn, List.filter_cons, e, List.filter_nil]; rfl)
theorem gsz_cont (c : Dc) {b : Int} (r : List Int) (h : isCont b = true) : gsz c (b :: r) = 0 := by
  rw [gsz_cons, if_neg]
  rw [ann_cont h]
  omega
theorem bsz_cont (c : Dc) {b : Int} (r : List Int) (h : isCont b = true) (hs : c.po ≠ .stop) : bsz c (b :: r) = 1 := by
  unfold bsz
  cases hp : c.po with
  | stop => exact absurd hp hs
  | pre =>
    show preN c (b :: r) 60 1 = 1
    unfold preN
    rw [if_neg]
    intro z
    rw [List.take_succ_cons, beg_cont c _ h] at z
    cases z.2
  | announced =>
    show annN (b :: r) 60 1 = 1
    unfold annN
    rw [if_neg]
    intro z
    rw [List.headD_cons, ann_cont h] at z
    have := minS (((b :: r).length : Nat) : Int) 0
    omega
  | _ => rfl
theorem cont_first (c : Dc) {b : Int} (r : List Int) (h : isCont b = true) : fva c (b :: r) = -1 ∧ (c.po ≠ .stop → fsz c (b :: r) = 1) ∧ (c.po = .stop → fsz c (b :: r) = r.length + 1) := by
  have hg := gsz_cont c r h
  obtain ⟨e1, e2⟩ := fva_bad (c := c) (xs := b :: r) (by omega)
  refine ⟨e1, fun hs => by rw [e2, bsz_cont c r h hs], fun hs => ?_⟩
  rw [e2]
  unfold bsz
  rw [hs]
  rfl
theorem nn_ab (c : Dc) (xs : List Int) (hb : Bys xs) (x y : Bool) : nn (its c xs x).1 = nn (its c xs y).1 := by
  by_cases hx : xs = []
  · rw [hx, its_nil, its_nil]
  · rw [its_cons c x hx, its_cons c y hx]
    dsimp only
    rw [nn_app, nn_app]
    congr 1
    split
    · unfold nn
      cases c.po <;> cases x <;> cases y <;> rfl
    · rfl
/-- continuation bytes ahead give no code -/
theorem nn_conts (c : Dc) : ∀ (zs ys : List Int) (ab : Bool), zs.all isCont = true → Bys ys → nn (its c (zs ++ ys) ab).1 ≤ nn (its c ys ab).1
  | [], ys, ab, _, _ => Nat.le_refl _
  | b :: zs, ys, ab, h, hb => by
    rw [List.all_cons, Bool.and_eq_true] at h
    obtain ⟨e1, e2, e3⟩ := cont_first c (zs ++ ys) h.1
    have hb1 : 128 ≤ b := (conts_ge (r := [b]) (by rw [List.all_cons, h.1]; rfl) b List.mem_cons_self).1
    rw [List.cons_append, its_cons c ab (by simp), e1, if_pos rfl]
    dsimp only
    rw [nn_app, List.headD_cons, nn_bitems c.po hb1]
    by_cases hs : c.po = .stop
    · rw [e3 hs]
      rw [show (b :: (zs ++ ys)).drop ((zs ++ ys).length + 1) = [] from List.drop_of_length_le (by simp), its_nil]
      exact Nat.zero_le _
    · rw [e2 hs]
      have := nn_conts c zs ys (decide ((-1 : Int) = -1)) h.2 hb
      rw [nn_ab c ys hb _ ab] at this
      rw [Nat.zero_add]
      exact this
theorem nn_allc (c : Dc) (zs : List Int) (ab : Bool) (h : zs.all isCont = true) : nn (its c zs ab).1 = 0 := by
  have := nn_conts c zs [] ab h (fun b hb => by cases hb)
  rw [List.append_nil, its_nil] at this
  exact Nat.le_zero.mp this
/-- with stop, prefix, announced each piece gives one item -/
def one (c : Dc) : Prop := c.po = .stop ∨ c.po = .pre ∨ c.po = .announced ∨ c.po = .byte
theorem one_bitems {c : Dc} (h : one c) (b : Int) (ab : Bool) : bitems c.po b ab = [-1] := by rcases h with e | e | e | e <;> rw [e] <;> rfl
theorem one_len {c : Dc} (h : one c) {xs : List Int} (hx : xs ≠ []) (ab : Bool) : (its c xs ab).1.length = 1 + (its c (xs.drop (fsz c xs)) (decide (fva c xs = -1))).1.length := by
  rw [its_cons c ab hx]
  dsimp only
  rw [List.length_append]
  congr 1
  split
  · rw [one_bitems h]; rfl
  · rfl
theorem one_ab {c : Dc} (h : one c) (xs : List Int) (x y : Bool) : (its c xs x).1 = (its c xs y).1 := its_ab (by rcases h with e | e | e | e <;> rw [e] <;> decide) xs x y
theorem len_conts {c : Dc} (h : one c) (hs : c.po ≠ .stop) : ∀ (zs ys : List Int) (ab : Bool), zs.all isCont = true → (its c (zs ++ ys) ab).1.length = zs.length + (its c ys ab).1.length
  | [], ys, ab, _ => by rw [List.nil_append, List.length_nil, Nat.zero_add]
  | b :: zs, ys, ab, hc => by
    rw [List.all_cons, Bool.and_eq_true] at hc
    obtain ⟨e1, e2, e3⟩ := cont_first c (zs ++ ys) hc.1
    rw [List.cons_append, one_len h (by simp), e2 hs, show (b :: (zs ++ ys)).drop 1 = zs ++ ys from rfl, one_ab h _ _ ab, len_conts h hs zs ys ab hc.2, List.length_cons]
    omega
theorem preN_conts (c : Dc) (b : Int) (r : List Int) (h : 1 < preN c (b :: r) 60 1) : (((b :: r).take (preN c (b :: r) 60 1)).drop 1).all isCont = true := by
  rcases preN_beg c (b :: r) 60 1 (.inl rfl) with e | e
  · omega
  · obtain ⟨n, hn⟩ : ∃ n, preN c (b :: r) 60 1 = n + 1 := ⟨preN c (b :: r) 60 1 - 1, by omega⟩
    rw [hn, List.take_succ_cons] at e ⊢
    exact (beg_facts e).2.2
theorem annN_conts (b : Int) (r : List Int) : ∀ (k n : Nat), 1 ≤ n → (((b :: r).take n).drop 1).all isCont = true → (((b :: r).take (annN (b :: r) k n)).drop 1).all isCont = true
  | 0, n, _, h => h
  | k + 1, n, h1, h => by
    unfold annN
    split
    · rename_i q
      refine annN_conts b r k (n + 1) (by omega) ?_
      have m1 := minS (((b :: r).length : Nat) : Int) (ann ((b :: r).headD 0))
      have hlt : n < (b :: r).length := by omega
      obtain ⟨x, hx⟩ : ∃ x, (b :: r)[n]? = some x := ⟨_, List.getElem?_eq_getElem hlt⟩
      have q2 := q.2
      rw [hx, Option.getD_some] at q2
      rw [List.take_add_one, hx, List.drop_append_of_le_length (by rw [List.length_take]; omega), List.all_append, h]
      simp [q2]
    · exact h
/-- the bytes of a bad piece behind its first: continuation bytes, but with stop -/
theorem bad_conts {c : Dc} (hs : c.po ≠ .stop) (b : Int) (r : List Int) : (((b :: r).take (bsz c (b :: r))).drop 1).all isCont = true := by
  unfold bsz
  cases hp : c.po with
  | stop => exact absurd hp hs
  | pre =>
    show (((b :: r).take (preN c (b :: r) 60 1)).drop 1).all isCont = true
    by_cases h : 1 < preN c (b :: r) 60 1
    · exact preN_conts c b r h
    · have := preN_ge c (b :: r) 60 1
      rw [show preN c (b :: r) 60 1 = 1 from by omega]
      rfl
  | announced => exact annN_conts b r 60 1 (Nat.le_refl _) rfl
  | _ => rfl
theorem split_take {ys : List Int} {q f : Nat} (h : q ≤ f) : ys.drop q = ((ys.take f).drop q) ++ ys.drop f := by
  have e : ys = ys.take f ++ ys.drop f := (List.take_append_drop f ys).symm
  by_cases hf : f ≤ ys.length
  · conv => lhs; rw [e, List.drop_append_of_le_length (by rw [List.length_take]; omega)]
  · rw [List.take_of_length_le (by omega), List.drop_of_length_le (show ys.length ≤ f by omega), List.append_nil]
theorem all_drop {p : Int → Bool} {xs : List Int} (h : xs.all p = true) (n : Nat) : (xs.drop n).all p = true := List.all_eq_true.mpr fun x hx => List.all_eq_true.mp h x (List.mem_of_mem_drop hx)
theorem all_take {p : Int → Bool} {xs : List Int} (h : xs.all p = true) (n : Nat) : (xs.take n).all p = true := List.all_eq_true.mpr fun x hx => List.all_eq_true.mp h x (List.mem_of_mem_take hx)
/-- within a piece nothing can be cut -/
theorem no_cut (c : Dc) (ys : List Int) (hb : Bys ys) (hx : ys ≠ []) (q : Nat) (q0 : 0 < q) (qf : q < fsz c ys) (ab ab2 : Bool) : (its c (ys.take q) ab).1 ++ (its c (ys.drop q) ab2).1 ≠ (its c ys ab).1 := by
  intro he
  have f := fsz_range c ys hx
  obtain ⟨b, r, rfl⟩ : ∃ b r, ys = b :: r := by
    cases ys with
    | nil => exact absurd rfl hx
    | cons b r => exact ⟨b, r, rfl⟩
  have hne : (b :: r).take q ≠ [] := by
    intro e
    have := congrArg List.length e
    rw [List.length_take] at this
    simp only [List.length_cons, List.length_nil] at this f
    omega
  obtain ⟨q', rfl⟩ : ∃ q', q = q' + 1 := ⟨q - 1, by omega⟩
  have hdr : (b :: r).drop (q' + 1) = ((((b :: r).take (fsz c (b :: r))).drop 1).drop q') ++ (b :: r).drop (fsz c (b :: r)) := by
    rw [List.drop_drop, Nat.add_comm 1 q']
    exact split_take (by omega)
  by_cases hg : 0 < gsz c (b :: r)
  · obtain ⟨e1, e2, e3⟩ := fva_good hg
    obtain ⟨n, hn⟩ : ∃ n, fsz c (b :: r) = n + 1 := ⟨fsz c (b :: r) - 1, by omega⟩
    have v := e3
    rw [hn, List.take_succ_cons] at v
    obtain ⟨v1, v2⟩ := vld_iff.mp v
    obtain ⟨_, _, v3⟩ := beg_facts v2
    have hrl : (r.take n).length = n := by rw [List.length_take]; simp only [List.length_cons] at f; omega
    have hval := (fva_iff (c := c) hb).1.mpr hg
    have n1 : nn (its c (b :: r) ab).1 = 1 + nn (its c ((b :: r).drop (fsz c (b :: r))) false).1 := by
      rw [its_cons c ab hx, if_neg (by omega), decide_eq_false (by omega)]
      dsimp only
      rw [nn_app]
      congr 1
      unfold nn
      rw [List.filter_cons_of_pos (by simpa using hval)]
      rfl
    have n2 : nn (its c ((b :: r).take (q' + 1)) ab).1 = 0 := by
      have hg2 : gsz c ((b :: r).take (q' + 1)) = 0 := by
        rw [List.take_succ_cons, gsz_cons, if_neg]
        rw [List.length_take]
        omega
      obtain ⟨w1, w2⟩ := fva_bad (c := c) (xs := (b :: r).take (q' + 1)) (by omega)
      rw [its_cons c ab hne, w1, if_pos rfl]
      dsimp only
      have hb1 : 128 ≤ b := by
        have : ¬ b < 128 := by
          intro z
          have : ann b = 1 := by unfold ann; rw [if_pos z]
          omega
        omega
      rw [nn_app, List.take_succ_cons, List.headD_cons, nn_bitems c.po hb1, nn_allc c _ _ ?_]
      obtain ⟨s, hs⟩ : ∃ s, fsz c (b :: r.take q') = s + 1 := ⟨fsz c (b :: r.take q') - 1, by have := (fsz_range c (b :: r.take q') (by simp)).1; omega⟩
      rw [hs, List.drop_succ_cons]
      have : r.take q' = (r.take n).take q' := by rw [List.take_take, Nat.min_eq_left (by omega)]
      rw [this]
      exact all_drop (all_take v3 _) _
    have n3 : nn (its c ((b :: r).drop (q' + 1)) ab2).1 ≤ nn (its c ((b :: r).drop (fsz c (b :: r))) ab2).1 := by
      rw [hdr]
      refine nn_conts c _ _ _ ?_ (bys_drop hb _)
      rw [hn, List.take_succ_cons, List.drop_succ_cons, List.drop_zero]
      exact all_drop v3 _
    rw [nn_ab c ((b :: r).drop (fsz c (b :: r))) (bys_drop hb _) ab2 false] at n3
    have := congrArg nn he
    rw [nn_app] at this
    omega
  · obtain ⟨e1, e2⟩ := fva_bad hg
    have hone : one c := by
      unfold one
      rw [e2] at qf
      unfold bsz at qf
      cases hp : c.po <;> rw [hp] at qf <;> dsimp only at qf <;> simp <;> omega
    have l1 := one_len hone hx ab
    have l2 := one_len hone hne ab
    have l3 : 1 + (its c ((b :: r).drop (fsz c (b :: r))) ab2).1.length ≤ (its c ((b :: r).drop (q' + 1)) ab2).1.length := by
      by_cases hs : c.po = .stop
      · have hz : bsz c (b :: r) = (b :: r).length := by unfold bsz; rw [hs]
        rw [e2, hz, List.drop_length, its_nil]
        have hn2 : (b :: r).drop (q' + 1) ≠ [] := by
          intro e
          have := List.drop_eq_nil_iff.mp e
          omega
        have := one_len hone hn2 ab2
        simp only [List.length_nil]
        omega
      · rw [hdr, len_conts hone hs _ _ _ (all_drop (by rw [e2]; exact bad_conts hs b r) _), List.length_drop, List.length_drop, List.length_take]
        omega
    rw [one_ab hone _ ab2 (decide (fva c (b :: r) = -1))] at l3
    have := congrArg List.length he
    rw [List.length_append] at this
    omega
/-- safe: the results of the two parts, one behind the other, are the whole's -/
def safe (c : Dc) (xs : List Int) (j : Nat) : Bool := decide ((its c (xs.take j) false).1 ++ (its c (xs.drop j) false).1 = (its c xs false).1)
theorem bd_take {c : Dc} {xs : List Int} {j : Nat} (h : Bd c xs j) : ∀ p, j ≤ p → Bd c (xs.take p) j := by
  induction h with
  | zero xs => exact fun p _ => .zero _
  | next xs j hx hb ih =>
    intro p hp
    have f := fsz_range c xs hx
    by_cases hpl : p ≤ xs.length
    · have l := List.length_pos_iff.mpr hx
      obtain ⟨e1, e2⟩ := first_take c xs p hx hpl (by omega)
      have hne : xs.take p ≠ [] := by
        intro e
        have := congrArg List.length e
        rw [List.length_take] at this
        simp only [List.length_nil] at this
        omega
      have := Bd.next (c := c) (xs.take p) j hne (by
        rw [e1, List.drop_take]
        exact ih _ (by omega))
      rwa [e1] at this
    · rw [List.take_of_length_le (by omega)]
      exact .next xs j hx hb
/-- the piece in which a place lies -/
theorem in_piece (c : Dc) : ∀ (xs : List Int) (p : Nat), p < xs.length → ∃ j, Bd c xs j ∧ j ≤ p ∧ p < j + fsz c (xs.drop j) ∧ xs.drop j ≠ [] := by
  refine piece_ind c (fun p h => by cases h) fun xs hx ih p hp => ?_
  have f := fsz_range c xs hx
  by_cases h : p < fsz c xs
  · exact ⟨0, .zero _, Nat.zero_le _, by rw [List.drop_zero, Nat.zero_add]; exact h, by rw [List.drop_zero]; exact hx⟩
  · obtain ⟨j, h1, h2, h3, h4⟩ := ih (p - fsz c xs) (by rw [List.length_drop]; omega)
    rw [List.drop_drop] at h3 h4
    exact ⟨fsz c xs + j, .next xs j hx h1, by omega, by omega, h4⟩
theorem safe_bd (c : Dc) (xs : List Int) (hb : Bys xs) (p : Nat) (hp : p ≤ xs.length) (h : safe c xs p = true) : Bd c xs p := by
  by_cases hl : p = xs.length
  · subst hl; exact Bd.full c xs
  · obtain ⟨j, h1, h2, h3, h4⟩ := in_piece c xs p (by omega)
    by_cases hj : j = p
    · subst hj; exact h1
    · exfalso
      unfold safe at h
      rw [decide_eq_true_eq] at h
      have e1 := its_cut (bd_take h1 p h2) false
      have e2 := its_cut h1 false
      rw [List.take_take, Nat.min_eq_left h2, List.drop_take] at e1
      rw [e1, e2] at h
      dsimp only at h
      rw [List.append_assoc] at h
      have h' := List.append_cancel_left h
      have hd : xs.drop p = (xs.drop j).drop (p - j) := by rw [List.drop_drop]; congr 1; omega
      rw [hd] at h'
      exact no_cut c (xs.drop j) (bys_drop hb j) h4 (p - j) (by omega) (by omega) _ _ h'
/-- at a boundary -/
theorem safe_at {c : Dc} {xs : List Int} {j : Nat} (h : Bd c xs j) : safe c xs j = decide ((its c (xs.drop j) false).1 = (its c (xs.drop j) (its c (xs.take j) false).2).1) := by
  unfold safe
  rw [its_cut h false]
  dsimp only
  rw [Bool.eq_iff_iff, decide_eq_true_eq, decide_eq_true_eq]
  exact ⟨fun e => List.append_cancel_left e, fun e => by rw [← e]⟩
theorem safe_iff {c : Dc} {xs : List Int} {j : Nat} (h : Bd c xs j) (hx : xs.drop j ≠ []) : safe c xs j = !(decide (c.po = .run) && ((its c (xs.take j) false).2 && decide (fva c (xs.drop j) = -1))) := by
  rw [safe_at h]
  generalize (its c (xs.take j) false).2 = ab
  generalize xs.drop j = ys at hx
  by_cases hr : c.po = .run
  · rw [decide_eq_true hr, Bool.true_and]
    cases ab with
    | false => simp
    | true =>
      rw [Bool.true_and, its_cons c false hx, its_cons c true hx]
      dsimp only
      by_cases hv : fva c ys = -1
      · rw [if_pos hv, if_pos hv, decide_eq_true hv, hr]
        simp only [bitems, if_true, Bool.false_eq_true, if_false]
        rw [decide_eq_false]
        · rfl
        · intro z
          have := congrArg List.length z
          simp at this
      · rw [if_neg hv, if_neg hv, decide_eq_false hv]
        simp
  · rw [decide_eq_false hr, Bool.false_and, its_ab hr ys ab false]
    simp
/-- all safe cuts -/
theorem safe_list (c : Dc) (xs : List Int) (hb : Bys xs) : (bds c xs).filter (safe c xs) = (List.range (xs.length + 1)).filter (safe c xs) := by
  refine sorted_ext ((bds_sorted c xs).filter _) (List.pairwise_lt_range.filter _) fun j => ?_
  rw [List.mem_filter, List.mem_filter, mem_bds, List.mem_range]
  constructor
  · exact fun h => ⟨by have := h.1.le; omega, h.2⟩
  · exact fun h => ⟨safe_bd c xs hb j (by omega) h.2, h.2⟩
/-- two pieces, one behind the other -/
theorem pairs (c : Dc) {m : Nat} : ∀ (xs : List Int) (p : Int) (ab : Bool), xs.length ≤ m → ∀ t u, (t, u) ∈ (pcs c m p xs).zip (pcs c m p xs).tail → p < u.1 ∧ Bd c xs (u.1 - p).toNat ∧ (its c (xs.take (u.1 - p).toNat) ab).2 = decide (t.2.2 = -1) ∧ u.2.2 = fva c (xs.drop (u.1 - p).toNat) ∧ xs.drop (u.1 - p).toNat ≠ [] := by
  refine piece_ind c (fun p ab _ t u h => ?_) fun xs hx ih p ab hm t u h => ?_
  · rw [pcs_nil'] at h; cases h
  · have f := fsz_range c xs hx
    rw [pcs_step c p hx hm, List.tail_cons] at h
    have hml : (xs.drop (fsz c xs)).length ≤ m := by rw [List.length_drop]; omega
    by_cases hy : xs.drop (fsz c xs) = []
    · rw [hy, pcs_nil'] at h; cases h
    · have hf1 : ∀ q, fsz c xs ≤ q → q ≤ xs.length → (its c (xs.take q) ab).2 = (its c ((xs.drop (fsz c xs)).take (q - fsz c xs)) (decide (fva c xs = -1))).2 := fun q hq hq2 => by
        obtain ⟨e1, e2⟩ := first_take c xs q hx hq2 hq
        have hne : xs.take q ≠ [] := by
          intro e
          have := congrArg List.length e
          rw [List.length_take] at this
          simp only [List.length_nil] at this
          omega
        rw [its_cons c ab hne, e1, e2, List.drop_take]
      rw [pcs_step c _ hy hml, List.zip_cons_cons] at h
      rcases List.mem_cons.mp h with e | h
      · cases e
        dsimp only
        have hn : (p + (fsz c xs : Int) - p).toNat = fsz c xs := by omega
        rw [hn]
        refine ⟨by omega, ?_, ?_, rfl, hy⟩
        · have := Bd.next (c := c) xs 0 hx (.zero _)
          rwa [Nat.add_zero] at this
        · rw [hf1 _ (Nat.le_refl _) f.2, Nat.sub_self, List.take_zero, its_nil]
      · have h2 : (t, u) ∈ (pcs c m (p + fsz c xs) (xs.drop (fsz c xs))).zip (pcs c m (p + fsz c xs) (xs.drop (fsz c xs))).tail := by
          rw [pcs_step c _ hy hml, List.tail_cons]
          exact h
        obtain ⟨i1, i2, i3, i4, i5⟩ := ih (p + fsz c xs) (decide (fva c xs = -1)) hml t u h2
        have hn : (u.1 - p).toNat = fsz c xs + (u.1 - (p + fsz c xs)).toNat := by omega
        have hle := (Bd.next (c := c) xs _ hx i2).le
        rw [List.drop_drop] at i4 i5
        rw [hn]
        refine ⟨by omega, .next xs _ hx i2, ?_, i4, i5⟩
        rw [hf1 _ (by omega) hle, Nat.add_sub_cancel_left]
        exact i3
end Pu

/-! Pu, part 28: where two divisions meet. -/
namespace Pu
open PySem PySem.Spec PyProof.Rows L2
/-- boundaries as whole numbers -/
def fb (c : Dc) (xs : List Int) : List Int := (pcs c 60 0 xs).map (·.1) ++ [(xs.length : Int)]
theorem fb_bds (c : Dc) {xs : List Int} (hl : xs.length ≤ 60) : fb c xs = (bds c xs).map fun (j : Nat) => (j : Int) := by
  have h := pcs_bds c (m := 60) xs 0 hl
  rw [show (0 : Int) + (xs.length : Int) = xs.length from by omega] at h
  unfold fb
  rw [h]
  apply List.map_congr_left
  intro j _
  exact Int.zero_add _
theorem mem_fb {c : Dc} {xs : List Int} (hl : xs.length ≤ 60) {j : Int} : j ∈ fb c xs ↔ ∃ i : Nat, j = i ∧ Bd c xs i := by
  rw [fb_bds c hl, List.mem_map]
  constructor
  · rintro ⟨i, hi, rfl⟩; exact ⟨i, rfl, (mem_bds c xs i).mp hi⟩
  · rintro ⟨i, rfl, hi⟩; exact ⟨i, (mem_bds c xs i).mpr hi, rfl⟩
/-- the boundaries of the bytes from q on -/
def lf (c : Dc) (xs : List Int) (q : Nat) : List Int := (fb c (xs.drop q)).map fun j => (q : Int) + j
def com (c : Dc) (xs : List Int) (q : Nat) : List Int := (fb c xs).filter fun j => decide (j ∈ lf c xs q)
def meet (c : Dc) (xs : List Int) (q : Nat) : Int := minI (com c xs q)
theorem mem_lf {c : Dc} {xs : List Int} (hl : xs.length ≤ 60) {q : Nat} {j : Int} : j ∈ lf c xs q ↔ ∃ i : Nat, j = (q : Int) + i ∧ Bd c (xs.drop q) i := by
  have hd : (xs.drop q).length ≤ 60 := by rw [List.length_drop]; omega
  unfold lf
  rw [List.mem_map]
  constructor
  · rintro ⟨a, ha, rfl⟩
    obtain ⟨i, rfl, hi⟩ := (mem_fb hd).mp ha
    exact ⟨i, rfl, hi⟩
  · rintro ⟨i, rfl, hi⟩
    exact ⟨i, (mem_fb hd).mpr ⟨i, rfl, hi⟩, rfl⟩
theorem mem_com {c : Dc} {xs : List Int} (hl : xs.length ≤ 60) {q : Nat} {j : Int} : j ∈ com c xs q ↔ ∃ i : Nat, j = i ∧ q ≤ i ∧ Bd c xs i ∧ Bd c (xs.drop q) (i - q) := by
  unfold com
  rw [List.mem_filter, decide_eq_true_eq, mem_fb hl, mem_lf hl]
  constructor
  · rintro ⟨⟨i, rfl, hi⟩, ⟨n, hn, hb⟩⟩
    refine ⟨i, rfl, by omega, hi, ?_⟩
    rwa [show i - q = n from by omega]
  · rintro ⟨i, rfl, h1, h2, h3⟩
    exact ⟨⟨i, rfl, h2⟩, ⟨i - q, by omega, h3⟩⟩
theorem com_ne {c : Dc} {xs : List Int} (hl : xs.length ≤ 60) {q : Nat} (hq : q ≤ xs.length) : com c xs q ≠ [] := by
  have h : ((xs.length : Nat) : Int) ∈ com c xs q := by
    refine (mem_com hl).mpr ⟨xs.length, rfl, hq, Bd.full c xs, ?_⟩
    have := Bd.full c (xs.drop q)
    rwa [List.length_drop] at this
  exact List.ne_nil_of_mem h
theorem meet_mem {c : Dc} {xs : List Int} (hl : xs.length ≤ 60) {q : Nat} (hq : q ≤ xs.length) : ∃ i : Nat, meet c xs q = i ∧ q ≤ i ∧ Bd c xs i ∧ Bd c (xs.drop q) (i - q) := (mem_com hl).mp (minI_mem (com_ne hl hq))
/-- continuation bytes are pieces of their own -/
theorem bd_conts {c : Dc} (hs : c.po ≠ .stop) : ∀ (zs ys : List Int), zs.all isCont = true → Bd c (zs ++ ys) zs.length
  | [], ys, _ => .zero _
  | b :: zs, ys, h => by
    rw [List.all_cons, Bool.and_eq_true] at h
    obtain ⟨_, e2, _⟩ := cont_first c (zs ++ ys) h.1
    have i := bd_conts hs zs ys h.2
    have := Bd.next (c := c) (b :: zs ++ ys) zs.length (by simp) (by rw [List.cons_append, e2 hs]; exact i)
    rw [List.cons_append, e2 hs] at this
    rwa [List.length_cons, Nat.add_comm]
def gr (c : Dc) : Int := if c.po = .announced then 3 else c.L - 1
theorem annN_ann (xs : List Int) : ∀ (k n : Nat), (annN xs k n = n ∨ (annN xs k n : Int) ≤ ann (xs.headD 0))
  | 0, n => .inl rfl
  | k + 1, n => by
    unfold annN
    split
    · rename_i q
      have := minS (xs.length : Int) (ann (xs.headD 0))
      rcases annN_ann xs k (n + 1) with e | e
      · right; rw [e]; omega
      · exact .inr e
    · exact .inl rfl
theorem fsz_le {c : Dc} (hc : c.Ok) (hs : c.po ≠ .stop) {xs : List Int} (hx : xs ≠ []) : (fsz c xs : Int) ≤ gr c + 1 := by
  obtain ⟨l1, l4⟩ := hc
  obtain ⟨b, r, rfl⟩ : ∃ b r, xs = b :: r := by
    cases xs with
    | nil => exact absurd rfl hx
    | cons b r => exact ⟨b, r, rfl⟩
  have a4 := (ann_range b).2
  unfold gr
  by_cases hg : 0 < gsz c (b :: r)
  · obtain ⟨e1, e2, e3⟩ := fva_good hg
    obtain ⟨n, hn⟩ : ∃ n, fsz c (b :: r) = n + 1 := ⟨fsz c (b :: r) - 1, by have := (fsz_range c (b :: r) hx).1; omega⟩
    rw [hn, List.take_succ_cons] at e3
    obtain ⟨v1, v2⟩ := vld_iff.mp e3
    have := beg_facts v2
    have f := (fsz_range c (b :: r) hx).2
    rw [List.length_cons] at f
    rw [List.length_take] at v1
    split <;> omega
  · obtain ⟨_, e2⟩ := fva_bad hg
    rw [e2]
    unfold bsz
    cases hp : c.po with
    | stop => exact absurd hp hs
    | pre =>
      rw [if_neg (by decide)]
      dsimp only
      rcases preN_beg c (b :: r) 60 1 (.inl rfl) with e | e
      · rw [e]; omega
      · obtain ⟨n, hn⟩ : ∃ n, preN c (b :: r) 60 1 = n + 1 := ⟨preN c (b :: r) 60 1 - 1, by have := preN_ge c (b :: r) 60 1; omega⟩
        have hle := preN_le c (b :: r) 60 1 (by simp)
        rw [List.length_cons] at hle
        rw [hn, List.take_succ_cons] at e
        have := beg_facts e
        rw [List.length_take] at this
        omega
    | announced =>
      rw [if_pos rfl]
      dsimp only
      rcases annN_ann (b :: r) 60 1 with e | e
      · rw [e]; decide
      · rw [List.headD_cons] at e; omega
    | _ =>
      rw [if_neg (by decide)]
      dsimp only
      omega
theorem meet_le {c : Dc} (hc : c.Ok) (hs : c.po ≠ .stop) {xs : List Int} (hl : xs.length ≤ 60) {q : Nat} (hq : q ≤ xs.length) : meet c xs q - q ≤ gr c := by
  have g0 : 0 ≤ gr c := by
    have := hc.1
    unfold gr
    split <;> omega
  have key : ∃ i : Nat, (i : Int) ∈ com c xs q ∧ (i : Int) - q ≤ gr c := by
    by_cases hL : q = xs.length
    · refine ⟨q, (mem_com hl).mpr ⟨q, rfl, Nat.le_refl _, by rw [hL]; exact Bd.full c xs, by rw [Nat.sub_self]; exact .zero _⟩, by omega⟩
    · obtain ⟨j, h1, h2, h3, h4⟩ := in_piece c xs q (by omega)
      by_cases hj : j = q
      · subst hj
        exact ⟨j, (mem_com hl).mpr ⟨j, rfl, Nat.le_refl _, h1, by rw [Nat.sub_self]; exact .zero _⟩, by omega⟩
      · have f := fsz_range c (xs.drop j) h4
        have fl := fsz_le hc hs h4
        have hb1 : Bd c xs (j + fsz c (xs.drop j)) := by
          have h5 : ∀ {xs : List Int} {j : Nat}, Bd c xs j → xs.drop j ≠ [] → Bd c xs (j + fsz c (xs.drop j)) := by
            intro xs j h
            induction h with
            | zero xs =>
              intro hx
              rw [List.drop_zero] at hx ⊢
              have := Bd.next (c := c) xs 0 hx (.zero _)
              rwa [Nat.add_zero, ← Nat.zero_add (fsz c xs)] at this
            | next xs j hx hb ih =>
              intro hx2
              rw [← List.drop_drop] at hx2 ⊢
              have := Bd.next (c := c) xs _ hx (ih hx2)
              rwa [← Nat.add_assoc] at this
          exact h5 h1 h4
        have hd : xs.drop q = (((xs.drop j).take (fsz c (xs.drop j))).drop (q - j)) ++ (xs.drop j).drop (fsz c (xs.drop j)) := by
          have : xs.drop q = (xs.drop j).drop (q - j) := by rw [List.drop_drop]; congr 1; omega
          rw [this]
          exact split_take (by omega)
        have hconts : (((xs.drop j).take (fsz c (xs.drop j))).drop (q - j)).all isCont = true := by
          obtain ⟨m, hm⟩ : ∃ m, q - j = 1 + m := ⟨q - j - 1, by omega⟩
          rw [hm, ← List.drop_drop]
          refine all_drop ?_ m
          generalize xs.drop j = ys at h4
          obtain ⟨b, r, rfl⟩ : ∃ b r, ys = b :: r := by
            cases ys with
            | nil => exact absurd rfl h4
            | cons b r => exact ⟨b, r, rfl⟩
          by_cases hg : 0 < gsz c (b :: r)
          · obtain ⟨e1, e2, e3⟩ := fva_good hg
            obtain ⟨n, hn⟩ : ∃ n, fsz c (b :: r) = n + 1 := ⟨fsz c (b :: r) - 1, by have := (fsz_range c (b :: r) (by simp)).1; omega⟩
            rw [hn, List.take_succ_cons] at e3 ⊢
            exact (beg_facts (vld_iff.mp e3).2).2.2
          · rw [(fva_bad hg).2]
            exact bad_conts hs b r
        have hlen : (((xs.drop j).take (fsz c (xs.drop j))).drop (q - j)).length = fsz c (xs.drop j) - (q - j) := by
          rw [List.length_drop, List.length_take]; omega
        have hb2 : Bd c (xs.drop q) (fsz c (xs.drop j) - (q - j)) := by
          have := bd_conts hs _ ((xs.drop j).drop (fsz c (xs.drop j))) hconts
          rw [← hd, hlen] at this
          exact this
        refine ⟨j + fsz c (xs.drop j), (mem_com hl).mpr ⟨_, rfl, by omega, hb1, ?_⟩, by omega⟩
        rwa [show j + fsz c (xs.drop j) - q = fsz c (xs.drop j) - (q - j) from by omega]
  obtain ⟨i, h1, h2⟩ := key
  have := minI_le h1
  unfold meet
  omega
/-- from a common boundary on the pieces are the same -/
theorem filter_ge {PA PB : List (Int × Int × Int)} {n : Int} (ha : ∀ t ∈ PA, t.1 < n) (hb : ∀ t ∈ PB, n ≤ t.1) : (PA ++ PB).filter (fun t => decide (n ≤ t.1)) = PB := by
  rw [List.filter_append, List.filter_eq_nil_iff.mpr (fun t ht => by simpa using ha t ht), List.nil_append, List.filter_eq_self.mpr (fun t ht => by simpa using hb t ht)]
theorem pcs_from {c : Dc} {xs : List Int} (hl : xs.length ≤ 60) (p : Int) {j : Nat} (h : Bd c xs j) : (pcs c 60 p xs).filter (fun t => decide (p + j ≤ t.1)) = pcs c 60 (p + j) (xs.drop j) := by
  rw [pcs_cut h 60 p hl]
  refine filter_ge (fun t ht => ?_) fun t ht => (pcs_mem c 60 _ _ t ht).1
  have := pcs_mem c 60 _ _ t ht
  rw [List.length_take] at this
  omega
theorem meet_same {c : Dc} {xs : List Int} (hl : xs.length ≤ 60) {q : Nat} (hq : q ≤ xs.length) : ((pcs c 60 0 xs).filter fun t => decide ((q : Int) ≤ t.1)).filter (fun t => decide (meet c xs q ≤ t.1)) = ((pcs c 60 0 (xs.drop q)).map (sh q)).filter fun t => decide (meet c xs q ≤ t.1) := by
  obtain ⟨i, e, h1, h2, h3⟩ := meet_mem (c := c) hl hq
  have hd : (xs.drop q).length ≤ 60 := by rw [List.length_drop]; omega
  rw [e, List.filter_filter]
  have e1 : ((pcs c 60 0 xs).filter fun t => decide ((i : Int) ≤ t.1) && decide ((q : Int) ≤ t.1)) = (pcs c 60 0 xs).filter fun t => decide ((0 : Int) + i ≤ t.1) := by
    apply List.filter_congr
    intro t _
    rw [Bool.eq_iff_iff, Bool.and_eq_true, decide_eq_true_eq, decide_eq_true_eq, decide_eq_true_eq]
    omega
  rw [e1, pcs_from hl 0 h2, ← pcs_shift, Int.add_zero]
  have e2 := pcs_from hd q h3
  rw [show (q : Int) + ((i - q : Nat) : Int) = i from by omega, List.drop_drop, show q + (i - q) = i from by omega] at e2
  rw [e2, Int.zero_add]
/-- the law's way to the meeting place -/
theorem com_law (c : Dc) {xs : List Int} (hl : xs.length ≤ 60) {q : Nat} (hq : q ≤ xs.length) : ((((pcs c 60 0 xs).filter fun t => decide ((q : Int) ≤ t.1)).map (·.1)) ++ [(xs.length : Int)]).filter (fun j => decide (j ∈ lf c xs q)) = com c xs q := by
  have e : ∀ (l : List (Int × Int × Int)), (((l.filter fun t => decide ((q : Int) ≤ t.1)).map (·.1))).filter (fun j => decide (j ∈ lf c xs q)) = (l.map (·.1)).filter fun j => decide (j ∈ lf c xs q) := by
    intro l
    induction l with
    | nil => rfl
    | cons t l ih =>
      by_cases h : (q : Int) ≤ t.1
      · rw [List.filter_cons_of_pos (by simpa using h), List.map_cons, List.map_cons, List.filter_cons, List.filter_cons, ih]
      · rw [List.filter_cons_of_neg (by simpa using h), List.map_cons, ih]
        rw [List.filter_cons_of_neg]
        rw [decide_eq_true_eq, mem_lf hl]
        rintro ⟨i, hi, _⟩
        omega
  unfold com fb
  rw [List.filter_append, List.filter_append, e]
theorem lf_law (c : Dc) {xs : List Int} {q : Nat} (hq : q ≤ xs.length) : ((pcs c 60 0 (xs.drop q)).map (sh q)).map (·.1) ++ [(xs.length : Int)] = lf c xs q := by
  unfold lf fb
  rw [List.map_append, List.map_map, List.map_map, List.map_singleton, List.length_drop, show (q : Int) + ((xs.length - q : Nat) : Int) = xs.length from by omega]
  rfl
/-- the slowest -/
def long (n : Int) : List Int := if n = 0 then [65] else if n = 1 then [194, 128] else if n = 2 then [225, 128, 128] else [241, 128, 128, 128]
def slw (c : Dc) : List Int × Nat := if 0 < gr c then (long (gr c), 1) else ([], 0)
theorem slw_ok {c : Dc} (hc : c.Ok) (hs : c.po ≠ .stop) : meet c (slw c).1 (slw c).2 - (slw c).2 = gr c := by
  have h : (([1, 2, 3, 4] : List Int).all fun L => [Ov.none, Ov.zero, Ov.all].all fun o => [true, false].all fun s => [Po.byte, Po.pre, Po.announced, Po.run, Po.skip, Po.keep].all fun p => decide (meet ⟨L, o, s, p⟩ (slw ⟨L, o, s, p⟩).1 (slw ⟨L, o, s, p⟩).2 - (slw ⟨L, o, s, p⟩).2 = gr ⟨L, o, s, p⟩)) = true := by decide +kernel
  obtain ⟨L, o, s, p⟩ := c
  obtain ⟨l1, l2⟩ := hc
  have q1 := List.all_eq_true.mp h L (by simp only [List.mem_cons, List.mem_nil_iff, or_false]; dsimp only at l1 l2; omega)
  have q2 := List.all_eq_true.mp q1 o (by cases o <;> simp)
  have q3 := List.all_eq_true.mp q2 s (by cases s <;> simp)
  have q4 := List.all_eq_true.mp q3 p (by cases p <;> simp at hs ⊢)
  simpa using q4
theorem slw_facts (c : Dc) : (slw c).1.length ≤ 4 ∧ Bys (slw c).1 ∧ (slw c).2 ≤ (slw c).1.length := by
  unfold slw long
  repeat' split
  all_goals
    refine ⟨by decide, ?_, by decide⟩
    intro b hb
    simp only [List.mem_cons, List.mem_nil_iff, or_false] at hb
    try omega
end Pu

/-! Pu, part 29: bytes of codes and of items; lossless decoders. -/
namespace Pu
open PySem PySem.Spec PyProof.Rows L2
def bytesF (code : Int) (n : Nat) : List Int := match n with
  | 1 => [code]
  | 2 => [192 + code / 64, 128 + code % 64]
  | 3 => [224 + code / 64 / 64, 128 + code / 64 % 64, 128 + code % 64]
  | 4 => [240 + code / 64 / 64 / 64, 128 + code / 64 / 64 % 64, 128 + code / 64 % 64, 128 + code % 64]
  | _ => []
def shortN (code : Int) : Nat := if code < 128 then 1 else if code < 2048 then 2 else if code < 65536 then 3 else 4
def isItem (v : D) : Bool := isInt v 0 1114111 || (isInt v (-1) (-1) || isInt v (-255) (-128))
def itemB (v : Int) : List Int := if v = -1 then [239, 191, 189] else if 0 ≤ v then bytesF v (shortN v) else [0 - v]
theorem shortN_range (v : Int) : 1 ≤ shortN v ∧ shortN v ≤ 4 := by
  unfold shortN
  repeat' split
  all_goals omega
theorem itemB_len (v : Int) : (itemB v).length ≤ 4 := by
  unfold itemB
  split
  · simp
  · split
    · obtain ⟨a, b⟩ := shortN_range v
      have : shortN v = 1 ∨ shortN v = 2 ∨ shortN v = 3 ∨ shortN v = 4 := by omega
      rcases this with e | e | e | e <;> rw [e] <;> simp [bytesF]
    · simp
theorem flat_len (vs : List Int) : (vs.flatMap itemB).length ≤ 4 * vs.length := by
  induction vs with
  | nil => simp
  | cons v vs ih =>
    have := itemB_len v
    rw [List.flatMap_cons, List.length_append, List.length_cons]
    omega
/-- the short form of a valid sequence that is not overlong -/
theorem vld_short {c : Dc} {row : List Int} (hb : Bys row) (h : vld c row = true) (ho : c.ov = .none ∨ row.length = 1) : bytesF (valF row) (shortN (valF row)) = row := by
  cases row with
  | nil => cases h
  | cons b r =>
    obtain ⟨h1, h2⟩ := vld_iff.mp h
    obtain ⟨h3, h4, h5⟩ := beg_facts h2
    have hc := conts_ge h5
    have b0 := (hb b List.mem_cons_self).1
    have a4 := (ann_range b).2
    have hm : (ann b - ((r.length : Int) + 1)).toNat = 0 := by omega
    have hlo : c.ov = .none → least (ann b) ≤ valF (b :: r) := fun ho => by
      rw [beg_eq' c b r h3 h4 h5, if_neg (by rw [ho]; rintro ⟨z, _⟩; cases z), if_neg (by rw [ho]; decide), okLH_iff, hm] at h2
      exact h2.1.2.2.1
    match r, h1, hc, ho, hlo with
    | [], h1, hc, ho, hlo =>
      have hb1 : b < 128 := by
        simp only [List.length_nil] at h1
        unfold ann at h1
        split at h1
        · assumption
        · repeat' split at h1
          all_goals omega
      have hv : valF [b] = b := by
        show b - leads (ann b) = b
        unfold ann leads
        rw [if_pos hb1]
        simp
      rw [hv]
      unfold shortN
      rw [if_pos hb1]
      rfl
    | [x], h1, hc, ho, hlo =>
      have ho : c.ov = .none := ho.resolve_right (by simp)
      have hx := hc x List.mem_cons_self
      have ha : ann b = 2 := by simpa using h1
      have hbr : 192 ≤ b ∧ b < 224 := by
        unfold ann at ha
        repeat' split at ha
        all_goals first | omega | assumption
      have hv : valF [b, x] = 64 * (b - 192) + x - 128 := by
        show 64 * (b - leads (ann b)) + x - 128 = _
        rw [ha]; rfl
      have hl := hlo ho
      rw [ha, hv] at hl
      rw [hv]
      have hl' : (128 : Int) ≤ 64 * (b - 192) + x - 128 := hl
      have e : shortN (64 * (b - 192) + x - 128) = 2 := by unfold shortN; rw [if_neg (by omega), if_pos (by omega)]
      rw [e]
      show [192 + (64 * (b - 192) + x - 128) / 64, 128 + (64 * (b - 192) + x - 128) % 64] = [b, x]
      congr 1
      · omega
      · congr 1; omega
    | [x, y], h1, hc, ho, hlo =>
      have ho : c.ov = .none := ho.resolve_right (by simp)
      have hx := hc x List.mem_cons_self
      have hy := hc y (List.mem_cons_of_mem _ List.mem_cons_self)
      have ha : ann b = 3 := by simpa using h1
      have hbr : 224 ≤ b ∧ b < 240 := by
        unfold ann at ha
        repeat' split at ha
        all_goals first | omega | assumption
      have hv : valF [b, x, y] = 64 * (64 * (b - 224) + x - 128) + y - 128 := by
        show 64 * (64 * (b - leads (ann b)) + x - 128) + y - 128 = _
        rw [ha]; rfl
      have hl := hlo ho
      rw [ha, hv] at hl
      rw [hv]
      have hl' : (2048 : Int) ≤ 64 * (64 * (b - 224) + x - 128) + y - 128 := hl
      have e : shortN (64 * (64 * (b - 224) + x - 128) + y - 128) = 3 := by unfold shortN; rw [if_neg (by omega), if_neg (by omega), if_pos (by omega)]
      rw [e]
      show [224 + (64 * (64 * (b - 224) + x - 128) + y - 128) / 64 / 64, 128 + (64 * (64 * (b - 224) + x - 128) + y - 128) / 64 % 64, 128 + (64 * (64 * (b - 224) + x - 128) + y - 128) % 64] = [b, x, y]
      congr 1
      · omega
      · congr 1
        · omega
        · congr 1; omega
    | [x, y, z], h1, hc, ho, hlo =>
      have ho : c.ov = .none := ho.resolve_right (by simp)
      have hx := hc x List.mem_cons_self
      have hy := hc y (List.mem_cons_of_mem _ List.mem_cons_self)
      have hz := hc z (List.mem_cons_of_mem _ (List.mem_cons_of_mem _ List.mem_cons_self))
      have ha : ann b = 4 := by simpa using h1
      have hbr : 240 ≤ b ∧ b < 248 := by
        unfold ann at ha
        repeat' split at ha
        all_goals first | omega | assumption
      have hv : valF [b, x, y, z] = 64 * (64 * (64 * (b - 240) + x - 128) + y - 128) + z - 128 := by
        show 64 * (64 * (64 * (b - leads (ann b)) + x - 128) + y - 128) + z - 128 = _
        rw [ha]; rfl
      have hl := hlo ho
      rw [ha, hv] at hl
      rw [hv]
      have hl' : (65536 : Int) ≤ 64 * (64 * (64 * (b - 240) + x - 128) + y - 128) + z - 128 := hl
      have e : shortN (64 * (64 * (64 * (b - 240) + x - 128) + y - 128) + z - 128) = 4 := by unfold shortN; rw [if_neg (by omega), if_neg (by omega), if_neg (by omega)]
      rw [e]
      show [240 + (64 * (64 * (64 * (b - 240) + x - 128) + y - 128) + z - 128) / 64 / 64 / 64, 128 + (64 * (64 * (64 * (b - 240) + x - 128) + y - 128) + z - 128) / 64 / 64 % 64, 128 + (64 * (64 * (64 * (b - 240) + x - 128) + y - 128) + z - 128) / 64 % 64, 128 + (64 * (64 * (64 * (b - 240) + x - 128) + y - 128) + z - 128) % 64] = [b, x, y, z]
      congr 1
      · omega
      · congr 1
        · omega
        · congr 1
          · omega
          · congr 1; omega
    | x :: y :: z :: w :: r, h1, hc, ho, hlo =>
      simp only [List.length_cons] at h1
      omega
/-- a byte below 128 is a valid sequence -/
theorem gsz_low {c : Dc} (hc : c.Ok) {b : Int} (r : List Int) (h0 : 0 ≤ b) (h : b < 128) : 0 < gsz c (b :: r) := by
  have ha : ann b = 1 := by unfold ann; rw [if_pos h]
  have hv : valF [b] = b := by
    show b - leads (ann b) = b
    rw [ha]
    show b - 0 = b
    omega
  have hbg : beg c [b] = true := by
    rw [beg_eq' c b [] (by rw [ha]; decide) (by rw [ha]; exact hc.1) rfl]
    split
    · rfl
    · rw [okLH_iff, ha, hv, show ((1 : Int) - ((([] : List Int).length : Int) + 1)).toNat = 0 from rfl]
      have hl : (if c.ov = .all then (0 : Int) else least 1) = 0 := by split <;> rfl
      rw [hl]
      show (b ≤ b ∧ b ≤ 1114111 ∧ 0 ≤ b ∧ (0 : Int) ≤ 1114111) ∧ (c.su = true ∨ (b < 55296 ∧ (0 : Int) < 55296) ∨ 57343 < b)
      exact ⟨by omega, .inr (.inl (by omega))⟩
  rw [gsz_cons, ha, if_pos]
  · decide
  · refine ⟨by decide, by omega, ?_⟩
    exact hbg
def lossless (c : Dc) : Bool := decide (c.po = .keep) && (decide (c.L = 1) || decide (c.ov = .none))
/-- all items are items -/
theorem its_item {c : Dc} : ∀ (xs : List Int), Bys xs → (c.po = .keep → c.Ok) → ∀ (ab : Bool), ∀ v ∈ (its c xs ab).1, (0 ≤ v ∧ v ≤ 1114111) ∨ (v = -1 ∧ c.po ≠ .keep) ∨ (-255 ≤ v ∧ v ≤ -128) := by
  refine piece_ind c (fun _ _ ab v hv => by rw [its_nil] at hv; cases hv) fun xs hx ih hb hc ab v hv => ?_
  rw [its_cons c ab hx] at hv
  rcases List.mem_append.mp hv with h | h
  · split at h
    · rename_i hf
      obtain ⟨b, r, rfl⟩ : ∃ b r, xs = b :: r := by
        cases xs with
        | nil => exact absurd rfl hx
        | cons b r => exact ⟨b, r, rfl⟩
      have bb := hb b List.mem_cons_self
      rw [List.headD_cons] at h
      cases hp : c.po with
      | keep =>
        rw [hp] at h
        have hg := (fva_iff (c := c) hb).2.mp hf
        have h128 : 128 ≤ b := by
          have : ¬ b < 128 := fun z => hg (gsz_low (hc hp) r bb.1 z)
          omega
        have : v = 0 - b := by simpa [bitems] using h
        right; right
        omega
      | run =>
        rw [hp] at h
        cases ab with
        | true => cases h
        | false =>
          have : v = -1 := by simpa [bitems] using h
          exact .inr (.inl ⟨this, by simp⟩)
      | skip => rw [hp] at h; cases h
      | _ =>
        rw [hp] at h
        have : v = -1 := by simpa [bitems] using h
        exact .inr (.inl ⟨this, by simp⟩)
    · rename_i hf
      rw [List.mem_singleton] at h
      subst h
      have hg : 0 < gsz c xs := by
        have := (fva_iff (c := c) hb).2
        exact Classical.byContradiction fun z => hf (this.mpr z)
      obtain ⟨e1, _, e3⟩ := fva_good hg
      have := vld_val (bys_take hb _) e3
      rw [← e1] at this
      exact .inl this
  · exact ih (bys_drop hb _) hc _ v h
/-- with a lossless decoder all strings return -/
theorem lossless_back {c : Dc} (hc : c.Ok) (hl : lossless c = true) : ∀ (xs : List Int), Bys xs → ∀ ab, (its c xs ab).1.flatMap itemB = xs := by
  unfold lossless at hl
  rw [Bool.and_eq_true, decide_eq_true_eq, Bool.or_eq_true, decide_eq_true_eq, decide_eq_true_eq] at hl
  obtain ⟨hp, ho⟩ := hl
  refine piece_ind c (fun _ ab => by rw [its_nil]; rfl) fun xs hx ih hb ab => ?_
  have f := fsz_range c xs hx
  rw [its_cons c ab hx]
  dsimp only
  rw [List.flatMap_append, ih (bys_drop hb _)]
  have key : (if fva c xs = -1 then bitems c.po (xs.headD 0) ab else [fva c xs]).flatMap itemB = xs.take (fsz c xs) := by
    by_cases hg : 0 < gsz c xs
    · obtain ⟨e1, e2, e3⟩ := fva_good hg
      have hv := vld_val (bys_take hb (fsz c xs)) e3
      rw [← e1] at hv
      rw [if_neg (by omega), List.flatMap_singleton]
      unfold itemB
      rw [if_neg (by omega), if_pos hv.1, e1]
      refine vld_short (bys_take hb _) e3 ?_
      rcases ho with ho | ho
      · right
        obtain ⟨b, r, rfl⟩ : ∃ b r, xs = b :: r := by
          cases xs with
          | nil => exact absurd rfl hx
          | cons b r => exact ⟨b, r, rfl⟩
        obtain ⟨n, hn⟩ : ∃ n, fsz c (b :: r) = n + 1 := ⟨fsz c (b :: r) - 1, by omega⟩
        rw [hn, List.take_succ_cons] at e3 ⊢
        have h1 := beg_facts (vld_iff.mp e3).2
        rw [List.length_cons]
        omega
      · exact .inl ho
    · obtain ⟨e1, e2⟩ := fva_bad hg
      rw [e1, if_pos rfl, e2, hp]
      obtain ⟨b, r, rfl⟩ : ∃ b r, xs = b :: r := by
        cases xs with
        | nil => exact absurd rfl hx
        | cons b r => exact ⟨b, r, rfl⟩
      have hz : bsz c (b :: r) = 1 := by unfold bsz; rw [hp]
      have bb := hb b List.mem_cons_self
      have h128 : ¬ b < 128 := fun z => hg (gsz_low hc r bb.1 z)
      rw [hz, List.headD_cons]
      show itemB (0 - b) ++ [] = [b]
      rw [List.append_nil]
      unfold itemB
      rw [if_neg (by omega), if_neg (by omega)]
      congr 1
      omega
  rw [key, List.take_append_drop]
/-- where something is lost -/
def lostS (c : Dc) : List Int := if c.po = .keep then [192, 128] else [128]
def collS (c : Dc) : List Int × List Int := if c.po = .keep then ([0], [192, 128]) else if c.po = .skip then ([], [128]) else ([128], [129])
theorem each_dc {p : Dc → Bool} (h : (([1, 2, 3, 4] : List Int).all fun L => [Ov.none, Ov.zero, Ov.all].all fun o => [true, false].all fun s => [Po.stop, Po.byte, Po.pre, Po.announced, Po.run, Po.skip, Po.keep].all fun q => p ⟨L, o, s, q⟩) = true) (c : Dc) (hc : c.Ok) : p c = true := by
  obtain ⟨L, o, s, q⟩ := c
  obtain ⟨l1, l2⟩ := hc
  have q1 := List.all_eq_true.mp h L (by simp only [List.mem_cons, List.mem_nil_iff, or_false]; dsimp only at l1 l2; omega)
  have q2 := List.all_eq_true.mp q1 o (by cases o <;> simp)
  have q3 := List.all_eq_true.mp q2 s (by cases s <;> simp)
  exact List.all_eq_true.mp q3 q (by cases q <;> simp)
theorem lost_facts (c : Dc) (hc : c.Ok) : (lossless c || (decide ((itemsF c (lostS c) false).1.flatMap itemB ≠ lostS c) && decide ((itemsF c (collS c).1 false).1 = (itemsF c (collS c).2 false).1))) = true :=
  each_dc (p := fun c => lossless c || (decide ((itemsF c (lostS c) false).1.flatMap itemB ≠ lostS c) && decide ((itemsF c (collS c).1 false).1 = (itemsF c (collS c).2 false).1))) (by decide +kernel) c hc
theorem low_back (c : Dc) (hc : c.Ok) : (decide ((itemsF c [65] false).1.flatMap itemB = [65]) && decide ((itemsF c [] false).1.flatMap itemB = [])) = true :=
  each_dc (p := fun c => decide ((itemsF c [65] false).1.flatMap itemB = [65]) && decide ((itemsF c [] false).1.flatMap itemB = [])) (by decide +kernel) c hc
end Pu

/-! Pu, part 30: decoders that always agree, in plain words. -/
namespace Pu
open PySem PySem.Spec PyProof.Rows L2
/-- plain_of -/
def plainC (c : Dc) : Dc := ⟨c.L, if c.L = 1 then .none else c.ov, if c.L < 3 then false else c.su, if c.L < 3 ∧ c.po = .pre then .byte else c.po⟩
theorem plainC_big {c : Dc} (h : ¬ c.L < 3) : plainC c = c := by
  unfold plainC
  rw [if_neg (by omega), if_neg h, if_neg (fun z => h z.1)]
theorem beg_low {b : Int} {r : List Int} (h1 : (r.length : Int) + 1 ≤ ann b) (h2 : ann b ≤ 2) (hr : r.all isCont = true) : fold64 (valF (b :: r)) (List.replicate (ann b - ((r.length : Int) + 1)).toNat 128) < 2048 := by
  have hb := ann_range b
  have hann : ann b = 1 ∧ b < 128 ∨ ann b = 2 ∧ 192 ≤ b ∧ b < 224 := by
    unfold ann at *
    repeat' split at h2
    all_goals first
      | omega
      | (simp only [*, if_true, if_false] at *; omega)
  match r, hr with
  | [], _ =>
    rcases hann with ⟨e, h⟩ | ⟨e, h⟩
    · rw [e]
      show b - leads (ann b) < 2048
      rw [e]
      show b - 0 < 2048
      omega
    · rw [e]
      show 64 * (b - leads (ann b)) + 128 - 128 < 2048
      rw [e]
      show 64 * (b - 192) + 128 - 128 < 2048
      omega
  | [x], hr =>
    rcases hann with ⟨e, h⟩ | ⟨e, h⟩
    · simp only [List.length_cons, List.length_nil] at h1; omega
    · rw [e]
      show 64 * (b - leads (ann b)) + x - 128 < 2048
      rw [e]
      show 64 * (b - 192) + x - 128 < 2048
      simp only [List.all_cons, List.all_nil, Bool.and_true, isCont, Bool.and_eq_true, decide_eq_true_eq] at hr
      omega
  | x :: y :: z, _ => simp only [List.length_cons] at h1; omega
theorem beg_cons (c : Dc) (b : Int) (r : List Int) : beg c (b :: r) = if ((r.length : Int) + 1 ≤ ann b ∧ ann b ≤ c.L) ∧ r.all isCont = true then
      (if c.ov = .zero ∧ (b :: r) = ([192, 128] : List Int).take (r.length + 1) then true else
        (decide (max (fold64 (valF (b :: r)) (List.replicate (ann b - ((r.length : Int) + 1)).toNat 128)) (if c.ov = .all then 0 else least (ann b)) ≤ min (fold64 (valF (b :: r)) (List.replicate (ann b - ((r.length : Int) + 1)).toNat 191)) 1114111) &&
          (c.su || (decide (max (fold64 (valF (b :: r)) (List.replicate (ann b - ((r.length : Int) + 1)).toNat 128)) (if c.ov = .all then 0 else least (ann b)) < 55296) || decide (57343 < min (fold64 (valF (b :: r)) (List.replicate (ann b - ((r.length : Int) + 1)).toNat 191)) 1114111))))) else false := rfl
theorem beg_plain (c : Dc) (hc : c.Ok) (xs : List Int) : beg (plainC c) xs = beg c xs := by
  by_cases hL : c.L < 3
  · cases xs with
    | nil => rfl
    | cons b r =>
      rw [beg_cons, beg_cons]
      by_cases h : ((r.length : Int) + 1 ≤ ann b ∧ ann b ≤ c.L) ∧ r.all isCont = true
      · rw [if_pos h, if_pos (show ((r.length : Int) + 1 ≤ ann b ∧ ann b ≤ (plainC c).L) ∧ r.all isCont = true from h)]
        have hlow := beg_low h.1.1 (by omega) h.2
        have hz : ((plainC c).ov = .zero ∧ (b :: r) = ([192, 128] : List Int).take (r.length + 1)) ↔ (c.ov = .zero ∧ (b :: r) = ([192, 128] : List Int).take (r.length + 1)) := by
          by_cases h1 : c.L = 1
          · have hb : (b :: r) ≠ ([192, 128] : List Int).take (r.length + 1) := by
              intro z
              rw [List.take_succ_cons] at z
              injection z with z1 z2
              subst z1
              have : ann 192 = 2 := by decide +kernel
              omega
            exact ⟨fun z => absurd z.2 hb, fun z => absurd z.2 hb⟩
          · rw [show (plainC c).ov = c.ov from if_neg h1]
        have ha : (if (plainC c).ov = .all then (0 : Int) else least (ann b)) = if c.ov = .all then 0 else least (ann b) := by
          by_cases h1 : c.L = 1
          · have : ann b = 1 := by have := ann_range b; omega
            rw [this]
            have l1 : least 1 = 0 := by decide +kernel
            rw [l1]
            simp
          · rw [show (plainC c).ov = c.ov from if_neg h1]
        have hle : (if c.ov = .all then (0 : Int) else least (ann b)) < 55296 := by
          split
          · decide
          · have := ann_range b
            have h2 : ann b = 1 ∨ ann b = 2 := by omega
            rcases h2 with e | e <;> rw [e] <;> decide +kernel
        by_cases hz2 : c.ov = .zero ∧ (b :: r) = ([192, 128] : List Int).take (r.length + 1)
        · rw [if_pos (hz.mpr hz2), if_pos hz2]
        · rw [if_neg (fun z => hz2 (hz.mp z)), if_neg hz2, ha]
          have hmax : max (fold64 (valF (b :: r)) (List.replicate (ann b - ((r.length : Int) + 1)).toNat 128)) (if c.ov = .all then 0 else least (ann b)) < 55296 := by omega
          rw [decide_eq_true hmax]
          simp
      · rw [if_neg h, if_neg (show ¬ (((r.length : Int) + 1 ≤ ann b ∧ ann b ≤ (plainC c).L) ∧ r.all isCont = true) from h)]
  · rw [plainC_big hL]
theorem gsz_plain (c : Dc) (hc : c.Ok) (xs : List Int) : gsz (plainC c) xs = gsz c xs := by
  unfold gsz
  simp only [beg_plain c hc]
theorem bsz_plain (c : Dc) (hc : c.Ok) (xs : List Int) (h : ¬ 0 < gsz c xs) : bsz (plainC c) xs = bsz c xs := by
  by_cases hL : c.L < 3
  · by_cases hp : c.po = .pre
    · have e1 : bsz (plainC c) xs = 1 := by
        unfold bsz
        rw [show (plainC c).po = .byte from if_pos ⟨hL, hp⟩]
      have e2 : bsz c xs = preN c xs 60 1 := by
        unfold bsz
        rw [hp]
      rw [e1, e2]
      unfold preN
      rw [if_neg]
      intro ⟨z1, z2⟩
      match xs, z1, z2, h with
      | b :: x :: t, _, z2, h =>
        have f := beg_facts (r := [x]) z2
        simp only [List.length_cons, List.length_nil] at f
        have ha : ann b = 2 := by omega
        refine h ?_
        rw [gsz_cons, ha, if_pos ⟨by omega, by simp only [List.length_cons]; omega, z2⟩]
        decide
      | [b], z1, _, _ => simp at z1
    · have e : (plainC c).po = c.po := if_neg (fun z => hp z.2)
      unfold bsz
      rw [e]
      cases hpo : c.po <;> first | rfl | exact absurd hpo hp
  · rw [plainC_big hL]
theorem fsz_plain (c : Dc) (hc : c.Ok) (xs : List Int) : fsz (plainC c) xs = fsz c xs ∧ fva (plainC c) xs = fva c xs := by
  unfold fsz fva
  rw [gsz_plain c hc]
  by_cases h : 0 < gsz c xs
  · rw [if_pos h, if_pos h]; exact ⟨rfl, rfl⟩
  · rw [if_neg h, if_neg h]; exact ⟨bsz_plain c hc xs h, rfl⟩
theorem bitems_plain (c : Dc) (b : Int) (ab : Bool) : bitems (plainC c).po b ab = bitems c.po b ab := by
  by_cases h : c.L < 3 ∧ c.po = .pre
  · rw [show (plainC c).po = .byte from if_pos h, h.2]; rfl
  · rw [show (plainC c).po = c.po from if_neg h]
theorem its_plain (c : Dc) (hc : c.Ok) : ∀ (xs : List Int) (ab : Bool), its (plainC c) xs ab = its c xs ab := by
  refine piece_ind c (fun ab => by rw [its_nil, its_nil]) fun xs hx ih ab => ?_
  obtain ⟨e1, e2⟩ := fsz_plain c hc xs
  rw [its_cons (plainC c) ab hx, its_cons c ab hx, e1, e2, bitems_plain, ih]
/-- equal plain forms: the same results -/
theorem its_eq {c1 c2 : Dc} (h1 : c1.Ok) (h2 : c2.Ok) (h : plainC c1 = plainC c2) (xs : List Int) (ab : Bool) : its c1 xs ab = its c2 xs ab := by
  rw [← its_plain c1 h1, h, its_plain c2 h2]
end Pu

/-! Pu, part 31: a string that comes in parts. -/
namespace Pu
open PySem PySem.Spec PyProof.Rows L2
/-- is_open -/
def opn (c : Dc) (xs : List Int) : Bool :=
  if beg c xs = true then decide ((xs.length : Int) < ann (xs.headD 0)) else
    if c.po ≠ .announced ∨ 0 < gsz c xs then false else decide ((xs.length : Int) < ann (xs.headD 0)) && xs.tail.all isCont
theorem annN_annR (xs : List Int) : ∀ k n, (annN xs k n : Int) ≤ n ∨ (annN xs k n : Int) ≤ ann (xs.headD 0)
  | 0, n => .inl (Int.le_refl _)
  | k + 1, n => by
    unfold annN
    split
    · rename_i q
      have := minS (xs.length : Int) (ann (xs.headD 0))
      rcases annN_annR xs k (n + 1) with h | h
      · right; omega
      · exact .inr h
    · exact .inl (Int.le_refl _)
theorem annN_contR (xs : List Int) : ∀ k n j, n ≤ j → j < annN xs k n → isCont ((xs[j]?).getD 0) = true
  | 0, n, j, h1, h2 => by unfold annN at h2; omega
  | k + 1, n, j, h1, h2 => by
    unfold annN at h2
    split at h2
    · rename_i q
      by_cases e : j = n
      · subst e; exact q.2
      · exact annN_contR xs k (n + 1) j (by omega) h2
    · omega
theorem gsz_more {c : Dc} {xs : List Int} (h : 0 < gsz c xs) (ys : List Int) : 0 < gsz c (xs ++ ys) := by
  have v := vld_gsz h
  have e := gsz_vld v (xs.drop (gsz c xs).toNat ++ ys)
  rw [← List.append_assoc, List.take_append_drop] at e
  rw [e]
  have := List.length_pos_iff.mpr (vld_ne v)
  omega
theorem stay_le {c : Dc} {xs ys : List Int} (hx : xs ≠ []) (ho : opn c xs = false) (hs : c.po ≠ .stop ∨ 0 < gsz c xs) : fsz c (xs ++ ys) ≤ xs.length := by
  cases xs with
  | nil => exact absurd rfl hx
  | cons b r =>
    have hb : ∀ s, beg c (b :: (r ++ s)) = true → (s.length : Int) = 0 := fun s z => by
      have h1 := beg_app c b s r z
      obtain ⟨h2, _, _⟩ := beg_facts z
      unfold opn at ho
      rw [if_pos h1, decide_eq_false_iff_not, List.headD_cons, List.length_cons] at ho
      rw [List.length_append] at h2
      omega
    have split : ∀ n, (b :: r).length < n → ((b :: r) ++ ys).take n = b :: (r ++ ys.take (n - (b :: r).length)) := fun n hn => by
      rw [List.take_append, List.take_of_length_le (Nat.le_of_lt hn)]
      rfl
    by_cases hg : 0 < gsz c ((b :: r) ++ ys)
    · have e : fsz c ((b :: r) ++ ys) = (gsz c ((b :: r) ++ ys)).toNat := by unfold fsz; rw [if_pos hg]
      rw [e]
      have v := vld_gsz hg
      have hr := (gsz_range c ((b :: r) ++ ys)).2.2 hg
      generalize gsz c ((b :: r) ++ ys) = g at *
      by_cases hn : g.toNat ≤ (b :: r).length
      · exact hn
      · rw [split _ (by omega)] at v
        have := hb _ (vld_iff.mp v).2
        rw [List.length_take] at this
        rw [List.length_append] at hr
        omega
    · have hg0 : ¬ 0 < gsz c (b :: r) := fun z => hg (gsz_more z ys)
      have hst : c.po ≠ .stop := hs.elim id fun z => absurd z hg0
      have e : fsz c ((b :: r) ++ ys) = bsz c ((b :: r) ++ ys) := by unfold fsz; rw [if_neg hg]
      rw [e]
      unfold bsz
      cases hp : c.po with
      | stop => exact absurd hp hst
      | pre =>
        dsimp only
        have hle := preN_le c ((b :: r) ++ ys) 60 1 (by simp)
        rcases preN_beg c ((b :: r) ++ ys) 60 1 (.inl rfl) with h | h
        · rw [h]; simp
        · generalize preN c ((b :: r) ++ ys) 60 1 = n at *
          by_cases hn : n ≤ (b :: r).length
          · exact hn
          · rw [split _ (by omega)] at h
            have := hb _ h
            rw [List.length_take] at this
            rw [List.length_append] at hle
            omega
      | announced =>
        dsimp only
        have h1 := annN_annR ((b :: r) ++ ys) 60 1
        have h2 := annN_contR ((b :: r) ++ ys) 60 1
        have h3 : (((b :: r) ++ ys).headD 0) = b := rfl
        rw [h3] at h1
        by_cases hn : annN ((b :: r) ++ ys) 60 1 ≤ (b :: r).length
        · exact hn
        · exfalso
          have hl : (b :: r).length = r.length + 1 := rfl
          have hlt : ((b :: r).length : Int) < ann b := by omega
          unfold opn at ho
          rw [List.headD_cons, decide_eq_true hlt, List.tail_cons, Bool.true_and] at ho
          split at ho
          · cases ho
          · rw [if_neg (fun z => z.elim (fun z => z hp) hg0)] at ho
            have : r.all isCont = true := by
              rw [List.all_eq_true]
              intro x hx
              obtain ⟨j, hj, ej⟩ := List.getElem_of_mem hx
              have q := h2 (j + 1) (by omega) (by omega)
              rw [List.cons_append, List.getElem?_cons_succ, List.getElem?_append_left hj, List.getElem?_eq_getElem hj, Option.getD_some, ej] at q
              exact q
            rw [this] at ho
            cases ho
      | _ => simp
/-- what comes behind a piece that is certain does not change it -/
theorem stay {c : Dc} {xs : List Int} (hx : xs ≠ []) (ho : opn c xs = false) (hs : c.po ≠ .stop ∨ 0 < gsz c xs) (ys : List Int) : fsz c (xs ++ ys) = fsz c xs ∧ fva c (xs ++ ys) = fva c xs := by
  have h := first_take c (xs ++ ys) xs.length (by simp [hx]) (by simp) (stay_le hx ho hs)
  rw [List.take_left' rfl] at h
  exact ⟨h.1.symm, h.2.symm⟩
theorem stay_stop {c : Dc} {xs : List Int} (ho : opn c xs = false) (hx : xs ≠ []) (hs : c.po = .stop) (hg : ¬ 0 < gsz c xs) (ys : List Int) : fsz c (xs ++ ys) = (xs ++ ys).length ∧ ¬ 0 < gsz c (xs ++ ys) := by
  have h0 : ¬ 0 < gsz c (xs ++ ys) := fun z => by
    cases xs with
    | nil => exact hx rfl
    | cons b r =>
      have v := vld_gsz z
      have hr := (gsz_range c ((b :: r) ++ ys)).2.2 z
      generalize gsz c ((b :: r) ++ ys) = g at *
      by_cases hn : g.toNat ≤ (b :: r).length
      · rw [List.take_append_of_le_length hn] at v
        have e := (vld_take (c := c) (xs := b :: r) (n := g.toNat) (by omega) v).1
        exact hg e
      · have e : ((b :: r) ++ ys).take g.toNat = b :: (r ++ ys.take (g.toNat - (b :: r).length)) := by
          rw [List.take_append, List.take_of_length_le (by omega)]
          rfl
        rw [e] at v
        have h1 := beg_app c b _ r (vld_iff.mp v).2
        obtain ⟨h2, _, _⟩ := beg_facts (vld_iff.mp v).2
        unfold opn at ho
        rw [if_pos h1, decide_eq_false_iff_not, List.headD_cons, List.length_cons] at ho
        rw [List.length_append, List.length_take] at h2
        rw [List.length_append, List.length_cons] at hr
        have : (b :: r).length = r.length + 1 := rfl
        omega
  refine ⟨?_, h0⟩
  unfold fsz
  rw [if_neg h0]
  unfold bsz
  rw [hs]
/-- what feed tells, what it keeps -/
def run (c : Dc) : Nat → List Int → Bool → List Int × (List Int × Bool)
  | 0, xs, ab => ([], (xs, ab))
  | m + 1, xs, ab => if xs = [] ∨ opn c xs = true then ([], (xs, ab)) else
      ((if fva c xs = -1 then bitems c.po (xs.headD 0) ab else [fva c xs]) ++ (run c m (xs.drop (fsz c xs)) (decide (fva c xs = -1))).1, (run c m (xs.drop (fsz c xs)) (decide (fva c xs = -1))).2)
theorem run_stop {c : Dc} {m : Nat} {xs : List Int} {ab : Bool} (h : xs = [] ∨ opn c xs = true) : run c m xs ab = ([], (xs, ab)) := by
  cases m with
  | zero => rfl
  | succ m => unfold run; rw [if_pos h]
theorem run_step {c : Dc} {m : Nat} {xs : List Int} {ab : Bool} (h : ¬ (xs = [] ∨ opn c xs = true)) : run c (m + 1) xs ab = ((if fva c xs = -1 then bitems c.po (xs.headD 0) ab else [fva c xs]) ++ (run c m (xs.drop (fsz c xs)) (decide (fva c xs = -1))).1, (run c m (xs.drop (fsz c xs)) (decide (fva c xs = -1))).2) := by
  show (if xs = [] ∨ opn c xs = true then _ else _) = _
  rw [if_neg h]
theorem run_drop (c : Dc) : ∀ (m : Nat) (xs : List Int) (ab : Bool), ∃ j, (run c m xs ab).2.1 = xs.drop j
  | 0, xs, ab => ⟨0, rfl⟩
  | m + 1, xs, ab => by
    by_cases h : xs = [] ∨ opn c xs = true
    · rw [run_stop h]; exact ⟨0, rfl⟩
    · rw [run_step h]
      obtain ⟨j, e⟩ := run_drop c m (xs.drop (fsz c xs)) (decide (fva c xs = -1))
      exact ⟨fsz c xs + j, by rw [← List.drop_drop]; exact e⟩
/-- is the reading stopped? -/
def stpd (c : Dc) (ab : Bool) : Prop := ab = true ∧ c.po = .stop
instance (c : Dc) (ab : Bool) : Decidable (stpd c ab) := inferInstanceAs (Decidable (_ ∧ _))
theorem run_inv (c : Dc) : ∀ (m : Nat) (xs : List Int) (ab : Bool), Bys xs → xs.length ≤ m → ¬ stpd c ab →
    ((run c m xs ab).2.1 = [] ∨ opn c (run c m xs ab).2.1 = true) ∧ (stpd c (run c m xs ab).2.2 → (run c m xs ab).2.1 = []) ∧
    ∀ ys, (its c (xs ++ ys) ab).1 = (run c m xs ab).1 ++ (if stpd c (run c m xs ab).2.2 then [] else (its c ((run c m xs ab).2.1 ++ ys) (run c m xs ab).2.2).1)
  | 0, xs, ab, hb, hl, hs => by
    have e : xs = [] := List.length_eq_zero_iff.mp (by omega)
    subst e
    refine ⟨.inl rfl, fun _ => rfl, fun ys => ?_⟩
    show _ = [] ++ (if stpd c ab then [] else _)
    rw [if_neg hs]
    rfl
  | m + 1, xs, ab, hb, hl, hs => by
    by_cases h : xs = [] ∨ opn c xs = true
    · rw [run_stop h]
      refine ⟨h, fun z => absurd z hs, fun ys => ?_⟩
      show _ = [] ++ (if stpd c ab then [] else _)
      rw [if_neg hs]
      rfl
    · have hx : xs ≠ [] := fun z => h (.inl z)
      have ho : opn c xs = false := by
        cases q : opn c xs with
        | true => exact absurd (.inr q) h
        | false => rfl
      have hr := fsz_range c xs hx
      have hne : ∀ ys, xs ++ ys ≠ [] := fun ys => by simp [hx]
      rw [run_step h]
      by_cases hz : fva c xs = -1 ∧ c.po = .stop
      · have hg : ¬ 0 < gsz c xs := (fva_iff hb).2.mp hz.1
        obtain ⟨f1, f2⟩ := stay_stop ho hx hz.2 hg []
        rw [List.append_nil] at f1
        have ed : xs.drop (fsz c xs) = [] := by rw [f1, List.drop_length]
        rw [ed, run_stop (.inl rfl), decide_eq_true hz.1, if_pos hz.1]
        refine ⟨.inl rfl, fun _ => rfl, fun ys => ?_⟩
        obtain ⟨g1, g2⟩ := stay_stop ho hx hz.2 hg ys
        have gv : fva c (xs ++ ys) = -1 := by unfold fva; rw [if_neg g2]
        rw [its_cons c ab (hne ys), gv, if_pos rfl, g1, List.drop_length, its_nil]
        show _ = _ ++ (if stpd c true then [] else _)
        rw [if_pos ⟨rfl, hz.2⟩]
        have : (xs ++ ys).headD 0 = xs.headD 0 := by
          cases xs with
          | nil => exact absurd rfl hx
          | cons _ _ => rfl
        rw [this]
        simp
      · have hst : c.po ≠ .stop ∨ 0 < gsz c xs := by
          by_cases q : c.po = .stop
          · right
            by_cases g : 0 < gsz c xs
            · exact g
            · exact absurd ⟨by unfold fva; rw [if_neg g], q⟩ hz
          · exact .inl q
        have hs' : ¬ stpd c (decide (fva c xs = -1)) := fun z => hz ⟨of_decide_eq_true z.1, z.2⟩
        obtain ⟨i1, i2, i3⟩ := run_inv c m (xs.drop (fsz c xs)) (decide (fva c xs = -1)) (bys_drop hb _) (by rw [List.length_drop]; omega) hs'
        refine ⟨i1, i2, fun ys => ?_⟩
        obtain ⟨g1, g2⟩ := stay hx ho hst ys
        have eh : (xs ++ ys).headD 0 = xs.headD 0 := by
          cases xs with
          | nil => exact absurd rfl hx
          | cons _ _ => rfl
        rw [its_cons c ab (hne ys), g1, g2, eh, List.drop_append_of_le_length hr.2, i3 ys, List.append_assoc]
theorem run_len (c : Dc) : ∀ (m : Nat) (xs : List Int) (ab : Bool), (run c m xs ab).1.length ≤ m
  | 0, xs, ab => Nat.le_refl 0
  | m + 1, xs, ab => by
    by_cases h : xs = [] ∨ opn c xs = true
    · rw [run_stop h]; exact Nat.zero_le _
    · rw [run_step h, List.length_append]
      have := run_len c m (xs.drop (fsz c xs)) (decide (fva c xs = -1))
      have h2 : (if fva c xs = -1 then bitems c.po (xs.headD 0) ab else [fva c xs]).length ≤ 1 := by
        split
        · exact bitems_len _ _ _
        · exact Nat.le_refl 1
      omega
theorem opn_len {c : Dc} {xs : List Int} (h : opn c xs = true) : xs.length ≤ 3 := by
  have := ann_range (xs.headD 0)
  unfold opn at h
  split at h
  · rw [decide_eq_true_eq] at h; omega
  · split at h
    · cases h
    · rw [Bool.and_eq_true, decide_eq_true_eq] at h; omega

/-! ### a reader -/
/-- what a reader holds: the rest, is the last piece bad -/
structure Rd where
  rest : List Int
  ab : Bool
/-- feed -/
def Rd.feed (c : Dc) (r : Rd) (x : List Int) : List Int × Rd := if stpd c r.ab then ([], r) else ((run c 1000 (r.rest ++ x) r.ab).1, ⟨(run c 1000 (r.rest ++ x) r.ab).2.1, (run c 1000 (r.rest ++ x) r.ab).2.2⟩)
/-- a reader that has been fed s and has told t -/
structure Rd.Is (c : Dc) (s t : List Int) (r : Rd) : Prop where
  open_ : r.rest = [] ∨ opn c r.rest = true
  stop : stpd c r.ab → r.rest = []
  all : ∀ ys, (its c (s ++ ys) false).1 = t ++ (if stpd c r.ab then [] else (its c (r.rest ++ ys) r.ab).1)
theorem Rd.Is.new (c : Dc) : Rd.Is c [] [] ⟨[], false⟩ := ⟨.inl rfl, fun _ => rfl, fun ys => by rw [if_neg (fun z => by cases z.1)]; rfl⟩
theorem Rd.Is.len {c : Dc} {s t : List Int} {r : Rd} (h : r.Is c s t) : r.rest.length ≤ 3 := by
  rcases h.open_ with e | e
  · rw [e]; exact Nat.zero_le _
  · exact opn_len e
theorem Rd.Is.feed {c : Dc} {s t x : List Int} {r : Rd} (h : r.Is c s t) (hb : Bys r.rest) (hx : Bys x) (hl : x.length ≤ 100) : (r.feed c x).2.Is c (s ++ x) (t ++ (r.feed c x).1) ∧ Bys (r.feed c x).2.rest := by
  unfold Rd.feed
  by_cases hs : stpd c r.ab
  · rw [if_pos hs]
    refine ⟨⟨h.open_, h.stop, fun ys => ?_⟩, hb⟩
    have := h.all (x ++ ys)
    rw [if_pos hs] at this ⊢
    rw [List.append_assoc, this, List.append_assoc]
    rfl
  · rw [if_neg hs]
    have hl' : (r.rest ++ x).length ≤ 1000 := by have := h.len; rw [List.length_append]; omega
    obtain ⟨i1, i2, i3⟩ := run_inv c 1000 (r.rest ++ x) r.ab (bys_app hb hx) hl' hs
    refine ⟨⟨i1, i2, fun ys => ?_⟩, ?_⟩
    · have := h.all (x ++ ys)
      rw [if_neg hs, ← List.append_assoc r.rest, i3 ys] at this
      rw [List.append_assoc, this, List.append_assoc]
    · obtain ⟨j, e⟩ := run_drop c 1000 (r.rest ++ x) r.ab
      show Bys (run c 1000 (r.rest ++ x) r.ab).2.1
      rw [e]
      exact bys_drop (bys_app hb hx) j
/-- finish -/
theorem Rd.Is.end_ {c : Dc} {s t : List Int} {r : Rd} (h : r.Is c s t) : t ++ (its c r.rest r.ab).1 = (its c s false).1 := by
  have := h.all []
  rw [List.append_nil, List.append_nil] at this
  rw [this]
  split
  · rename_i z
    rw [h.stop z, its_nil]
  · rfl
end Pu

set_option maxHeartbeats 0
namespace Pu
open PySem PySem.Spec PyProof.Rows L2
def top (i : Nat) : Stmt := PySem.Challenge.pw_badbytes_k14_reading.main.body.getD i (.Pass ⟨0, 0, 0, 0⟩)
def mtop (i j : Nat) : Stmt := (clsBody (top i)).getD j (.Pass ⟨0, 0, 0, 0⟩)
def w__wall_0 : Ss :=
    (.cons (.pass)
    .nil)
def b__wall : Ss :=
    (.cons (.while_ (.bl true) w__wall_0)
    .nil)
def d__wall : Df := { name := "_wall", N := ["k"], ps := ["k"], body := b__wall, st := top 0, qual := "_wall", me := none }
def b_is_int : Ss :=
    (.cons (.ret (.and (.isa (.var 0) .int) (.and (.not (.isa (.var 0) .bool)) (.chain .le .le (.var 1) (.var 0) (.var 2)))))
    .nil)
def d_is_int : Df := { name := "is_int", N := ["value", "least", "most"], ps := ["value", "least", "most"], body := b_is_int, st := top 17, qual := "is_int", me := none }
def b_is_byte : Ss :=
    (.cons (.ret (.call 0 (.cons (.var 0) (.cons (.int 0) (.cons (.int 255) .nil)))))
    .nil)
def d_is_byte : Df := { name := "is_byte", N := ["value"], ps := ["value"], body := b_is_byte, st := top 18, qual := "is_byte", me := none }
def b_is_string : Ss :=
    (.cons (.ret (.and (.isa (.var 0) .tuple) (.and (.cmp .le (.bi .len (.var 0)) (.glob 0)) (.bi .all (.comp (.call 1 (.cons (.var 1) .nil)) (.name 1) (.seq (.var 0)) .no)))))
    .nil)
def d_is_string : Df := { name := "is_string", N := ["candidate", "byte"], ps := ["candidate"], body := b_is_string, st := top 19, qual := "is_string", me := none }
def b_is_continuation : Ss :=
    (.cons (.ret (.chain .le .le (.glob 1) (.var 0) (.glob 2)))
    .nil)
def d_is_continuation : Df := { name := "is_continuation", N := ["byte"], ps := ["byte"], body := b_is_continuation, st := top 20, qual := "is_continuation", me := none }
def b_announced : Ss :=
    (.cons (.ite (.cmp .lt (.var 0) (.glob 1))
    (.cons (.ret (.int 1))
    .nil)
    .nil)
    (.cons (.seto 1 (.comp (.var 2) (.name 2) (.seq (.tup (.cons (.int 2) (.cons (.int 3) (.cons (.int 4) .nil))))) (.one (.chain .le .lt (.idx (.glob 3) (.var 2)) (.var 0) (.idx (.glob 3) (.op .add (.var 2) (.int 1)))))))
    (.cons (.frz 1)
    (.cons (.ret (.ite (.cmp .eq (.var 1) (.lst .nil)) (.int 0) (.idx (.var 1) (.int 0))))
    .nil))))
def d_announced : Df := { name := "announced", N := ["byte", "found", "size"], ps := ["byte"], body := b_announced, st := top 21, qual := "announced", me := none }
def w_value_from_0 : Ss :=
    (.cons (.set 1 (.op .sub (.op .add (.op .mul (.glob 4) (.var 1)) (.var 2)) (.glob 1)))
    .nil)
def b_value_from : Ss :=
    (.cons (.set 1 (.op .sub (.idx (.var 0) (.int 0)) (.idx (.glob 3) (.call 4 (.cons (.idx (.var 0) (.int 0)) .nil)))))
    (.cons (.for_ (.name 2) (.seq (.slc (.var 0) (.one (.int 1)) .no)) w_value_from_0)
    (.cons (.ret (.var 1))
    .nil)))
def d_value_from : Df := { name := "value_from", N := ["some", "value", "byte"], ps := ["some"], body := b_value_from, st := top 22, qual := "value_from", me := none }
def b_least_value : Ss :=
    (.cons (.ret (.idx (.glob 5) (.op .sub (.var 0) (.int 1))))
    .nil)
def d_least_value : Df := { name := "least_value", N := ["size"], ps := ["size"], body := b_least_value, st := top 23, qual := "least_value", me := none }
def b_is_decoder : Ss :=
    (.cons (.ite (.or (.not (.isa (.var 0) .tuple)) (.or (.cmp .ne (.bi .len (.var 0)) (.int 4)) (.not (.call 0 (.cons (.idx (.var 0) (.int 0)) (.cons (.int 1) (.cons (.int 4) .nil)))))))
    (.cons (.ret (.bl false))
    .nil)
    .nil)
    (.cons (.unp [1, 2, 3, 4] (.var 0))
    (.cons (.ite (.or (.not (.isa (.var 2) .str)) (.cmp .notin (.var 2) (.tup (.cons (.glob 8) (.cons (.glob 7) (.cons (.glob 6) .nil))))))
    (.cons (.ret (.bl false))
    .nil)
    .nil)
    (.cons (.ret (.and (.isa (.var 3) .bool) (.and (.isa (.var 4) .str) (.cmp .in_ (.var 4) (.glob 9)))))
    .nil))))
def d_is_decoder : Df := { name := "is_decoder", N := ["candidate", "longest", "overlong", "surrogates", "policy"], ps := ["candidate"], body := b_is_decoder, st := top 37, qual := "is_decoder", me := none }
def b_check_decoder : Ss :=
    (.cons (.ite (.not (.call 9 (.cons (.var 0) .nil)))
    (.cons (.raise 2)
    .nil)
    .nil)
    .nil)
def d_check_decoder : Df := { name := "check_decoder", N := ["value"], ps := ["value"], body := b_check_decoder, st := top 38, qual := "check_decoder", me := none }
def b_begins : Ss :=
    (.cons (.unp [6, 7, 8, 9] (.var 0))
    (.cons (.set 2 (.call 4 (.cons (.idx (.var 1) (.int 0)) .nil)))
    (.cons (.ite (.or (.not (.chain .le .le (.bi .len (.var 1)) (.var 2) (.var 6))) (.not (.bi .all (.comp (.call 3 (.cons (.var 10) .nil)) (.name 10) (.seq (.slc (.var 1) (.one (.int 1)) .no)) .no))))
    (.cons (.ret (.bl false))
    .nil)
    .nil)
    (.cons (.ite (.and (.cmp .eq (.var 7) (.glob 7)) (.cmp .eq (.var 1) (.slc (.glob 10) .no (.one (.bi .len (.var 1))))))
    (.cons (.ret (.bl true))
    .nil)
    .nil)
    (.cons (.set 3 (.op .sub (.var 2) (.bi .len (.var 1))))
    (.cons (.set 4 (.call 6 (.cons (.op .add (.var 1) (.op .mul (.tup (.cons (.glob 1) .nil)) (.var 3))) .nil)))
    (.cons (.set 5 (.call 6 (.cons (.op .add (.var 1) (.op .mul (.tup (.cons (.glob 2) .nil)) (.var 3))) .nil)))
    (.cons (.set 4 (.bi2 .max (.var 4) (.ite (.cmp .eq (.var 7) (.glob 6)) (.int 0) (.call 8 (.cons (.var 2) .nil)))))
    (.cons (.set 5 (.bi2 .min (.var 5) (.glob 11)))
    (.cons (.ret (.and (.cmp .le (.var 4) (.var 5)) (.or (.var 8) (.or (.cmp .lt (.var 4) (.glob 13)) (.cmp .gt (.var 5) (.glob 12))))))
    .nil))))))))))
def d_begins : Df := { name := "begins", N := ["decoder", "some", "size", "missing", "low", "high", "longest", "overlong", "surrogates", "policy", "byte"], ps := ["decoder", "some"], body := b_begins, st := top 39, qual := "begins", me := none }
def b_check_string : Ss :=
    (.cons (.ite (.not (.call 2 (.cons (.var 0) .nil)))
    (.cons (.raise 5)
    .nil)
    .nil)
    .nil)
def d_check_string : Df := { name := "check_string", N := ["value"], ps := ["value"], body := b_check_string, st := top 41, qual := "check_string", me := none }
def b_good_size : Ss :=
    (.cons (.set 2 (.call 4 (.cons (.idx (.var 1) (.int 0)) .nil)))
    (.cons (.ret (.ite (.and (.chain .lt .le (.int 0) (.var 2) (.bi .len (.var 1))) (.call 11 (.cons (.var 0) (.cons (.slc (.var 1) .no (.one (.var 2))) .nil)))) (.var 2) (.int 0)))
    .nil))
def d_good_size : Df := { name := "good_size", N := ["decoder", "rest", "size"], ps := ["decoder", "rest"], body := b_good_size, st := top 42, qual := "good_size", me := none }
def w_bad_size_0 : Ss :=
    (.cons (.set 3 (.op .add (.var 3) (.int 1)))
    .nil)
def w_bad_size_1 : Ss :=
    (.cons (.set 3 (.op .add (.var 3) (.int 1)))
    .nil)
def b_bad_size : Ss :=
    (.cons (.par (.cons 2 false (.idx (.var 0) (.int 3)) (.cons 3 false (.int 1) .nil)))
    (.cons (.ite (.cmp .eq (.var 2) (.glob 17))
    (.cons (.ret (.bi .len (.var 1)))
    .nil)
    .nil)
    (.cons (.ite (.cmp .eq (.var 2) (.glob 18))
    (.cons (.while_ (.and (.cmp .lt (.var 3) (.bi .len (.var 1))) (.call 11 (.cons (.var 0) (.cons (.slc (.var 1) .no (.one (.op .add (.var 3) (.int 1)))) .nil)))) w_bad_size_0)
    .nil)
    .nil)
    (.cons (.ite (.cmp .eq (.var 2) (.glob 19))
    (.cons (.while_ (.and (.cmp .lt (.var 3) (.bi2 .min (.bi .len (.var 1)) (.call 4 (.cons (.idx (.var 1) (.int 0)) .nil)))) (.call 3 (.cons (.idx (.var 1) (.var 3)) .nil))) w_bad_size_1)
    .nil)
    .nil)
    (.cons (.ret (.var 3))
    .nil)))))
def d_bad_size : Df := { name := "bad_size", N := ["decoder", "rest", "policy", "size"], ps := ["decoder", "rest"], body := b_bad_size, st := top 43, qual := "bad_size", me := none }
def w_find_pieces_0 : Ss :=
    (.cons (.set 4 (.call 38 (.cons (.var 0) (.cons (.slc (.var 1) (.one (.var 3)) .no) .nil))))
    (.cons (.ite (.cmp .gt (.var 4) (.int 0))
    (.cons (.app 2 (.tup (.cons (.var 3) (.cons (.var 4) (.cons (.call 6 (.cons (.slc (.var 1) (.one (.var 3)) (.one (.op .add (.var 3) (.var 4)))) .nil)) .nil)))))
    .nil)
    (.cons (.set 4 (.call 39 (.cons (.var 0) (.cons (.slc (.var 1) (.one (.var 3)) .no) .nil))))
    (.cons (.app 2 (.tup (.cons (.var 3) (.cons (.var 4) (.cons (.glob 15) .nil)))))
    .nil)))
    (.cons (.set 3 (.op .add (.var 3) (.var 4)))
    .nil)))
def b_find_pieces : Ss :=
    (.cons (.par (.cons 2 true (.lst .nil) (.cons 3 false (.int 0) .nil)))
    (.cons (.while_ (.cmp .lt (.var 3) (.bi .len (.var 1))) w_find_pieces_0)
    (.cons (.ret (.own 2))
    .nil)))
def d_find_pieces : Df := { name := "find_pieces", N := ["decoder", "string", "found", "place", "size"], ps := ["decoder", "string"], body := b_find_pieces, st := top 44, qual := "find_pieces", me := none }
def b_bad_items : Ss :=
    (.cons (.ite (.cmp .eq (.var 0) (.glob 20))
    (.cons (.ret (.lst (.cons (.op .sub (.int 0) (.var 1)) .nil)))
    .nil)
    .nil)
    (.cons (.ret (.ite (.or (.cmp .eq (.var 0) (.glob 22)) (.and (.cmp .eq (.var 0) (.glob 21)) (.var 2))) (.lst .nil) (.lst (.cons (.glob 15) .nil))))
    .nil))
def d_bad_items : Df := { name := "bad_items", N := ["policy", "byte", "after_bad"], ps := ["policy", "byte", "after_bad"], body := b_bad_items, st := top 45, qual := "bad_items", me := none }
def w_items_of_0 : Ss :=
    (.cons (.set 3 (.op .add (.var 3) (.ite (.cmp .ne (.var 6) (.glob 15)) (.lst (.cons (.var 6) .nil)) (.call 42 (.cons (.idx (.var 0) (.int 3)) (.cons (.idx (.var 1) (.var 4)) (.cons (.var 2) .nil)))))))
    (.cons (.set 2 (.cmp .eq (.var 6) (.glob 15)))
    .nil))
def b_items_of : Ss :=
    (.cons (.set 3 (.lst .nil))
    (.cons (.for_ (.tup [4, 5, 6]) (.seq (.call 40 (.cons (.var 0) (.cons (.var 1) .nil)))) w_items_of_0)
    (.cons (.ret (.tup (.cons (.var 3) (.cons (.var 2) .nil))))
    .nil)))
def d_items_of : Df := { name := "items_of", N := ["decoder", "string", "after_bad", "found", "first", "size", "value"], ps := ["decoder", "string", "after_bad"], body := b_items_of, st := top 46, qual := "items_of", me := none }
def b_is_open : Ss :=
    (.cons (.ite (.call 11 (.cons (.var 0) (.cons (.var 1) .nil)))
    (.cons (.ret (.cmp .lt (.bi .len (.var 1)) (.call 4 (.cons (.idx (.var 1) (.int 0)) .nil))))
    .nil)
    .nil)
    (.cons (.ite (.or (.cmp .ne (.idx (.var 0) (.int 3)) (.glob 19)) (.cmp .gt (.call 38 (.cons (.var 0) (.cons (.var 1) .nil))) (.int 0)))
    (.cons (.ret (.bl false))
    .nil)
    .nil)
    (.cons (.ret (.and (.cmp .lt (.bi .len (.var 1)) (.call 4 (.cons (.idx (.var 1) (.int 0)) .nil))) (.bi .all (.comp (.call 3 (.cons (.var 2) .nil)) (.name 2) (.seq (.slc (.var 1) (.one (.int 1)) .no)) .no))))
    .nil)))
def d_is_open : Df := { name := "is_open", N := ["decoder", "rest", "byte"], ps := ["decoder", "rest"], body := b_is_open, st := top 48, qual := "is_open", me := none }
def b_Reader___init__ : Ss :=
    (.cons (.ex (.call 10 (.cons (.var 1) .nil)))
    (.cons (.xs (.fset 0 0 (.var 1)))
    (.cons (.xs (.fset 0 1 (.tup .nil)))
    (.cons (.xs (.fset 0 2 (.int 0)))
    (.cons (.xs (.fset 0 3 (.bl false)))
    (.cons (.xs (.fset 0 4 (.bl false)))
    .nil))))))
def d_Reader___init__ : Df := { name := "__init__", N := ["self", "decoder"], ps := ["self", "decoder"], body := b_Reader___init__, st := mtop 49 0, qual := "Reader.__init__", me := some 0 }
def b_Reader_is_stopped : Ss :=
    (.cons (.xs (.ret (.pur (.and (.fld 0 3) (.cmp .eq (.idx (.fld 0 0) (.int 3)) (.glob 17))))))
    .nil)
def d_Reader_is_stopped : Df := { name := "is_stopped", N := ["self"], ps := ["self"], body := b_Reader_is_stopped, st := mtop 49 1, qual := "Reader.is_stopped", me := some 0 }
def b_Reader_take_piece : Ss :=
    (.cons (.set 1 (.call 38 (.cons (.fld 0 0) (.cons (.fld 0 1) .nil))))
    (.cons (.ite (.cmp .gt (.var 1) (.int 0))
    (.cons (.xs (.px [.sl 2, .at_ 0 3] (.cons (.lst (.cons (.call 6 (.cons (.slc (.fld 0 1) .no (.one (.var 1))) .nil)) .nil)) (.cons (.bl false) .nil))))
    .nil)
    (.cons (.set 2 (.call 42 (.cons (.idx (.fld 0 0) (.int 3)) (.cons (.idx (.fld 0 1) (.int 0)) (.cons (.fld 0 3) .nil)))))
    (.cons (.xs (.px [.sl 1, .at_ 0 3] (.cons (.call 39 (.cons (.fld 0 0) (.cons (.fld 0 1) .nil))) (.cons (.bl true) .nil))))
    .nil)))
    (.cons (.xs (.fset 0 1 (.slc (.fld 0 1) (.one (.var 1)) .no)))
    (.cons (.xs (.ret (.pur (.var 2))))
    .nil))))
def d_Reader_take_piece : Df := { name := "take_piece", N := ["self", "size", "found"], ps := ["self"], body := b_Reader_take_piece, st := mtop 49 2, qual := "Reader.take_piece", me := some 0 }
def b_Reader_check_open : Ss :=
    (.cons (.ite (.fld 0 4)
    (.cons (.raise 14)
    .nil)
    .nil)
    .nil)
def d_Reader_check_open : Df := { name := "check_open", N := ["self"], ps := ["self"], body := b_Reader_check_open, st := mtop 49 3, qual := "Reader.check_open", me := some 0 }
def w_Reader_feed_0 : Ss :=
    (.cons (.xs (.set 2 (.op .add (.pur (.var 2)) (.meth 0 0 141 .nil))))
    .nil)
def b_Reader_feed : Ss :=
    (.cons (.ex (.call 37 (.cons (.var 1) .nil)))
    (.cons (.xs (.ex (.meth 0 0 142 .nil)))
    (.cons (.xs (.fset 0 2 (.op .add (.fld 0 2) (.bi .len (.var 1)))))
    (.cons (.xite (.meth 0 0 140 .nil)
    (.cons (.xs (.ret (.pur (.lst .nil))))
    .nil)
    .nil)
    (.cons (.xs (.px [.at_ 0 1, .sl 2] (.cons (.op .add (.fld 0 1) (.var 1)) (.cons (.lst .nil) .nil))))
    (.cons (.while_ (.and (.cmp .ne (.fld 0 1) (.tup .nil)) (.not (.call 91 (.cons (.fld 0 0) (.cons (.fld 0 1) .nil))))) w_Reader_feed_0)
    (.cons (.xs (.ret (.pur (.var 2))))
    .nil)))))))
def d_Reader_feed : Df := { name := "feed", N := ["self", "string", "found"], ps := ["self", "string"], body := b_Reader_feed, st := mtop 49 4, qual := "Reader.feed", me := some 0 }
def b_Reader_finish : Ss :=
    (.cons (.xs (.ex (.meth 0 0 142 .nil)))
    (.cons (.unp [1, 2] (.call 43 (.cons (.fld 0 0) (.cons (.fld 0 1) (.cons (.fld 0 3) .nil)))))
    (.cons (.xs (.px [.at_ 0 1, .at_ 0 4] (.cons (.tup .nil) (.cons (.bl true) .nil))))
    (.cons (.xs (.ret (.pur (.var 1))))
    .nil))))
def d_Reader_finish : Df := { name := "finish", N := ["self", "found", "after_bad"], ps := ["self"], body := b_Reader_finish, st := mtop 49 5, qual := "Reader.finish", me := some 0 }
def b_Reader_pending : Ss :=
    (.cons (.xs (.ret (.pur (.fld 0 1))))
    .nil)
def d_Reader_pending : Df := { name := "pending", N := ["self"], ps := ["self"], body := b_Reader_pending, st := mtop 49 6, qual := "Reader.pending", me := some 0 }
def b_Reader_count : Ss :=
    (.cons (.xs (.ret (.pur (.fld 0 2))))
    .nil)
def d_Reader_count : Df := { name := "count", N := ["self"], ps := ["self"], body := b_Reader_count, st := mtop 49 7, qual := "Reader.count", me := some 0 }
def b_Reader_copy : Ss :=
    (.cons (.ex (.call 90 (.cons (.int 0) .nil)))
    .nil)
def d_Reader_copy : Df := { name := "copy", N := ["self"], ps := ["self"], body := b_Reader_copy, st := mtop 49 8, qual := "Reader.copy", me := some 0 }
def w__law_drawn_0 : Ss :=
    (.cons (.set 5 (.op .fdiv (.var 5) (.int 1000000)))
    (.cons (.set 4 (.op .sub (.var 4) (.int 1)))
    .nil))
def b__law_drawn : Ss :=
    (.cons (.set 3 (.op .mul (.int 7) (.var 1)))
    (.cons (.ite (.cmp .ne (.var 0) (.lst .nil))
    (.cons (.set 3 (.idx (.var 0) (.op .mod (.var 1) (.bi .len (.var 0)))))
    (.cons (.set 4 (.op .fdiv (.var 1) (.bi .len (.var 0))))
    (.cons (.ite (.and (.cmp .ge (.var 3) (.op .pow (.int 10) (.int 18))) (.cmp .lt (.var 4) (.int 60)))
    (.cons (.set 5 (.op .fdiv (.var 3) (.op .pow (.int 10) (.int 18))))
    (.cons (.while_ (.and (.cmp .gt (.var 5) (.int 0)) (.cmp .gt (.var 4) (.int 0))) w__law_drawn_0)
    (.cons (.ite (.cmp .gt (.var 5) (.int 0))
    (.cons (.ret (.op .mod (.op .mod (.var 5) (.int 1000000)) (.var 2)))
    .nil)
    .nil)
    .nil)))
    .nil)
    (.cons (.set 3 (.op .add (.var 3) (.op .mul (.int 6553) (.op .fdiv (.var 1) (.bi .len (.var 0))))))
    .nil))))
    .nil)
    (.cons (.set 3 (.op .mod (.op .add (.op .mul (.op .mod (.var 3) (.int 2147483563)) (.int 69069)) (.op .mul (.int 104723) (.op .add (.var 1) (.int 1)))) (.int 2147483563)))
    (.cons (.set 3 (.op .mod (.op .add (.op .mul (.var 3) (.var 3)) (.op .fdiv (.var 3) (.int 3))) (.int 2147483399)))
    (.cons (.ret (.op .mod (.op .fdiv (.op .mod (.op .add (.op .mul (.var 3) (.var 3)) (.op .fdiv (.var 3) (.int 7))) (.int 2147483647)) (.int 11)) (.var 2)))
    .nil)))))
def d__law_drawn : Df := { name := "_law_drawn", N := ["_law_script", "_law_k", "_law_many", "_law_cell", "_law_turn", "_law_rest"], ps := ["_law_script", "_law_k", "_law_many"], body := b__law_drawn, st := top 51, qual := "_law_drawn", me := none }
def b__law_decoder : Ss :=
    (.cons (.set 2 (.idx (.lst (.cons (.int 4) (.cons (.int 3) (.cons (.int 2) (.cons (.int 4) (.cons (.int 1) (.cons (.int 3) .nil))))))) (.call 19 (.cons (.var 0) (.cons (.var 1) (.cons (.int 6) .nil))))))
    (.cons (.set 3 (.idx (.lst (.cons (.str "none") (.cons (.str "all") (.cons (.str "zero") .nil)))) (.call 19 (.cons (.var 0) (.cons (.op .add (.var 1) (.int 1)) (.cons (.int 3) .nil))))))
    (.cons (.set 4 (.idx (.lst (.cons (.str "prefix") (.cons (.str "byte") (.cons (.str "announced") (.cons (.str "run") (.cons (.str "skip") (.cons (.str "keep") (.cons (.str "stop") .nil)))))))) (.call 19 (.cons (.var 0) (.cons (.op .add (.var 1) (.int 3)) (.cons (.int 7) .nil))))))
    (.cons (.ret (.tup (.cons (.var 2) (.cons (.var 3) (.cons (.cmp .eq (.call 19 (.cons (.var 0) (.cons (.op .add (.var 1) (.int 2)) (.cons (.int 2) .nil)))) (.int 1)) (.cons (.var 4) .nil))))))
    .nil))))
def d__law_decoder : Df := { name := "_law_decoder", N := ["_law_script", "_law_at", "_law_longest", "_law_overlong", "_law_policy"], ps := ["_law_script", "_law_at"], body := b__law_decoder, st := top 52, qual := "_law_decoder", me := none }
def b__law_chunks : Ss :=
    (.cons (.set 0 (.lst (.cons (.tup (.cons (.int 65) .nil)) (.cons (.tup (.cons (.int 128) .nil)) (.cons (.tup (.cons (.int 191) .nil)) (.cons (.tup (.cons (.int 192) (.cons (.int 128) .nil))) (.cons (.tup (.cons (.int 192) (.cons (.int 175) .nil))) (.cons (.tup (.cons (.int 193) .nil)) (.cons (.tup (.cons (.int 194) .nil)) (.cons (.tup (.cons (.int 194) (.cons (.int 128) .nil))) .nil))))))))))
    (.cons (.set 0 (.op .add (.var 0) (.lst (.cons (.tup (.cons (.int 223) (.cons (.int 191) .nil))) (.cons (.tup (.cons (.int 224) .nil)) (.cons (.tup (.cons (.int 47) .nil)) .nil))))))
    (.cons (.set 0 (.op .add (.var 0) (.lst (.cons (.tup (.cons (.int 224) (.cons (.int 128) (.cons (.int 175) .nil)))) (.cons (.tup (.cons (.int 224) (.cons (.int 160) (.cons (.int 128) .nil)))) (.cons (.tup (.cons (.int 225) (.cons (.int 128) .nil))) (.cons (.tup (.cons (.int 237) (.cons (.int 160) (.cons (.int 128) .nil)))) (.cons (.tup (.cons (.int 237) (.cons (.int 159) (.cons (.int 191) .nil)))) .nil))))))))
    (.cons (.set 0 (.op .add (.var 0) (.lst (.cons (.tup (.cons (.int 239) (.cons (.int 191) (.cons (.int 189) .nil)))) .nil))))
    (.cons (.set 0 (.op .add (.var 0) (.lst (.cons (.tup (.cons (.int 240) .nil)) (.cons (.tup (.cons (.int 240) (.cons (.int 128) (.cons (.int 128) (.cons (.int 175) .nil))))) (.cons (.tup (.cons (.int 240) (.cons (.int 141) (.cons (.int 160) (.cons (.int 128) .nil))))) (.cons (.tup (.cons (.int 240) (.cons (.int 144) (.cons (.int 128) .nil)))) .nil)))))))
    (.cons (.set 0 (.op .add (.var 0) (.lst (.cons (.tup (.cons (.int 240) (.cons (.int 144) (.cons (.int 128) (.cons (.int 128) .nil))))) .nil))))
    (.cons (.ret (.op .add (.var 0) (.lst (.cons (.tup (.cons (.int 244) (.cons (.int 143) (.cons (.int 191) (.cons (.int 191) .nil))))) (.cons (.tup (.cons (.int 244) (.cons (.int 144) (.cons (.int 128) (.cons (.int 128) .nil))))) (.cons (.tup (.cons (.int 245) .nil)) (.cons (.tup (.cons (.int 247) (.cons (.int 191) (.cons (.int 191) (.cons (.int 191) .nil))))) (.cons (.tup (.cons (.int 255) .nil)) (.cons (.tup (.cons (.int 248) (.cons (.int 128) .nil))) .nil)))))))))
    .nil)))))))
def d__law_chunks : Df := { name := "_law_chunks", N := ["_law_found"], ps := [], body := b__law_chunks, st := top 53, qual := "_law_chunks", me := none }
def w__law_string_0 : Ss :=
    (.cons (.set 4 (.op .add (.var 4) (.idx (.var 5) (.call 19 (.cons (.var 0) (.cons (.op .add (.op .add (.var 1) (.int 1)) (.var 3)) (.cons (.bi .len (.var 5)) .nil)))))))
    .nil)
def b__law_string : Ss :=
    (.cons (.par (.cons 4 false (.tup .nil) (.cons 5 false (.call 21 .nil) .nil)))
    (.cons (.for_ (.name 3) (.range1 (.call 19 (.cons (.var 0) (.cons (.var 1) (.cons (.op .add (.var 2) (.int 1)) .nil))))) w__law_string_0)
    (.cons (.ret (.var 4))
    .nil)))
def d__law_string : Df := { name := "_law_string", N := ["_law_script", "_law_at", "_law_most", "_law_k", "_law_found", "_law_chunks_here"], ps := ["_law_script", "_law_at", "_law_most"], body := b__law_string, st := top 54, qual := "_law_string", me := none }
def b__law_announced : Ss :=
    (.cons (.ite (.cmp .lt (.var 0) (.int 128))
    (.cons (.ret (.int 1))
    .nil)
    .nil)
    (.cons (.ret (.ite (.chain .lt .lt (.int 191) (.var 0) (.int 224)) (.int 2) (.ite (.chain .lt .lt (.int 223) (.var 0) (.int 240)) (.int 3) (.ite (.chain .lt .lt (.int 239) (.var 0) (.int 248)) (.int 4) (.int 0)))))
    .nil))
def d__law_announced : Df := { name := "_law_announced", N := ["_law_byte"], ps := ["_law_byte"], body := b__law_announced, st := top 55, qual := "_law_announced", me := none }
def w__law_value_0 : Ss :=
    (.cons (.set 1 (.op .sub (.op .add (.op .mul (.int 64) (.var 1)) (.var 2)) (.int 128)))
    .nil)
def b__law_value : Ss :=
    (.cons (.set 1 (.op .sub (.idx (.var 0) (.int 0)) (.idx (.lst (.cons (.int 0) (.cons (.int 0) (.cons (.int 192) (.cons (.int 224) (.cons (.int 240) .nil)))))) (.bi .len (.var 0)))))
    (.cons (.for_ (.name 2) (.seq (.slc (.var 0) (.one (.int 1)) .no)) w__law_value_0)
    (.cons (.ret (.var 1))
    .nil)))
def d__law_value : Df := { name := "_law_value", N := ["_law_row", "_law_found", "_law_byte"], ps := ["_law_row"], body := b__law_value, st := top 56, qual := "_law_value", me := none }
def b__law_valid : Ss :=
    (.cons (.unp [3, 4, 5, 6] (.var 0))
    (.cons (.ite (.or (.cmp .eq (.var 1) (.tup .nil)) (.or (.cmp .ne (.call 23 (.cons (.idx (.var 1) (.int 0)) .nil)) (.bi .len (.var 1))) (.cmp .gt (.bi .len (.var 1)) (.var 3))))
    (.cons (.ret (.bl false))
    .nil)
    .nil)
    (.cons (.ite (.cmp .ne (.comp (.var 7) (.name 7) (.seq (.slc (.var 1) (.one (.int 1)) .no)) (.one (.not (.chain .lt .lt (.int 127) (.var 7) (.int 192))))) (.lst .nil))
    (.cons (.ret (.bl false))
    .nil)
    .nil)
    (.cons (.set 2 (.call 24 (.cons (.var 1) .nil)))
    (.cons (.ite (.or (.cmp .gt (.var 2) (.int 1114111)) (.and (.chain .lt .lt (.int 55295) (.var 2) (.int 57344)) (.not (.var 5))))
    (.cons (.ret (.bl false))
    .nil)
    .nil)
    (.cons (.ite (.or (.cmp .eq (.var 4) (.str "all")) (.and (.cmp .eq (.var 4) (.str "zero")) (.cmp .eq (.var 1) (.tup (.cons (.int 192) (.cons (.int 128) .nil))))))
    (.cons (.ret (.bl true))
    .nil)
    .nil)
    (.cons (.ret (.cmp .ge (.var 2) (.idx (.lst (.cons (.int 0) (.cons (.int 0) (.cons (.int 128) (.cons (.int 2048) (.cons (.int 65536) .nil)))))) (.bi .len (.var 1)))))
    .nil)))))))
def d__law_valid : Df := { name := "_law_valid", N := ["_law_decoder_here", "_law_row", "_law_value_here", "_law_longest", "_law_overlong", "_law_surrogates", "_law_policy", "_law_byte"], ps := ["_law_decoder_here", "_law_row"], body := b__law_valid, st := top 57, qual := "_law_valid", me := none }
def w__law_begins_0 : Ss :=
    (.cons (.ite (.call 25 (.cons (.var 0) (.cons (.op .add (.op .add (.var 1) (.tup (.cons (.var 3) .nil))) (.op .mul (.tup (.cons (.int 128) .nil)) (.op .sub (.var 2) (.int 1)))) .nil)))
    (.cons (.ret (.bl true))
    .nil)
    .nil)
    .nil)
def b__law_begins : Ss :=
    (.cons (.set 2 (.op .sub (.call 23 (.cons (.idx (.var 1) (.int 0)) .nil)) (.bi .len (.var 1))))
    (.cons (.ite (.cmp .le (.var 2) (.int 0))
    (.cons (.ret (.and (.cmp .eq (.var 2) (.int 0)) (.call 25 (.cons (.var 0) (.cons (.var 1) .nil)))))
    .nil)
    .nil)
    (.cons (.for_ (.name 3) (.seq (.tup (.cons (.int 128) (.cons (.int 144) (.cons (.int 160) .nil))))) w__law_begins_0)
    (.cons (.ret (.bl false))
    .nil))))
def d__law_begins : Df := { name := "_law_begins", N := ["_law_decoder_here", "_law_some", "_law_missing", "_law_byte"], ps := ["_law_decoder_here", "_law_some"], body := b__law_begins, st := top 58, qual := "_law_begins", me := none }
def w__law_size_0 : Ss :=
    (.cons (.ite (.call 25 (.cons (.var 0) (.cons (.slc (.var 1) .no (.one (.var 2))) .nil)))
    (.cons (.ret (.tup (.cons (.var 2) (.cons (.call 24 (.cons (.slc (.var 1) .no (.one (.var 2))) .nil)) .nil))))
    .nil)
    .nil)
    .nil)
def w__law_size_1 : Ss :=
    (.cons (.set 2 (.op .add (.var 2) (.int 1)))
    .nil)
def w__law_size_2 : Ss :=
    (.cons (.set 2 (.op .add (.var 2) (.int 1)))
    .nil)
def b__law_size : Ss :=
    (.cons (.for_ (.name 2) (.range2 (.int 1) (.int 5)) w__law_size_0)
    (.cons (.par (.cons 3 false (.idx (.var 0) (.int 3)) (.cons 2 false (.int 1) .nil)))
    (.cons (.ite (.cmp .eq (.var 3) (.str "stop"))
    (.cons (.ret (.tup (.cons (.bi .len (.var 1)) (.cons (.neg (.int 1)) .nil))))
    .nil)
    .nil)
    (.cons (.ite (.cmp .eq (.var 3) (.str "prefix"))
    (.cons (.while_ (.and (.cmp .lt (.var 2) (.bi .len (.var 1))) (.call 26 (.cons (.var 0) (.cons (.slc (.var 1) .no (.one (.op .add (.var 2) (.int 1)))) .nil)))) w__law_size_1)
    .nil)
    .nil)
    (.cons (.ite (.cmp .eq (.var 3) (.str "announced"))
    (.cons (.while_ (.and (.cmp .lt (.var 2) (.bi2 .min (.bi .len (.var 1)) (.call 23 (.cons (.idx (.var 1) (.int 0)) .nil)))) (.chain .lt .lt (.int 127) (.idx (.var 1) (.var 2)) (.int 192))) w__law_size_2)
    .nil)
    .nil)
    (.cons (.ret (.tup (.cons (.var 2) (.cons (.neg (.int 1)) .nil))))
    .nil))))))
def d__law_size : Df := { name := "_law_size", N := ["_law_decoder_here", "_law_rest", "_law_size_here", "_law_policy"], ps := ["_law_decoder_here", "_law_rest"], body := b__law_size, st := top 59, qual := "_law_size", me := none }
def w__law_pieces_0 : Ss :=
    (.cons (.unp [4, 5] (.call 89 (.cons (.var 0) (.cons (.slc (.var 1) (.one (.var 3)) .no) .nil))))
    (.cons (.app 2 (.tup (.cons (.var 3) (.cons (.var 4) (.cons (.var 5) .nil)))))
    (.cons (.set 3 (.op .add (.var 3) (.var 4)))
    .nil)))
def b__law_pieces : Ss :=
    (.cons (.par (.cons 2 true (.lst .nil) (.cons 3 false (.int 0) .nil)))
    (.cons (.while_ (.cmp .lt (.var 3) (.bi .len (.var 1))) w__law_pieces_0)
    (.cons (.ret (.own 2))
    .nil)))
def d__law_pieces : Df := { name := "_law_pieces", N := ["_law_decoder_here", "_law_string_here", "_law_found", "_law_place", "_law_size_here", "_law_value_here"], ps := ["_law_decoder_here", "_law_string_here"], body := b__law_pieces, st := top 60, qual := "_law_pieces", me := none }
def w__law_items_0 : Ss :=
    (.cons (.ite (.cmp .ge (.var 6) (.int 0))
    (.cons (.app 2 (.var 6))
    .nil)
    (.cons (.ite (.cmp .eq (.idx (.var 0) (.int 3)) (.str "keep"))
    (.cons (.app 2 (.op .sub (.int 0) (.idx (.var 1) (.var 4))))
    .nil)
    (.cons (.ite (.and (.cmp .ne (.idx (.var 0) (.int 3)) (.str "skip")) (.or (.cmp .ne (.idx (.var 0) (.int 3)) (.str "run")) (.cmp .ge (.var 3) (.int 0))))
    (.cons (.app 2 (.neg (.int 1)))
    .nil)
    .nil)
    .nil))
    .nil))
    (.cons (.set 3 (.var 6))
    .nil))
def b__law_items : Ss :=
    (.cons (.par (.cons 2 true (.lst .nil) (.cons 3 false (.int 0) .nil)))
    (.cons (.for_ (.tup [4, 5, 6]) (.seq (.call 56 (.cons (.var 0) (.cons (.var 1) .nil)))) w__law_items_0)
    (.cons (.ret (.own 2))
    .nil)))
def d__law_items : Df := { name := "_law_items", N := ["_law_decoder_here", "_law_string_here", "_law_found", "_law_before", "_law_place", "_law_size_here", "_law_value_here"], ps := ["_law_decoder_here", "_law_string_here"], body := b__law_items, st := top 61, qual := "_law_items", me := none }
def b__law_error : Ss :=
    (.cons (.try_ (.cons (.ite (.cmp .eq (.var 0) (.int 0))
    (.cons (.xs (.mkx 0 139 (.cons (.var 1) .nil)))
    .nil)
    (.cons (.ite (.cmp .eq (.var 0) (.int 1))
    (.cons (.xs (.ex (.meth 1 0 143 (.cons (.var 2) .nil))))
    .nil)
    (.cons (.xs (.ex (.meth 1 0 144 .nil)))
    .nil))
    .nil))
    .nil) 0 (some 3)
    (.cons (.xs (.ret (.pur (.mth .index (.lst (.cons (.isx 3 2) (.cons (.isx 3 5) (.cons (.isx 3 14) .nil)))) (.bl true)))))
    .nil))
    (.cons (.xs (.ret (.pur .non)))
    .nil))
def d__law_error : Df := { name := "_law_error", N := ["_law_way", "_law_one", "_law_two", "e"], ps := ["_law_way", "_law_one", "_law_two"], body := b__law_error, st := top 62, qual := "_law_error", me := none }
def dO__law_error : Df := { d__law_error with me := some 1 }
def w__law_open_0 : Ss :=
    (.cons (.unp [5, 6] (.call 89 (.cons (.var 0) (.cons (.op .add (.var 1) (.var 4)) .nil))))
    (.cons (.ite (.or (.cmp .ne (.var 6) (.idx (.var 2) (.int 1))) (.and (.cmp .ne (.var 5) (.idx (.var 2) (.int 0))) (.cmp .ne (.idx (.var 0) (.int 3)) (.str "stop"))))
    (.cons (.ret (.bl true))
    .nil)
    .nil)
    .nil))
def w__law_open_1 : Ss :=
    (.cons (.for_ (.name 4) (.seq (.tup (.cons (.tup (.cons (.var 3) .nil)) (.cons (.tup (.cons (.var 3) (.cons (.int 128) .nil))) (.cons (.tup (.cons (.var 3) (.cons (.int 128) (.cons (.int 128) .nil)))) .nil))))) w__law_open_0)
    .nil)
def b__law_open : Ss :=
    (.cons (.set 2 (.call 89 (.cons (.var 0) (.cons (.var 1) .nil))))
    (.cons (.for_ (.name 3) (.seq (.tup (.cons (.int 0) (.cons (.int 128) (.cons (.int 144) (.cons (.int 160) .nil)))))) w__law_open_1)
    (.cons (.ret (.bl false))
    .nil)))
def d__law_open : Df := { name := "_law_open", N := ["_law_decoder_here", "_law_rest", "_law_first", "_law_byte", "_law_more", "_law_size_here", "_law_value_here"], ps := ["_law_decoder_here", "_law_rest"], body := b__law_open, st := top 63, qual := "_law_open", me := none }
def w__law_known_0 : Ss :=
    (.cons (.unp [6, 7] (.call 89 (.cons (.var 0) (.cons (.slc (.var 1) (.one (.var 3)) .no) .nil))))
    (.cons (.set 5 (.call 57 (.cons (.var 0) (.cons (.slc (.var 1) (.one (.var 3)) (.one (.op .add (.var 3) (.var 6)))) .nil))))
    (.cons (.ite (.or (.cmp .ge (.var 7) (.int 0)) (.or (.cmp .ge (.var 4) (.int 0)) (.cmp .ne (.idx (.var 0) (.int 3)) (.str "run"))))
    (.cons (.set 2 (.op .add (.var 2) (.var 5)))
    .nil)
    .nil)
    (.cons (.par (.cons 3 false (.op .add (.var 3) (.var 6)) (.cons 4 false (.var 7) .nil)))
    .nil))))
def b__law_known : Ss :=
    (.cons (.par (.cons 2 false (.lst .nil) (.cons 3 false (.int 0) (.cons 4 false (.int 0) .nil))))
    (.cons (.while_ (.and (.cmp .lt (.var 3) (.bi .len (.var 1))) (.not (.call 92 (.cons (.var 0) (.cons (.slc (.var 1) (.one (.var 3)) .no) .nil))))) w__law_known_0)
    (.cons (.ret (.tup (.cons (.var 2) (.cons (.op .sub (.bi .len (.var 1)) (.var 3)) .nil))))
    .nil)))
def d__law_known : Df := { name := "_law_known", N := ["_law_decoder_here", "_law_string_here", "_law_found", "_law_place", "_law_before", "_law_items_here", "_law_size_here", "_law_value_here"], ps := ["_law_decoder_here", "_law_string_here"], body := b__law_known, st := top 64, qual := "_law_known", me := none }
def w_law_0 : Ss :=
    (.cons (.set 9 (.call 19 (.cons (.var 0) (.cons (.op .add (.int 30) (.var 8)) (.cons (.int 4) .nil)))))
    (.cons (.xs (.set 2 (.op .add (.pur (.var 2)) (.meth 7 0 143 (.cons (.slc (.var 6) (.one (.var 8)) (.one (.op .add (.var 8) (.var 9)))) .nil)))))
    (.cons (.set 8 (.bi2 .min (.op .add (.op .add (.var 8) (.var 9)) (.ite (.cmp .gt (.var 9) (.int 0)) (.int 0) (.int 1))) (.bi .len (.var 6))))
    (.cons (.ite (.cmp .eq (.var 9) (.int 0))
    (.cons (.xs (.set 2 (.op .add (.pur (.var 2)) (.meth 7 0 143 (.cons (.slc (.var 6) (.one (.op .sub (.var 8) (.int 1))) (.one (.var 8))) .nil)))))
    .nil)
    .nil)
    (.cons (.unp [10, 11] (.call 93 (.cons (.var 5) (.cons (.slc (.var 6) .no (.one (.var 8))) .nil))))
    (.cons (.xite (.or (.pur (.cmp .ne (.var 2) (.var 10))) (.cmp .ne (.meth 7 0 146 .nil) (.pur (.var 8))))
    (.cons (.ret (.bl false))
    .nil)
    .nil)
    (.cons (.xite (.cmp .ne (.meth 7 0 145 .nil) (.pur (.slc (.var 6) (.one (.op .sub (.var 8) (.var 11))) (.one (.var 8)))))
    (.cons (.ret (.bl false))
    .nil)
    .nil)
    (.cons (.xite (.or (.cmp .ne (.callo 148 1 7 (.cons (.int 1) (.cons (.var 1) .nil))) (.pur (.int 1))) (.cmp .ne (.meth 7 0 146 .nil) (.pur (.var 8))))
    (.cons (.ret (.bl false))
    .nil)
    .nil)
    .nil))))))))
def b_law : Ss :=
    (.cons (.par (.cons 5 false (.call 20 (.cons (.var 0) (.cons (.int 1) .nil))) (.cons 6 false (.call 22 (.cons (.var 0) (.cons (.int 10) (.cons (.int 6) .nil)))) .nil)))
    (.cons (.set 1 (.idx (.lst (.cons .non (.cons (.str "a") (.cons (.lst (.cons (.int 65) .nil)) (.cons (.tup (.cons (.int 256) .nil)) (.cons (.tup (.cons (.neg (.int 1)) .nil)) (.cons (.tup (.cons (.bl true) .nil)) (.cons (.op .mul (.tup (.cons (.int 0) .nil)) (.int 61)) .nil)))))))) (.call 19 (.cons (.var 0) (.cons (.int 7) (.cons (.int 7) .nil))))))
    (.cons (.par (.mk 7 0 139 (.cons (.var 5) .nil) (.cons 8 false (.int 0) (.cons 2 false (.lst .nil) .nil))))
    (.cons (.while_ (.cmp .lt (.var 8) (.bi .len (.var 6))) w_law_0)
    (.cons (.xs (.set 2 (.op .add (.pur (.var 2)) (.meth 7 0 144 .nil))))
    (.cons (.xite (.or (.pur (.cmp .ne (.var 2) (.call 57 (.cons (.var 5) (.cons (.var 6) .nil))))) (.cmp .ne (.meth 7 0 145 .nil) (.pur (.tup .nil))))
    (.cons (.ret (.bl false))
    .nil)
    .nil)
    (.cons (.xite (.cmp .ne (.meth 7 0 146 .nil) (.pur (.bi .len (.var 6))))
    (.cons (.ret (.bl false))
    .nil)
    .nil)
    (.cons (.set 3 (.lst (.cons .non (.cons (.tup .nil) (.cons (.slc (.var 5) .no (.one (.int 3))) (.cons (.bi .list (.var 5)) (.cons (.op .add (.tup (.cons (.int 5) .nil)) (.slc (.var 5) (.one (.int 1)) .no)) .nil)))))))
    (.cons (.set 3 (.idx (.op .add (.var 3) (.lst (.cons (.op .add (.slc (.var 5) .no (.one (.int 3))) (.tup (.cons (.str "drop") .nil))) .nil))) (.call 19 (.cons (.var 0) (.cons (.int 8) (.cons (.int 6) .nil))))))
    (.cons (.xs (.set 4 (.lst (.cons (.callo 148 1 7 (.cons (.int 1) (.cons (.var 1) .nil))) (.cons (.callo 148 1 7 (.cons (.int 1) (.cons (.tup (.cons (.int 65) .nil)) .nil))) (.cons (.callo 148 1 7 (.cons (.int 2) (.cons (.int 0) .nil))) .nil))))))
    (.cons (.set 4 (.op .add (.var 4) (.lst (.cons (.call 27 (.cons (.int 0) (.cons (.var 3) (.cons (.int 0) .nil)))) .nil))))
    (.cons (.xs (.ret (.and (.pur (.cmp .eq (.var 4) (.lst (.cons (.int 1) (.cons (.int 2) (.cons (.int 2) (.cons (.int 0) .nil))))))) (.cmp .eq (.meth 7 0 146 .nil) (.pur (.bi .len (.var 6)))))))
    .nil))))))))))))
def d_law : Df := { name := "law", N := ["_law_script", "_law_odd", "_law_told", "_law_bad", "_law_more", "_law_decoder_here", "_law_string_here", "_law_reader", "_law_place", "_law_size_here", "_law_due", "_law_rest"], ps := ["_law_script"], body := b_law, st := top 65, qual := "law", me := none }
def tx : Tx where
  cs := [(0, ("MAX_STRING", (.int 60))), (1, ("FIRST_CONTINUATION", (.int 128))), (2, ("LAST_CONTINUATION", (.int 191))), (3, ("LEADS", (.tuple [(.int 0), (.int 0), (.int 192), (.int 224), (.int 240), (.int 248)]))), (4, ("STEP", (.int 64))), (5, ("LIMITS", (.tuple [(.int 0), (.int 128), (.int 2048), (.int 65536), (.int 2097152)]))), (6, ("ALL", (.str "all"))), (7, ("ZERO", (.str "zero"))), (8, ("NONE", (.str "none"))), (9, ("POLICIES", (.tuple [(.str "stop"), (.str "byte"), (.str "prefix"), (.str "announced"), (.str "run"), (.str "skip"), (.str "keep")]))), (10, ("ZERO_BYTES", (.tuple [(.int 192), (.int 128)]))), (11, ("MAX_CODE", (.int 1114111))), (12, ("LAST_SURROGATE", (.int 57343))), (13, ("FIRST_SURROGATE", (.int 55296))), (15, ("REPLACEMENT", (.int (-1)))), (17, ("STOP", (.str "stop"))), (18, ("PREFIX", (.str "prefix"))), (19, ("ANNOUNCED", (.str "announced"))), (20, ("KEEP", (.str "keep"))), (21, ("RUN", (.str "run"))), (22, ("SKIP", (.str "skip")))]
  fs := [(90, d__wall), (0, d_is_int), (1, d_is_byte), (2, d_is_string), (3, d_is_continuation), (4, d_announced), (6, d_value_from), (8, d_least_value), (9, d_is_decoder), (10, d_check_decoder), (11, d_begins), (37, d_check_string), (38, d_good_size), (39, d_bad_size), (40, d_find_pieces), (42, d_bad_items), (43, d_items_of), (91, d_is_open), (19, d__law_drawn), (20, d__law_decoder), (21, d__law_chunks), (22, d__law_string), (23, d__law_announced), (24, d__law_value), (25, d__law_valid), (26, d__law_begins), (89, d__law_size), (56, d__law_pieces), (57, d__law_items), (27, d__law_error), (92, d__law_open), (93, d__law_known), (29, d_law)]
  cl := [(0, "DecodingError"), (2, "InvalidDecoder"), (5, "InvalidString"), (14, "Closed")]
  bl := ["all", "bool", "int", "isinstance", "len", "list", "max", "min", "range", "str", "tuple"]
  base := "DecodingError"
  ms := [(139, (0, d_Reader___init__)), (140, (0, d_Reader_is_stopped)), (141, (0, d_Reader_take_piece)), (142, (0, d_Reader_check_open)), (143, (0, d_Reader_feed)), (144, (0, d_Reader_finish)), (145, (0, d_Reader_pending)), (146, (0, d_Reader_count)), (147, (0, d_Reader_copy))]
  oc := [0]
  os := [(148, (1, dO__law_error))]
theorem C_MAX_STRING : tx.C 0 = (.int 60) := rfl
theorem C_FIRST_CONTINUATION : tx.C 1 = (.int 128) := rfl
theorem C_LAST_CONTINUATION : tx.C 2 = (.int 191) := rfl
theorem C_LEADS : tx.C 3 = (.tuple [(.int 0), (.int 0), (.int 192), (.int 224), (.int 240), (.int 248)]) := rfl
theorem C_STEP : tx.C 4 = (.int 64) := rfl
theorem C_LIMITS : tx.C 5 = (.tuple [(.int 0), (.int 128), (.int 2048), (.int 65536), (.int 2097152)]) := rfl
theorem C_ALL : tx.C 6 = (.str "all") := rfl
theorem C_ZERO : tx.C 7 = (.str "zero") := rfl
theorem C_NONE : tx.C 8 = (.str "none") := rfl
theorem C_POLICIES : tx.C 9 = (.tuple [(.str "stop"), (.str "byte"), (.str "prefix"), (.str "announced"), (.str "run"), (.str "skip"), (.str "keep")]) := rfl
theorem C_ZERO_BYTES : tx.C 10 = (.tuple [(.int 192), (.int 128)]) := rfl
theorem C_MAX_CODE : tx.C 11 = (.int 1114111) := rfl
theorem C_LAST_SURROGATE : tx.C 12 = (.int 57343) := rfl
theorem C_FIRST_SURROGATE : tx.C 13 = (.int 55296) := rfl
theorem C_REPLACEMENT : tx.C 15 = (.int (-1)) := rfl
theorem C_STOP : tx.C 17 = (.str "stop") := rfl
theorem C_PREFIX : tx.C 18 = (.str "prefix") := rfl
theorem C_ANNOUNCED : tx.C 19 = (.str "announced") := rfl
theorem C_KEEP : tx.C 20 = (.str "keep") := rfl
theorem C_RUN : tx.C 21 = (.str "run") := rfl
theorem C_SKIP : tx.C 22 = (.str "skip") := rfl
abbrev G (k : Nat) : Nat → List D → Rs D := Gk tx.fs tx.obs tx.C k
theorem g__wall (k : Nat) (ds : List D) : G (k + 1) 90 ds = evD tx.C (G k) 1 b__wall ds := rfl
theorem g_is_int (k : Nat) (ds : List D) : G (k + 1) 0 ds = evD tx.C (G k) 3 b_is_int ds := rfl
theorem g_is_byte (k : Nat) (ds : List D) : G (k + 1) 1 ds = evD tx.C (G k) 1 b_is_byte ds := rfl
theorem g_is_string (k : Nat) (ds : List D) : G (k + 1) 2 ds = evD tx.C (G k) 2 b_is_string ds := rfl
theorem g_is_continuation (k : Nat) (ds : List D) : G (k + 1) 3 ds = evD tx.C (G k) 1 b_is_continuation ds := rfl
theorem g_announced (k : Nat) (ds : List D) : G (k + 1) 4 ds = evD tx.C (G k) 3 b_announced ds := rfl
theorem g_value_from (k : Nat) (ds : List D) : G (k + 1) 6 ds = evD tx.C (G k) 3 b_value_from ds := rfl
theorem g_least_value (k : Nat) (ds : List D) : G (k + 1) 8 ds = evD tx.C (G k) 1 b_least_value ds := rfl
theorem g_is_decoder (k : Nat) (ds : List D) : G (k + 1) 9 ds = evD tx.C (G k) 5 b_is_decoder ds := rfl
theorem g_check_decoder (k : Nat) (ds : List D) : G (k + 1) 10 ds = evD tx.C (G k) 1 b_check_decoder ds := rfl
theorem g_begins (k : Nat) (ds : List D) : G (k + 1) 11 ds = evD tx.C (G k) 11 b_begins ds := rfl
theorem g_check_string (k : Nat) (ds : List D) : G (k + 1) 37 ds = evD tx.C (G k) 1 b_check_string ds := rfl
theorem g_good_size (k : Nat) (ds : List D) : G (k + 1) 38 ds = evD tx.C (G k) 3 b_good_size ds := rfl
theorem g_bad_size (k : Nat) (ds : List D) : G (k + 1) 39 ds = evD tx.C (G k) 4 b_bad_size ds := rfl
theorem g_find_pieces (k : Nat) (ds : List D) : G (k + 1) 40 ds = evD tx.C (G k) 5 b_find_pieces ds := rfl
theorem g_bad_items (k : Nat) (ds : List D) : G (k + 1) 42 ds = evD tx.C (G k) 3 b_bad_items ds := rfl
theorem g_items_of (k : Nat) (ds : List D) : G (k + 1) 43 ds = evD tx.C (G k) 7 b_items_of ds := rfl
theorem g_is_open (k : Nat) (ds : List D) : G (k + 1) 91 ds = evD tx.C (G k) 3 b_is_open ds := rfl
theorem g__law_drawn (k : Nat) (ds : List D) : G (k + 1) 19 ds = evD tx.C (G k) 6 b__law_drawn ds := rfl
theorem g__law_decoder (k : Nat) (ds : List D) : G (k + 1) 20 ds = evD tx.C (G k) 5 b__law_decoder ds := rfl
theorem g__law_chunks (k : Nat) (ds : List D) : G (k + 1) 21 ds = evD tx.C (G k) 1 b__law_chunks ds := rfl
theorem g__law_string (k : Nat) (ds : List D) : G (k + 1) 22 ds = evD tx.C (G k) 6 b__law_string ds := rfl
theorem g__law_announced (k : Nat) (ds : List D) : G (k + 1) 23 ds = evD tx.C (G k) 1 b__law_announced ds := rfl
theorem g__law_value (k : Nat) (ds : List D) : G (k + 1) 24 ds = evD tx.C (G k) 3 b__law_value ds := rfl
theorem g__law_valid (k : Nat) (ds : List D) : G (k + 1) 25 ds = evD tx.C (G k) 8 b__law_valid ds := rfl
theorem g__law_begins (k : Nat) (ds : List D) : G (k + 1) 26 ds = evD tx.C (G k) 4 b__law_begins ds := rfl
theorem g__law_size (k : Nat) (ds : List D) : G (k + 1) 89 ds = evD tx.C (G k) 4 b__law_size ds := rfl
theorem g__law_pieces (k : Nat) (ds : List D) : G (k + 1) 56 ds = evD tx.C (G k) 6 b__law_pieces ds := rfl
theorem g__law_items (k : Nat) (ds : List D) : G (k + 1) 57 ds = evD tx.C (G k) 7 b__law_items ds := rfl
theorem g__law_error (k : Nat) (ds : List D) : G (k + 1) 27 ds = evD tx.C (G k) 4 b__law_error ds := rfl
theorem g__law_open (k : Nat) (ds : List D) : G (k + 1) 92 ds = evD tx.C (G k) 7 b__law_open ds := rfl
theorem g__law_known (k : Nat) (ds : List D) : G (k + 1) 93 ds = evD tx.C (G k) 8 b__law_known ds := rfl
theorem g_law (k : Nat) (ds : List D) : G (k + 1) 29 ds = evD tx.C (G k) 12 b_law ds := rfl
theorem g_Reader___init__ (k c : Nat) (fs : List (Nat × D)) (post : List D) : G (k + 1) 139 (obD c fs :: post) = evDo tx.C (G k) 2 0 b_Reader___init__ [] c fs post := (show _ = evDl tx.C (G k) 2 0 b_Reader___init__ (obD c fs :: post) from rfl).trans (evDl_at (pre := []) rfl)
theorem g_Reader_is_stopped (k c : Nat) (fs : List (Nat × D)) (post : List D) : G (k + 1) 140 (obD c fs :: post) = evDo tx.C (G k) 1 0 b_Reader_is_stopped [] c fs post := (show _ = evDl tx.C (G k) 1 0 b_Reader_is_stopped (obD c fs :: post) from rfl).trans (evDl_at (pre := []) rfl)
theorem g_Reader_take_piece (k c : Nat) (fs : List (Nat × D)) (post : List D) : G (k + 1) 141 (obD c fs :: post) = evDo tx.C (G k) 3 0 b_Reader_take_piece [] c fs post := (show _ = evDl tx.C (G k) 3 0 b_Reader_take_piece (obD c fs :: post) from rfl).trans (evDl_at (pre := []) rfl)
theorem g_Reader_check_open (k c : Nat) (fs : List (Nat × D)) (post : List D) : G (k + 1) 142 (obD c fs :: post) = evDo tx.C (G k) 1 0 b_Reader_check_open [] c fs post := (show _ = evDl tx.C (G k) 1 0 b_Reader_check_open (obD c fs :: post) from rfl).trans (evDl_at (pre := []) rfl)
theorem g_Reader_feed (k c : Nat) (fs : List (Nat × D)) (post : List D) : G (k + 1) 143 (obD c fs :: post) = evDo tx.C (G k) 3 0 b_Reader_feed [] c fs post := (show _ = evDl tx.C (G k) 3 0 b_Reader_feed (obD c fs :: post) from rfl).trans (evDl_at (pre := []) rfl)
theorem g_Reader_finish (k c : Nat) (fs : List (Nat × D)) (post : List D) : G (k + 1) 144 (obD c fs :: post) = evDo tx.C (G k) 3 0 b_Reader_finish [] c fs post := (show _ = evDl tx.C (G k) 3 0 b_Reader_finish (obD c fs :: post) from rfl).trans (evDl_at (pre := []) rfl)
theorem g_Reader_pending (k c : Nat) (fs : List (Nat × D)) (post : List D) : G (k + 1) 145 (obD c fs :: post) = evDo tx.C (G k) 1 0 b_Reader_pending [] c fs post := (show _ = evDl tx.C (G k) 1 0 b_Reader_pending (obD c fs :: post) from rfl).trans (evDl_at (pre := []) rfl)
theorem g_Reader_count (k c : Nat) (fs : List (Nat × D)) (post : List D) : G (k + 1) 146 (obD c fs :: post) = evDo tx.C (G k) 1 0 b_Reader_count [] c fs post := (show _ = evDl tx.C (G k) 1 0 b_Reader_count (obD c fs :: post) from rfl).trans (evDl_at (pre := []) rfl)
theorem g_Reader_copy (k c : Nat) (fs : List (Nat × D)) (post : List D) : G (k + 1) 147 (obD c fs :: post) = evDo tx.C (G k) 1 0 b_Reader_copy [] c fs post := (show _ = evDl tx.C (G k) 1 0 b_Reader_copy (obD c fs :: post) from rfl).trans (evDl_at (pre := []) rfl)
theorem gO__law_error (k c : Nat) (x0 : D) (fs : List (Nat × D)) (post : List D) : G (k + 1) 148 (x0 :: obD c fs :: post) = evDo tx.C (G k) 4 1 b__law_error [x0] c fs post := (show _ = evDl tx.C (G k) 4 1 b__law_error (x0 :: obD c fs :: post) from rfl).trans (evDl_at (pre := [x0]) rfl)
/- defs: _wall:1 is_int:3 is_byte:1 is_string:1 is_continuation:1 announced:1 value_from:1 least_value:1 is_decoder:1 check_decoder:1 begins:2 check_string:1 good_size:2 bad_size:2 find_pieces:2 bad_items:3 items_of:3 is_open:2 _law_drawn:3 _law_decoder:2 _law_chunks:0 _law_string:3 _law_announced:1 _law_value:1 _law_valid:2 _law_begins:2 _law_size:2 _law_pieces:2 _law_items:2 _law_error:3 _law_open:2 _law_known:2 law:1 -/
theorem ck__wall : DOk tx.tb d__wall := ⟨C8.fnScope_by (by decide +kernel), by decide +kernel, fun _ _ _ _ _ _ us hl => match us, hl with | [_], _ => rfl⟩
theorem ck_is_int : DOk tx.tb d_is_int := ⟨C8.fnScope_by (by decide +kernel), by decide +kernel, fun _ _ _ _ _ _ us hl => match us, hl with | [_, _, _], _ => rfl⟩
theorem ck_is_byte : DOk tx.tb d_is_byte := ⟨C8.fnScope_by (by decide +kernel), by decide +kernel, fun _ _ _ _ _ _ us hl => match us, hl with | [_], _ => rfl⟩
theorem ck_is_string : DOk tx.tb d_is_string := ⟨C8.fnScope_by (by decide +kernel), by decide +kernel, fun _ _ _ _ _ _ us hl => match us, hl with | [_], _ => rfl⟩
theorem ck_is_continuation : DOk tx.tb d_is_continuation := ⟨C8.fnScope_by (by decide +kernel), by decide +kernel, fun _ _ _ _ _ _ us hl => match us, hl with | [_], _ => rfl⟩
theorem ck_announced : DOk tx.tb d_announced := ⟨C8.fnScope_by (by decide +kernel), by decide +kernel, fun _ _ _ _ _ _ us hl => match us, hl with | [_], _ => rfl⟩
theorem ck_value_from : DOk tx.tb d_value_from := ⟨C8.fnScope_by (by decide +kernel), by decide +kernel, fun _ _ _ _ _ _ us hl => match us, hl with | [_], _ => rfl⟩
theorem ck_least_value : DOk tx.tb d_least_value := ⟨C8.fnScope_by (by decide +kernel), by decide +kernel, fun _ _ _ _ _ _ us hl => match us, hl with | [_], _ => rfl⟩
theorem ck_is_decoder : DOk tx.tb d_is_decoder := ⟨C8.fnScope_by (by decide +kernel), by decide +kernel, fun _ _ _ _ _ _ us hl => match us, hl with | [_], _ => rfl⟩
theorem ck_check_decoder : DOk tx.tb d_check_decoder := ⟨C8.fnScope_by (by decide +kernel), by decide +kernel, fun _ _ _ _ _ _ us hl => match us, hl with | [_], _ => rfl⟩
theorem ck_begins : DOk tx.tb d_begins := ⟨C8.fnScope_by (by decide +kernel), by decide +kernel, fun _ _ _ _ _ _ us hl => match us, hl with | [_, _], _ => rfl⟩
theorem ck_check_string : DOk tx.tb d_check_string := ⟨C8.fnScope_by (by decide +kernel), by decide +kernel, fun _ _ _ _ _ _ us hl => match us, hl with | [_], _ => rfl⟩
theorem ck_good_size : DOk tx.tb d_good_size := ⟨C8.fnScope_by (by decide +kernel), by decide +kernel, fun _ _ _ _ _ _ us hl => match us, hl with | [_, _], _ => rfl⟩
theorem ck_bad_size : DOk tx.tb d_bad_size := ⟨C8.fnScope_by (by decide +kernel), by decide +kernel, fun _ _ _ _ _ _ us hl => match us, hl with | [_, _], _ => rfl⟩
theorem ck_find_pieces : DOk tx.tb d_find_pieces := ⟨C8.fnScope_by (by decide +kernel), by decide +kernel, fun _ _ _ _ _ _ us hl => match us, hl with | [_, _], _ => rfl⟩
theorem ck_bad_items : DOk tx.tb d_bad_items := ⟨C8.fnScope_by (by decide +kernel), by decide +kernel, fun _ _ _ _ _ _ us hl => match us, hl with | [_, _, _], _ => rfl⟩
theorem ck_items_of : DOk tx.tb d_items_of := ⟨C8.fnScope_by (by decide +kernel), by decide +kernel, fun _ _ _ _ _ _ us hl => match us, hl with | [_, _, _], _ => rfl⟩
theorem ck_is_open : DOk tx.tb d_is_open := ⟨C8.fnScope_by (by decide +kernel), by decide +kernel, fun _ _ _ _ _ _ us hl => match us, hl with | [_, _], _ => rfl⟩
theorem ck__law_drawn : DOk tx.tb d__law_drawn := ⟨C8.fnScope_by (by decide +kernel), by decide +kernel, fun _ _ _ _ _ _ us hl => match us, hl with | [_, _, _], _ => rfl⟩
theorem ck__law_decoder : DOk tx.tb d__law_decoder := ⟨C8.fnScope_by (by decide +kernel), by decide +kernel, fun _ _ _ _ _ _ us hl => match us, hl with | [_, _], _ => rfl⟩
theorem ck__law_chunks : DOk tx.tb d__law_chunks := ⟨C8.fnScope_by (by decide +kernel), by decide +kernel, fun _ _ _ _ _ _ us hl => match us, hl with | [], _ => rfl⟩
theorem ck__law_string : DOk tx.tb d__law_string := ⟨C8.fnScope_by (by decide +kernel), by decide +kernel, fun _ _ _ _ _ _ us hl => match us, hl with | [_, _, _], _ => rfl⟩
theorem ck__law_announced : DOk tx.tb d__law_announced := ⟨C8.fnScope_by (by decide +kernel), by decide +kernel, fun _ _ _ _ _ _ us hl => match us, hl with | [_], _ => rfl⟩
theorem ck__law_value : DOk tx.tb d__law_value := ⟨C8.fnScope_by (by decide +kernel), by decide +kernel, fun _ _ _ _ _ _ us hl => match us, hl with | [_], _ => rfl⟩
theorem ck__law_valid : DOk tx.tb d__law_valid := ⟨C8.fnScope_by (by decide +kernel), by decide +kernel, fun _ _ _ _ _ _ us hl => match us, hl with | [_, _], _ => rfl⟩
theorem ck__law_begins : DOk tx.tb d__law_begins := ⟨C8.fnScope_by (by decide +kernel), by decide +kernel, fun _ _ _ _ _ _ us hl => match us, hl with | [_, _], _ => rfl⟩
theorem ck__law_size : DOk tx.tb d__law_size := ⟨C8.fnScope_by (by decide +kernel), by decide +kernel, fun _ _ _ _ _ _ us hl => match us, hl with | [_, _], _ => rfl⟩
theorem ck__law_pieces : DOk tx.tb d__law_pieces := ⟨C8.fnScope_by (by decide +kernel), by decide +kernel, fun _ _ _ _ _ _ us hl => match us, hl with | [_, _], _ => rfl⟩
theorem ck__law_items : DOk tx.tb d__law_items := ⟨C8.fnScope_by (by decide +kernel), by decide +kernel, fun _ _ _ _ _ _ us hl => match us, hl with | [_, _], _ => rfl⟩
theorem ck__law_error : DOk tx.tb d__law_error := ⟨C8.fnScope_by (by decide +kernel), by decide +kernel, fun _ _ _ _ _ _ us hl => match us, hl with | [_, _, _], _ => rfl⟩
theorem ck__law_open : DOk tx.tb d__law_open := ⟨C8.fnScope_by (by decide +kernel), by decide +kernel, fun _ _ _ _ _ _ us hl => match us, hl with | [_, _], _ => rfl⟩
theorem ck__law_known : DOk tx.tb d__law_known := ⟨C8.fnScope_by (by decide +kernel), by decide +kernel, fun _ _ _ _ _ _ us hl => match us, hl with | [_, _], _ => rfl⟩
theorem ck_law : DOk tx.tb d_law := ⟨C8.fnScope_by (by decide +kernel), by decide +kernel, fun _ _ _ _ _ _ us hl => match us, hl with | [_], _ => rfl⟩
theorem ck_Reader___init__ : DOk tx.tb d_Reader___init__ := ⟨C8.fnScope_by (by decide +kernel), by decide +kernel, fun _ _ _ _ _ _ us hl => match us, hl with | [_, _], _ => rfl⟩
theorem ck_Reader_is_stopped : DOk tx.tb d_Reader_is_stopped := ⟨C8.fnScope_by (by decide +kernel), by decide +kernel, fun _ _ _ _ _ _ us hl => match us, hl with | [_], _ => rfl⟩
theorem ck_Reader_take_piece : DOk tx.tb d_Reader_take_piece := ⟨C8.fnScope_by (by decide +kernel), by decide +kernel, fun _ _ _ _ _ _ us hl => match us, hl with | [_], _ => rfl⟩
theorem ck_Reader_check_open : DOk tx.tb d_Reader_check_open := ⟨C8.fnScope_by (by decide +kernel), by decide +kernel, fun _ _ _ _ _ _ us hl => match us, hl with | [_], _ => rfl⟩
theorem ck_Reader_feed : DOk tx.tb d_Reader_feed := ⟨C8.fnScope_by (by decide +kernel), by decide +kernel, fun _ _ _ _ _ _ us hl => match us, hl with | [_, _], _ => rfl⟩
theorem ck_Reader_finish : DOk tx.tb d_Reader_finish := ⟨C8.fnScope_by (by decide +kernel), by decide +kernel, fun _ _ _ _ _ _ us hl => match us, hl with | [_], _ => rfl⟩
theorem ck_Reader_pending : DOk tx.tb d_Reader_pending := ⟨C8.fnScope_by (by decide +kernel), by decide +kernel, fun _ _ _ _ _ _ us hl => match us, hl with | [_], _ => rfl⟩
theorem ck_Reader_count : DOk tx.tb d_Reader_count := ⟨C8.fnScope_by (by decide +kernel), by decide +kernel, fun _ _ _ _ _ _ us hl => match us, hl with | [_], _ => rfl⟩
theorem ck_Reader_copy : DOk tx.tb d_Reader_copy := ⟨C8.fnScope_by (by decide +kernel), by decide +kernel, fun _ _ _ _ _ _ us hl => match us, hl with | [_], _ => rfl⟩
theorem ckO__law_error : DOk tx.tb dO__law_error := ⟨C8.fnScope_by (by decide +kernel), by decide +kernel, fun _ _ _ _ _ _ us hl => match us, hl with | [_, _, _], _ => rfl⟩
theorem tx_ok : tx.Ok := ⟨List.forall_mem_cons.mpr ⟨ck__wall, List.forall_mem_cons.mpr ⟨ck_is_int, List.forall_mem_cons.mpr ⟨ck_is_byte, List.forall_mem_cons.mpr ⟨ck_is_string, List.forall_mem_cons.mpr ⟨ck_is_continuation, List.forall_mem_cons.mpr ⟨ck_announced, List.forall_mem_cons.mpr ⟨ck_value_from, List.forall_mem_cons.mpr ⟨ck_least_value, List.forall_mem_cons.mpr ⟨ck_is_decoder, List.forall_mem_cons.mpr ⟨ck_check_decoder, List.forall_mem_cons.mpr ⟨ck_begins, List.forall_mem_cons.mpr ⟨ck_check_string, List.forall_mem_cons.mpr ⟨ck_good_size, List.forall_mem_cons.mpr ⟨ck_bad_size, List.forall_mem_cons.mpr ⟨ck_find_pieces, List.forall_mem_cons.mpr ⟨ck_bad_items, List.forall_mem_cons.mpr ⟨ck_items_of, List.forall_mem_cons.mpr ⟨ck_is_open, List.forall_mem_cons.mpr ⟨ck__law_drawn, List.forall_mem_cons.mpr ⟨ck__law_decoder, List.forall_mem_cons.mpr ⟨ck__law_chunks, List.forall_mem_cons.mpr ⟨ck__law_string, List.forall_mem_cons.mpr ⟨ck__law_announced, List.forall_mem_cons.mpr ⟨ck__law_value, List.forall_mem_cons.mpr ⟨ck__law_valid, List.forall_mem_cons.mpr ⟨ck__law_begins, List.forall_mem_cons.mpr ⟨ck__law_size, List.forall_mem_cons.mpr ⟨ck__law_pieces, List.forall_mem_cons.mpr ⟨ck__law_items, List.forall_mem_cons.mpr ⟨ck__law_error, List.forall_mem_cons.mpr ⟨ck__law_open, List.forall_mem_cons.mpr ⟨ck__law_known, List.forall_mem_cons.mpr ⟨ck_law, fun _ h => by cases h⟩⟩⟩⟩⟩⟩⟩⟩⟩⟩⟩⟩⟩⟩⟩⟩⟩⟩⟩⟩⟩⟩⟩⟩⟩⟩⟩⟩⟩⟩⟩⟩⟩, by rfl, List.forall_mem_cons.mpr ⟨⟨ck_Reader___init__, rfl, rfl, by decide +kernel⟩, List.forall_mem_cons.mpr ⟨⟨ck_Reader_is_stopped, rfl, rfl, by decide +kernel⟩, List.forall_mem_cons.mpr ⟨⟨ck_Reader_take_piece, rfl, rfl, by decide +kernel⟩, List.forall_mem_cons.mpr ⟨⟨ck_Reader_check_open, rfl, rfl, by decide +kernel⟩, List.forall_mem_cons.mpr ⟨⟨ck_Reader_feed, rfl, rfl, by decide +kernel⟩, List.forall_mem_cons.mpr ⟨⟨ck_Reader_finish, rfl, rfl, by decide +kernel⟩, List.forall_mem_cons.mpr ⟨⟨ck_Reader_pending, rfl, rfl, by decide +kernel⟩, List.forall_mem_cons.mpr ⟨⟨ck_Reader_count, rfl, rfl, by decide +kernel⟩, List.forall_mem_cons.mpr ⟨⟨ck_Reader_copy, rfl, rfl, by decide +kernel⟩, fun _ h => by cases h⟩⟩⟩⟩⟩⟩⟩⟩⟩, List.forall_mem_cons.mpr ⟨by decide, List.forall_mem_cons.mpr ⟨by decide, List.forall_mem_cons.mpr ⟨by decide, List.forall_mem_cons.mpr ⟨by decide, List.forall_mem_cons.mpr ⟨by decide, List.forall_mem_cons.mpr ⟨by decide, List.forall_mem_cons.mpr ⟨by decide, List.forall_mem_cons.mpr ⟨by decide, List.forall_mem_cons.mpr ⟨by decide, fun _ h => by cases h⟩⟩⟩⟩⟩⟩⟩⟩⟩, List.forall_mem_cons.mpr ⟨⟨ckO__law_error, rfl, rfl, rfl⟩, fun _ h => by cases h⟩⟩
end Pu

set_option maxHeartbeats 1000000
namespace Pu
open PySem PySem.Spec PyProof.Rows L2
theorem s_is_int (k : Nat) (v : D) (a b : Int) (h : noD v = true) : G (k + 1) 0 [v, .int a, .int b] = .ok (.bool (isInt v a b)) := by
  rw [g_is_int]
  cases v with
  | dict _ => cases h
  | int i =>
    by_cases h1 : a ≤ i <;> simp [evD, ssn, ssc, evS, evE, evEs, evI, evC, evO, evB, evX, evXs, evDo, endO, prm_n, prm_b, prm_i, prm_l, prm_t, prm_x, prob_u, prn_u, unOb_ob, iteX, setTs, putN, blX, noDict, insAt, op_ai, op_at, op_al, op_si, op_mi, op_mt, op_mb, rp_i, rv_l, op_fd, op_md, idx_t, idx_l, slc_t, slc_l, isa_i, isa_b, isa_s, isa_t, isa_l, isa_n, b2_min, b2_max, cp_lt, cp_le, cp_gt, cp_ge, cp_eqi, cp_nei, cp_eq, cp_ne, cp_is, cp_isnot, cp_int, cp_nint, cp_inl, cp_ninl, is_nn, is_bb, is_in, is_bn, is_sn, is_tn, is_ln, ok_n, ok_b, ok_i, ok_t, ok_l, eqv_int, eqv_tup, eqv_lst, eqv_nn, eqv_bb, eqv_tn, eqv_nt, eqa_nn, eqa_nc, eqa_cn, eqa_cc, eqvs_ints, int_beq, itemsD, wipeOk, Slot.holds, Tg.slots, wipeE, bindTg, setAll, evP, prt, setPs, Ps.slots, asList, compL, cap, flatD, tu, li, ite_and, ite_or, cut_tail, at_nat, bi_len_t, bi_len_l, bi_all, bi_any, bi_tup_l, bi_tup_t, bi_lst_l, bi_lst_t, b_is_int, isInt, h1]
  | _ => simp [evD, ssn, ssc, evS, evE, evEs, evI, evC, evO, evB, evX, evXs, evDo, endO, prm_n, prm_b, prm_i, prm_l, prm_t, prm_x, prob_u, prn_u, unOb_ob, iteX, setTs, putN, blX, noDict, insAt, op_ai, op_at, op_al, op_si, op_mi, op_mt, op_mb, rp_i, rv_l, op_fd, op_md, idx_t, idx_l, slc_t, slc_l, isa_i, isa_b, isa_s, isa_t, isa_l, isa_n, b2_min, b2_max, cp_lt, cp_le, cp_gt, cp_ge, cp_eqi, cp_nei, cp_eq, cp_ne, cp_is, cp_isnot, cp_int, cp_nint, cp_inl, cp_ninl, is_nn, is_bb, is_in, is_bn, is_sn, is_tn, is_ln, ok_n, ok_b, ok_i, ok_t, ok_l, eqv_int, eqv_tup, eqv_lst, eqv_nn, eqv_bb, eqv_tn, eqv_nt, eqa_nn, eqa_nc, eqa_cn, eqa_cc, eqvs_ints, int_beq, itemsD, wipeOk, Slot.holds, Tg.slots, wipeE, bindTg, setAll, evP, prt, setPs, Ps.slots, asList, compL, cap, flatD, tu, li, ite_and, ite_or, cut_tail, at_nat, bi_len_t, bi_len_l, bi_all, bi_any, bi_tup_l, bi_tup_t, bi_lst_l, bi_lst_t, b_is_int, isInt]
theorem s_is_byte (k : Nat) (v : D) (h : noD v = true) : G (k + 2) 1 [v] = .ok (.bool (isInt v 0 255)) := by
  rw [g_is_byte]
  simp [evD, ssn, ssc, evS, evE, evEs, evI, evC, evO, evB, evX, evXs, evDo, endO, prm_n, prm_b, prm_i, prm_l, prm_t, prm_x, prob_u, prn_u, unOb_ob, iteX, setTs, putN, blX, noDict, insAt, op_ai, op_at, op_al, op_si, op_mi, op_mt, op_mb, rp_i, rv_l, op_fd, op_md, idx_t, idx_l, slc_t, slc_l, isa_i, isa_b, isa_s, isa_t, isa_l, isa_n, b2_min, b2_max, cp_lt, cp_le, cp_gt, cp_ge, cp_eqi, cp_nei, cp_eq, cp_ne, cp_is, cp_isnot, cp_int, cp_nint, cp_inl, cp_ninl, is_nn, is_bb, is_in, is_bn, is_sn, is_tn, is_ln, ok_n, ok_b, ok_i, ok_t, ok_l, eqv_int, eqv_tup, eqv_lst, eqv_nn, eqv_bb, eqv_tn, eqv_nt, eqa_nn, eqa_nc, eqa_cn, eqa_cc, eqvs_ints, int_beq, itemsD, wipeOk, Slot.holds, Tg.slots, wipeE, bindTg, setAll, evP, prt, setPs, Ps.slots, asList, compL, cap, flatD, tu, li, ite_and, ite_or, cut_tail, at_nat, bi_len_t, bi_len_l, bi_all, bi_any, bi_tup_l, bi_tup_t, bi_lst_l, bi_lst_t, b_is_byte, s_is_int, h]
theorem s_is_string (k : Nat) (v : D) (h : noD v = true) (h2 : ∀ ds, v = .tuple ds → ∀ d ∈ ds, noD d = true) : G (k + 3) 2 [v] = .ok (.bool (isStr v)) := by
  rw [g_is_string]
  cases v with
  | dict _ => cases h
  | tuple ds =>
    have hd := h2 ds rfl
    by_cases h1 : ds.length ≤ 60
    · have e : compL (fun d => Rs.bd (G (k + 2) 1 [d]) fun v => Rs.ok (some v)) ds = .ok (ds.map fun d => PyData.bool (isInt d 0 255)) := by
        have := compL_each (f := fun d => Rs.bd (G (k + 2) 1 [d]) fun v => Rs.ok (some v)) (e := fun d : D => d) (g := fun d => PyData.bool (isInt d 0 255)) (xs := ds) fun d hd' => by
          rw [s_is_byte k d (hd d hd')]; rfl
        rwa [List.map_id'] at this
      simp [evD, ssn, ssc, evS, evE, evEs, evI, evC, evO, evB, evX, evXs, evDo, endO, prm_n, prm_b, prm_i, prm_l, prm_t, prm_x, prob_u, prn_u, unOb_ob, iteX, setTs, putN, blX, noDict, insAt, op_ai, op_at, op_al, op_si, op_mi, op_mt, op_mb, rp_i, rv_l, op_fd, op_md, idx_t, idx_l, slc_t, slc_l, isa_i, isa_b, isa_s, isa_t, isa_l, isa_n, b2_min, b2_max, cp_lt, cp_le, cp_gt, cp_ge, cp_eqi, cp_nei, cp_eq, cp_ne, cp_is, cp_isnot, cp_int, cp_nint, cp_inl, cp_ninl, is_nn, is_bb, is_in, is_bn, is_sn, is_tn, is_ln, ok_n, ok_b, ok_i, ok_t, ok_l, eqv_int, eqv_tup, eqv_lst, eqv_nn, eqv_bb, eqv_tn, eqv_nt, eqa_nn, eqa_nc, eqa_cn, eqa_cc, eqvs_ints, int_beq, itemsD, wipeOk, Slot.holds, Tg.slots, wipeE, bindTg, setAll, evP, prt, setPs, Ps.slots, asList, compL, cap, flatD, tu, li, ite_and, ite_or, cut_tail, at_nat, bi_len_t, bi_len_l, bi_all, bi_any, bi_tup_l, bi_tup_t, bi_lst_l, bi_lst_t, b_is_string, C_MAX_STRING, isStr, h1, e, show (ds.length : Int) ≤ 60 from by omega]
    · simp [evD, ssn, ssc, evS, evE, evEs, evI, evC, evO, evB, evX, evXs, evDo, endO, prm_n, prm_b, prm_i, prm_l, prm_t, prm_x, prob_u, prn_u, unOb_ob, iteX, setTs, putN, blX, noDict, insAt, op_ai, op_at, op_al, op_si, op_mi, op_mt, op_mb, rp_i, rv_l, op_fd, op_md, idx_t, idx_l, slc_t, slc_l, isa_i, isa_b, isa_s, isa_t, isa_l, isa_n, b2_min, b2_max, cp_lt, cp_le, cp_gt, cp_ge, cp_eqi, cp_nei, cp_eq, cp_ne, cp_is, cp_isnot, cp_int, cp_nint, cp_inl, cp_ninl, is_nn, is_bb, is_in, is_bn, is_sn, is_tn, is_ln, ok_n, ok_b, ok_i, ok_t, ok_l, eqv_int, eqv_tup, eqv_lst, eqv_nn, eqv_bb, eqv_tn, eqv_nt, eqa_nn, eqa_nc, eqa_cn, eqa_cc, eqvs_ints, int_beq, itemsD, wipeOk, Slot.holds, Tg.slots, wipeE, bindTg, setAll, evP, prt, setPs, Ps.slots, asList, compL, cap, flatD, tu, li, ite_and, ite_or, cut_tail, at_nat, bi_len_t, bi_len_l, bi_all, bi_any, bi_tup_l, bi_tup_t, bi_lst_l, bi_lst_t, b_is_string, C_MAX_STRING, isStr, h1, show ¬ (ds.length : Int) ≤ 60 from by omega]
  | _ => simp [evD, ssn, ssc, evS, evE, evEs, evI, evC, evO, evB, evX, evXs, evDo, endO, prm_n, prm_b, prm_i, prm_l, prm_t, prm_x, prob_u, prn_u, unOb_ob, iteX, setTs, putN, blX, noDict, insAt, op_ai, op_at, op_al, op_si, op_mi, op_mt, op_mb, rp_i, rv_l, op_fd, op_md, idx_t, idx_l, slc_t, slc_l, isa_i, isa_b, isa_s, isa_t, isa_l, isa_n, b2_min, b2_max, cp_lt, cp_le, cp_gt, cp_ge, cp_eqi, cp_nei, cp_eq, cp_ne, cp_is, cp_isnot, cp_int, cp_nint, cp_inl, cp_ninl, is_nn, is_bb, is_in, is_bn, is_sn, is_tn, is_ln, ok_n, ok_b, ok_i, ok_t, ok_l, eqv_int, eqv_tup, eqv_lst, eqv_nn, eqv_bb, eqv_tn, eqv_nt, eqa_nn, eqa_nc, eqa_cn, eqa_cc, eqvs_ints, int_beq, itemsD, wipeOk, Slot.holds, Tg.slots, wipeE, bindTg, setAll, evP, prt, setPs, Ps.slots, asList, compL, cap, flatD, tu, li, ite_and, ite_or, cut_tail, at_nat, bi_len_t, bi_len_l, bi_all, bi_any, bi_tup_l, bi_tup_t, bi_lst_l, bi_lst_t, b_is_string, isStr]
theorem s_string_tu (k : Nat) (xs : List Int) : G (k + 3) 2 [tu xs] = .ok (.bool (decide (xs.length ≤ 60) && xs.all fun b => decide (0 ≤ b) && decide (b ≤ 255))) := by
  rw [s_is_string k (tu xs) rfl (fun ds e d hd => by cases e; obtain ⟨i, _, rfl⟩ := List.mem_map.mp hd; rfl)]
  simp [isStr, List.all_map, isInt, Function.comp_def]
theorem s_cont (k : Nat) (i : Int) : G (k + 1) 3 [.int i] = .ok (.bool (isCont i)) := by
  rw [g_is_continuation]
  by_cases h1 : 128 ≤ i <;> simp [evD, ssn, ssc, evS, evE, evEs, evI, evC, evO, evB, evX, evXs, evDo, endO, prm_n, prm_b, prm_i, prm_l, prm_t, prm_x, prob_u, prn_u, unOb_ob, iteX, setTs, putN, blX, noDict, insAt, op_ai, op_at, op_al, op_si, op_mi, op_mt, op_mb, rp_i, rv_l, op_fd, op_md, idx_t, idx_l, slc_t, slc_l, isa_i, isa_b, isa_s, isa_t, isa_l, isa_n, b2_min, b2_max, cp_lt, cp_le, cp_gt, cp_ge, cp_eqi, cp_nei, cp_eq, cp_ne, cp_is, cp_isnot, cp_int, cp_nint, cp_inl, cp_ninl, is_nn, is_bb, is_in, is_bn, is_sn, is_tn, is_ln, ok_n, ok_b, ok_i, ok_t, ok_l, eqv_int, eqv_tup, eqv_lst, eqv_nn, eqv_bb, eqv_tn, eqv_nt, eqa_nn, eqa_nc, eqa_cn, eqa_cc, eqvs_ints, int_beq, itemsD, wipeOk, Slot.holds, Tg.slots, wipeE, bindTg, setAll, evP, prt, setPs, Ps.slots, asList, compL, cap, flatD, tu, li, ite_and, ite_or, cut_tail, at_nat, bi_len_t, bi_len_l, bi_all, bi_any, bi_tup_l, bi_tup_t, bi_lst_l, bi_lst_t, b_is_continuation, C_FIRST_CONTINUATION, C_LAST_CONTINUATION, isCont, h1]
theorem s_ann (k : Nat) (b : Int) : G (k + 1) 4 [.int b] = .ok (.int (ann b)) := by
  rw [g_announced]
  by_cases h : b < 128
  · simp [evD, ssn, ssc, evS, evE, evEs, evI, evC, evO, evB, evX, evXs, evDo, endO, prm_n, prm_b, prm_i, prm_l, prm_t, prm_x, prob_u, prn_u, unOb_ob, iteX, setTs, putN, blX, noDict, insAt, op_ai, op_at, op_al, op_si, op_mi, op_mt, op_mb, rp_i, rv_l, op_fd, op_md, idx_t, idx_l, slc_t, slc_l, isa_i, isa_b, isa_s, isa_t, isa_l, isa_n, b2_min, b2_max, cp_lt, cp_le, cp_gt, cp_ge, cp_eqi, cp_nei, cp_eq, cp_ne, cp_is, cp_isnot, cp_int, cp_nint, cp_inl, cp_ninl, is_nn, is_bb, is_in, is_bn, is_sn, is_tn, is_ln, ok_n, ok_b, ok_i, ok_t, ok_l, eqv_int, eqv_tup, eqv_lst, eqv_nn, eqv_bb, eqv_tn, eqv_nt, eqa_nn, eqa_nc, eqa_cn, eqa_cc, eqvs_ints, int_beq, itemsD, wipeOk, Slot.holds, Tg.slots, wipeE, bindTg, setAll, evP, prt, setPs, Ps.slots, asList, compL, cap, flatD, tu, li, ite_and, ite_or, cut_tail, at_nat, bi_len_t, bi_len_l, bi_all, bi_any, bi_tup_l, bi_tup_t, bi_lst_l, bi_lst_t, b_announced, C_FIRST_CONTINUATION, h, ann]
  · by_cases h1 : 192 ≤ b <;> by_cases h2 : 224 ≤ b <;> by_cases h3 : 240 ≤ b <;> by_cases h4 : 248 ≤ b <;> first
      | (exfalso; omega)
      | (have h5 := h1; have h6 := h2; have h7 := h3; have h8 := h4
         simp [evD, ssn, ssc, evS, evE, evEs, evI, evC, evO, evB, evX, evXs, evDo, endO, prm_n, prm_b, prm_i, prm_l, prm_t, prm_x, prob_u, prn_u, unOb_ob, iteX, setTs, putN, blX, noDict, insAt, op_ai, op_at, op_al, op_si, op_mi, op_mt, op_mb, rp_i, rv_l, op_fd, op_md, idx_t, idx_l, slc_t, slc_l, isa_i, isa_b, isa_s, isa_t, isa_l, isa_n, b2_min, b2_max, cp_lt, cp_le, cp_gt, cp_ge, cp_eqi, cp_nei, cp_eq, cp_ne, cp_is, cp_isnot, cp_int, cp_nint, cp_inl, cp_ninl, is_nn, is_bb, is_in, is_bn, is_sn, is_tn, is_ln, ok_n, ok_b, ok_i, ok_t, ok_l, eqv_int, eqv_tup, eqv_lst, eqv_nn, eqv_bb, eqv_tn, eqv_nt, eqa_nn, eqa_nc, eqa_cn, eqa_cc, eqvs_ints, int_beq, itemsD, wipeOk, Slot.holds, Tg.slots, wipeE, bindTg, setAll, evP, prt, setPs, Ps.slots, asList, compL, cap, flatD, tu, li, ite_and, ite_or, cut_tail, at_nat, bi_len_t, bi_len_l, bi_all, bi_any, bi_tup_l, bi_tup_t, bi_lst_l, bi_lst_t, b_announced, C_FIRST_CONTINUATION, C_LEADS, h, ann, L2.atI, L2.ixN, cap, okD, PyData.eqv, PyData.eqvAll, show (b < 224) = (¬ 224 ≤ b) from by simp, show (b < 240) = (¬ 240 ≤ b) from by simp, show (b < 248) = (¬ 248 ≤ b) from by simp, h1, h2, h3, h4])
theorem s_valF (k : Nat) (b : Int) (r : List Int) : G (k + 2) 6 [tu (b :: r)] = .ok (.int (valF (b :: r))) := by
  rw [g_value_from]
  obtain ⟨l1, l2⟩ := ann_range b
  have e1 : L2.atI [PyData.int 0, .int 0, .int 192, .int 224, .int 240, .int 248] (ann b) = some (.int (leads (ann b))) := by
    have : ann b = 0 ∨ ann b = 1 ∨ ann b = 2 ∨ ann b = 3 ∨ ann b = 4 := by omega
    rcases this with e | e | e | e | e <;> rw [e] <;> rfl
  have lp : ∀ (v : Int) (r : List Int) (ρ : Env), (∃ z, ρ = [.cl (tu (b :: r)), .cl (.int v), z]) → ∃ z, forL (fun ρ1 => evSs tx.C (G (k + 1)) w_value_from_0 ρ1) (.name 2) (r.map PyData.int) ρ = .next [.cl (tu (b :: r)), .cl (.int (fold64 v r)), z] := by
    intro v r0 ρ h
    have := forL_run (f := fun ρ1 => evSs tx.C (G (k + 1)) w_value_from_0 ρ1) (tg := .name 2) (e := PyData.int) (R := fun (a : Int) ρ => ∃ z, ρ = [.cl (tu (b :: r0)), .cl (.int a), z]) (step := fun a b => 64 * a + b - 128) (xs := r0) (a := v) (ρ := ρ)
      (fun a ρ x ⟨z, e⟩ hx => by
        subst e
        refine ⟨_, rfl, _, .inl ?_, .cl (.int x), rfl⟩
        simp [evD, ssn, ssc, evS, evE, evEs, evI, evC, evO, evB, evX, evXs, evDo, endO, prm_n, prm_b, prm_i, prm_l, prm_t, prm_x, prob_u, prn_u, unOb_ob, iteX, setTs, putN, blX, noDict, insAt, op_ai, op_at, op_al, op_si, op_mi, op_mt, op_mb, rp_i, rv_l, op_fd, op_md, idx_t, idx_l, slc_t, slc_l, isa_i, isa_b, isa_s, isa_t, isa_l, isa_n, b2_min, b2_max, cp_lt, cp_le, cp_gt, cp_ge, cp_eqi, cp_nei, cp_eq, cp_ne, cp_is, cp_isnot, cp_int, cp_nint, cp_inl, cp_ninl, is_nn, is_bb, is_in, is_bn, is_sn, is_tn, is_ln, ok_n, ok_b, ok_i, ok_t, ok_l, eqv_int, eqv_tup, eqv_lst, eqv_nn, eqv_bb, eqv_tn, eqv_nt, eqa_nn, eqa_nc, eqa_cn, eqa_cc, eqvs_ints, int_beq, itemsD, wipeOk, Slot.holds, Tg.slots, wipeE, bindTg, setAll, evP, prt, setPs, Ps.slots, asList, compL, cap, flatD, tu, li, ite_and, ite_or, cut_tail, at_nat, bi_len_t, bi_len_l, bi_all, bi_any, bi_tup_l, bi_tup_t, bi_lst_l, bi_lst_t, w_value_from_0, C_STEP, C_FIRST_CONTINUATION]) h
    obtain ⟨ρ', h1, z, h2⟩ := this
    exact ⟨z, by rw [h1, h2]; rfl⟩
  obtain ⟨z, e2⟩ := lp (b - leads (ann b)) r _ ⟨.no, rfl⟩
  simp only [tu, List.map_cons] at e2
  simp [evD, ssn, ssc, evS, evE, evEs, evI, evC, evO, evB, evX, evXs, evDo, endO, prm_n, prm_b, prm_i, prm_l, prm_t, prm_x, prob_u, prn_u, unOb_ob, iteX, setTs, putN, blX, noDict, insAt, op_ai, op_at, op_al, op_si, op_mi, op_mt, op_mb, rp_i, rv_l, op_fd, op_md, idx_t, idx_l, slc_t, slc_l, isa_i, isa_b, isa_s, isa_t, isa_l, isa_n, b2_min, b2_max, cp_lt, cp_le, cp_gt, cp_ge, cp_eqi, cp_nei, cp_eq, cp_ne, cp_is, cp_isnot, cp_int, cp_nint, cp_inl, cp_ninl, is_nn, is_bb, is_in, is_bn, is_sn, is_tn, is_ln, ok_n, ok_b, ok_i, ok_t, ok_l, eqv_int, eqv_tup, eqv_lst, eqv_nn, eqv_bb, eqv_tn, eqv_nt, eqa_nn, eqa_nc, eqa_cn, eqa_cc, eqvs_ints, int_beq, itemsD, wipeOk, Slot.holds, Tg.slots, wipeE, bindTg, setAll, evP, prt, setPs, Ps.slots, asList, compL, cap, flatD, tu, li, ite_and, ite_or, cut_tail, at_nat, bi_len_t, bi_len_l, bi_all, bi_any, bi_tup_l, bi_tup_t, bi_lst_l, bi_lst_t, b_value_from, C_LEADS, s_ann, at_nat, cut_tail, e1, e2, valF]
end Pu

set_option maxHeartbeats 1000000
namespace Pu
open PySem PySem.Spec PyProof.Rows L2
theorem s_least (k : Nat) (n : Int) (h : 1 ≤ n) (h2 : n ≤ 4) : G (k + 1) 8 [.int n] = .ok (.int (least n)) := by
  rw [g_least_value]
  have : n = 1 ∨ n = 2 ∨ n = 3 ∨ n = 4 := by omega
  rcases this with e | e | e | e <;> subst e <;> rfl
theorem s_dec4 (k : Nat) (a b c d : D) (ha : noD a = true) (hb : noD b = true) (hc : noD c = true) (hd : noD d = true) : G (k + 2) 9 [.tuple [a, b, c, d]] = .ok (.bool (isDec (.tuple [a, b, c, d]))) := by
  rw [g_is_decoder]
  have e := s_is_int k a 1 4 ha
  cases h1 : isInt a 1 4
  · simp [evD, ssn, ssc, evS, evE, evEs, evI, evC, evO, evB, evX, evXs, evDo, endO, prm_n, prm_b, prm_i, prm_l, prm_t, prm_x, prob_u, prn_u, unOb_ob, iteX, setTs, putN, blX, noDict, insAt, op_ai, op_at, op_al, op_si, op_mi, op_mt, op_mb, rp_i, rv_l, op_fd, op_md, idx_t, idx_l, slc_t, slc_l, isa_i, isa_b, isa_s, isa_t, isa_l, isa_n, b2_min, b2_max, cp_lt, cp_le, cp_gt, cp_ge, cp_eqi, cp_nei, cp_is, cp_isnot, is_nn, is_bb, is_in, is_bn, is_sn, is_tn, is_ln, ok_n, ok_b, ok_i, ok_t, ok_l, eqv_int, eqv_tup, eqv_lst, eqv_nn, eqv_bb, eqv_tn, eqv_nt, eqa_nn, eqa_nc, eqa_cn, eqa_cc, eqvs_ints, int_beq, itemsD, wipeOk, Slot.holds, Tg.slots, wipeE, bindTg, setAll, evP, prt, setPs, Ps.slots, asList, compL, cap, flatD, tu, li, ite_and, ite_or, cut_tail, at_nat, bi_len_t, bi_len_l, bi_all, bi_any, bi_tup_l, bi_tup_t, bi_lst_l, bi_lst_t, b_is_decoder, e, h1, isDec]
  · cases b with
    | dict _ => cases hb
    | str x =>
      cases h2 : ovB x
      · simp [evD, ssn, ssc, evS, evE, evEs, evI, evC, evO, evB, evX, evXs, evDo, endO, prm_n, prm_b, prm_i, prm_l, prm_t, prm_x, prob_u, prn_u, unOb_ob, iteX, setTs, putN, blX, noDict, insAt, op_ai, op_at, op_al, op_si, op_mi, op_mt, op_mb, rp_i, rv_l, op_fd, op_md, idx_t, idx_l, slc_t, slc_l, isa_i, isa_b, isa_s, isa_t, isa_l, isa_n, b2_min, b2_max, cp_lt, cp_le, cp_gt, cp_ge, cp_eqi, cp_nei, cp_is, cp_isnot, is_nn, is_bb, is_in, is_bn, is_sn, is_tn, is_ln, ok_n, ok_b, ok_i, ok_t, ok_l, eqv_int, eqv_tup, eqv_lst, eqv_nn, eqv_bb, eqv_tn, eqv_nt, eqa_nn, eqa_nc, eqa_cn, eqa_cc, eqvs_ints, int_beq, itemsD, wipeOk, Slot.holds, Tg.slots, wipeE, bindTg, setAll, evP, prt, setPs, Ps.slots, asList, compL, cap, flatD, tu, li, ite_and, ite_or, cut_tail, at_nat, bi_len_t, bi_len_l, bi_all, bi_any, bi_tup_l, bi_tup_t, bi_lst_l, bi_lst_t, b_is_decoder, e, h1, h2, isDec, ovD, C_NONE, C_ZERO, C_ALL, cp_ovn]
      · cases c with
        | dict _ => cases hc
        | bool y =>
          cases d with
          | dict _ => cases hd
          | _ => simp [evD, ssn, ssc, evS, evE, evEs, evI, evC, evO, evB, evX, evXs, evDo, endO, prm_n, prm_b, prm_i, prm_l, prm_t, prm_x, prob_u, prn_u, unOb_ob, iteX, setTs, putN, blX, noDict, insAt, op_ai, op_at, op_al, op_si, op_mi, op_mt, op_mb, rp_i, rv_l, op_fd, op_md, idx_t, idx_l, slc_t, slc_l, isa_i, isa_b, isa_s, isa_t, isa_l, isa_n, b2_min, b2_max, cp_lt, cp_le, cp_gt, cp_ge, cp_eqi, cp_nei, cp_is, cp_isnot, is_nn, is_bb, is_in, is_bn, is_sn, is_tn, is_ln, ok_n, ok_b, ok_i, ok_t, ok_l, eqv_int, eqv_tup, eqv_lst, eqv_nn, eqv_bb, eqv_tn, eqv_nt, eqa_nn, eqa_nc, eqa_cn, eqa_cc, eqvs_ints, int_beq, itemsD, wipeOk, Slot.holds, Tg.slots, wipeE, bindTg, setAll, evP, prt, setPs, Ps.slots, asList, compL, cap, flatD, tu, li, ite_and, ite_or, cut_tail, at_nat, bi_len_t, bi_len_l, bi_all, bi_any, bi_tup_l, bi_tup_t, bi_lst_l, bi_lst_t, b_is_decoder, e, h1, h2, isDec, ovD, poD, blD, C_NONE, C_ZERO, C_ALL, cp_ovn, C_POLICIES, cp_po]
        | _ => simp [evD, ssn, ssc, evS, evE, evEs, evI, evC, evO, evB, evX, evXs, evDo, endO, prm_n, prm_b, prm_i, prm_l, prm_t, prm_x, prob_u, prn_u, unOb_ob, iteX, setTs, putN, blX, noDict, insAt, op_ai, op_at, op_al, op_si, op_mi, op_mt, op_mb, rp_i, rv_l, op_fd, op_md, idx_t, idx_l, slc_t, slc_l, isa_i, isa_b, isa_s, isa_t, isa_l, isa_n, b2_min, b2_max, cp_lt, cp_le, cp_gt, cp_ge, cp_eqi, cp_nei, cp_is, cp_isnot, is_nn, is_bb, is_in, is_bn, is_sn, is_tn, is_ln, ok_n, ok_b, ok_i, ok_t, ok_l, eqv_int, eqv_tup, eqv_lst, eqv_nn, eqv_bb, eqv_tn, eqv_nt, eqa_nn, eqa_nc, eqa_cn, eqa_cc, eqvs_ints, int_beq, itemsD, wipeOk, Slot.holds, Tg.slots, wipeE, bindTg, setAll, evP, prt, setPs, Ps.slots, asList, compL, cap, flatD, tu, li, ite_and, ite_or, cut_tail, at_nat, bi_len_t, bi_len_l, bi_all, bi_any, bi_tup_l, bi_tup_t, bi_lst_l, bi_lst_t, b_is_decoder, e, h1, h2, isDec, ovD, blD, C_NONE, C_ZERO, C_ALL, cp_ovn]
    | _ => simp [evD, ssn, ssc, evS, evE, evEs, evI, evC, evO, evB, evX, evXs, evDo, endO, prm_n, prm_b, prm_i, prm_l, prm_t, prm_x, prob_u, prn_u, unOb_ob, iteX, setTs, putN, blX, noDict, insAt, op_ai, op_at, op_al, op_si, op_mi, op_mt, op_mb, rp_i, rv_l, op_fd, op_md, idx_t, idx_l, slc_t, slc_l, isa_i, isa_b, isa_s, isa_t, isa_l, isa_n, b2_min, b2_max, cp_lt, cp_le, cp_gt, cp_ge, cp_eqi, cp_nei, cp_is, cp_isnot, is_nn, is_bb, is_in, is_bn, is_sn, is_tn, is_ln, ok_n, ok_b, ok_i, ok_t, ok_l, eqv_int, eqv_tup, eqv_lst, eqv_nn, eqv_bb, eqv_tn, eqv_nt, eqa_nn, eqa_nc, eqa_cn, eqa_cc, eqvs_ints, int_beq, itemsD, wipeOk, Slot.holds, Tg.slots, wipeE, bindTg, setAll, evP, prt, setPs, Ps.slots, asList, compL, cap, flatD, tu, li, ite_and, ite_or, cut_tail, at_nat, bi_len_t, bi_len_l, bi_all, bi_any, bi_tup_l, bi_tup_t, bi_lst_l, bi_lst_t, b_is_decoder, e, h1, isDec, ovD]
theorem s_dec_no (k : Nat) (v : D) (h : noD v = true) (h4 : ∀ ds, v = .tuple ds → ds.length ≠ 4) : G (k + 2) 9 [v] = .ok (.bool false) := by
  rw [g_is_decoder]
  cases v with
  | dict _ => cases h
  | tuple ds =>
    have := h4 ds rfl
    simp [evD, ssn, ssc, evS, evE, evEs, evI, evC, evO, evB, evX, evXs, evDo, endO, prm_n, prm_b, prm_i, prm_l, prm_t, prm_x, prob_u, prn_u, unOb_ob, iteX, setTs, putN, blX, noDict, insAt, op_ai, op_at, op_al, op_si, op_mi, op_mt, op_mb, rp_i, rv_l, op_fd, op_md, idx_t, idx_l, slc_t, slc_l, isa_i, isa_b, isa_s, isa_t, isa_l, isa_n, b2_min, b2_max, cp_lt, cp_le, cp_gt, cp_ge, cp_eqi, cp_nei, cp_is, cp_isnot, is_nn, is_bb, is_in, is_bn, is_sn, is_tn, is_ln, ok_n, ok_b, ok_i, ok_t, ok_l, eqv_int, eqv_tup, eqv_lst, eqv_nn, eqv_bb, eqv_tn, eqv_nt, eqa_nn, eqa_nc, eqa_cn, eqa_cc, eqvs_ints, int_beq, itemsD, wipeOk, Slot.holds, Tg.slots, wipeE, bindTg, setAll, evP, prt, setPs, Ps.slots, asList, compL, cap, flatD, tu, li, ite_and, ite_or, cut_tail, at_nat, bi_len_t, bi_len_l, bi_all, bi_any, bi_tup_l, bi_tup_t, bi_lst_l, bi_lst_t, b_is_decoder, show ¬ (ds.length : Int) = 4 from by omega]
  | _ => simp [evD, ssn, ssc, evS, evE, evEs, evI, evC, evO, evB, evX, evXs, evDo, endO, prm_n, prm_b, prm_i, prm_l, prm_t, prm_x, prob_u, prn_u, unOb_ob, iteX, setTs, putN, blX, noDict, insAt, op_ai, op_at, op_al, op_si, op_mi, op_mt, op_mb, rp_i, rv_l, op_fd, op_md, idx_t, idx_l, slc_t, slc_l, isa_i, isa_b, isa_s, isa_t, isa_l, isa_n, b2_min, b2_max, cp_lt, cp_le, cp_gt, cp_ge, cp_eqi, cp_nei, cp_is, cp_isnot, is_nn, is_bb, is_in, is_bn, is_sn, is_tn, is_ln, ok_n, ok_b, ok_i, ok_t, ok_l, eqv_int, eqv_tup, eqv_lst, eqv_nn, eqv_bb, eqv_tn, eqv_nt, eqa_nn, eqa_nc, eqa_cn, eqa_cc, eqvs_ints, int_beq, itemsD, wipeOk, Slot.holds, Tg.slots, wipeE, bindTg, setAll, evP, prt, setPs, Ps.slots, asList, compL, cap, flatD, tu, li, ite_and, ite_or, cut_tail, at_nat, bi_len_t, bi_len_l, bi_all, bi_any, bi_tup_l, bi_tup_t, bi_lst_l, bi_lst_t, b_is_decoder]
theorem s_dec (k : Nat) (c : Dc) (h : c.Ok) : G (k + 2) 9 [c.d] = .ok (.bool true) := by
  have := s_dec4 k (.int c.L) (.str c.ov.s) (.bool c.su) (.str c.po.s) rfl rfl rfl rfl
  have e := isDec_ok h
  unfold Dc.d at e ⊢
  rw [this, e]
theorem s_chk_dec (k : Nat) (v : D) (b : Bool) (h : G (k + 2) 9 [v] = .ok (.bool b)) : G (k + 3) 10 [v] = if b = true then .ok .none else .exc 2 := by
  rw [g_check_decoder]
  cases b <;> simp [evD, ssn, ssc, evS, evE, evEs, evI, evC, evO, evB, evX, evXs, evDo, endO, prm_n, prm_b, prm_i, prm_l, prm_t, prm_x, prob_u, prn_u, unOb_ob, iteX, setTs, putN, blX, noDict, insAt, op_ai, op_at, op_al, op_si, op_mi, op_mt, op_mb, rp_i, rv_l, op_fd, op_md, idx_t, idx_l, slc_t, slc_l, isa_i, isa_b, isa_s, isa_t, isa_l, isa_n, b2_min, b2_max, cp_lt, cp_le, cp_gt, cp_ge, cp_eqi, cp_nei, cp_eq, cp_ne, cp_is, cp_isnot, cp_int, cp_nint, cp_inl, cp_ninl, is_nn, is_bb, is_in, is_bn, is_sn, is_tn, is_ln, ok_n, ok_b, ok_i, ok_t, ok_l, eqv_int, eqv_tup, eqv_lst, eqv_nn, eqv_bb, eqv_tn, eqv_nt, eqa_nn, eqa_nc, eqa_cn, eqa_cc, eqvs_ints, int_beq, itemsD, wipeOk, Slot.holds, Tg.slots, wipeE, bindTg, setAll, evP, prt, setPs, Ps.slots, asList, compL, cap, flatD, tu, li, ite_and, ite_or, cut_tail, at_nat, bi_len_t, bi_len_l, bi_all, bi_any, bi_tup_l, bi_tup_t, bi_lst_l, bi_lst_t, b_check_decoder, h]
theorem s_chk_ok (k : Nat) (c : Dc) (h : c.Ok) : G (k + 3) 10 [c.d] = .ok .none := s_chk_dec k c.d true (s_dec k c h)
theorem s_begins (k : Nat) (c : Dc) (b : Int) (r : List Int) : G (k + 3) 11 [c.d, tu (b :: r)] = .ok (.bool (beg c (b :: r))) := by
  rw [g_begins]
  have e2 : compL (fun d => Rs.bd (G (k + 2) 3 [d]) fun v => Rs.ok (some v)) (r.map PyData.int) = .ok (r.map fun d => PyData.bool (isCont d)) := compL_each fun d hd => by
    rw [s_cont]; rfl
  by_cases a1 : (r.length : Int) + 1 ≤ ann b
  case neg => simp [evD, ssn, ssc, evS, evE, evEs, evI, evC, evO, evB, evX, evXs, evDo, endO, prm_n, prm_b, prm_i, prm_l, prm_t, prm_x, prob_u, prn_u, unOb_ob, iteX, setTs, putN, blX, noDict, insAt, op_ai, op_at, op_al, op_si, op_mi, op_mt, op_mb, rp_i, rv_l, op_fd, op_md, idx_t, idx_l, slc_t, slc_l, isa_i, isa_b, isa_s, isa_t, isa_l, isa_n, b2_min, b2_max, cp_lt, cp_le, cp_gt, cp_ge, cp_eqi, cp_nei, cp_eq, cp_ne, cp_is, cp_isnot, cp_int, cp_nint, cp_inl, cp_ninl, is_nn, is_bb, is_in, is_bn, is_sn, is_tn, is_ln, ok_n, ok_b, ok_i, ok_t, ok_l, eqv_int, eqv_tup, eqv_lst, eqv_nn, eqv_bb, eqv_tn, eqv_nt, eqa_nn, eqa_nc, eqa_cn, eqa_cc, eqvs_ints, int_beq, itemsD, wipeOk, Slot.holds, Tg.slots, wipeE, bindTg, setAll, evP, prt, setPs, Ps.slots, asList, compL, cap, flatD, tu, li, ite_and, ite_or, cut_tail, at_nat, bi_len_t, bi_len_l, bi_all, bi_any, bi_tup_l, bi_tup_t, bi_lst_l, bi_lst_t, b_begins, Dc.d, s_ann, a1, beg]
  by_cases a2 : ann b ≤ c.L
  case neg => simp [evD, ssn, ssc, evS, evE, evEs, evI, evC, evO, evB, evX, evXs, evDo, endO, prm_n, prm_b, prm_i, prm_l, prm_t, prm_x, prob_u, prn_u, unOb_ob, iteX, setTs, putN, blX, noDict, insAt, op_ai, op_at, op_al, op_si, op_mi, op_mt, op_mb, rp_i, rv_l, op_fd, op_md, idx_t, idx_l, slc_t, slc_l, isa_i, isa_b, isa_s, isa_t, isa_l, isa_n, b2_min, b2_max, cp_lt, cp_le, cp_gt, cp_ge, cp_eqi, cp_nei, cp_eq, cp_ne, cp_is, cp_isnot, cp_int, cp_nint, cp_inl, cp_ninl, is_nn, is_bb, is_in, is_bn, is_sn, is_tn, is_ln, ok_n, ok_b, ok_i, ok_t, ok_l, eqv_int, eqv_tup, eqv_lst, eqv_nn, eqv_bb, eqv_tn, eqv_nt, eqa_nn, eqa_nc, eqa_cn, eqa_cc, eqvs_ints, int_beq, itemsD, wipeOk, Slot.holds, Tg.slots, wipeE, bindTg, setAll, evP, prt, setPs, Ps.slots, asList, compL, cap, flatD, tu, li, ite_and, ite_or, cut_tail, at_nat, bi_len_t, bi_len_l, bi_all, bi_any, bi_tup_l, bi_tup_t, bi_lst_l, bi_lst_t, b_begins, Dc.d, s_ann, a1, a2, beg]
  cases a3 : r.all isCont
  case false => simp [evD, ssn, ssc, evS, evE, evEs, evI, evC, evO, evB, evX, evXs, evDo, endO, prm_n, prm_b, prm_i, prm_l, prm_t, prm_x, prob_u, prn_u, unOb_ob, iteX, setTs, putN, blX, noDict, insAt, op_ai, op_at, op_al, op_si, op_mi, op_mt, op_mb, rp_i, rv_l, op_fd, op_md, idx_t, idx_l, slc_t, slc_l, isa_i, isa_b, isa_s, isa_t, isa_l, isa_n, b2_min, b2_max, cp_lt, cp_le, cp_gt, cp_ge, cp_eqi, cp_nei, cp_eq, cp_ne, cp_is, cp_isnot, cp_int, cp_nint, cp_inl, cp_ninl, is_nn, is_bb, is_in, is_bn, is_sn, is_tn, is_ln, ok_n, ok_b, ok_i, ok_t, ok_l, eqv_int, eqv_tup, eqv_lst, eqv_nn, eqv_bb, eqv_tn, eqv_nt, eqa_nn, eqa_nc, eqa_cn, eqa_cc, eqvs_ints, int_beq, itemsD, wipeOk, Slot.holds, Tg.slots, wipeE, bindTg, setAll, evP, prt, setPs, Ps.slots, asList, compL, cap, flatD, tu, li, ite_and, ite_or, cut_tail, at_nat, bi_len_t, bi_len_l, bi_all, bi_any, bi_tup_l, bi_tup_t, bi_lst_l, bi_lst_t, b_begins, Dc.d, s_ann, a1, a2, a3, beg, e2]
  obtain ⟨l1, l2⟩ := ann_range b
  have ez : PyData.eqv (.str c.ov.s) (.str "zero") = decide (c.ov = .zero) := ov_zero c.ov
  have ea : PyData.eqv (.str c.ov.s) (.str "all") = decide (c.ov = .all) := ov_all c.ov
  have q1 : cmpD .eq (.str c.ov.s) (.str "zero") = some (decide (c.ov = .zero)) := by simp [cmpD, ok_ov 7, ok_s2 7, ez]
  have q2 : cmpD .eq (.str c.ov.s) (.str "all") = some (decide (c.ov = .all)) := by simp [cmpD, ok_ov 7, ok_s3 7, ea]
  have q3 : cutD [PyData.int 192, PyData.int 128] none (some ((r.length : Int) + 1)) = (([192, 128] : List Int).take (r.length + 1)).map PyData.int := by
    rw [cut_to _ (by omega), List.map_take]
    congr 1
  have q4 : cmpD .eq (.tuple (PyData.int b :: r.map PyData.int)) (.tuple (.int 192 :: List.take r.length [PyData.int 128])) = some (decide (b :: r = ([192, 128] : List Int).take (r.length + 1))) := by
    have := eqv_tu (b :: r) (([192, 128] : List Int).take (r.length + 1))
    have o1 := ok_tu 6 (b :: r)
    have o2 := ok_tu 6 (([192, 128] : List Int).take (r.length + 1))
    simp only [tu, List.map_cons, List.map_take, List.map_nil, List.take_succ_cons] at this o1 o2
    simp only [cmpD, o1, o2, this]
    simp
  have qz : cmpD .eq (.str Ov.zero.s) (.str "zero") = some true := by
    have := ov_zero .zero
    simp [cmpD, ok_ov 7, ok_s2 7, this]
  have m0 : 0 ≤ ann b - ((r.length : Int) + 1) := by omega
  have v1 : G (k + 2) 6 [.tuple (.int b :: (r.map PyData.int ++ List.replicate (ann b - ((r.length : Int) + 1)).toNat (.int 128)))] = .ok (.int (fold64 (valF (b :: r)) (List.replicate (ann b - ((r.length : Int) + 1)).toNat 128))) := by
    have := s_valF k b (r ++ List.replicate (ann b - ((r.length : Int) + 1)).toNat 128)
    simp only [tu, List.map_cons, List.map_append, List.map_replicate] at this
    rw [this]
    simp only [valF, fold64, List.foldl_append]
  have v2 : G (k + 2) 6 [.tuple (.int b :: (r.map PyData.int ++ List.replicate (ann b - ((r.length : Int) + 1)).toNat (.int 191)))] = .ok (.int (fold64 (valF (b :: r)) (List.replicate (ann b - ((r.length : Int) + 1)).toNat 191))) := by
    have := s_valF k b (r ++ List.replicate (ann b - ((r.length : Int) + 1)).toNat 191)
    simp only [tu, List.map_cons, List.map_append, List.map_replicate] at this
    rw [this]
    simp only [valF, fold64, List.foldl_append]
  have lst := s_least (k + 1) (ann b) (by omega) l2
  have hl : r.length + 1 + (ann b - ((r.length : Int) + 1)).toNat ≤ 16777216 := by omega
  have hl2 : r.length + (ann b - ((r.length : Int) + 1)).toNat + 1 ≤ 16777216 := by omega
  have hk : ann b - ((r.length : Int) + 1) ≤ 1000 := by omega
  have hbeg : beg c (b :: r) = if c.ov = .zero ∧ decide ((b :: r) = ([192, 128] : List Int).take (r.length + 1)) = true then true else
        (let m := (ann b - ((r.length : Int) + 1)).toNat
        let low := max (fold64 (valF (b :: r)) (List.replicate m 128)) (if c.ov = .all then 0 else least (ann b))
        let high := min (fold64 (valF (b :: r)) (List.replicate m 191)) 1114111
        decide (low ≤ high) && (c.su || (decide (low < 55296) || decide (57343 < high)))) := by
    unfold beg
    dsimp only
    rw [if_pos ⟨⟨a1, a2⟩, a3⟩]
    simp only [decide_eq_true_eq]
  rw [hbeg]
  generalize decide ((b :: r) = ([192, 128] : List Int).take (r.length + 1)) = E at q4 ⊢
  dsimp only
  generalize hlow : fold64 (valF (b :: r)) (List.replicate (ann b - ((r.length : Int) + 1)).toNat 128) = lo at v1 ⊢
  generalize hhigh : fold64 (valF (b :: r)) (List.replicate (ann b - ((r.length : Int) + 1)).toNat 191) = hi at v2 ⊢
  clear hlow hhigh hbeg
  cases ho : c.ov with
  | zero =>
    have qa : cmpD .eq (.str Ov.zero.s) (.str "all") = some false := by
      have := ov_all .zero
      simp [cmpD, ok_ov 7, ok_s3 7, this]
    cases E with
    | true => simp [evD, ssn, ssc, evS, evE, evEs, evI, evC, evO, evB, evX, evXs, evDo, endO, prm_n, prm_b, prm_i, prm_l, prm_t, prm_x, prob_u, prn_u, unOb_ob, iteX, setTs, putN, blX, noDict, insAt, op_ai, op_at, op_al, op_si, op_mi, op_mt, op_mb, rp_i, rv_l, op_fd, op_md, idx_t, idx_l, slc_t, slc_l, isa_i, isa_b, isa_s, isa_t, isa_l, isa_n, b2_min, b2_max, cp_lt, cp_le, cp_gt, cp_ge, cp_eqi, cp_nei, cp_is, cp_isnot, is_nn, is_bb, is_in, is_bn, is_sn, is_tn, is_ln, ok_n, ok_b, ok_i, ok_t, ok_l, eqv_int, eqv_tup, eqv_lst, eqv_nn, eqv_bb, eqv_tn, eqv_nt, eqa_nn, eqa_nc, eqa_cn, eqa_cc, eqvs_ints, int_beq, itemsD, wipeOk, Slot.holds, Tg.slots, wipeE, bindTg, setAll, evP, prt, setPs, Ps.slots, asList, compL, cap, flatD, tu, li, ite_and, ite_or, cut_tail, at_nat, bi_len_t, bi_len_l, bi_all, bi_any, bi_tup_l, bi_tup_t, bi_lst_l, bi_lst_t, b_begins, Dc.d, s_ann, a1, a2, a3, e2, ho, qz, q3, q4, C_ZERO, C_ZERO_BYTES, show ¬ (r.length : Int) + 1 < 0 from by omega]
    | false =>
      simp [evD, ssn, ssc, evS, evE, evEs, evI, evC, evO, evB, evX, evXs, evDo, endO, prm_n, prm_b, prm_i, prm_l, prm_t, prm_x, prob_u, prn_u, unOb_ob, iteX, setTs, putN, blX, noDict, insAt, op_ai, op_at, op_al, op_si, op_mi, op_mt, op_mb, rp_i, rv_l, op_fd, op_md, idx_t, idx_l, slc_t, slc_l, isa_i, isa_b, isa_s, isa_t, isa_l, isa_n, b2_min, b2_max, cp_lt, cp_le, cp_gt, cp_ge, cp_eqi, cp_nei, cp_is, cp_isnot, is_nn, is_bb, is_in, is_bn, is_sn, is_tn, is_ln, ok_n, ok_b, ok_i, ok_t, ok_l, eqv_int, eqv_tup, eqv_lst, eqv_nn, eqv_bb, eqv_tn, eqv_nt, eqa_nn, eqa_nc, eqa_cn, eqa_cc, eqvs_ints, int_beq, itemsD, wipeOk, Slot.holds, Tg.slots, wipeE, bindTg, setAll, evP, prt, setPs, Ps.slots, asList, compL, cap, flatD, tu, li, ite_and, ite_or, cut_tail, at_nat, bi_len_t, bi_len_l, bi_all, bi_any, bi_tup_l, bi_tup_t, bi_lst_l, bi_lst_t, b_begins, Dc.d, s_ann, a1, a2, a3, e2, ho, qz, qa, q3, q4, C_ZERO, C_ALL, C_ZERO_BYTES, C_FIRST_CONTINUATION, C_LAST_CONTINUATION, C_FIRST_SURROGATE, C_LAST_SURROGATE, C_MAX_CODE, show ¬ (r.length : Int) + 1 < 0 from by omega, m0, v1, v2, lst, hl, hl2, hk]
  | none =>
    have qy : cmpD .eq (.str Ov.none.s) (.str "zero") = some false := by
      have := ov_zero .none
      simp [cmpD, ok_ov 7, ok_s2 7, this]
    have qa : cmpD .eq (.str Ov.none.s) (.str "all") = some false := by
      have := ov_all .none
      simp [cmpD, ok_ov 7, ok_s3 7, this]
    simp [evD, ssn, ssc, evS, evE, evEs, evI, evC, evO, evB, evX, evXs, evDo, endO, prm_n, prm_b, prm_i, prm_l, prm_t, prm_x, prob_u, prn_u, unOb_ob, iteX, setTs, putN, blX, noDict, insAt, op_ai, op_at, op_al, op_si, op_mi, op_mt, op_mb, rp_i, rv_l, op_fd, op_md, idx_t, idx_l, slc_t, slc_l, isa_i, isa_b, isa_s, isa_t, isa_l, isa_n, b2_min, b2_max, cp_lt, cp_le, cp_gt, cp_ge, cp_eqi, cp_nei, cp_is, cp_isnot, is_nn, is_bb, is_in, is_bn, is_sn, is_tn, is_ln, ok_n, ok_b, ok_i, ok_t, ok_l, eqv_int, eqv_tup, eqv_lst, eqv_nn, eqv_bb, eqv_tn, eqv_nt, eqa_nn, eqa_nc, eqa_cn, eqa_cc, eqvs_ints, int_beq, itemsD, wipeOk, Slot.holds, Tg.slots, wipeE, bindTg, setAll, evP, prt, setPs, Ps.slots, asList, compL, cap, flatD, tu, li, ite_and, ite_or, cut_tail, at_nat, bi_len_t, bi_len_l, bi_all, bi_any, bi_tup_l, bi_tup_t, bi_lst_l, bi_lst_t, b_begins, Dc.d, s_ann, a1, a2, a3, e2, ho, qy, qa, q3, q4, C_ZERO, C_ALL, C_ZERO_BYTES, C_FIRST_CONTINUATION, C_LAST_CONTINUATION, C_FIRST_SURROGATE, C_LAST_SURROGATE, C_MAX_CODE, show ¬ (r.length : Int) + 1 < 0 from by omega, m0, v1, v2, lst, hl, hl2, hk]
  | all =>
    have qy : cmpD .eq (.str Ov.all.s) (.str "zero") = some false := by
      have := ov_zero .all
      simp [cmpD, ok_ov 7, ok_s2 7, this]
    have qa : cmpD .eq (.str Ov.all.s) (.str "all") = some true := by
      have := ov_all .all
      simp [cmpD, ok_ov 7, ok_s3 7, this]
    simp [evD, ssn, ssc, evS, evE, evEs, evI, evC, evO, evB, evX, evXs, evDo, endO, prm_n, prm_b, prm_i, prm_l, prm_t, prm_x, prob_u, prn_u, unOb_ob, iteX, setTs, putN, blX, noDict, insAt, op_ai, op_at, op_al, op_si, op_mi, op_mt, op_mb, rp_i, rv_l, op_fd, op_md, idx_t, idx_l, slc_t, slc_l, isa_i, isa_b, isa_s, isa_t, isa_l, isa_n, b2_min, b2_max, cp_lt, cp_le, cp_gt, cp_ge, cp_eqi, cp_nei, cp_is, cp_isnot, is_nn, is_bb, is_in, is_bn, is_sn, is_tn, is_ln, ok_n, ok_b, ok_i, ok_t, ok_l, eqv_int, eqv_tup, eqv_lst, eqv_nn, eqv_bb, eqv_tn, eqv_nt, eqa_nn, eqa_nc, eqa_cn, eqa_cc, eqvs_ints, int_beq, itemsD, wipeOk, Slot.holds, Tg.slots, wipeE, bindTg, setAll, evP, prt, setPs, Ps.slots, asList, compL, cap, flatD, tu, li, ite_and, ite_or, cut_tail, at_nat, bi_len_t, bi_len_l, bi_all, bi_any, bi_tup_l, bi_tup_t, bi_lst_l, bi_lst_t, b_begins, Dc.d, s_ann, a1, a2, a3, e2, ho, qy, qa, q3, q4, C_ZERO, C_ALL, C_ZERO_BYTES, C_FIRST_CONTINUATION, C_LAST_CONTINUATION, C_FIRST_SURROGATE, C_LAST_SURROGATE, C_MAX_CODE, show ¬ (r.length : Int) + 1 < 0 from by omega, m0, v1, v2, lst, hl, hl2, hk]
end Pu

set_option maxHeartbeats 1000000
namespace Pu
open PySem PySem.Spec PyProof.Rows L2
end Pu

set_option maxHeartbeats 1000000
namespace Pu
open PySem PySem.Spec PyProof.Rows L2
def rest1 : Nat → Int → Int → Int × Int
  | 0, r, t => (r, t)
  | n + 1, r, t => if 0 < r ∧ 0 < t then rest1 n (r / 1000000) (t - 1) else (r, t)
def mix (cell k m : Int) : Int :=
  let a := (cell % 2147483563 * 69069 + 104723 * (k + 1)) % 2147483563
  let b := (a * a + a / 3) % 2147483399
  (b * b + b / 7) % 2147483647 / 11 % m
def drawn (ns : List Int) (k m : Int) : Int := if ns = [] then mix (7 * k) k m else
  let cell := (L2.atI ns (k % ns.length)).getD 0
  let t := k / ns.length
  let r := if 1000000000000000000 ≤ cell ∧ t < 60 then (rest1 60 (cell / 1000000000000000000) t).1 else 0
  if 0 < r then r % 1000000 % m else mix (cell + 6553 * t) k m
theorem mix_range (c k : Int) {m : Int} (h : 0 < m) : 0 ≤ mix c k m ∧ mix c k m < m := by
  unfold mix
  exact ⟨Int.emod_nonneg _ (by omega), Int.emod_lt_of_pos _ h⟩
theorem drawn_range (ns : List Int) (k : Int) {m : Int} (h : 0 < m) : 0 ≤ drawn ns k m ∧ drawn ns k m < m := by
  unfold drawn
  by_cases hn : ns = []
  · rw [if_pos hn]; exact mix_range _ _ h
  · rw [if_neg hn]
    dsimp only
    generalize (if 1000000000000000000 ≤ (L2.atI ns (k % ns.length)).getD 0 ∧ k / ns.length < 60 then (rest1 60 ((L2.atI ns (k % ns.length)).getD 0 / 1000000000000000000) (k / ns.length)).1 else 0) = r
    split
    · exact ⟨Int.emod_nonneg _ (by omega), Int.emod_lt_of_pos _ h⟩
    · exact mix_range _ _ h
def tailD : Ss := (.cons (.set 3 (.op .mod (.op .add (.op .mul (.op .mod (.var 3) (.int 2147483563)) (.int 69069)) (.op .mul (.int 104723) (.op .add (.var 1) (.int 1)))) (.int 2147483563)))
    (.cons (.set 3 (.op .mod (.op .add (.op .mul (.var 3) (.var 3)) (.op .fdiv (.var 3) (.int 3))) (.int 2147483399)))
    (.cons (.ret (.op .mod (.op .fdiv (.op .mod (.op .add (.op .mul (.var 3) (.var 3)) (.op .fdiv (.var 3) (.int 7))) (.int 2147483647)) (.int 11)) (.var 2)))
    .nil)))
theorem mix_tail (k : Nat) (ns : List Int) (cell p m : Int) (s4 s5 : Slot) (hp : 0 ≤ p) (hp2 : p ≤ 1000000) (hm : 0 < m) :
    evSs tx.C (G k) tailD [.cl (li ns), .cl (.int p), .cl (.int m), .cl (.int cell), s4, s5] = .ret (.int (mix cell p m)) := by
  have a0 : 0 ≤ (cell % 2147483563 * 69069 + 104723 * (p + 1)) % 2147483563 := Int.emod_nonneg _ (by omega)
  have a1 : (cell % 2147483563 * 69069 + 104723 * (p + 1)) % 2147483563 < 2147483563 := Int.emod_lt_of_pos _ (by omega)
  simp only [mix]
  generalize ha : (cell % 2147483563 * 69069 + 104723 * (p + 1)) % 2147483563 = a at a0 a1 ⊢
  have b0 : 0 ≤ (a * a + a / 3) % 2147483399 := Int.emod_nonneg _ (by omega)
  have b1 : (a * a + a / 3) % 2147483399 < 2147483399 := Int.emod_lt_of_pos _ (by omega)
  generalize hb : (a * a + a / 3) % 2147483399 = b at b0 b1 ⊢
  have l1 : Nat.log2 3 < 9000 := by decide +kernel
  have l2 : Nat.log2 7 < 9000 := by decide +kernel
  have l3 : Nat.log2 11 < 9000 := by decide +kernel
  simp [evD, ssn, ssc, evS, evE, evEs, evI, evC, evO, evB, evX, evXs, evDo, endO, prm_n, prm_b, prm_i, prm_l, prm_t, prm_x, prob_u, prn_u, unOb_ob, iteX, setTs, putN, blX, noDict, insAt, op_ai, op_at, op_al, op_si, op_mi, op_mt, op_mb, rp_i, rv_l, op_fd, op_md, idx_t, idx_l, slc_t, slc_l, isa_i, isa_b, isa_s, isa_t, isa_l, isa_n, b2_min, b2_max, cp_lt, cp_le, cp_gt, cp_ge, cp_eqi, cp_nei, cp_eq, cp_ne, cp_is, cp_isnot, cp_int, cp_nint, cp_inl, cp_ninl, is_nn, is_bb, is_in, is_bn, is_sn, is_tn, is_ln, ok_n, ok_b, ok_i, ok_t, ok_l, eqv_int, eqv_tup, eqv_lst, eqv_nn, eqv_bb, eqv_tn, eqv_nt, eqa_nn, eqa_nc, eqa_cn, eqa_cc, eqvs_ints, int_beq, itemsD, wipeOk, Slot.holds, Tg.slots, wipeE, bindTg, setAll, evP, prt, setPs, Ps.slots, asList, compL, cap, flatD, tu, li, ite_and, ite_or, cut_tail, at_nat, bi_len_t, bi_len_l, bi_all, bi_any, bi_tup_l, bi_tup_t, bi_lst_l, bi_lst_t, tailD, ha, hb, hm, l1, l2, l3, show -18446744073709551616 < a from by omega, show a < 18446744073709551616 from by omega, show -18446744073709551616 < b from by omega, show b < 18446744073709551616 from by omega]
theorem rest1_loop (k : Nat) : ∀ (n : Nat) (r t : Int) (s0 s1 s2 s3 : Slot) (N : Nat), 0 ≤ t → t < n + 1 → n + 1 < N →
    whileL (evB tx.C (G k) (.and (.cmp .gt (.var 5) (.int 0)) (.cmp .gt (.var 4) (.int 0)))) (evSs tx.C (G k) w__law_drawn_0) N [s0, s1, s2, s3, .cl (.int t), .cl (.int r)] = .next [s0, s1, s2, s3, .cl (.int (rest1 (n + 1) r t).2), .cl (.int (rest1 (n + 1) r t).1)]
  | n, r, t, s0, s1, s2, s3, 0, _, _, h => absurd h (Nat.not_lt_zero _)
  | n, r, t, s0, s1, s2, s3, N + 1, h0, h1, hN => by
    unfold whileL
    by_cases h2 : 0 < r
    · by_cases h3 : 0 < t
      · have e : evSs tx.C (G k) w__law_drawn_0 [s0, s1, s2, s3, .cl (.int t), .cl (.int r)] = .next [s0, s1, s2, s3, .cl (.int (t - 1)), .cl (.int (r / 1000000))] := by
          have l : Nat.log2 1000000 < 9000 := by decide +kernel
          simp [evD, ssn, ssc, evS, evE, evEs, evI, evC, evO, evB, evX, evXs, evDo, endO, prm_n, prm_b, prm_i, prm_l, prm_t, prm_x, prob_u, prn_u, unOb_ob, iteX, setTs, putN, blX, noDict, insAt, op_ai, op_at, op_al, op_si, op_mi, op_mt, op_mb, rp_i, rv_l, op_fd, op_md, idx_t, idx_l, slc_t, slc_l, isa_i, isa_b, isa_s, isa_t, isa_l, isa_n, b2_min, b2_max, cp_lt, cp_le, cp_gt, cp_ge, cp_eqi, cp_nei, cp_eq, cp_ne, cp_is, cp_isnot, cp_int, cp_nint, cp_inl, cp_ninl, is_nn, is_bb, is_in, is_bn, is_sn, is_tn, is_ln, ok_n, ok_b, ok_i, ok_t, ok_l, eqv_int, eqv_tup, eqv_lst, eqv_nn, eqv_bb, eqv_tn, eqv_nt, eqa_nn, eqa_nc, eqa_cn, eqa_cc, eqvs_ints, int_beq, itemsD, wipeOk, Slot.holds, Tg.slots, wipeE, bindTg, setAll, evP, prt, setPs, Ps.slots, asList, compL, cap, flatD, tu, li, ite_and, ite_or, cut_tail, at_nat, bi_len_t, bi_len_l, bi_all, bi_any, bi_tup_l, bi_tup_t, bi_lst_l, bi_lst_t, w__law_drawn_0, l]
        have ec : evB tx.C (G k) (.and (.cmp .gt (.var 5) (.int 0)) (.cmp .gt (.var 4) (.int 0))) [s0, s1, s2, s3, .cl (.int t), .cl (.int r)] = .ok true := by simp [evD, ssn, ssc, evS, evE, evEs, evI, evC, evO, evB, evX, evXs, evDo, endO, prm_n, prm_b, prm_i, prm_l, prm_t, prm_x, prob_u, prn_u, unOb_ob, iteX, setTs, putN, blX, noDict, insAt, op_ai, op_at, op_al, op_si, op_mi, op_mt, op_mb, rp_i, rv_l, op_fd, op_md, idx_t, idx_l, slc_t, slc_l, isa_i, isa_b, isa_s, isa_t, isa_l, isa_n, b2_min, b2_max, cp_lt, cp_le, cp_gt, cp_ge, cp_eqi, cp_nei, cp_eq, cp_ne, cp_is, cp_isnot, cp_int, cp_nint, cp_inl, cp_ninl, is_nn, is_bb, is_in, is_bn, is_sn, is_tn, is_ln, ok_n, ok_b, ok_i, ok_t, ok_l, eqv_int, eqv_tup, eqv_lst, eqv_nn, eqv_bb, eqv_tn, eqv_nt, eqa_nn, eqa_nc, eqa_cn, eqa_cc, eqvs_ints, int_beq, itemsD, wipeOk, Slot.holds, Tg.slots, wipeE, bindTg, setAll, evP, prt, setPs, Ps.slots, asList, compL, cap, flatD, tu, li, ite_and, ite_or, cut_tail, at_nat, bi_len_t, bi_len_l, bi_all, bi_any, bi_tup_l, bi_tup_t, bi_lst_l, bi_lst_t, h2, h3]
        rw [ec]
        simp only [outk, if_true]
        rw [e]
        simp only [turnn]
        cases n with
        | zero => omega
        | succ n =>
          rw [rest1_loop k n (r / 1000000) (t - 1) s0 s1 s2 s3 N (by omega) (by omega) (by omega)]
          have : rest1 (n + 1 + 1) r t = rest1 (n + 1) (r / 1000000) (t - 1) := by rw [rest1, if_pos ⟨h2, h3⟩]
          rw [this]
      · have ec : evB tx.C (G k) (.and (.cmp .gt (.var 5) (.int 0)) (.cmp .gt (.var 4) (.int 0))) [s0, s1, s2, s3, .cl (.int t), .cl (.int r)] = .ok false := by simp [evD, ssn, ssc, evS, evE, evEs, evI, evC, evO, evB, evX, evXs, evDo, endO, prm_n, prm_b, prm_i, prm_l, prm_t, prm_x, prob_u, prn_u, unOb_ob, iteX, setTs, putN, blX, noDict, insAt, op_ai, op_at, op_al, op_si, op_mi, op_mt, op_mb, rp_i, rv_l, op_fd, op_md, idx_t, idx_l, slc_t, slc_l, isa_i, isa_b, isa_s, isa_t, isa_l, isa_n, b2_min, b2_max, cp_lt, cp_le, cp_gt, cp_ge, cp_eqi, cp_nei, cp_eq, cp_ne, cp_is, cp_isnot, cp_int, cp_nint, cp_inl, cp_ninl, is_nn, is_bb, is_in, is_bn, is_sn, is_tn, is_ln, ok_n, ok_b, ok_i, ok_t, ok_l, eqv_int, eqv_tup, eqv_lst, eqv_nn, eqv_bb, eqv_tn, eqv_nt, eqa_nn, eqa_nc, eqa_cn, eqa_cc, eqvs_ints, int_beq, itemsD, wipeOk, Slot.holds, Tg.slots, wipeE, bindTg, setAll, evP, prt, setPs, Ps.slots, asList, compL, cap, flatD, tu, li, ite_and, ite_or, cut_tail, at_nat, bi_len_t, bi_len_l, bi_all, bi_any, bi_tup_l, bi_tup_t, bi_lst_l, bi_lst_t, h2, h3]
        rw [ec, rest1, if_neg (fun z => h3 z.2)]
        rfl
    · have ec : evB tx.C (G k) (.and (.cmp .gt (.var 5) (.int 0)) (.cmp .gt (.var 4) (.int 0))) [s0, s1, s2, s3, .cl (.int t), .cl (.int r)] = .ok false := by simp [evD, ssn, ssc, evS, evE, evEs, evI, evC, evO, evB, evX, evXs, evDo, endO, prm_n, prm_b, prm_i, prm_l, prm_t, prm_x, prob_u, prn_u, unOb_ob, iteX, setTs, putN, blX, noDict, insAt, op_ai, op_at, op_al, op_si, op_mi, op_mt, op_mb, rp_i, rv_l, op_fd, op_md, idx_t, idx_l, slc_t, slc_l, isa_i, isa_b, isa_s, isa_t, isa_l, isa_n, b2_min, b2_max, cp_lt, cp_le, cp_gt, cp_ge, cp_eqi, cp_nei, cp_eq, cp_ne, cp_is, cp_isnot, cp_int, cp_nint, cp_inl, cp_ninl, is_nn, is_bb, is_in, is_bn, is_sn, is_tn, is_ln, ok_n, ok_b, ok_i, ok_t, ok_l, eqv_int, eqv_tup, eqv_lst, eqv_nn, eqv_bb, eqv_tn, eqv_nt, eqa_nn, eqa_nc, eqa_cn, eqa_cc, eqvs_ints, int_beq, itemsD, wipeOk, Slot.holds, Tg.slots, wipeE, bindTg, setAll, evP, prt, setPs, Ps.slots, asList, compL, cap, flatD, tu, li, ite_and, ite_or, cut_tail, at_nat, bi_len_t, bi_len_l, bi_all, bi_any, bi_tup_l, bi_tup_t, bi_lst_l, bi_lst_t, h2]
      rw [ec, rest1, if_neg (fun z => h2 z.1)]
      rfl
def inD1 : Ss := .cons (.set 5 (.op .fdiv (.var 3) (.op .pow (.int 10) (.int 18)))) (.cons (.while_ (.and (.cmp .gt (.var 5) (.int 0)) (.cmp .gt (.var 4) (.int 0))) w__law_drawn_0) (.cons (.ite (.cmp .gt (.var 5) (.int 0)) (.cons (.ret (.op .mod (.op .mod (.var 5) (.int 1000000)) (.var 2))) .nil) .nil) .nil))
def blkD : Ss := .cons (.set 3 (.idx (.var 0) (.op .mod (.var 1) (.bi .len (.var 0))))) (.cons (.set 4 (.op .fdiv (.var 1) (.bi .len (.var 0)))) (.cons (.ite (.and (.cmp .ge (.var 3) (.op .pow (.int 10) (.int 18))) (.cmp .lt (.var 4) (.int 60))) inD1 .nil) (.cons (.set 3 (.op .add (.var 3) (.op .mul (.int 6553) (.op .fdiv (.var 1) (.bi .len (.var 0)))))) .nil)))
theorem drawn_body : b__law_drawn = .cons (.set 3 (.op .mul (.int 7) (.var 1))) (.cons (.ite (.cmp .ne (.var 0) (.lst .nil)) blkD .nil) tailD) := rfl
theorem pow18 : op2 .pow (.int 10) (.int 18) = .ok (.int 1000000000000000000) := by rfl
theorem s_drawn (k : Nat) (ns : List Int) (p m : Int) (hl : ns.length ≤ 63) (hp : 0 ≤ p) (hp2 : p ≤ 1000000) (hm : 0 < m) : G (k + 1) 19 [li ns, .int p, .int m] = .ok (.int (drawn ns p m)) := by
  rw [g__law_drawn, drawn_body]
  have mt := fun cell s4 s5 => mix_tail k ns cell p m s4 s5 hp hp2 hm
  by_cases hn : ns = []
  · subst hn
    have e1 : drawn [] p m = mix (7 * p) p m := by unfold drawn; rw [if_pos rfl]
    rw [e1]
    simp only [li, List.map_nil] at mt
    simp [evD, ssn, ssc, evS, evE, evEs, evI, evC, evO, evB, evX, evXs, evDo, endO, prm_n, prm_b, prm_i, prm_l, prm_t, prm_x, prob_u, prn_u, unOb_ob, iteX, setTs, putN, blX, noDict, insAt, op_ai, op_at, op_al, op_si, op_mi, op_mt, op_mb, rp_i, rv_l, op_fd, op_md, idx_t, idx_l, slc_t, slc_l, isa_i, isa_b, isa_s, isa_t, isa_l, isa_n, b2_min, b2_max, cp_lt, cp_le, cp_gt, cp_ge, cp_eqi, cp_nei, cp_eq, cp_ne, cp_is, cp_isnot, cp_int, cp_nint, cp_inl, cp_ninl, is_nn, is_bb, is_in, is_bn, is_sn, is_tn, is_ln, ok_n, ok_b, ok_i, ok_t, ok_l, eqv_int, eqv_tup, eqv_lst, eqv_nn, eqv_bb, eqv_tn, eqv_nt, eqa_nn, eqa_nc, eqa_cn, eqa_cc, eqvs_ints, int_beq, itemsD, wipeOk, Slot.holds, Tg.slots, wipeE, bindTg, setAll, evP, prt, setPs, Ps.slots, asList, compL, cap, flatD, tu, li, ite_and, ite_or, cut_tail, at_nat, bi_len_t, bi_len_l, bi_all, bi_any, bi_tup_l, bi_tup_t, bi_lst_l, bi_lst_t, mt]
  · have hlen : 0 < (ns.length : Int) := by
      have := List.length_pos_iff.mpr hn
      omega
    have hlenN : 0 < ns.length := by omega
    have hq0 : 0 ≤ p % (ns.length : Int) := Int.emod_nonneg _ (by omega)
    have hq1 : p % (ns.length : Int) < ns.length := Int.emod_lt_of_pos _ hlen
    have hd0 : 0 ≤ p / (ns.length : Int) := Int.ediv_nonneg hp (by omega)
    have hd1 : p / (ns.length : Int) ≤ 1000000 := Int.le_trans (Int.ediv_le_self _ hp) hp2
    obtain ⟨cell, hc⟩ : ∃ cell, ns[(p % (ns.length : Int)).toNat]? = some cell := ⟨_, List.getElem?_eq_getElem (by omega)⟩
    have hcell : (L2.atI ns (p % ns.length)).getD 0 = cell := by rw [at_nat _ hq0, hc]; rfl
    have hne : PyData.eqvAll (ns.map PyData.int) [] = false := by
      cases ns with
      | nil => exact absurd rfl hn
      | cons _ _ => simp only [List.map_cons, PyData.eqvAll]
    have l0 : (ns.length : Int).natAbs.log2 < 9000 := by
      rw [Int.natAbs_natCast]
      exact Nat.lt_of_le_of_lt (Nat.log2_le_self _) (by omega)
    have l0' : ns.length.log2 < 9000 := Nat.lt_of_le_of_lt (Nat.log2_le_self _) (by omega)
    have l18 : Nat.log2 1000000000000000000 < 9000 := by decide +kernel
    have dr : drawn ns p m = (let t := p / ns.length
      let r := if 1000000000000000000 ≤ cell ∧ t < 60 then (rest1 60 (cell / 1000000000000000000) t).1 else 0
      if 0 < r then r % 1000000 % m else mix (cell + 6553 * t) p m) := by
      unfold drawn
      rw [if_neg hn, hcell]
    generalize ht : p / (ns.length : Int) = t at hd0 hd1 dr
    have hmul : -18446744073709551616 < t ∧ t < 18446744073709551616 := by omega
    have st1 : ∀ s5, evSs tx.C (G k) blkD [.cl (li ns), .cl (.int p), .cl (.int m), .cl (.int (7 * p)), .no, s5] = (if 1000000000000000000 ≤ cell ∧ t < 60 then evSs tx.C (G k) inD1 [.cl (li ns), .cl (.int p), .cl (.int m), .cl (.int cell), .cl (.int t), s5] else .next [.cl (li ns), .cl (.int p), .cl (.int m), .cl (.int cell), .cl (.int t), s5]).seq (evSs tx.C (G k) (.cons (.set 3 (.op .add (.var 3) (.op .mul (.int 6553) (.op .fdiv (.var 1) (.bi .len (.var 0)))))) .nil)) := by
      intro s5
      by_cases c1 : 1000000000000000000 ≤ cell
      · by_cases c2 : t < 60 <;> simp [evD, ssn, ssc, evS, evE, evEs, evI, evC, evO, evB, evX, evXs, evDo, endO, prm_n, prm_b, prm_i, prm_l, prm_t, prm_x, prob_u, prn_u, unOb_ob, iteX, setTs, putN, blX, noDict, insAt, op_ai, op_at, op_al, op_si, op_mi, op_mt, op_mb, rp_i, rv_l, op_fd, op_md, idx_t, idx_l, slc_t, slc_l, isa_i, isa_b, isa_s, isa_t, isa_l, isa_n, b2_min, b2_max, cp_lt, cp_le, cp_gt, cp_ge, cp_eqi, cp_nei, cp_eq, cp_ne, cp_is, cp_isnot, cp_int, cp_nint, cp_inl, cp_ninl, is_nn, is_bb, is_in, is_bn, is_sn, is_tn, is_ln, ok_n, ok_b, ok_i, ok_t, ok_l, eqv_int, eqv_tup, eqv_lst, eqv_nn, eqv_bb, eqv_tn, eqv_nt, eqa_nn, eqa_nc, eqa_cn, eqa_cc, eqvs_ints, int_beq, itemsD, wipeOk, Slot.holds, Tg.slots, wipeE, bindTg, setAll, evP, prt, setPs, Ps.slots, asList, compL, cap, flatD, tu, li, ite_and, ite_or, cut_tail, at_nat, bi_len_t, bi_len_l, bi_all, bi_any, bi_tup_l, bi_tup_t, bi_lst_l, bi_lst_t, blkD, hlenN, hq0, hc, l0, l0', ht, pow18, c1, c2]
      · simp [evD, ssn, ssc, evS, evE, evEs, evI, evC, evO, evB, evX, evXs, evDo, endO, prm_n, prm_b, prm_i, prm_l, prm_t, prm_x, prob_u, prn_u, unOb_ob, iteX, setTs, putN, blX, noDict, insAt, op_ai, op_at, op_al, op_si, op_mi, op_mt, op_mb, rp_i, rv_l, op_fd, op_md, idx_t, idx_l, slc_t, slc_l, isa_i, isa_b, isa_s, isa_t, isa_l, isa_n, b2_min, b2_max, cp_lt, cp_le, cp_gt, cp_ge, cp_eqi, cp_nei, cp_eq, cp_ne, cp_is, cp_isnot, cp_int, cp_nint, cp_inl, cp_ninl, is_nn, is_bb, is_in, is_bn, is_sn, is_tn, is_ln, ok_n, ok_b, ok_i, ok_t, ok_l, eqv_int, eqv_tup, eqv_lst, eqv_nn, eqv_bb, eqv_tn, eqv_nt, eqa_nn, eqa_nc, eqa_cn, eqa_cc, eqvs_ints, int_beq, itemsD, wipeOk, Slot.holds, Tg.slots, wipeE, bindTg, setAll, evP, prt, setPs, Ps.slots, asList, compL, cap, flatD, tu, li, ite_and, ite_or, cut_tail, at_nat, bi_len_t, bi_len_l, bi_all, bi_any, bi_tup_l, bi_tup_t, bi_lst_l, bi_lst_t, blkD, hlenN, hq0, hc, l0, l0', ht, pow18, c1]
    have st3 : ∀ s4 s5, evSs tx.C (G k) (.cons (.set 3 (.op .add (.var 3) (.op .mul (.int 6553) (.op .fdiv (.var 1) (.bi .len (.var 0)))))) .nil) [.cl (li ns), .cl (.int p), .cl (.int m), .cl (.int cell), s4, s5] = .next [.cl (li ns), .cl (.int p), .cl (.int m), .cl (.int (cell + 6553 * t)), s4, s5] := by
      intro s4 s5
      simp [evD, ssn, ssc, evS, evE, evEs, evI, evC, evO, evB, evX, evXs, evDo, endO, prm_n, prm_b, prm_i, prm_l, prm_t, prm_x, prob_u, prn_u, unOb_ob, iteX, setTs, putN, blX, noDict, insAt, op_ai, op_at, op_al, op_si, op_mi, op_mt, op_mb, rp_i, rv_l, op_fd, op_md, idx_t, idx_l, slc_t, slc_l, isa_i, isa_b, isa_s, isa_t, isa_l, isa_n, b2_min, b2_max, cp_lt, cp_le, cp_gt, cp_ge, cp_eqi, cp_nei, cp_eq, cp_ne, cp_is, cp_isnot, cp_int, cp_nint, cp_inl, cp_ninl, is_nn, is_bb, is_in, is_bn, is_sn, is_tn, is_ln, ok_n, ok_b, ok_i, ok_t, ok_l, eqv_int, eqv_tup, eqv_lst, eqv_nn, eqv_bb, eqv_tn, eqv_nt, eqa_nn, eqa_nc, eqa_cn, eqa_cc, eqvs_ints, int_beq, itemsD, wipeOk, Slot.holds, Tg.slots, wipeE, bindTg, setAll, evP, prt, setPs, Ps.slots, asList, compL, cap, flatD, tu, li, ite_and, ite_or, cut_tail, at_nat, bi_len_t, bi_len_l, bi_all, bi_any, bi_tup_l, bi_tup_t, bi_lst_l, bi_lst_t, hlenN, l0, l0', ht, hmul]
    have fin : ∀ v s4 s5, drawn ns p m = v → (evSs tx.C (G k) blkD [.cl (li ns), .cl (.int p), .cl (.int m), .cl (.int (7 * p)), .no, .no] = .ret (.int v) ∨ (evSs tx.C (G k) blkD [.cl (li ns), .cl (.int p), .cl (.int m), .cl (.int (7 * p)), .no, .no] = .next [.cl (li ns), .cl (.int p), .cl (.int m), .cl (.int (cell + 6553 * t)), s4, s5] ∧ v = mix (cell + 6553 * t) p m)) → evD tx.C (G k) 6 (.cons (.set 3 (.op .mul (.int 7) (.var 1))) (.cons (.ite (.cmp .ne (.var 0) (.lst .nil)) blkD .nil) tailD)) [li ns, .int p, .int m] = .ok (.int (drawn ns p m)) := by
      intro v s4 s5 hv h
      rw [hv]
      simp only [li] at h mt
      rcases h with h | ⟨h, e⟩
      · simp [evD, ssn, ssc, evS, evE, evEs, evI, evC, evO, evB, evX, evXs, evDo, endO, prm_n, prm_b, prm_i, prm_l, prm_t, prm_x, prob_u, prn_u, unOb_ob, iteX, setTs, putN, blX, noDict, insAt, op_ai, op_at, op_al, op_si, op_mi, op_mt, op_mb, rp_i, rv_l, op_fd, op_md, idx_t, idx_l, slc_t, slc_l, isa_i, isa_b, isa_s, isa_t, isa_l, isa_n, b2_min, b2_max, cp_lt, cp_le, cp_gt, cp_ge, cp_eqi, cp_nei, cp_eq, cp_ne, cp_is, cp_isnot, cp_int, cp_nint, cp_inl, cp_ninl, is_nn, is_bb, is_in, is_bn, is_sn, is_tn, is_ln, ok_n, ok_b, ok_i, ok_t, ok_l, eqv_int, eqv_tup, eqv_lst, eqv_nn, eqv_bb, eqv_tn, eqv_nt, eqa_nn, eqa_nc, eqa_cn, eqa_cc, eqvs_ints, int_beq, itemsD, wipeOk, Slot.holds, Tg.slots, wipeE, bindTg, setAll, evP, prt, setPs, Ps.slots, asList, compL, cap, flatD, tu, li, ite_and, ite_or, cut_tail, at_nat, bi_len_t, bi_len_l, bi_all, bi_any, bi_tup_l, bi_tup_t, bi_lst_l, bi_lst_t, hne, h]
      · subst e
        simp [evD, ssn, ssc, evS, evE, evEs, evI, evC, evO, evB, evX, evXs, evDo, endO, prm_n, prm_b, prm_i, prm_l, prm_t, prm_x, prob_u, prn_u, unOb_ob, iteX, setTs, putN, blX, noDict, insAt, op_ai, op_at, op_al, op_si, op_mi, op_mt, op_mb, rp_i, rv_l, op_fd, op_md, idx_t, idx_l, slc_t, slc_l, isa_i, isa_b, isa_s, isa_t, isa_l, isa_n, b2_min, b2_max, cp_lt, cp_le, cp_gt, cp_ge, cp_eqi, cp_nei, cp_eq, cp_ne, cp_is, cp_isnot, cp_int, cp_nint, cp_inl, cp_ninl, is_nn, is_bb, is_in, is_bn, is_sn, is_tn, is_ln, ok_n, ok_b, ok_i, ok_t, ok_l, eqv_int, eqv_tup, eqv_lst, eqv_nn, eqv_bb, eqv_tn, eqv_nt, eqa_nn, eqa_nc, eqa_cn, eqa_cc, eqvs_ints, int_beq, itemsD, wipeOk, Slot.holds, Tg.slots, wipeE, bindTg, setAll, evP, prt, setPs, Ps.slots, asList, compL, cap, flatD, tu, li, ite_and, ite_or, cut_tail, at_nat, bi_len_t, bi_len_l, bi_all, bi_any, bi_tup_l, bi_tup_t, bi_lst_l, bi_lst_t, hne, h, mt]
    by_cases c1 : 1000000000000000000 ≤ cell ∧ t < 60
    · have rl := rest1_loop k 59 (cell / 1000000000000000000) t (.cl (li ns)) (.cl (.int p)) (.cl (.int m)) (.cl (.int cell)) fuel hd0 (by omega) (by decide)
      have s1 := st1 .no
      rw [if_pos c1] at s1
      have din : evSs tx.C (G k) inD1 [.cl (li ns), .cl (.int p), .cl (.int m), .cl (.int cell), .cl (.int t), .no] = if 0 < (rest1 60 (cell / 1000000000000000000) t).1 then .ret (.int ((rest1 60 (cell / 1000000000000000000) t).1 % 1000000 % m)) else .next [.cl (li ns), .cl (.int p), .cl (.int m), .cl (.int cell), .cl (.int (rest1 60 (cell / 1000000000000000000) t).2), .cl (.int (rest1 60 (cell / 1000000000000000000) t).1)] := by
        simp only [li] at rl ⊢
        by_cases c3 : 0 < (rest1 60 (cell / 1000000000000000000) t).1 <;> simp [evD, ssn, ssc, evS, evE, evEs, evI, evC, evO, evB, evX, evXs, evDo, endO, prm_n, prm_b, prm_i, prm_l, prm_t, prm_x, prob_u, prn_u, unOb_ob, iteX, setTs, putN, blX, noDict, insAt, op_ai, op_at, op_al, op_si, op_mi, op_mt, op_mb, rp_i, rv_l, op_fd, op_md, idx_t, idx_l, slc_t, slc_l, isa_i, isa_b, isa_s, isa_t, isa_l, isa_n, b2_min, b2_max, cp_lt, cp_le, cp_gt, cp_ge, cp_eqi, cp_nei, cp_eq, cp_ne, cp_is, cp_isnot, cp_int, cp_nint, cp_inl, cp_ninl, is_nn, is_bb, is_in, is_bn, is_sn, is_tn, is_ln, ok_n, ok_b, ok_i, ok_t, ok_l, eqv_int, eqv_tup, eqv_lst, eqv_nn, eqv_bb, eqv_tn, eqv_nt, eqa_nn, eqa_nc, eqa_cn, eqa_cc, eqvs_ints, int_beq, itemsD, wipeOk, Slot.holds, Tg.slots, wipeE, bindTg, setAll, evP, prt, setPs, Ps.slots, asList, compL, cap, flatD, tu, li, ite_and, ite_or, cut_tail, at_nat, bi_len_t, bi_len_l, bi_all, bi_any, bi_tup_l, bi_tup_t, bi_lst_l, bi_lst_t, inD1, pow18, l18, rl, c3, hm]
      rw [din] at s1
      by_cases c3 : 0 < (rest1 60 (cell / 1000000000000000000) t).1
      · rw [if_pos c3] at s1
        simp only [seqr] at s1
        refine fin _ .no .no rfl (.inl ?_)
        rw [s1, dr]
        dsimp only
        rw [if_pos c1, if_pos c3]
      · rw [if_neg c3] at s1
        simp only [seqn] at s1
        rw [st3] at s1
        refine fin _ _ _ rfl (.inr ⟨s1, ?_⟩)
        rw [dr]
        dsimp only
        rw [if_pos c1, if_neg c3]
    · have s1 := st1 .no
      rw [if_neg c1] at s1
      simp only [seqn] at s1
      rw [st3] at s1
      refine fin _ (.cl (.int t)) .no rfl (.inr ⟨s1, ?_⟩)
      rw [dr]
      dsimp only
      rw [if_neg c1, if_neg (by omega)]
def ovs (i : Int) : Ov := if i = 0 then .none else if i = 1 then .all else .zero
def pos (i : Int) : Po := if i = 0 then .pre else if i = 1 then .byte else if i = 2 then .announced else if i = 3 then .run else if i = 4 then .skip else if i = 5 then .keep else .stop
def lngs (i : Int) : Int := if i = 0 then 4 else if i = 1 then 3 else if i = 2 then 2 else if i = 3 then 4 else if i = 4 then 1 else 3
def dcA (ns : List Int) (p : Int) : Dc := ⟨lngs (drawn ns p 6), ovs (drawn ns (p + 1) 3), decide (drawn ns (p + 2) 2 = 1), pos (drawn ns (p + 3) 7)⟩
theorem dcA_ok (ns : List Int) (p : Int) : (dcA ns p).Ok := by
  unfold Dc.Ok dcA lngs
  dsimp only
  repeat' split
  all_goals omega
theorem s_decoder (k : Nat) (ns : List Int) (p : Int) (hl : ns.length ≤ 63) (hp : 0 ≤ p) (hp2 : p ≤ 900000) : G (k + 2) 20 [li ns, .int p] = .ok (dcA ns p).d := by
  rw [g__law_decoder]
  have e1 := s_drawn k ns p 6 hl hp (by omega) (by omega)
  have e2 := s_drawn k ns (p + 1) 3 hl (by omega) (by omega) (by omega)
  have e3 := s_drawn k ns (p + 3) 7 hl (by omega) (by omega) (by omega)
  have e4 := s_drawn k ns (p + 2) 2 hl (by omega) (by omega) (by omega)
  have r1 := drawn_range ns p (m := 6) (by omega)
  have r2 := drawn_range ns (p + 1) (m := 3) (by omega)
  have r3 := drawn_range ns (p + 3) (m := 7) (by omega)
  unfold dcA Dc.d
  generalize drawn ns p 6 = d1 at e1 r1 ⊢
  generalize drawn ns (p + 1) 3 = d2 at e2 r2 ⊢
  generalize drawn ns (p + 3) 7 = d3 at e3 r3 ⊢
  generalize drawn ns (p + 2) 2 = d4 at e4 ⊢
  have i1 : L2.atI [PyData.int 4, .int 3, .int 2, .int 4, .int 1, .int 3] d1 = some (.int (lngs d1)) := by
    have : d1 = 0 ∨ d1 = 1 ∨ d1 = 2 ∨ d1 = 3 ∨ d1 = 4 ∨ d1 = 5 := by omega
    rcases this with e | e | e | e | e | e <;> subst e <;> rfl
  have i2 : L2.atI [PyData.str "none", .str "all", .str "zero"] d2 = some (.str (ovs d2).s) := by
    have : d2 = 0 ∨ d2 = 1 ∨ d2 = 2 := by omega
    rcases this with e | e | e <;> subst e <;> rfl
  have i3 : L2.atI [PyData.str "prefix", .str "byte", .str "announced", .str "run", .str "skip", .str "keep", .str "stop"] d3 = some (.str (pos d3).s) := by
    have : d3 = 0 ∨ d3 = 1 ∨ d3 = 2 ∨ d3 = 3 ∨ d3 = 4 ∨ d3 = 5 ∨ d3 = 6 := by omega
    rcases this with e | e | e | e | e | e | e <;> subst e <;> rfl
  simp only [li] at e1 e2 e3 e4
  simp [evD, ssn, ssc, evS, evE, evEs, evI, evC, evO, evB, evX, evXs, evDo, endO, prm_n, prm_b, prm_i, prm_l, prm_t, prm_x, prob_u, prn_u, unOb_ob, iteX, setTs, putN, blX, noDict, insAt, op_ai, op_at, op_al, op_si, op_mi, op_mt, op_mb, rp_i, rv_l, op_fd, op_md, idx_t, idx_l, slc_t, slc_l, isa_i, isa_b, isa_s, isa_t, isa_l, isa_n, b2_min, b2_max, cp_lt, cp_le, cp_gt, cp_ge, cp_eqi, cp_nei, cp_eq, cp_ne, cp_is, cp_isnot, cp_int, cp_nint, cp_inl, cp_ninl, is_nn, is_bb, is_in, is_bn, is_sn, is_tn, is_ln, ok_n, ok_b, ok_i, ok_t, ok_l, eqv_int, eqv_tup, eqv_lst, eqv_nn, eqv_bb, eqv_tn, eqv_nt, eqa_nn, eqa_nc, eqa_cn, eqa_cc, eqvs_ints, int_beq, itemsD, wipeOk, Slot.holds, Tg.slots, wipeE, bindTg, setAll, evP, prt, setPs, Ps.slots, asList, compL, cap, flatD, tu, li, ite_and, ite_or, cut_tail, at_nat, bi_len_t, bi_len_l, bi_all, bi_any, bi_tup_l, bi_tup_t, bi_lst_l, bi_lst_t, -at_nat, b__law_decoder, e1, e2, e3, e4, i1, i2, i3]
def chunks : List (List Int) := [[65], [128], [191], [192, 128], [192, 175], [193], [194], [194, 128], [223, 191], [224], [47], [224, 128, 175], [224, 160, 128], [225, 128], [237, 160, 128], [237, 159, 191], [239, 191, 189], [240], [240, 128, 128, 175], [240, 141, 160, 128], [240, 144, 128], [240, 144, 128, 128], [244, 143, 191, 191], [244, 144, 128, 128], [245], [247, 191, 191, 191], [255], [248, 128]]
theorem s_chunks (k : Nat) : G (k + 1) 21 [] = .ok (.list (chunks.map tu)) := by kernel_rfl
end Pu

set_option maxHeartbeats 1000000
namespace Pu
open PySem PySem.Spec PyProof.Rows L2
def strA (ns : List Int) (p : Int) : Nat → List Int → Int → List Int
  | 0, acc, _ => acc
  | n + 1, acc, j => strA ns p n (acc ++ (chunks[(drawn ns (p + 1 + j) 28).toNat]?).getD []) (j + 1)
def strS (ns : List Int) (p most : Int) : List Int := strA ns p (drawn ns p (most + 1)).toNat [] 0
theorem chunks_ok : ∀ x ∈ chunks, x.length ≤ 4 ∧ Bys x := by
  have h : (chunks.all fun x => decide (x.length ≤ 4) && x.all fun b => decide (0 ≤ b) && decide (b ≤ 255)) = true := by decide +kernel
  intro x hx
  have := List.all_eq_true.mp h x hx
  simp only [Bool.and_eq_true, decide_eq_true_eq, List.all_eq_true] at this
  exact this
theorem chunk_at (d : Int) (h0 : 0 ≤ d) (h1 : d < 28) : ∃ x ∈ chunks, (chunks[d.toNat]?).getD [] = x ∧ L2.atI (chunks.map tu) d = some (tu x) := by
  have hl : d.toNat < chunks.length := by rw [show chunks.length = 28 from rfl]; omega
  have e : chunks[d.toNat]? = some (chunks[d.toNat]'hl) := List.getElem?_eq_getElem hl
  refine ⟨_, List.getElem_mem hl, by rw [e]; rfl, ?_⟩
  rw [at_nat _ h0, List.getElem?_map, e]
  rfl
theorem strA_ok (ns : List Int) (p : Int) : ∀ (n : Nat) (acc : List Int) (j : Int), Bys acc → Bys (strA ns p n acc j) ∧ (strA ns p n acc j).length ≤ acc.length + 4 * n
  | 0, acc, j, h => ⟨h, by simp [strA]⟩
  | n + 1, acc, j, h => by
    obtain ⟨r0, r1⟩ := drawn_range ns (p + 1 + j) (m := 28) (by omega)
    obtain ⟨x, hx, e, _⟩ := chunk_at _ r0 r1
    obtain ⟨l, b⟩ := chunks_ok x hx
    unfold strA
    rw [e]
    have ih := strA_ok ns p n (acc ++ x) (j + 1) (fun y hy => (List.mem_append.mp hy).elim (h y) (b y))
    refine ⟨ih.1, ?_⟩
    have := ih.2
    rw [List.length_append] at this
    omega
theorem strS_ok (ns : List Int) (p most : Int) (h : 0 ≤ most) : Bys (strS ns p most) ∧ (strS ns p most).length ≤ 4 * most.toNat := by
  obtain ⟨r0, r1⟩ := drawn_range ns p (m := most + 1) (by omega)
  have := strA_ok ns p (drawn ns p (most + 1)).toNat [] 0 (fun _ h => by cases h)
  refine ⟨this.1, Nat.le_trans this.2 ?_⟩
  simp only [List.length_nil]
  omega
theorem string_loop (k : Nat) (ns : List Int) (p most : Int) (hl : ns.length ≤ 63) (hp : 0 ≤ p) (hp2 : p ≤ 900000) : ∀ (n : Nat) (acc : List Int) (j : Int) (s3 : Slot), 0 ≤ j → j + n ≤ 1000 → acc.length + 4 * n ≤ 100000 →
    ∃ s3', forL (evSs tx.C (G (k + 1)) w__law_string_0) (.name 3) ((List.range n).map fun (i : Nat) => PyData.int (j + i)) [.cl (li ns), .cl (.int p), .cl (.int most), s3, .cl (tu acc), .cl (.list (chunks.map tu))] = .next [.cl (li ns), .cl (.int p), .cl (.int most), s3', .cl (tu (strA ns p n acc j)), .cl (.list (chunks.map tu))]
  | 0, acc, j, s3, _, _, _ => ⟨s3, rfl⟩
  | n + 1, acc, j, s3, h0, h1, h2 => by
    obtain ⟨r0, r1⟩ := drawn_range ns (p + 1 + j) (m := 28) (by omega)
    obtain ⟨x, hx, e, e2⟩ := chunk_at _ r0 r1
    obtain ⟨l, b⟩ := chunks_ok x hx
    have ed := s_drawn k ns (p + 1 + j) 28 hl (by omega) (by omega) (by omega)
    have et : evSs tx.C (G (k + 1)) w__law_string_0 [.cl (li ns), .cl (.int p), .cl (.int most), .cl (.int j), .cl (tu acc), .cl (.list (chunks.map tu))] = .next [.cl (li ns), .cl (.int p), .cl (.int most), .cl (.int j), .cl (tu (acc ++ x)), .cl (.list (chunks.map tu))] := by
      have hlen : ((List.map tu chunks).length : Int) = 28 := rfl
      generalize List.map tu chunks = cs at hlen e2 ⊢
      simp only [li, tu] at ed e2 ⊢
      simp [evD, ssn, ssc, evS, evE, evEs, evI, evC, evO, evB, evX, evXs, evDo, endO, prm_n, prm_b, prm_i, prm_l, prm_t, prm_x, prob_u, prn_u, unOb_ob, iteX, setTs, putN, blX, noDict, insAt, op_ai, op_at, op_al, op_si, op_mi, op_mt, op_mb, rp_i, rv_l, op_fd, op_md, idx_t, idx_l, slc_t, slc_l, isa_i, isa_b, isa_s, isa_t, isa_l, isa_n, b2_min, b2_max, cp_lt, cp_le, cp_gt, cp_ge, cp_eqi, cp_nei, cp_eq, cp_ne, cp_is, cp_isnot, cp_int, cp_nint, cp_inl, cp_ninl, is_nn, is_bb, is_in, is_bn, is_sn, is_tn, is_ln, ok_n, ok_b, ok_i, ok_t, ok_l, eqv_int, eqv_tup, eqv_lst, eqv_nn, eqv_bb, eqv_tn, eqv_nt, eqa_nn, eqa_nc, eqa_cn, eqa_cc, eqvs_ints, int_beq, itemsD, wipeOk, Slot.holds, Tg.slots, wipeE, bindTg, setAll, evP, prt, setPs, Ps.slots, asList, compL, cap, flatD, tu, li, ite_and, ite_or, cut_tail, at_nat, bi_len_t, bi_len_l, bi_all, bi_any, bi_tup_l, bi_tup_t, bi_lst_l, bi_lst_t, -at_nat, w__law_string_0, hlen, ed, e2, show acc.length + x.length ≤ 16777216 from by omega]
    obtain ⟨s3', ih⟩ := string_loop k ns p most hl hp hp2 n (acc ++ x) (j + 1) (.cl (.int j)) (by omega) (by omega) (by rw [List.length_append]; omega)
    refine ⟨s3', ?_⟩
    rw [List.range_succ_eq_map, List.map_cons, List.map_map]
    unfold forL
    simp only [bindTg, List.set_cons_succ, List.set_cons_zero]
    rw [show j + ((0 : Nat) : Int) = j from by omega, et]
    simp only [turnn]
    rw [show ((fun (i : Nat) => PyData.int (j + i)) ∘ Nat.succ) = fun (i : Nat) => PyData.int (j + 1 + i) from funext fun i => by simp only [Function.comp]; congr 1; omega, ih]
    have es : strA ns p (n + 1) acc j = strA ns p n (acc ++ x) (j + 1) := by rw [strA, e]
    rw [es]
theorem s_string (k : Nat) (ns : List Int) (p most : Int) (hl : ns.length ≤ 63) (hp : 0 ≤ p) (hp2 : p ≤ 900000) (hm : 0 ≤ most) (hm2 : most ≤ 100) : G (k + 2) 22 [li ns, .int p, .int most] = .ok (tu (strS ns p most)) := by
  rw [g__law_string]
  obtain ⟨r0, r1⟩ := drawn_range ns p (m := most + 1) (by omega)
  have ed := s_drawn k ns p (most + 1) hl (by omega) (by omega) (by omega)
  have ec := s_chunks k
  obtain ⟨s3', lp⟩ := string_loop k ns p most hl hp hp2 (drawn ns p (most + 1)).toNat [] 0 .no (by omega) (by omega) (by simp; omega)
  have er : rangeL 0 (drawn ns p (most + 1)) = (List.range (drawn ns p (most + 1)).toNat).map fun (i : Nat) => PyData.int (0 + i) := by unfold rangeL; rw [Int.sub_zero]
  unfold strS
  generalize drawn ns p (most + 1) = d at r0 r1 ed lp er ⊢
  generalize (List.map tu chunks) = cs at ec lp
  simp only [li, tu, List.map_nil] at ed lp ⊢
  rw [← er] at lp
  simp [evD, ssn, ssc, evS, evE, evEs, evI, evC, evO, evB, evX, evXs, evDo, endO, prm_n, prm_b, prm_i, prm_l, prm_t, prm_x, prob_u, prn_u, unOb_ob, iteX, setTs, putN, blX, noDict, insAt, op_ai, op_at, op_al, op_si, op_mi, op_mt, op_mb, rp_i, rv_l, op_fd, op_md, idx_t, idx_l, slc_t, slc_l, isa_i, isa_b, isa_s, isa_t, isa_l, isa_n, b2_min, b2_max, cp_lt, cp_le, cp_gt, cp_ge, cp_eqi, cp_nei, cp_eq, cp_ne, cp_is, cp_isnot, cp_int, cp_nint, cp_inl, cp_ninl, is_nn, is_bb, is_in, is_bn, is_sn, is_tn, is_ln, ok_n, ok_b, ok_i, ok_t, ok_l, eqv_int, eqv_tup, eqv_lst, eqv_nn, eqv_bb, eqv_tn, eqv_nt, eqa_nn, eqa_nc, eqa_cn, eqa_cc, eqvs_ints, int_beq, itemsD, wipeOk, Slot.holds, Tg.slots, wipeE, bindTg, setAll, evP, prt, setPs, Ps.slots, asList, compL, cap, flatD, tu, li, ite_and, ite_or, cut_tail, at_nat, bi_len_t, bi_len_l, bi_all, bi_any, bi_tup_l, bi_tup_t, bi_lst_l, bi_lst_t, b__law_string, ed, ec, lp, show -4611686018427387904 ≤ d from by omega, show d ≤ 1000000 from by omega]
theorem s_lann (k : Nat) (b : Int) : G (k + 1) 23 [.int b] = .ok (.int (ann b)) := by
  rw [g__law_announced]
  by_cases h : b < 128
  · simp [evD, ssn, ssc, evS, evE, evEs, evI, evC, evO, evB, evX, evXs, evDo, endO, prm_n, prm_b, prm_i, prm_l, prm_t, prm_x, prob_u, prn_u, unOb_ob, iteX, setTs, putN, blX, noDict, insAt, op_ai, op_at, op_al, op_si, op_mi, op_mt, op_mb, rp_i, rv_l, op_fd, op_md, idx_t, idx_l, slc_t, slc_l, isa_i, isa_b, isa_s, isa_t, isa_l, isa_n, b2_min, b2_max, cp_lt, cp_le, cp_gt, cp_ge, cp_eqi, cp_nei, cp_eq, cp_ne, cp_is, cp_isnot, cp_int, cp_nint, cp_inl, cp_ninl, is_nn, is_bb, is_in, is_bn, is_sn, is_tn, is_ln, ok_n, ok_b, ok_i, ok_t, ok_l, eqv_int, eqv_tup, eqv_lst, eqv_nn, eqv_bb, eqv_tn, eqv_nt, eqa_nn, eqa_nc, eqa_cn, eqa_cc, eqvs_ints, int_beq, itemsD, wipeOk, Slot.holds, Tg.slots, wipeE, bindTg, setAll, evP, prt, setPs, Ps.slots, asList, compL, cap, flatD, tu, li, ite_and, ite_or, cut_tail, at_nat, bi_len_t, bi_len_l, bi_all, bi_any, bi_tup_l, bi_tup_t, bi_lst_l, bi_lst_t, b__law_announced, h, ann]
  · unfold ann
    rw [if_neg h]
    by_cases h1 : 192 ≤ b ∧ b < 224
    · rw [if_pos h1]; simp [evD, ssn, ssc, evS, evE, evEs, evI, evC, evO, evB, evX, evXs, evDo, endO, prm_n, prm_b, prm_i, prm_l, prm_t, prm_x, prob_u, prn_u, unOb_ob, iteX, setTs, putN, blX, noDict, insAt, op_ai, op_at, op_al, op_si, op_mi, op_mt, op_mb, rp_i, rv_l, op_fd, op_md, idx_t, idx_l, slc_t, slc_l, isa_i, isa_b, isa_s, isa_t, isa_l, isa_n, b2_min, b2_max, cp_lt, cp_le, cp_gt, cp_ge, cp_eqi, cp_nei, cp_eq, cp_ne, cp_is, cp_isnot, cp_int, cp_nint, cp_inl, cp_ninl, is_nn, is_bb, is_in, is_bn, is_sn, is_tn, is_ln, ok_n, ok_b, ok_i, ok_t, ok_l, eqv_int, eqv_tup, eqv_lst, eqv_nn, eqv_bb, eqv_tn, eqv_nt, eqa_nn, eqa_nc, eqa_cn, eqa_cc, eqvs_ints, int_beq, itemsD, wipeOk, Slot.holds, Tg.slots, wipeE, bindTg, setAll, evP, prt, setPs, Ps.slots, asList, compL, cap, flatD, tu, li, ite_and, ite_or, cut_tail, at_nat, bi_len_t, bi_len_l, bi_all, bi_any, bi_tup_l, bi_tup_t, bi_lst_l, bi_lst_t, b__law_announced, h, show 191 < b from by omega, h1.2]
    · rw [if_neg h1]
      by_cases h2 : 224 ≤ b ∧ b < 240
      · rw [if_pos h2]; simp [evD, ssn, ssc, evS, evE, evEs, evI, evC, evO, evB, evX, evXs, evDo, endO, prm_n, prm_b, prm_i, prm_l, prm_t, prm_x, prob_u, prn_u, unOb_ob, iteX, setTs, putN, blX, noDict, insAt, op_ai, op_at, op_al, op_si, op_mi, op_mt, op_mb, rp_i, rv_l, op_fd, op_md, idx_t, idx_l, slc_t, slc_l, isa_i, isa_b, isa_s, isa_t, isa_l, isa_n, b2_min, b2_max, cp_lt, cp_le, cp_gt, cp_ge, cp_eqi, cp_nei, cp_eq, cp_ne, cp_is, cp_isnot, cp_int, cp_nint, cp_inl, cp_ninl, is_nn, is_bb, is_in, is_bn, is_sn, is_tn, is_ln, ok_n, ok_b, ok_i, ok_t, ok_l, eqv_int, eqv_tup, eqv_lst, eqv_nn, eqv_bb, eqv_tn, eqv_nt, eqa_nn, eqa_nc, eqa_cn, eqa_cc, eqvs_ints, int_beq, itemsD, wipeOk, Slot.holds, Tg.slots, wipeE, bindTg, setAll, evP, prt, setPs, Ps.slots, asList, compL, cap, flatD, tu, li, ite_and, ite_or, cut_tail, at_nat, bi_len_t, bi_len_l, bi_all, bi_any, bi_tup_l, bi_tup_t, bi_lst_l, bi_lst_t, b__law_announced, h, show 191 < b from by omega, show ¬ b < 224 from by omega, show 223 < b from by omega, h2.2]
      · rw [if_neg h2]
        by_cases h3 : 240 ≤ b ∧ b < 248
        · rw [if_pos h3]; simp [evD, ssn, ssc, evS, evE, evEs, evI, evC, evO, evB, evX, evXs, evDo, endO, prm_n, prm_b, prm_i, prm_l, prm_t, prm_x, prob_u, prn_u, unOb_ob, iteX, setTs, putN, blX, noDict, insAt, op_ai, op_at, op_al, op_si, op_mi, op_mt, op_mb, rp_i, rv_l, op_fd, op_md, idx_t, idx_l, slc_t, slc_l, isa_i, isa_b, isa_s, isa_t, isa_l, isa_n, b2_min, b2_max, cp_lt, cp_le, cp_gt, cp_ge, cp_eqi, cp_nei, cp_eq, cp_ne, cp_is, cp_isnot, cp_int, cp_nint, cp_inl, cp_ninl, is_nn, is_bb, is_in, is_bn, is_sn, is_tn, is_ln, ok_n, ok_b, ok_i, ok_t, ok_l, eqv_int, eqv_tup, eqv_lst, eqv_nn, eqv_bb, eqv_tn, eqv_nt, eqa_nn, eqa_nc, eqa_cn, eqa_cc, eqvs_ints, int_beq, itemsD, wipeOk, Slot.holds, Tg.slots, wipeE, bindTg, setAll, evP, prt, setPs, Ps.slots, asList, compL, cap, flatD, tu, li, ite_and, ite_or, cut_tail, at_nat, bi_len_t, bi_len_l, bi_all, bi_any, bi_tup_l, bi_tup_t, bi_lst_l, bi_lst_t, b__law_announced, h, show 191 < b from by omega, show ¬ b < 224 from by omega, show 223 < b from by omega, show ¬ b < 240 from by omega, show 239 < b from by omega, h3.2]
        · rw [if_neg h3]
          by_cases h4 : b < 192
          · simp [evD, ssn, ssc, evS, evE, evEs, evI, evC, evO, evB, evX, evXs, evDo, endO, prm_n, prm_b, prm_i, prm_l, prm_t, prm_x, prob_u, prn_u, unOb_ob, iteX, setTs, putN, blX, noDict, insAt, op_ai, op_at, op_al, op_si, op_mi, op_mt, op_mb, rp_i, rv_l, op_fd, op_md, idx_t, idx_l, slc_t, slc_l, isa_i, isa_b, isa_s, isa_t, isa_l, isa_n, b2_min, b2_max, cp_lt, cp_le, cp_gt, cp_ge, cp_eqi, cp_nei, cp_eq, cp_ne, cp_is, cp_isnot, cp_int, cp_nint, cp_inl, cp_ninl, is_nn, is_bb, is_in, is_bn, is_sn, is_tn, is_ln, ok_n, ok_b, ok_i, ok_t, ok_l, eqv_int, eqv_tup, eqv_lst, eqv_nn, eqv_bb, eqv_tn, eqv_nt, eqa_nn, eqa_nc, eqa_cn, eqa_cc, eqvs_ints, int_beq, itemsD, wipeOk, Slot.holds, Tg.slots, wipeE, bindTg, setAll, evP, prt, setPs, Ps.slots, asList, compL, cap, flatD, tu, li, ite_and, ite_or, cut_tail, at_nat, bi_len_t, bi_len_l, bi_all, bi_any, bi_tup_l, bi_tup_t, bi_lst_l, bi_lst_t, b__law_announced, h, show ¬ 191 < b from by omega, show ¬ 223 < b from by omega, show ¬ 239 < b from by omega]
          · simp [evD, ssn, ssc, evS, evE, evEs, evI, evC, evO, evB, evX, evXs, evDo, endO, prm_n, prm_b, prm_i, prm_l, prm_t, prm_x, prob_u, prn_u, unOb_ob, iteX, setTs, putN, blX, noDict, insAt, op_ai, op_at, op_al, op_si, op_mi, op_mt, op_mb, rp_i, rv_l, op_fd, op_md, idx_t, idx_l, slc_t, slc_l, isa_i, isa_b, isa_s, isa_t, isa_l, isa_n, b2_min, b2_max, cp_lt, cp_le, cp_gt, cp_ge, cp_eqi, cp_nei, cp_eq, cp_ne, cp_is, cp_isnot, cp_int, cp_nint, cp_inl, cp_ninl, is_nn, is_bb, is_in, is_bn, is_sn, is_tn, is_ln, ok_n, ok_b, ok_i, ok_t, ok_l, eqv_int, eqv_tup, eqv_lst, eqv_nn, eqv_bb, eqv_tn, eqv_nt, eqa_nn, eqa_nc, eqa_cn, eqa_cc, eqvs_ints, int_beq, itemsD, wipeOk, Slot.holds, Tg.slots, wipeE, bindTg, setAll, evP, prt, setPs, Ps.slots, asList, compL, cap, flatD, tu, li, ite_and, ite_or, cut_tail, at_nat, bi_len_t, bi_len_l, bi_all, bi_any, bi_tup_l, bi_tup_t, bi_lst_l, bi_lst_t, b__law_announced, h, show 191 < b from by omega, show ¬ b < 224 from by omega, show 223 < b from by omega, show ¬ b < 240 from by omega, show 239 < b from by omega, show ¬ b < 248 from by omega]
theorem s_lval (k : Nat) (b : Int) (r : List Int) (h : r.length ≤ 3) : G (k + 1) 24 [tu (b :: r)] = .ok (.int (lval (b :: r))) := by
  rw [g__law_value]
  have e1 : L2.atI [PyData.int 0, .int 0, .int 192, .int 224, .int 240] ((r.length : Int) + 1) = some (.int (leads ((r.length : Int) + 1))) := by
    have : r.length = 0 ∨ r.length = 1 ∨ r.length = 2 ∨ r.length = 3 := by omega
    rcases this with e | e | e | e <;> rw [e] <;> rfl
  have lp : ∀ (v : Int) (ρ : Env), (∃ z, ρ = [.cl (tu (b :: r)), .cl (.int v), z]) → ∃ z, forL (evSs tx.C (G k) w__law_value_0) (.name 2) (r.map PyData.int) ρ = .next [.cl (tu (b :: r)), .cl (.int (fold64 v r)), z] := by
    intro v ρ h
    obtain ⟨ρ', h1, z, h2⟩ := forL_run (f := evSs tx.C (G k) w__law_value_0) (tg := .name 2) (e := PyData.int) (R := fun (a : Int) ρ => ∃ z, ρ = [.cl (tu (b :: r)), .cl (.int a), z]) (step := fun a b => 64 * a + b - 128) (xs := r) (a := v) (ρ := ρ)
      (fun a ρ x ⟨z, e⟩ hx => by
        subst e
        refine ⟨_, rfl, _, .inl ?_, .cl (.int x), rfl⟩
        simp [evD, ssn, ssc, evS, evE, evEs, evI, evC, evO, evB, evX, evXs, evDo, endO, prm_n, prm_b, prm_i, prm_l, prm_t, prm_x, prob_u, prn_u, unOb_ob, iteX, setTs, putN, blX, noDict, insAt, op_ai, op_at, op_al, op_si, op_mi, op_mt, op_mb, rp_i, rv_l, op_fd, op_md, idx_t, idx_l, slc_t, slc_l, isa_i, isa_b, isa_s, isa_t, isa_l, isa_n, b2_min, b2_max, cp_lt, cp_le, cp_gt, cp_ge, cp_eqi, cp_nei, cp_eq, cp_ne, cp_is, cp_isnot, cp_int, cp_nint, cp_inl, cp_ninl, is_nn, is_bb, is_in, is_bn, is_sn, is_tn, is_ln, ok_n, ok_b, ok_i, ok_t, ok_l, eqv_int, eqv_tup, eqv_lst, eqv_nn, eqv_bb, eqv_tn, eqv_nt, eqa_nn, eqa_nc, eqa_cn, eqa_cc, eqvs_ints, int_beq, itemsD, wipeOk, Slot.holds, Tg.slots, wipeE, bindTg, setAll, evP, prt, setPs, Ps.slots, asList, compL, cap, flatD, tu, li, ite_and, ite_or, cut_tail, at_nat, bi_len_t, bi_len_l, bi_all, bi_any, bi_tup_l, bi_tup_t, bi_lst_l, bi_lst_t, w__law_value_0]) h
    exact ⟨z, by rw [h1, h2]; rfl⟩
  obtain ⟨z, e2⟩ := lp (b - leads ((r.length : Int) + 1)) _ ⟨.no, rfl⟩
  simp only [tu, List.map_cons] at e2
  simp [evD, ssn, ssc, evS, evE, evEs, evI, evC, evO, evB, evX, evXs, evDo, endO, prm_n, prm_b, prm_i, prm_l, prm_t, prm_x, prob_u, prn_u, unOb_ob, iteX, setTs, putN, blX, noDict, insAt, op_ai, op_at, op_al, op_si, op_mi, op_mt, op_mb, rp_i, rv_l, op_fd, op_md, idx_t, idx_l, slc_t, slc_l, isa_i, isa_b, isa_s, isa_t, isa_l, isa_n, b2_min, b2_max, cp_lt, cp_le, cp_gt, cp_ge, cp_eqi, cp_nei, cp_eq, cp_ne, cp_is, cp_isnot, cp_int, cp_nint, cp_inl, cp_ninl, is_nn, is_bb, is_in, is_bn, is_sn, is_tn, is_ln, ok_n, ok_b, ok_i, ok_t, ok_l, eqv_int, eqv_tup, eqv_lst, eqv_nn, eqv_bb, eqv_tn, eqv_nt, eqa_nn, eqa_nc, eqa_cn, eqa_cc, eqvs_ints, int_beq, itemsD, wipeOk, Slot.holds, Tg.slots, wipeE, bindTg, setAll, evP, prt, setPs, Ps.slots, asList, compL, cap, flatD, tu, li, ite_and, ite_or, cut_tail, at_nat, bi_len_t, bi_len_l, bi_all, bi_any, bi_tup_l, bi_tup_t, bi_lst_l, bi_lst_t, -at_nat, b__law_value, e1, e2, lval, at_0]
theorem s_lvalid (k : Nat) (c : Dc) (hc : c.Ok) (xs : List Int) (hb : Bys xs) : G (k + 2) 25 [c.d, tu xs] = .ok (.bool (isSeq xs && beg c xs)) := by
  rw [← lv_beg c xs hb, g__law_valid]
  cases xs with
  | nil => simp [evD, ssn, ssc, evS, evE, evEs, evI, evC, evO, evB, evX, evXs, evDo, endO, prm_n, prm_b, prm_i, prm_l, prm_t, prm_x, prob_u, prn_u, unOb_ob, iteX, setTs, putN, blX, noDict, insAt, op_ai, op_at, op_al, op_si, op_mi, op_mt, op_mb, rp_i, rv_l, op_fd, op_md, idx_t, idx_l, slc_t, slc_l, isa_i, isa_b, isa_s, isa_t, isa_l, isa_n, b2_min, b2_max, cp_lt, cp_le, cp_gt, cp_ge, cp_eqi, cp_nei, cp_is, cp_isnot, is_nn, is_bb, is_in, is_bn, is_sn, is_tn, is_ln, ok_n, ok_b, ok_i, ok_t, ok_l, eqv_int, eqv_tup, eqv_lst, eqv_nn, eqv_bb, eqv_tn, eqv_nt, eqa_nn, eqa_nc, eqa_cn, eqa_cc, eqvs_ints, int_beq, itemsD, wipeOk, Slot.holds, Tg.slots, wipeE, bindTg, setAll, evP, prt, setPs, Ps.slots, asList, compL, cap, flatD, tu, li, ite_and, ite_or, cut_tail, at_nat, bi_len_t, bi_len_l, bi_all, bi_any, bi_tup_l, bi_tup_t, bi_lst_l, bi_lst_t, b__law_valid, Dc.d, cp_eq, lv]
  | cons b r =>
    have q0 : cmpD .eq (.tuple (PyData.int b :: r.map PyData.int)) (.tuple []) = some false := by
      have o := ok_tu 6 (b :: r)
      simp only [tu, List.map_cons] at o
      simp [cmpD, o, okD, PyData.eqv, PyData.eqvAll]
    by_cases h1 : ann b = (r.length : Int) + 1
    case neg => simp [evD, ssn, ssc, evS, evE, evEs, evI, evC, evO, evB, evX, evXs, evDo, endO, prm_n, prm_b, prm_i, prm_l, prm_t, prm_x, prob_u, prn_u, unOb_ob, iteX, setTs, putN, blX, noDict, insAt, op_ai, op_at, op_al, op_si, op_mi, op_mt, op_mb, rp_i, rv_l, op_fd, op_md, idx_t, idx_l, slc_t, slc_l, isa_i, isa_b, isa_s, isa_t, isa_l, isa_n, b2_min, b2_max, cp_lt, cp_le, cp_gt, cp_ge, cp_eqi, cp_nei, cp_is, cp_isnot, is_nn, is_bb, is_in, is_bn, is_sn, is_tn, is_ln, ok_n, ok_b, ok_i, ok_t, ok_l, eqv_int, eqv_tup, eqv_lst, eqv_nn, eqv_bb, eqv_tn, eqv_nt, eqa_nn, eqa_nc, eqa_cn, eqa_cc, eqvs_ints, int_beq, itemsD, wipeOk, Slot.holds, Tg.slots, wipeE, bindTg, setAll, evP, prt, setPs, Ps.slots, asList, compL, cap, flatD, tu, li, ite_and, ite_or, cut_tail, at_nat, bi_len_t, bi_len_l, bi_all, bi_any, bi_tup_l, bi_tup_t, bi_lst_l, bi_lst_t, b__law_valid, Dc.d, q0, lv, s_lann, h1]
    by_cases h2 : c.L < (r.length : Int) + 1
    case pos => simp [evD, ssn, ssc, evS, evE, evEs, evI, evC, evO, evB, evX, evXs, evDo, endO, prm_n, prm_b, prm_i, prm_l, prm_t, prm_x, prob_u, prn_u, unOb_ob, iteX, setTs, putN, blX, noDict, insAt, op_ai, op_at, op_al, op_si, op_mi, op_mt, op_mb, rp_i, rv_l, op_fd, op_md, idx_t, idx_l, slc_t, slc_l, isa_i, isa_b, isa_s, isa_t, isa_l, isa_n, b2_min, b2_max, cp_lt, cp_le, cp_gt, cp_ge, cp_eqi, cp_nei, cp_is, cp_isnot, is_nn, is_bb, is_in, is_bn, is_sn, is_tn, is_ln, ok_n, ok_b, ok_i, ok_t, ok_l, eqv_int, eqv_tup, eqv_lst, eqv_nn, eqv_bb, eqv_tn, eqv_nt, eqa_nn, eqa_nc, eqa_cn, eqa_cc, eqvs_ints, int_beq, itemsD, wipeOk, Slot.holds, Tg.slots, wipeE, bindTg, setAll, evP, prt, setPs, Ps.slots, asList, compL, cap, flatD, tu, li, ite_and, ite_or, cut_tail, at_nat, bi_len_t, bi_len_l, bi_all, bi_any, bi_tup_l, bi_tup_t, bi_lst_l, bi_lst_t, b__law_valid, Dc.d, q0, lv, s_lann, h1, h2]
    have l3 : r.length ≤ 3 := by have := (ann_range b).2; omega
    have vl := s_lval (k + 0) b r l3
    have hf : ∀ f : D → Rs (Option D), (∀ x ∈ r, f (.int x) = .ok (if (!isCont x) = true then some (.int x) else none)) → compL f (r.map PyData.int) = .ok ((r.filter fun x => !isCont x).map PyData.int) := fun f hf => compL_pick hf
    have ec : evE tx.C (G (k + 1)) (.comp (.var 7) (.name 7) (.seq (.slc (.var 1) (.one (.int 1)) .no)) (.one (.not (.chain .lt .lt (.int 127) (.var 7) (.int 192))))) [.cl c.d, .cl (tu (b :: r)), .no, .cl (.int c.L), .cl (.str c.ov.s), .cl (.bool c.su), .cl (.str c.po.s), .no] = .ok (.list ((r.filter fun x => !isCont x).map PyData.int)) := by
      simp [evD, ssn, ssc, evS, evE, evEs, evI, evC, evO, evB, evX, evXs, evDo, endO, prm_n, prm_b, prm_i, prm_l, prm_t, prm_x, prob_u, prn_u, unOb_ob, iteX, setTs, putN, blX, noDict, insAt, op_ai, op_at, op_al, op_si, op_mi, op_mt, op_mb, rp_i, rv_l, op_fd, op_md, idx_t, idx_l, slc_t, slc_l, isa_i, isa_b, isa_s, isa_t, isa_l, isa_n, b2_min, b2_max, cp_lt, cp_le, cp_gt, cp_ge, cp_eqi, cp_nei, cp_is, cp_isnot, is_nn, is_bb, is_in, is_bn, is_sn, is_tn, is_ln, ok_n, ok_b, ok_i, ok_t, ok_l, eqv_int, eqv_tup, eqv_lst, eqv_nn, eqv_bb, eqv_tn, eqv_nt, eqa_nn, eqa_nc, eqa_cn, eqa_cc, eqvs_ints, int_beq, itemsD, wipeOk, Slot.holds, Tg.slots, wipeE, bindTg, setAll, evP, prt, setPs, Ps.slots, asList, compL, cap, flatD, tu, li, ite_and, ite_or, cut_tail, at_nat, bi_len_t, bi_len_l, bi_all, bi_any, bi_tup_l, bi_tup_t, bi_lst_l, bi_lst_t, Dc.d]
      rw [hf]
      · rfl
      · intro x _
        unfold isCont
        by_cases a1 : 127 < x
        · by_cases a2 : x < 192
          · simp [evD, ssn, ssc, evS, evE, evEs, evI, evC, evO, evB, evX, evXs, evDo, endO, prm_n, prm_b, prm_i, prm_l, prm_t, prm_x, prob_u, prn_u, unOb_ob, iteX, setTs, putN, blX, noDict, insAt, op_ai, op_at, op_al, op_si, op_mi, op_mt, op_mb, rp_i, rv_l, op_fd, op_md, idx_t, idx_l, slc_t, slc_l, isa_i, isa_b, isa_s, isa_t, isa_l, isa_n, b2_min, b2_max, cp_lt, cp_le, cp_gt, cp_ge, cp_eqi, cp_nei, cp_is, cp_isnot, is_nn, is_bb, is_in, is_bn, is_sn, is_tn, is_ln, ok_n, ok_b, ok_i, ok_t, ok_l, eqv_int, eqv_tup, eqv_lst, eqv_nn, eqv_bb, eqv_tn, eqv_nt, eqa_nn, eqa_nc, eqa_cn, eqa_cc, eqvs_ints, int_beq, itemsD, wipeOk, Slot.holds, Tg.slots, wipeE, bindTg, setAll, evP, prt, setPs, Ps.slots, asList, compL, cap, flatD, tu, li, ite_and, ite_or, cut_tail, at_nat, bi_len_t, bi_len_l, bi_all, bi_any, bi_tup_l, bi_tup_t, bi_lst_l, bi_lst_t, a1, a2, show 128 ≤ x from by omega, show x ≤ 191 from by omega]
          · simp [evD, ssn, ssc, evS, evE, evEs, evI, evC, evO, evB, evX, evXs, evDo, endO, prm_n, prm_b, prm_i, prm_l, prm_t, prm_x, prob_u, prn_u, unOb_ob, iteX, setTs, putN, blX, noDict, insAt, op_ai, op_at, op_al, op_si, op_mi, op_mt, op_mb, rp_i, rv_l, op_fd, op_md, idx_t, idx_l, slc_t, slc_l, isa_i, isa_b, isa_s, isa_t, isa_l, isa_n, b2_min, b2_max, cp_lt, cp_le, cp_gt, cp_ge, cp_eqi, cp_nei, cp_is, cp_isnot, is_nn, is_bb, is_in, is_bn, is_sn, is_tn, is_ln, ok_n, ok_b, ok_i, ok_t, ok_l, eqv_int, eqv_tup, eqv_lst, eqv_nn, eqv_bb, eqv_tn, eqv_nt, eqa_nn, eqa_nc, eqa_cn, eqa_cc, eqvs_ints, int_beq, itemsD, wipeOk, Slot.holds, Tg.slots, wipeE, bindTg, setAll, evP, prt, setPs, Ps.slots, asList, compL, cap, flatD, tu, li, ite_and, ite_or, cut_tail, at_nat, bi_len_t, bi_len_l, bi_all, bi_any, bi_tup_l, bi_tup_t, bi_lst_l, bi_lst_t, a1, a2, show 128 ≤ x from by omega, show ¬ x ≤ 191 from by omega]
        · simp [evD, ssn, ssc, evS, evE, evEs, evI, evC, evO, evB, evX, evXs, evDo, endO, prm_n, prm_b, prm_i, prm_l, prm_t, prm_x, prob_u, prn_u, unOb_ob, iteX, setTs, putN, blX, noDict, insAt, op_ai, op_at, op_al, op_si, op_mi, op_mt, op_mb, rp_i, rv_l, op_fd, op_md, idx_t, idx_l, slc_t, slc_l, isa_i, isa_b, isa_s, isa_t, isa_l, isa_n, b2_min, b2_max, cp_lt, cp_le, cp_gt, cp_ge, cp_eqi, cp_nei, cp_is, cp_isnot, is_nn, is_bb, is_in, is_bn, is_sn, is_tn, is_ln, ok_n, ok_b, ok_i, ok_t, ok_l, eqv_int, eqv_tup, eqv_lst, eqv_nn, eqv_bb, eqv_tn, eqv_nt, eqa_nn, eqa_nc, eqa_cn, eqa_cc, eqvs_ints, int_beq, itemsD, wipeOk, Slot.holds, Tg.slots, wipeE, bindTg, setAll, evP, prt, setPs, Ps.slots, asList, compL, cap, flatD, tu, li, ite_and, ite_or, cut_tail, at_nat, bi_len_t, bi_len_l, bi_all, bi_any, bi_tup_l, bi_tup_t, bi_lst_l, bi_lst_t, a1, show ¬ 128 ≤ x from by omega]
    simp only [tu, List.map_cons] at ec vl
    simp only [b__law_valid]
    generalize (Ex.comp (.var 7) (.name 7) (.seq (.slc (.var 1) (.one (.int 1)) .no)) (.one (.not (.chain .lt .lt (.int 127) (.var 7) (.int 192))))) = E at ec ⊢
    simp only [Dc.d] at ec
    cases h3 : r.all isCont with
    | false =>
      have hfl : (r.filter fun x => !isCont x) ≠ [] := fun e => by
        rw [List.filter_eq_nil_iff] at e
        have : r.all isCont = true := List.all_eq_true.mpr fun x hx => by simpa using e x hx
        rw [h3] at this; cases this
      have q1 : cmpD .ne (.list ((r.filter fun x => !isCont x).map PyData.int)) (.list []) = some true := by
        cases hq : r.filter fun x => !isCont x with
        | nil => exact absurd hq hfl
        | cons x l =>
          have o := ok_li 6 (x :: l)
          simp only [li, List.map_cons] at o
          simp [cmpD, o, okD, PyData.eqv, PyData.eqvAll]
      simp [evD, ssn, ssc, evS, evE, evEs, evI, evC, evO, evB, evX, evXs, evDo, endO, prm_n, prm_b, prm_i, prm_l, prm_t, prm_x, prob_u, prn_u, unOb_ob, iteX, setTs, putN, blX, noDict, insAt, op_ai, op_at, op_al, op_si, op_mi, op_mt, op_mb, rp_i, rv_l, op_fd, op_md, idx_t, idx_l, slc_t, slc_l, isa_i, isa_b, isa_s, isa_t, isa_l, isa_n, b2_min, b2_max, cp_lt, cp_le, cp_gt, cp_ge, cp_eqi, cp_nei, cp_is, cp_isnot, is_nn, is_bb, is_in, is_bn, is_sn, is_tn, is_ln, ok_n, ok_b, ok_i, ok_t, ok_l, eqv_int, eqv_tup, eqv_lst, eqv_nn, eqv_bb, eqv_tn, eqv_nt, eqa_nn, eqa_nc, eqa_cn, eqa_cc, eqvs_ints, int_beq, itemsD, wipeOk, Slot.holds, Tg.slots, wipeE, bindTg, setAll, evP, prt, setPs, Ps.slots, asList, compL, cap, flatD, tu, li, ite_and, ite_or, cut_tail, at_nat, bi_len_t, bi_len_l, bi_all, bi_any, bi_tup_l, bi_tup_t, bi_lst_l, bi_lst_t, Dc.d, q0, lv, s_lann, h1, h2, h3, ec, q1]
    | true =>
      have hfl : (r.filter fun x => !isCont x) = [] := by
        rw [List.filter_eq_nil_iff]
        intro x hx
        simpa using List.all_eq_true.mp h3 x hx
      rw [hfl] at ec
      simp only [List.map_nil] at ec
      have q1 : cmpD .ne (.list []) (.list []) = some false := rfl
      have qz : cmpD .eq (.str c.ov.s) (.str "zero") = some (decide (c.ov = .zero)) := by simp [cmpD, ok_ov 7, ok_s2 7, ov_zero]
      have qa : cmpD .eq (.str c.ov.s) (.str "all") = some (decide (c.ov = .all)) := by simp [cmpD, ok_ov 7, ok_s3 7, ov_all]
      have qr : cmpD .eq (.tuple (PyData.int b :: r.map PyData.int)) (.tuple [.int 192, .int 128]) = some (decide (b :: r = [192, 128])) := by
        have := eqv_tu (b :: r) [192, 128]
        have o1 := ok_tu 6 (b :: r)
        have o2 := ok_tu 6 [192, 128]
        simp only [tu, List.map_cons, List.map_nil] at this o1 o2
        simp only [cmpD, o1, o2, this]
        simp
      have e5 : L2.atI [PyData.int 0, .int 0, .int 128, .int 2048, .int 65536] ((r.length : Int) + 1) = some (.int (least ((r.length : Int) + 1))) := by
        have : r.length = 0 ∨ r.length = 1 ∨ r.length = 2 ∨ r.length = 3 := by omega
        rcases this with e | e | e | e <;> rw [e] <;> rfl
      have hlv : lv c (b :: r) = if 1114111 < lval (b :: r) ∨ ((55295 < lval (b :: r) ∧ lval (b :: r) < 57344) ∧ c.su = false) then false else if c.ov = .all ∨ (c.ov = .zero ∧ decide (b :: r = [192, 128]) = true) then true else decide (least ((r.length : Int) + 1) ≤ lval (b :: r)) := by
        unfold lv
        dsimp only
        rw [if_neg (by omega), if_neg (by rw [h3]; exact Bool.noConfusion)]
        simp only [decide_eq_true_eq]
      rw [hlv]
      generalize decide (b :: r = [192, 128]) = Z at qr ⊢
      generalize lval (b :: r) = v at vl ⊢
      generalize least ((r.length : Int) + 1) = l at e5 ⊢
      clear hlv
      obtain ⟨L, ov, su, po⟩ := c
      dsimp only at h2 ec qz qa ⊢
      by_cases h4 : 1114111 < v
      case pos => simp [evD, ssn, ssc, evS, evE, evEs, evI, evC, evO, evB, evX, evXs, evDo, endO, prm_n, prm_b, prm_i, prm_l, prm_t, prm_x, prob_u, prn_u, unOb_ob, iteX, setTs, putN, blX, noDict, insAt, op_ai, op_at, op_al, op_si, op_mi, op_mt, op_mb, rp_i, rv_l, op_fd, op_md, idx_t, idx_l, slc_t, slc_l, isa_i, isa_b, isa_s, isa_t, isa_l, isa_n, b2_min, b2_max, cp_lt, cp_le, cp_gt, cp_ge, cp_eqi, cp_nei, cp_is, cp_isnot, is_nn, is_bb, is_in, is_bn, is_sn, is_tn, is_ln, ok_n, ok_b, ok_i, ok_t, ok_l, eqv_int, eqv_tup, eqv_lst, eqv_nn, eqv_bb, eqv_tn, eqv_nt, eqa_nn, eqa_nc, eqa_cn, eqa_cc, eqvs_ints, int_beq, itemsD, wipeOk, Slot.holds, Tg.slots, wipeE, bindTg, setAll, evP, prt, setPs, Ps.slots, asList, compL, cap, flatD, tu, li, ite_and, ite_or, cut_tail, at_nat, bi_len_t, bi_len_l, bi_all, bi_any, bi_tup_l, bi_tup_t, bi_lst_l, bi_lst_t, -at_nat, at_0, Dc.d, q0, s_lann, h1, h2, ec, q1, vl, h4]
      by_cases h5 : 55295 < v
      case pos =>
        by_cases h6 : v < 57344
        case pos =>
          cases su with
          | false => simp [evD, ssn, ssc, evS, evE, evEs, evI, evC, evO, evB, evX, evXs, evDo, endO, prm_n, prm_b, prm_i, prm_l, prm_t, prm_x, prob_u, prn_u, unOb_ob, iteX, setTs, putN, blX, noDict, insAt, op_ai, op_at, op_al, op_si, op_mi, op_mt, op_mb, rp_i, rv_l, op_fd, op_md, idx_t, idx_l, slc_t, slc_l, isa_i, isa_b, isa_s, isa_t, isa_l, isa_n, b2_min, b2_max, cp_lt, cp_le, cp_gt, cp_ge, cp_eqi, cp_nei, cp_is, cp_isnot, is_nn, is_bb, is_in, is_bn, is_sn, is_tn, is_ln, ok_n, ok_b, ok_i, ok_t, ok_l, eqv_int, eqv_tup, eqv_lst, eqv_nn, eqv_bb, eqv_tn, eqv_nt, eqa_nn, eqa_nc, eqa_cn, eqa_cc, eqvs_ints, int_beq, itemsD, wipeOk, Slot.holds, Tg.slots, wipeE, bindTg, setAll, evP, prt, setPs, Ps.slots, asList, compL, cap, flatD, tu, li, ite_and, ite_or, cut_tail, at_nat, bi_len_t, bi_len_l, bi_all, bi_any, bi_tup_l, bi_tup_t, bi_lst_l, bi_lst_t, -at_nat, at_0, Dc.d, q0, s_lann, h1, h2, ec, q1, vl, h4, h5, h6]
          | true => cases ov <;> cases Z <;> simp [evD, ssn, ssc, evS, evE, evEs, evI, evC, evO, evB, evX, evXs, evDo, endO, prm_n, prm_b, prm_i, prm_l, prm_t, prm_x, prob_u, prn_u, unOb_ob, iteX, setTs, putN, blX, noDict, insAt, op_ai, op_at, op_al, op_si, op_mi, op_mt, op_mb, rp_i, rv_l, op_fd, op_md, idx_t, idx_l, slc_t, slc_l, isa_i, isa_b, isa_s, isa_t, isa_l, isa_n, b2_min, b2_max, cp_lt, cp_le, cp_gt, cp_ge, cp_eqi, cp_nei, cp_is, cp_isnot, is_nn, is_bb, is_in, is_bn, is_sn, is_tn, is_ln, ok_n, ok_b, ok_i, ok_t, ok_l, eqv_int, eqv_tup, eqv_lst, eqv_nn, eqv_bb, eqv_tn, eqv_nt, eqa_nn, eqa_nc, eqa_cn, eqa_cc, eqvs_ints, int_beq, itemsD, wipeOk, Slot.holds, Tg.slots, wipeE, bindTg, setAll, evP, prt, setPs, Ps.slots, asList, compL, cap, flatD, tu, li, ite_and, ite_or, cut_tail, at_nat, bi_len_t, bi_len_l, bi_all, bi_any, bi_tup_l, bi_tup_t, bi_lst_l, bi_lst_t, -at_nat, at_0, Dc.d, q0, s_lann, h1, h2, ec, q1, vl, h4, h5, h6, cp_ova, cp_ovz, qr, e5]
        case neg => cases ov <;> cases Z <;> simp [evD, ssn, ssc, evS, evE, evEs, evI, evC, evO, evB, evX, evXs, evDo, endO, prm_n, prm_b, prm_i, prm_l, prm_t, prm_x, prob_u, prn_u, unOb_ob, iteX, setTs, putN, blX, noDict, insAt, op_ai, op_at, op_al, op_si, op_mi, op_mt, op_mb, rp_i, rv_l, op_fd, op_md, idx_t, idx_l, slc_t, slc_l, isa_i, isa_b, isa_s, isa_t, isa_l, isa_n, b2_min, b2_max, cp_lt, cp_le, cp_gt, cp_ge, cp_eqi, cp_nei, cp_is, cp_isnot, is_nn, is_bb, is_in, is_bn, is_sn, is_tn, is_ln, ok_n, ok_b, ok_i, ok_t, ok_l, eqv_int, eqv_tup, eqv_lst, eqv_nn, eqv_bb, eqv_tn, eqv_nt, eqa_nn, eqa_nc, eqa_cn, eqa_cc, eqvs_ints, int_beq, itemsD, wipeOk, Slot.holds, Tg.slots, wipeE, bindTg, setAll, evP, prt, setPs, Ps.slots, asList, compL, cap, flatD, tu, li, ite_and, ite_or, cut_tail, at_nat, bi_len_t, bi_len_l, bi_all, bi_any, bi_tup_l, bi_tup_t, bi_lst_l, bi_lst_t, -at_nat, at_0, Dc.d, q0, s_lann, h1, h2, ec, q1, vl, h4, h5, h6, cp_ova, cp_ovz, qr, e5]
      case neg => cases ov <;> cases Z <;> simp [evD, ssn, ssc, evS, evE, evEs, evI, evC, evO, evB, evX, evXs, evDo, endO, prm_n, prm_b, prm_i, prm_l, prm_t, prm_x, prob_u, prn_u, unOb_ob, iteX, setTs, putN, blX, noDict, insAt, op_ai, op_at, op_al, op_si, op_mi, op_mt, op_mb, rp_i, rv_l, op_fd, op_md, idx_t, idx_l, slc_t, slc_l, isa_i, isa_b, isa_s, isa_t, isa_l, isa_n, b2_min, b2_max, cp_lt, cp_le, cp_gt, cp_ge, cp_eqi, cp_nei, cp_is, cp_isnot, is_nn, is_bb, is_in, is_bn, is_sn, is_tn, is_ln, ok_n, ok_b, ok_i, ok_t, ok_l, eqv_int, eqv_tup, eqv_lst, eqv_nn, eqv_bb, eqv_tn, eqv_nt, eqa_nn, eqa_nc, eqa_cn, eqa_cc, eqvs_ints, int_beq, itemsD, wipeOk, Slot.holds, Tg.slots, wipeE, bindTg, setAll, evP, prt, setPs, Ps.slots, asList, compL, cap, flatD, tu, li, ite_and, ite_or, cut_tail, at_nat, bi_len_t, bi_len_l, bi_all, bi_any, bi_tup_l, bi_tup_t, bi_lst_l, bi_lst_t, -at_nat, at_0, Dc.d, q0, s_lann, h1, h2, ec, q1, vl, h4, h5, cp_ova, cp_ovz, qr, e5]
theorem s_lbegins (k : Nat) (c : Dc) (hc : c.Ok) (b : Int) (r : List Int) (hb : Bys (b :: r)) : G (k + 3) 26 [c.d, tu (b :: r)] = .ok (.bool (beg c (b :: r))) := by
  rw [← lb_beg c b r hb, g__law_begins]
  have hlen : (((b :: r).length : Nat) : Int) = (r.length : Int) + 1 := by simp
  unfold lb
  rw [List.headD_cons, hlen]
  dsimp only
  have e1 := s_lvalid k c hc (b :: r) hb
  rw [← lv_beg c _ hb] at e1
  have hm4 := (ann_range b).2
  generalize hm : ann b - ((r.length : Int) + 1) = m
  by_cases h0 : m ≤ 0
  · rw [if_pos h0]
    simp only [tu, List.map_cons] at e1
    by_cases h1 : m = 0 <;> simp [evD, ssn, ssc, evS, evE, evEs, evI, evC, evO, evB, evX, evXs, evDo, endO, prm_n, prm_b, prm_i, prm_l, prm_t, prm_x, prob_u, prn_u, unOb_ob, iteX, setTs, putN, blX, noDict, insAt, op_ai, op_at, op_al, op_si, op_mi, op_mt, op_mb, rp_i, rv_l, op_fd, op_md, idx_t, idx_l, slc_t, slc_l, isa_i, isa_b, isa_s, isa_t, isa_l, isa_n, b2_min, b2_max, cp_lt, cp_le, cp_gt, cp_ge, cp_eqi, cp_nei, cp_eq, cp_ne, cp_is, cp_isnot, cp_int, cp_nint, cp_inl, cp_ninl, is_nn, is_bb, is_in, is_bn, is_sn, is_tn, is_ln, ok_n, ok_b, ok_i, ok_t, ok_l, eqv_int, eqv_tup, eqv_lst, eqv_nn, eqv_bb, eqv_tn, eqv_nt, eqa_nn, eqa_nc, eqa_cn, eqa_cc, eqvs_ints, int_beq, itemsD, wipeOk, Slot.holds, Tg.slots, wipeE, bindTg, setAll, evP, prt, setPs, Ps.slots, asList, compL, cap, flatD, tu, li, ite_and, ite_or, cut_tail, at_nat, bi_len_t, bi_len_l, bi_all, bi_any, bi_tup_l, bi_tup_t, bi_lst_l, bi_lst_t, -at_nat, at_0, b__law_begins, s_lann, hm, h0, h1, e1]
  · rw [if_neg h0]
    have ey : ∀ y : Int, 0 ≤ y → y ≤ 255 → G (k + 2) 25 [c.d, .tuple (.int b :: (r.map PyData.int ++ .int y :: List.replicate (m - 1).toNat (.int 128)))] = .ok (.bool (lv c (b :: r ++ [y] ++ List.replicate (m - 1).toNat 128))) := by
      intro y y0 y1
      have hbr : Bys (b :: r ++ [y] ++ List.replicate (m - 1).toNat 128) := fun x hx => by
        rcases List.mem_append.mp hx with hx | hx
        · rcases List.mem_append.mp hx with hx | hx
          · exact hb x hx
          · rw [List.mem_singleton] at hx; subst hx; exact ⟨y0, y1⟩
        · rw [List.eq_of_mem_replicate hx]; omega
      have := s_lvalid k c hc _ hbr
      rw [← lv_beg c _ hbr] at this
      simpa [tu] using this
    have e2 := ey 128 (by omega) (by omega)
    have e3 := ey 144 (by omega) (by omega)
    have e4 := ey 160 (by omega) (by omega)
    simp only [List.any_cons, List.any_nil, Bool.or_false]
    generalize hn : (m - 1).toNat = n at e2 e3 e4 ⊢
    have hn' : m.toNat - 1 = n := by omega
    have hl : r.length + 1 + 1 ≤ 16777216 := by omega
    have hl2 : r.length + 1 + 1 + n ≤ 16777216 := by omega
    have hl3 : r.length + (1 + (1 + n)) ≤ 16777216 := by omega
    have hl4 : r.length + (n + 1) + 1 ≤ 16777216 := by omega
    have hm1 : 1 ≤ m := by omega
    have hk : m - 1 ≤ 1000 := by omega
    cases q1 : lv c (b :: r ++ [128] ++ List.replicate n 128) with
    | true =>
      rw [q1] at e2
      simp [evD, ssn, ssc, evS, evE, evEs, evI, evC, evO, evB, evX, evXs, evDo, endO, prm_n, prm_b, prm_i, prm_l, prm_t, prm_x, prob_u, prn_u, unOb_ob, iteX, setTs, putN, blX, noDict, insAt, op_ai, op_at, op_al, op_si, op_mi, op_mt, op_mb, rp_i, rv_l, op_fd, op_md, idx_t, idx_l, slc_t, slc_l, isa_i, isa_b, isa_s, isa_t, isa_l, isa_n, b2_min, b2_max, cp_lt, cp_le, cp_gt, cp_ge, cp_eqi, cp_nei, cp_eq, cp_ne, cp_is, cp_isnot, cp_int, cp_nint, cp_inl, cp_ninl, is_nn, is_bb, is_in, is_bn, is_sn, is_tn, is_ln, ok_n, ok_b, ok_i, ok_t, ok_l, eqv_int, eqv_tup, eqv_lst, eqv_nn, eqv_bb, eqv_tn, eqv_nt, eqa_nn, eqa_nc, eqa_cn, eqa_cc, eqvs_ints, int_beq, itemsD, wipeOk, Slot.holds, Tg.slots, wipeE, bindTg, setAll, evP, prt, setPs, Ps.slots, asList, compL, cap, flatD, tu, li, ite_and, ite_or, cut_tail, at_nat, bi_len_t, bi_len_l, bi_all, bi_any, bi_tup_l, bi_tup_t, bi_lst_l, bi_lst_t, -at_nat, at_0, b__law_begins, w__law_begins_0, fln, flc, s_lann, hm, h0, e2, hl, hl2, hl3, hl4, hm1, hk, hn, hn']
    | false =>
      rw [q1] at e2
      cases q2 : lv c (b :: r ++ [144] ++ List.replicate n 128) with
      | true =>
        rw [q2] at e3
        simp [evD, ssn, ssc, evS, evE, evEs, evI, evC, evO, evB, evX, evXs, evDo, endO, prm_n, prm_b, prm_i, prm_l, prm_t, prm_x, prob_u, prn_u, unOb_ob, iteX, setTs, putN, blX, noDict, insAt, op_ai, op_at, op_al, op_si, op_mi, op_mt, op_mb, rp_i, rv_l, op_fd, op_md, idx_t, idx_l, slc_t, slc_l, isa_i, isa_b, isa_s, isa_t, isa_l, isa_n, b2_min, b2_max, cp_lt, cp_le, cp_gt, cp_ge, cp_eqi, cp_nei, cp_eq, cp_ne, cp_is, cp_isnot, cp_int, cp_nint, cp_inl, cp_ninl, is_nn, is_bb, is_in, is_bn, is_sn, is_tn, is_ln, ok_n, ok_b, ok_i, ok_t, ok_l, eqv_int, eqv_tup, eqv_lst, eqv_nn, eqv_bb, eqv_tn, eqv_nt, eqa_nn, eqa_nc, eqa_cn, eqa_cc, eqvs_ints, int_beq, itemsD, wipeOk, Slot.holds, Tg.slots, wipeE, bindTg, setAll, evP, prt, setPs, Ps.slots, asList, compL, cap, flatD, tu, li, ite_and, ite_or, cut_tail, at_nat, bi_len_t, bi_len_l, bi_all, bi_any, bi_tup_l, bi_tup_t, bi_lst_l, bi_lst_t, -at_nat, at_0, b__law_begins, w__law_begins_0, fln, flc, s_lann, hm, h0, e2, e3, hl, hl2, hl3, hl4, hm1, hk, hn, hn']
      | false =>
        rw [q2] at e3
        cases q3 : lv c (b :: r ++ [160] ++ List.replicate n 128) <;> (rw [q3] at e4; simp [evD, ssn, ssc, evS, evE, evEs, evI, evC, evO, evB, evX, evXs, evDo, endO, prm_n, prm_b, prm_i, prm_l, prm_t, prm_x, prob_u, prn_u, unOb_ob, iteX, setTs, putN, blX, noDict, insAt, op_ai, op_at, op_al, op_si, op_mi, op_mt, op_mb, rp_i, rv_l, op_fd, op_md, idx_t, idx_l, slc_t, slc_l, isa_i, isa_b, isa_s, isa_t, isa_l, isa_n, b2_min, b2_max, cp_lt, cp_le, cp_gt, cp_ge, cp_eqi, cp_nei, cp_eq, cp_ne, cp_is, cp_isnot, cp_int, cp_nint, cp_inl, cp_ninl, is_nn, is_bb, is_in, is_bn, is_sn, is_tn, is_ln, ok_n, ok_b, ok_i, ok_t, ok_l, eqv_int, eqv_tup, eqv_lst, eqv_nn, eqv_bb, eqv_tn, eqv_nt, eqa_nn, eqa_nc, eqa_cn, eqa_cc, eqvs_ints, int_beq, itemsD, wipeOk, Slot.holds, Tg.slots, wipeE, bindTg, setAll, evP, prt, setPs, Ps.slots, asList, compL, cap, flatD, tu, li, ite_and, ite_or, cut_tail, at_nat, bi_len_t, bi_len_l, bi_all, bi_any, bi_tup_l, bi_tup_t, bi_lst_l, bi_lst_t, -at_nat, at_0, b__law_begins, w__law_begins_0, fln, flc, s_lann, hm, h0, e2, e3, e4, hl, hl2, hl3, hl4, hm1, hk, hn, hn'])
end Pu

set_option maxHeartbeats 1000000
namespace Pu
open PySem PySem.Spec PyProof.Rows L2
theorem s_chk_str (k : Nat) (v : D) (b : Bool) (h : G (k + 3) 2 [v] = .ok (.bool b)) : G (k + 4) 37 [v] = if b = true then .ok .none else .exc 5 := by
  rw [g_check_string]
  cases b <;> simp [evD, ssn, ssc, evS, evE, evEs, evI, evC, evO, evB, evX, evXs, evDo, endO, prm_n, prm_b, prm_i, prm_l, prm_t, prm_x, prob_u, prn_u, unOb_ob, iteX, setTs, putN, blX, noDict, insAt, op_ai, op_at, op_al, op_si, op_mi, op_mt, op_mb, rp_i, rv_l, op_fd, op_md, idx_t, idx_l, slc_t, slc_l, isa_i, isa_b, isa_s, isa_t, isa_l, isa_n, b2_min, b2_max, cp_lt, cp_le, cp_gt, cp_ge, cp_eqi, cp_nei, cp_eq, cp_ne, cp_is, cp_isnot, cp_int, cp_nint, cp_inl, cp_ninl, is_nn, is_bb, is_in, is_bn, is_sn, is_tn, is_ln, ok_n, ok_b, ok_i, ok_t, ok_l, eqv_int, eqv_tup, eqv_lst, eqv_nn, eqv_bb, eqv_tn, eqv_nt, eqa_nn, eqa_nc, eqa_cn, eqa_cc, eqvs_ints, int_beq, itemsD, wipeOk, Slot.holds, Tg.slots, wipeE, bindTg, setAll, evP, prt, setPs, Ps.slots, asList, compL, cap, flatD, tu, li, ite_and, ite_or, cut_tail, at_nat, bi_len_t, bi_len_l, bi_all, bi_any, bi_tup_l, bi_tup_t, bi_lst_l, bi_lst_t, b_check_string, h]
theorem s_chk_str_ok (k : Nat) (xs : List Int) (h : xs.length ≤ 60) (hb : Bys xs) : G (k + 4) 37 [tu xs] = .ok .none := by
  have e := s_string_tu k xs
  have hs : (decide (xs.length ≤ 60) && xs.all fun b => decide (0 ≤ b) && decide (b ≤ 255)) = true := by
    simp [h]; exact hb
  rw [hs] at e
  exact s_chk_str k _ true e
theorem s_gsz (k : Nat) (c : Dc) (b : Int) (r : List Int) : G (k + 4) 38 [c.d, tu (b :: r)] = .ok (.int (gsz c (b :: r))) := by
  rw [g_good_size]
  have e1 := s_ann (k + 2) b
  obtain ⟨a0, a1⟩ := ann_range b
  have hlen : (((b :: r).length : Nat) : Int) = (r.length : Int) + 1 := by simp
  have hg : gsz c (b :: r) = if 0 < ann b ∧ ann b ≤ (r.length : Int) + 1 ∧ beg c ((b :: r).take (ann b).toNat) = true then ann b else 0 := by
    unfold gsz
    rw [List.headD_cons, hlen]
  rw [hg]
  by_cases h1 : 0 < ann b
  · by_cases h2 : ann b ≤ (r.length : Int) + 1
    · obtain ⟨n, hn⟩ : ∃ n : Nat, (ann b).toNat = n + 1 := ⟨(ann b).toNat - 1, by omega⟩
      have e2 := s_begins k c b (r.take n)
      have ht : (b :: r).take (ann b).toNat = b :: r.take n := by rw [hn]; rfl
      have hcut : cutD (PyData.int b :: r.map PyData.int) none (some (ann b)) = PyData.int b :: (r.take n).map PyData.int := by
        rw [cut_to _ a0, hn, List.take_succ_cons, List.map_take]
      rw [ht]
      simp only [tu, List.map_cons] at e2 ⊢
      generalize List.map PyData.int (r.take n) = tl at e2 hcut
      cases hq : beg c (b :: r.take n) <;> (rw [hq] at e2; simp [evD, ssn, ssc, evS, evE, evEs, evI, evC, evO, evB, evX, evXs, evDo, endO, prm_n, prm_b, prm_i, prm_l, prm_t, prm_x, prob_u, prn_u, unOb_ob, iteX, setTs, putN, blX, noDict, insAt, op_ai, op_at, op_al, op_si, op_mi, op_mt, op_mb, rp_i, rv_l, op_fd, op_md, idx_t, idx_l, slc_t, slc_l, isa_i, isa_b, isa_s, isa_t, isa_l, isa_n, b2_min, b2_max, cp_lt, cp_le, cp_gt, cp_ge, cp_eqi, cp_nei, cp_eq, cp_ne, cp_is, cp_isnot, cp_int, cp_nint, cp_inl, cp_ninl, is_nn, is_bb, is_in, is_bn, is_sn, is_tn, is_ln, ok_n, ok_b, ok_i, ok_t, ok_l, eqv_int, eqv_tup, eqv_lst, eqv_nn, eqv_bb, eqv_tn, eqv_nt, eqa_nn, eqa_nc, eqa_cn, eqa_cc, eqvs_ints, int_beq, itemsD, wipeOk, Slot.holds, Tg.slots, wipeE, bindTg, setAll, evP, prt, setPs, Ps.slots, asList, compL, cap, flatD, tu, li, ite_and, ite_or, cut_tail, at_nat, bi_len_t, bi_len_l, bi_all, bi_any, bi_tup_l, bi_tup_t, bi_lst_l, bi_lst_t, -at_nat, at_0, b_good_size, e1, h1, h2, hcut, e2])
    · simp [evD, ssn, ssc, evS, evE, evEs, evI, evC, evO, evB, evX, evXs, evDo, endO, prm_n, prm_b, prm_i, prm_l, prm_t, prm_x, prob_u, prn_u, unOb_ob, iteX, setTs, putN, blX, noDict, insAt, op_ai, op_at, op_al, op_si, op_mi, op_mt, op_mb, rp_i, rv_l, op_fd, op_md, idx_t, idx_l, slc_t, slc_l, isa_i, isa_b, isa_s, isa_t, isa_l, isa_n, b2_min, b2_max, cp_lt, cp_le, cp_gt, cp_ge, cp_eqi, cp_nei, cp_eq, cp_ne, cp_is, cp_isnot, cp_int, cp_nint, cp_inl, cp_ninl, is_nn, is_bb, is_in, is_bn, is_sn, is_tn, is_ln, ok_n, ok_b, ok_i, ok_t, ok_l, eqv_int, eqv_tup, eqv_lst, eqv_nn, eqv_bb, eqv_tn, eqv_nt, eqa_nn, eqa_nc, eqa_cn, eqa_cc, eqvs_ints, int_beq, itemsD, wipeOk, Slot.holds, Tg.slots, wipeE, bindTg, setAll, evP, prt, setPs, Ps.slots, asList, compL, cap, flatD, tu, li, ite_and, ite_or, cut_tail, at_nat, bi_len_t, bi_len_l, bi_all, bi_any, bi_tup_l, bi_tup_t, bi_lst_l, bi_lst_t, -at_nat, at_0, b_good_size, e1, h1, h2]
  · simp [evD, ssn, ssc, evS, evE, evEs, evI, evC, evO, evB, evX, evXs, evDo, endO, prm_n, prm_b, prm_i, prm_l, prm_t, prm_x, prob_u, prn_u, unOb_ob, iteX, setTs, putN, blX, noDict, insAt, op_ai, op_at, op_al, op_si, op_mi, op_mt, op_mb, rp_i, rv_l, op_fd, op_md, idx_t, idx_l, slc_t, slc_l, isa_i, isa_b, isa_s, isa_t, isa_l, isa_n, b2_min, b2_max, cp_lt, cp_le, cp_gt, cp_ge, cp_eqi, cp_nei, cp_eq, cp_ne, cp_is, cp_isnot, cp_int, cp_nint, cp_inl, cp_ninl, is_nn, is_bb, is_in, is_bn, is_sn, is_tn, is_ln, ok_n, ok_b, ok_i, ok_t, ok_l, eqv_int, eqv_tup, eqv_lst, eqv_nn, eqv_bb, eqv_tn, eqv_nt, eqa_nn, eqa_nc, eqa_cn, eqa_cc, eqvs_ints, int_beq, itemsD, wipeOk, Slot.holds, Tg.slots, wipeE, bindTg, setAll, evP, prt, setPs, Ps.slots, asList, compL, cap, flatD, tu, li, ite_and, ite_or, cut_tail, at_nat, bi_len_t, bi_len_l, bi_all, bi_any, bi_tup_l, bi_tup_t, bi_lst_l, bi_lst_t, -at_nat, at_0, b_good_size, e1, h1]
theorem pre_loop (k : Nat) (c : Dc) (b : Int) (r : List Int) (s2 : Slot) : ∀ (m n N : Nat), 1 ≤ n → n ≤ r.length + 1 → r.length + 1 ≤ n + m → m < N →
    whileL (evB tx.C (G (k + 3)) (.and (.cmp .lt (.var 3) (.bi .len (.var 1))) (.call 11 (.cons (.var 0) (.cons (.slc (.var 1) .no (.one (.op .add (.var 3) (.int 1)))) .nil))))) (evSs tx.C (G (k + 3)) w_bad_size_0) N [.cl c.d, .cl (tu (b :: r)), s2, .cl (.int n)] = .next [.cl c.d, .cl (tu (b :: r)), s2, .cl (.int (preN c (b :: r) m n : Nat))]
  | m, n, 0, _, _, _, h => absurd h (Nat.not_lt_zero _)
  | 0, n, N + 1, h1, h2, h3, _ => by
    have ec : evB tx.C (G (k + 3)) (.and (.cmp .lt (.var 3) (.bi .len (.var 1))) (.call 11 (.cons (.var 0) (.cons (.slc (.var 1) .no (.one (.op .add (.var 3) (.int 1)))) .nil)))) [.cl c.d, .cl (tu (b :: r)), s2, .cl (.int n)] = .ok false := by
      simp [evD, ssn, ssc, evS, evE, evEs, evI, evC, evO, evB, evX, evXs, evDo, endO, prm_n, prm_b, prm_i, prm_l, prm_t, prm_x, prob_u, prn_u, unOb_ob, iteX, setTs, putN, blX, noDict, insAt, op_ai, op_at, op_al, op_si, op_mi, op_mt, op_mb, rp_i, rv_l, op_fd, op_md, idx_t, idx_l, slc_t, slc_l, isa_i, isa_b, isa_s, isa_t, isa_l, isa_n, b2_min, b2_max, cp_lt, cp_le, cp_gt, cp_ge, cp_eqi, cp_nei, cp_eq, cp_ne, cp_is, cp_isnot, cp_int, cp_nint, cp_inl, cp_ninl, is_nn, is_bb, is_in, is_bn, is_sn, is_tn, is_ln, ok_n, ok_b, ok_i, ok_t, ok_l, eqv_int, eqv_tup, eqv_lst, eqv_nn, eqv_bb, eqv_tn, eqv_nt, eqa_nn, eqa_nc, eqa_cn, eqa_cc, eqvs_ints, int_beq, itemsD, wipeOk, Slot.holds, Tg.slots, wipeE, bindTg, setAll, evP, prt, setPs, Ps.slots, asList, compL, cap, flatD, tu, li, ite_and, ite_or, cut_tail, at_nat, bi_len_t, bi_len_l, bi_all, bi_any, bi_tup_l, bi_tup_t, bi_lst_l, bi_lst_t, show ¬ (n : Int) < (r.length : Int) + 1 from by omega]
    unfold whileL preN
    rw [ec]
    rfl
  | m + 1, n, N + 1, h1, h2, h3, hN => by
    have e2 := s_begins k c b (r.take n)
    have hcut : cutD (PyData.int b :: r.map PyData.int) none (some ((n : Int) + 1)) = PyData.int b :: (r.take n).map PyData.int := by
      rw [cut_to _ (by omega), show ((n : Int) + 1).toNat = n + 1 from by omega, List.take_succ_cons, List.map_take]
    have ht : (b :: r).take (n + 1) = b :: r.take n := rfl
    unfold whileL preN
    rw [List.length_cons, ht]
    simp only [tu, List.map_cons] at e2 ⊢
    generalize List.map PyData.int (r.take n) = tl at e2 hcut
    by_cases h4 : n < r.length + 1
    · have h4' : (n : Int) < (r.length : Int) + 1 := by omega
      cases hq : beg c (b :: r.take n) with
      | false =>
        rw [hq] at e2
        have ec : evB tx.C (G (k + 3)) (.and (.cmp .lt (.var 3) (.bi .len (.var 1))) (.call 11 (.cons (.var 0) (.cons (.slc (.var 1) .no (.one (.op .add (.var 3) (.int 1)))) .nil)))) [.cl c.d, .cl (.tuple (PyData.int b :: r.map PyData.int)), s2, .cl (.int n)] = .ok false := by
          simp [evD, ssn, ssc, evS, evE, evEs, evI, evC, evO, evB, evX, evXs, evDo, endO, prm_n, prm_b, prm_i, prm_l, prm_t, prm_x, prob_u, prn_u, unOb_ob, iteX, setTs, putN, blX, noDict, insAt, op_ai, op_at, op_al, op_si, op_mi, op_mt, op_mb, rp_i, rv_l, op_fd, op_md, idx_t, idx_l, slc_t, slc_l, isa_i, isa_b, isa_s, isa_t, isa_l, isa_n, b2_min, b2_max, cp_lt, cp_le, cp_gt, cp_ge, cp_eqi, cp_nei, cp_eq, cp_ne, cp_is, cp_isnot, cp_int, cp_nint, cp_inl, cp_ninl, is_nn, is_bb, is_in, is_bn, is_sn, is_tn, is_ln, ok_n, ok_b, ok_i, ok_t, ok_l, eqv_int, eqv_tup, eqv_lst, eqv_nn, eqv_bb, eqv_tn, eqv_nt, eqa_nn, eqa_nc, eqa_cn, eqa_cc, eqvs_ints, int_beq, itemsD, wipeOk, Slot.holds, Tg.slots, wipeE, bindTg, setAll, evP, prt, setPs, Ps.slots, asList, compL, cap, flatD, tu, li, ite_and, ite_or, cut_tail, at_nat, bi_len_t, bi_len_l, bi_all, bi_any, bi_tup_l, bi_tup_t, bi_lst_l, bi_lst_t, h4', hcut, e2]
        rw [ec, if_neg (fun z => by cases z.2)]
        rfl
      | true =>
        rw [hq] at e2
        have ec : evB tx.C (G (k + 3)) (.and (.cmp .lt (.var 3) (.bi .len (.var 1))) (.call 11 (.cons (.var 0) (.cons (.slc (.var 1) .no (.one (.op .add (.var 3) (.int 1)))) .nil)))) [.cl c.d, .cl (.tuple (PyData.int b :: r.map PyData.int)), s2, .cl (.int n)] = .ok true := by
          simp [evD, ssn, ssc, evS, evE, evEs, evI, evC, evO, evB, evX, evXs, evDo, endO, prm_n, prm_b, prm_i, prm_l, prm_t, prm_x, prob_u, prn_u, unOb_ob, iteX, setTs, putN, blX, noDict, insAt, op_ai, op_at, op_al, op_si, op_mi, op_mt, op_mb, rp_i, rv_l, op_fd, op_md, idx_t, idx_l, slc_t, slc_l, isa_i, isa_b, isa_s, isa_t, isa_l, isa_n, b2_min, b2_max, cp_lt, cp_le, cp_gt, cp_ge, cp_eqi, cp_nei, cp_eq, cp_ne, cp_is, cp_isnot, cp_int, cp_nint, cp_inl, cp_ninl, is_nn, is_bb, is_in, is_bn, is_sn, is_tn, is_ln, ok_n, ok_b, ok_i, ok_t, ok_l, eqv_int, eqv_tup, eqv_lst, eqv_nn, eqv_bb, eqv_tn, eqv_nt, eqa_nn, eqa_nc, eqa_cn, eqa_cc, eqvs_ints, int_beq, itemsD, wipeOk, Slot.holds, Tg.slots, wipeE, bindTg, setAll, evP, prt, setPs, Ps.slots, asList, compL, cap, flatD, tu, li, ite_and, ite_or, cut_tail, at_nat, bi_len_t, bi_len_l, bi_all, bi_any, bi_tup_l, bi_tup_t, bi_lst_l, bi_lst_t, h4', hcut, e2]
        have et : evSs tx.C (G (k + 3)) w_bad_size_0 [.cl c.d, .cl (.tuple (PyData.int b :: r.map PyData.int)), s2, .cl (.int n)] = .next [.cl c.d, .cl (.tuple (PyData.int b :: r.map PyData.int)), s2, .cl (.int ((n + 1 : Nat) : Int))] := by
          simp [evD, ssn, ssc, evS, evE, evEs, evI, evC, evO, evB, evX, evXs, evDo, endO, prm_n, prm_b, prm_i, prm_l, prm_t, prm_x, prob_u, prn_u, unOb_ob, iteX, setTs, putN, blX, noDict, insAt, op_ai, op_at, op_al, op_si, op_mi, op_mt, op_mb, rp_i, rv_l, op_fd, op_md, idx_t, idx_l, slc_t, slc_l, isa_i, isa_b, isa_s, isa_t, isa_l, isa_n, b2_min, b2_max, cp_lt, cp_le, cp_gt, cp_ge, cp_eqi, cp_nei, cp_eq, cp_ne, cp_is, cp_isnot, cp_int, cp_nint, cp_inl, cp_ninl, is_nn, is_bb, is_in, is_bn, is_sn, is_tn, is_ln, ok_n, ok_b, ok_i, ok_t, ok_l, eqv_int, eqv_tup, eqv_lst, eqv_nn, eqv_bb, eqv_tn, eqv_nt, eqa_nn, eqa_nc, eqa_cn, eqa_cc, eqvs_ints, int_beq, itemsD, wipeOk, Slot.holds, Tg.slots, wipeE, bindTg, setAll, evP, prt, setPs, Ps.slots, asList, compL, cap, flatD, tu, li, ite_and, ite_or, cut_tail, at_nat, bi_len_t, bi_len_l, bi_all, bi_any, bi_tup_l, bi_tup_t, bi_lst_l, bi_lst_t, w_bad_size_0]
        rw [ec, if_pos ⟨h4, rfl⟩]
        simp only [outk, if_true]
        rw [et]
        exact pre_loop k c b r s2 m (n + 1) N (by omega) (by omega) (by omega) (by omega)
    · have ec : evB tx.C (G (k + 3)) (.and (.cmp .lt (.var 3) (.bi .len (.var 1))) (.call 11 (.cons (.var 0) (.cons (.slc (.var 1) .no (.one (.op .add (.var 3) (.int 1)))) .nil)))) [.cl c.d, .cl (.tuple (PyData.int b :: r.map PyData.int)), s2, .cl (.int n)] = .ok false := by
        simp [evD, ssn, ssc, evS, evE, evEs, evI, evC, evO, evB, evX, evXs, evDo, endO, prm_n, prm_b, prm_i, prm_l, prm_t, prm_x, prob_u, prn_u, unOb_ob, iteX, setTs, putN, blX, noDict, insAt, op_ai, op_at, op_al, op_si, op_mi, op_mt, op_mb, rp_i, rv_l, op_fd, op_md, idx_t, idx_l, slc_t, slc_l, isa_i, isa_b, isa_s, isa_t, isa_l, isa_n, b2_min, b2_max, cp_lt, cp_le, cp_gt, cp_ge, cp_eqi, cp_nei, cp_eq, cp_ne, cp_is, cp_isnot, cp_int, cp_nint, cp_inl, cp_ninl, is_nn, is_bb, is_in, is_bn, is_sn, is_tn, is_ln, ok_n, ok_b, ok_i, ok_t, ok_l, eqv_int, eqv_tup, eqv_lst, eqv_nn, eqv_bb, eqv_tn, eqv_nt, eqa_nn, eqa_nc, eqa_cn, eqa_cc, eqvs_ints, int_beq, itemsD, wipeOk, Slot.holds, Tg.slots, wipeE, bindTg, setAll, evP, prt, setPs, Ps.slots, asList, compL, cap, flatD, tu, li, ite_and, ite_or, cut_tail, at_nat, bi_len_t, bi_len_l, bi_all, bi_any, bi_tup_l, bi_tup_t, bi_lst_l, bi_lst_t, show ¬ (n : Int) < (r.length : Int) + 1 from by omega]
      rw [ec, if_neg (fun z => h4 z.1)]
      rfl
theorem ann_loop (k : Nat) (c : D) (b : Int) (r : List Int) (s2 : Slot) : ∀ (m n N : Nat), 1 ≤ n → n ≤ r.length + 1 → r.length + 1 ≤ n + m → m < N →
    whileL (evB tx.C (G (k + 1)) (.and (.cmp .lt (.var 3) (.bi2 .min (.bi .len (.var 1)) (.call 4 (.cons (.idx (.var 1) (.int 0)) .nil)))) (.call 3 (.cons (.idx (.var 1) (.var 3)) .nil)))) (evSs tx.C (G (k + 1)) w_bad_size_1) N [.cl c, .cl (tu (b :: r)), s2, .cl (.int n)] = .next [.cl c, .cl (tu (b :: r)), s2, .cl (.int (annN (b :: r) m n : Nat))]
  | m, n, 0, _, _, _, h => absurd h (Nat.not_lt_zero _)
  | 0, n, N + 1, h1, h2, h3, _ => by
    have hm := minS ((r.length : Int) + 1) (ann b)
    have ec : evB tx.C (G (k + 1)) (.and (.cmp .lt (.var 3) (.bi2 .min (.bi .len (.var 1)) (.call 4 (.cons (.idx (.var 1) (.int 0)) .nil)))) (.call 3 (.cons (.idx (.var 1) (.var 3)) .nil))) [.cl c, .cl (tu (b :: r)), s2, .cl (.int n)] = .ok false := by
      simp [evD, ssn, ssc, evS, evE, evEs, evI, evC, evO, evB, evX, evXs, evDo, endO, prm_n, prm_b, prm_i, prm_l, prm_t, prm_x, prob_u, prn_u, unOb_ob, iteX, setTs, putN, blX, noDict, insAt, op_ai, op_at, op_al, op_si, op_mi, op_mt, op_mb, rp_i, rv_l, op_fd, op_md, idx_t, idx_l, slc_t, slc_l, isa_i, isa_b, isa_s, isa_t, isa_l, isa_n, b2_min, b2_max, cp_lt, cp_le, cp_gt, cp_ge, cp_eqi, cp_nei, cp_eq, cp_ne, cp_is, cp_isnot, cp_int, cp_nint, cp_inl, cp_ninl, is_nn, is_bb, is_in, is_bn, is_sn, is_tn, is_ln, ok_n, ok_b, ok_i, ok_t, ok_l, eqv_int, eqv_tup, eqv_lst, eqv_nn, eqv_bb, eqv_tn, eqv_nt, eqa_nn, eqa_nc, eqa_cn, eqa_cc, eqvs_ints, int_beq, itemsD, wipeOk, Slot.holds, Tg.slots, wipeE, bindTg, setAll, evP, prt, setPs, Ps.slots, asList, compL, cap, flatD, tu, li, ite_and, ite_or, cut_tail, at_nat, bi_len_t, bi_len_l, bi_all, bi_any, bi_tup_l, bi_tup_t, bi_lst_l, bi_lst_t, -at_nat, at_0, s_ann, show ¬ (n : Int) < min ((r.length : Int) + 1) (ann b) from by omega]
    unfold whileL annN
    rw [ec]
    rfl
  | m + 1, n, N + 1, h1, h2, h3, hN => by
    have hm := minS ((r.length : Int) + 1) (ann b)
    have hlen : (((b :: r).length : Nat) : Int) = (r.length : Int) + 1 := by simp
    unfold whileL annN
    rw [hlen, List.headD_cons]
    by_cases h4 : (n : Int) < min ((r.length : Int) + 1) (ann b)
    · have hlt : n < (b :: r).length := by rw [List.length_cons]; omega
      obtain ⟨x, hx⟩ : ∃ x, (b :: r)[n]? = some x := ⟨_, List.getElem?_eq_getElem hlt⟩
      have hat : L2.atI (PyData.int b :: r.map PyData.int) (n : Int) = some (.int x) := by
        rw [at_nat _ (by omega), Int.toNat_natCast, ← List.map_cons, List.getElem?_map, hx]; rfl
      rw [hx]
      simp only [tu, List.map_cons, Option.getD_some]
      rcases Bool.eq_false_or_eq_true (isCont x) with hq | hq
      case inr =>
        have ec : evB tx.C (G (k + 1)) (.and (.cmp .lt (.var 3) (.bi2 .min (.bi .len (.var 1)) (.call 4 (.cons (.idx (.var 1) (.int 0)) .nil)))) (.call 3 (.cons (.idx (.var 1) (.var 3)) .nil))) [.cl c, .cl (.tuple (PyData.int b :: r.map PyData.int)), s2, .cl (.int n)] = .ok false := by
          simp [evD, ssn, ssc, evS, evE, evEs, evI, evC, evO, evB, evX, evXs, evDo, endO, prm_n, prm_b, prm_i, prm_l, prm_t, prm_x, prob_u, prn_u, unOb_ob, iteX, setTs, putN, blX, noDict, insAt, op_ai, op_at, op_al, op_si, op_mi, op_mt, op_mb, rp_i, rv_l, op_fd, op_md, idx_t, idx_l, slc_t, slc_l, isa_i, isa_b, isa_s, isa_t, isa_l, isa_n, b2_min, b2_max, cp_lt, cp_le, cp_gt, cp_ge, cp_eqi, cp_nei, cp_eq, cp_ne, cp_is, cp_isnot, cp_int, cp_nint, cp_inl, cp_ninl, is_nn, is_bb, is_in, is_bn, is_sn, is_tn, is_ln, ok_n, ok_b, ok_i, ok_t, ok_l, eqv_int, eqv_tup, eqv_lst, eqv_nn, eqv_bb, eqv_tn, eqv_nt, eqa_nn, eqa_nc, eqa_cn, eqa_cc, eqvs_ints, int_beq, itemsD, wipeOk, Slot.holds, Tg.slots, wipeE, bindTg, setAll, evP, prt, setPs, Ps.slots, asList, compL, cap, flatD, tu, li, ite_and, ite_or, cut_tail, at_nat, bi_len_t, bi_len_l, bi_all, bi_any, bi_tup_l, bi_tup_t, bi_lst_l, bi_lst_t, -at_nat, at_0, s_ann, h4, hat, s_cont, hq]
        rw [ec, if_neg (fun z => by rw [hq] at z; cases z.2)]
        rfl
      case inl =>
        have ec : evB tx.C (G (k + 1)) (.and (.cmp .lt (.var 3) (.bi2 .min (.bi .len (.var 1)) (.call 4 (.cons (.idx (.var 1) (.int 0)) .nil)))) (.call 3 (.cons (.idx (.var 1) (.var 3)) .nil))) [.cl c, .cl (.tuple (PyData.int b :: r.map PyData.int)), s2, .cl (.int n)] = .ok true := by
          simp [evD, ssn, ssc, evS, evE, evEs, evI, evC, evO, evB, evX, evXs, evDo, endO, prm_n, prm_b, prm_i, prm_l, prm_t, prm_x, prob_u, prn_u, unOb_ob, iteX, setTs, putN, blX, noDict, insAt, op_ai, op_at, op_al, op_si, op_mi, op_mt, op_mb, rp_i, rv_l, op_fd, op_md, idx_t, idx_l, slc_t, slc_l, isa_i, isa_b, isa_s, isa_t, isa_l, isa_n, b2_min, b2_max, cp_lt, cp_le, cp_gt, cp_ge, cp_eqi, cp_nei, cp_eq, cp_ne, cp_is, cp_isnot, cp_int, cp_nint, cp_inl, cp_ninl, is_nn, is_bb, is_in, is_bn, is_sn, is_tn, is_ln, ok_n, ok_b, ok_i, ok_t, ok_l, eqv_int, eqv_tup, eqv_lst, eqv_nn, eqv_bb, eqv_tn, eqv_nt, eqa_nn, eqa_nc, eqa_cn, eqa_cc, eqvs_ints, int_beq, itemsD, wipeOk, Slot.holds, Tg.slots, wipeE, bindTg, setAll, evP, prt, setPs, Ps.slots, asList, compL, cap, flatD, tu, li, ite_and, ite_or, cut_tail, at_nat, bi_len_t, bi_len_l, bi_all, bi_any, bi_tup_l, bi_tup_t, bi_lst_l, bi_lst_t, -at_nat, at_0, s_ann, h4, hat, s_cont, hq]
        have et : evSs tx.C (G (k + 1)) w_bad_size_1 [.cl c, .cl (.tuple (PyData.int b :: r.map PyData.int)), s2, .cl (.int n)] = .next [.cl c, .cl (.tuple (PyData.int b :: r.map PyData.int)), s2, .cl (.int ((n + 1 : Nat) : Int))] := by
          simp [evD, ssn, ssc, evS, evE, evEs, evI, evC, evO, evB, evX, evXs, evDo, endO, prm_n, prm_b, prm_i, prm_l, prm_t, prm_x, prob_u, prn_u, unOb_ob, iteX, setTs, putN, blX, noDict, insAt, op_ai, op_at, op_al, op_si, op_mi, op_mt, op_mb, rp_i, rv_l, op_fd, op_md, idx_t, idx_l, slc_t, slc_l, isa_i, isa_b, isa_s, isa_t, isa_l, isa_n, b2_min, b2_max, cp_lt, cp_le, cp_gt, cp_ge, cp_eqi, cp_nei, cp_eq, cp_ne, cp_is, cp_isnot, cp_int, cp_nint, cp_inl, cp_ninl, is_nn, is_bb, is_in, is_bn, is_sn, is_tn, is_ln, ok_n, ok_b, ok_i, ok_t, ok_l, eqv_int, eqv_tup, eqv_lst, eqv_nn, eqv_bb, eqv_tn, eqv_nt, eqa_nn, eqa_nc, eqa_cn, eqa_cc, eqvs_ints, int_beq, itemsD, wipeOk, Slot.holds, Tg.slots, wipeE, bindTg, setAll, evP, prt, setPs, Ps.slots, asList, compL, cap, flatD, tu, li, ite_and, ite_or, cut_tail, at_nat, bi_len_t, bi_len_l, bi_all, bi_any, bi_tup_l, bi_tup_t, bi_lst_l, bi_lst_t, w_bad_size_1]
        rw [ec, if_pos ⟨h4, hq⟩]
        simp only [outk, if_true]
        rw [et]
        exact ann_loop k c b r s2 m (n + 1) N (by omega) (by omega) (by omega) (by omega)
    · have ec : evB tx.C (G (k + 1)) (.and (.cmp .lt (.var 3) (.bi2 .min (.bi .len (.var 1)) (.call 4 (.cons (.idx (.var 1) (.int 0)) .nil)))) (.call 3 (.cons (.idx (.var 1) (.var 3)) .nil))) [.cl c, .cl (tu (b :: r)), s2, .cl (.int n)] = .ok false := by
        simp [evD, ssn, ssc, evS, evE, evEs, evI, evC, evO, evB, evX, evXs, evDo, endO, prm_n, prm_b, prm_i, prm_l, prm_t, prm_x, prob_u, prn_u, unOb_ob, iteX, setTs, putN, blX, noDict, insAt, op_ai, op_at, op_al, op_si, op_mi, op_mt, op_mb, rp_i, rv_l, op_fd, op_md, idx_t, idx_l, slc_t, slc_l, isa_i, isa_b, isa_s, isa_t, isa_l, isa_n, b2_min, b2_max, cp_lt, cp_le, cp_gt, cp_ge, cp_eqi, cp_nei, cp_eq, cp_ne, cp_is, cp_isnot, cp_int, cp_nint, cp_inl, cp_ninl, is_nn, is_bb, is_in, is_bn, is_sn, is_tn, is_ln, ok_n, ok_b, ok_i, ok_t, ok_l, eqv_int, eqv_tup, eqv_lst, eqv_nn, eqv_bb, eqv_tn, eqv_nt, eqa_nn, eqa_nc, eqa_cn, eqa_cc, eqvs_ints, int_beq, itemsD, wipeOk, Slot.holds, Tg.slots, wipeE, bindTg, setAll, evP, prt, setPs, Ps.slots, asList, compL, cap, flatD, tu, li, ite_and, ite_or, cut_tail, at_nat, bi_len_t, bi_len_l, bi_all, bi_any, bi_tup_l, bi_tup_t, bi_lst_l, bi_lst_t, -at_nat, at_0, s_ann, h4]
      rw [ec, if_neg (fun z => h4 z.1)]
      rfl
theorem s_bsz (k : Nat) (c : Dc) (b : Int) (r : List Int) (h : r.length + 1 ≤ 60) : G (k + 4) 39 [c.d, tu (b :: r)] = .ok (.int (bsz c (b :: r) : Nat)) := by
  rw [g_bad_size]
  have l1 := fun s2 => pre_loop k c b r s2 60 1 fuel (by omega) (by omega) (by omega) (by decide)
  have l2 := fun s2 => ann_loop (k + 2) c.d b r s2 60 1 fuel (by omega) (by omega) (by omega) (by decide)
  unfold bsz
  obtain ⟨L, ov, su, po⟩ := c
  simp only [Dc.d, tu, List.map_cons, show ((1 : Nat) : Int) = 1 from rfl] at l1 l2 ⊢
  cases po <;> simp [evD, ssn, ssc, evS, evE, evEs, evI, evC, evO, evB, evX, evXs, evDo, endO, prm_n, prm_b, prm_i, prm_l, prm_t, prm_x, prob_u, prn_u, unOb_ob, iteX, setTs, putN, blX, noDict, insAt, op_ai, op_at, op_al, op_si, op_mi, op_mt, op_mb, rp_i, rv_l, op_fd, op_md, idx_t, idx_l, slc_t, slc_l, isa_i, isa_b, isa_s, isa_t, isa_l, isa_n, b2_min, b2_max, cp_lt, cp_le, cp_gt, cp_ge, cp_eqi, cp_nei, cp_is, cp_isnot, is_nn, is_bb, is_in, is_bn, is_sn, is_tn, is_ln, ok_n, ok_b, ok_i, ok_t, ok_l, eqv_int, eqv_tup, eqv_lst, eqv_nn, eqv_bb, eqv_tn, eqv_nt, eqa_nn, eqa_nc, eqa_cn, eqa_cc, eqvs_ints, int_beq, itemsD, wipeOk, Slot.holds, Tg.slots, wipeE, bindTg, setAll, evP, prt, setPs, Ps.slots, asList, compL, cap, flatD, tu, li, ite_and, ite_or, cut_tail, at_nat, bi_len_t, bi_len_l, bi_all, bi_any, bi_tup_l, bi_tup_t, bi_lst_l, bi_lst_t, -at_nat, b_bad_size, l1, l2, C_STOP, C_PREFIX, C_ANNOUNCED, cp_po1, cp_po2, cp_po3, show ∀ a b c d : D, L2.atI [a, b, c, d] 3 = some d from fun _ _ _ _ => rfl]
end Pu

set_option maxHeartbeats 1000000
namespace Pu
open PySem PySem.Spec PyProof.Rows L2
theorem pcs_turn_good (k : Nat) (c : D) (xs : List Int) (acc : List D) (p g v : Int) (rest row : List D) (s4 : Slot) (hc1 : cutD (xs.map PyData.int) (some p) none = rest) (hc2 : cutD (xs.map PyData.int) (some p) (some (p + g)) = row) (hg : 0 < g) (ha : acc.length < 16777216)
    (e1 : G (k + 4) 38 [c, .tuple rest] = .ok (.int g)) (e2 : G (k + 4) 6 [.tuple row] = .ok (.int v)) :
    evSs tx.C (G (k + 4)) w_find_pieces_0 [.cl c, .cl (tu xs), .ow acc, .cl (.int p), s4] = .next [.cl c, .cl (tu xs), .ow (acc ++ [.tuple [.int p, .int g, .int v]]), .cl (.int (p + g)), .cl (.int g)] := by
  simp [evD, ssn, ssc, evS, evE, evEs, evI, evC, evO, evB, evX, evXs, evDo, endO, prm_n, prm_b, prm_i, prm_l, prm_t, prm_x, prob_u, prn_u, unOb_ob, iteX, setTs, putN, blX, noDict, insAt, op_ai, op_at, op_al, op_si, op_mi, op_mt, op_mb, rp_i, rv_l, op_fd, op_md, idx_t, idx_l, slc_t, slc_l, isa_i, isa_b, isa_s, isa_t, isa_l, isa_n, b2_min, b2_max, cp_lt, cp_le, cp_gt, cp_ge, cp_eqi, cp_nei, cp_eq, cp_ne, cp_is, cp_isnot, cp_int, cp_nint, cp_inl, cp_ninl, is_nn, is_bb, is_in, is_bn, is_sn, is_tn, is_ln, ok_n, ok_b, ok_i, ok_t, ok_l, eqv_int, eqv_tup, eqv_lst, eqv_nn, eqv_bb, eqv_tn, eqv_nt, eqa_nn, eqa_nc, eqa_cn, eqa_cc, eqvs_ints, int_beq, itemsD, wipeOk, Slot.holds, Tg.slots, wipeE, bindTg, setAll, evP, prt, setPs, Ps.slots, asList, compL, cap, flatD, tu, li, ite_and, ite_or, cut_tail, at_nat, bi_len_t, bi_len_l, bi_all, bi_any, bi_tup_l, bi_tup_t, bi_lst_l, bi_lst_t, w_find_pieces_0, hc1, hc2, e1, e2, hg, ha]
theorem pcs_turn_bad (k : Nat) (c : D) (xs : List Int) (acc : List D) (p n : Int) (rest : List D) (s4 : Slot) (hc1 : cutD (xs.map PyData.int) (some p) none = rest) (ha : acc.length < 16777216)
    (e1 : G (k + 4) 38 [c, .tuple rest] = .ok (.int 0)) (e2 : G (k + 4) 39 [c, .tuple rest] = .ok (.int n)) :
    evSs tx.C (G (k + 4)) w_find_pieces_0 [.cl c, .cl (tu xs), .ow acc, .cl (.int p), s4] = .next [.cl c, .cl (tu xs), .ow (acc ++ [.tuple [.int p, .int n, .int (-1)]]), .cl (.int (p + n)), .cl (.int n)] := by
  simp [evD, ssn, ssc, evS, evE, evEs, evI, evC, evO, evB, evX, evXs, evDo, endO, prm_n, prm_b, prm_i, prm_l, prm_t, prm_x, prob_u, prn_u, unOb_ob, iteX, setTs, putN, blX, noDict, insAt, op_ai, op_at, op_al, op_si, op_mi, op_mt, op_mb, rp_i, rv_l, op_fd, op_md, idx_t, idx_l, slc_t, slc_l, isa_i, isa_b, isa_s, isa_t, isa_l, isa_n, b2_min, b2_max, cp_lt, cp_le, cp_gt, cp_ge, cp_eqi, cp_nei, cp_eq, cp_ne, cp_is, cp_isnot, cp_int, cp_nint, cp_inl, cp_ninl, is_nn, is_bb, is_in, is_bn, is_sn, is_tn, is_ln, ok_n, ok_b, ok_i, ok_t, ok_l, eqv_int, eqv_tup, eqv_lst, eqv_nn, eqv_bb, eqv_tn, eqv_nt, eqa_nn, eqa_nc, eqa_cn, eqa_cc, eqvs_ints, int_beq, itemsD, wipeOk, Slot.holds, Tg.slots, wipeE, bindTg, setAll, evP, prt, setPs, Ps.slots, asList, compL, cap, flatD, tu, li, ite_and, ite_or, cut_tail, at_nat, bi_len_t, bi_len_l, bi_all, bi_any, bi_tup_l, bi_tup_t, bi_lst_l, bi_lst_t, w_find_pieces_0, hc1, e1, e2, ha, C_REPLACEMENT]
theorem pcs_nil (c : Dc) (m : Nat) (p : Int) : pcs c m p [] = [] := by cases m <;> rfl
theorem pcs_loop (k : Nat) (c : Dc) (xs : List Int) (hl : xs.length ≤ 60) : ∀ (m p N : Nat) (acc : List (Int × Int × Int)) (s4 : Slot), p ≤ xs.length → xs.length ≤ p + m → m < N → acc.length + m ≤ 1000 →
    ∃ s4', whileL (evB tx.C (G (k + 4)) (.cmp .lt (.var 3) (.bi .len (.var 1)))) (evSs tx.C (G (k + 4)) w_find_pieces_0) N [.cl c.d, .cl (tu xs), .ow (acc.map trD), .cl (.int p), s4] = .next [.cl c.d, .cl (tu xs), .ow ((acc ++ pcs c m p (xs.drop p)).map trD), .cl (.int xs.length), s4']
  | m, p, 0, _, _, _, _, h, _ => absurd h (Nat.not_lt_zero _)
  | m, p, N + 1, acc, s4, h1, h2, hN, ha => by
    unfold whileL
    by_cases hp : p < xs.length
    · cases m with
      | zero => omega
      | succ m =>
        obtain ⟨b, r, hr⟩ : ∃ b r, xs.drop p = b :: r := by
          cases e : xs.drop p with
          | nil => have := List.drop_eq_nil_iff.mp e; omega
          | cons b r => exact ⟨b, r, rfl⟩
        have hrl : r.length + 1 = xs.length - p := by
          have := congrArg List.length hr
          rw [List.length_drop] at this
          simpa using this.symm
        have ec : evB tx.C (G (k + 4)) (.cmp .lt (.var 3) (.bi .len (.var 1))) [.cl c.d, .cl (tu xs), .ow (acc.map trD), .cl (.int p), s4] = .ok true := by
          simp [evD, ssn, ssc, evS, evE, evEs, evI, evC, evO, evB, evX, evXs, evDo, endO, prm_n, prm_b, prm_i, prm_l, prm_t, prm_x, prob_u, prn_u, unOb_ob, iteX, setTs, putN, blX, noDict, insAt, op_ai, op_at, op_al, op_si, op_mi, op_mt, op_mb, rp_i, rv_l, op_fd, op_md, idx_t, idx_l, slc_t, slc_l, isa_i, isa_b, isa_s, isa_t, isa_l, isa_n, b2_min, b2_max, cp_lt, cp_le, cp_gt, cp_ge, cp_eqi, cp_nei, cp_eq, cp_ne, cp_is, cp_isnot, cp_int, cp_nint, cp_inl, cp_ninl, is_nn, is_bb, is_in, is_bn, is_sn, is_tn, is_ln, ok_n, ok_b, ok_i, ok_t, ok_l, eqv_int, eqv_tup, eqv_lst, eqv_nn, eqv_bb, eqv_tn, eqv_nt, eqa_nn, eqa_nc, eqa_cn, eqa_cc, eqvs_ints, int_beq, itemsD, wipeOk, Slot.holds, Tg.slots, wipeE, bindTg, setAll, evP, prt, setPs, Ps.slots, asList, compL, cap, flatD, tu, li, ite_and, ite_or, cut_tail, at_nat, bi_len_t, bi_len_l, bi_all, bi_any, bi_tup_l, bi_tup_t, bi_lst_l, bi_lst_t, show (p : Int) < xs.length from by omega]
        have hc1 : cutD (xs.map PyData.int) (some (p : Int)) none = (b :: r).map PyData.int := by
          rw [cut_from _ (by omega), Int.toNat_natCast, ← List.map_drop, hr]
        obtain ⟨g0, g4, gl⟩ := gsz_range c (b :: r)
        have e1 := s_gsz k c b r
        have hp1 : pcs c (m + 1) p (b :: r) = if 0 < gsz c (b :: r) then ((p : Int), gsz c (b :: r), valF ((b :: r).take (gsz c (b :: r)).toNat)) :: pcs c m (p + gsz c (b :: r)) ((b :: r).drop (gsz c (b :: r)).toNat) else ((p : Int), (bsz c (b :: r) : Int), -1) :: pcs c m (p + bsz c (b :: r)) ((b :: r).drop (bsz c (b :: r))) := by
          rw [pcs, if_neg (by simp)]
        rw [ec, hr, hp1]
        simp only [outk, if_true]
        by_cases hg : 0 < gsz c (b :: r)
        · rw [if_pos hg]
          have gle := gl hg
          simp only [List.length_cons] at gle
          obtain ⟨n, hn⟩ : ∃ n : Nat, gsz c (b :: r) = ((n + 1 : Nat) : Int) := ⟨(gsz c (b :: r)).toNat - 1, by omega⟩
          have hc2 : cutD (xs.map PyData.int) (some (p : Int)) (some ((p : Int) + gsz c (b :: r))) = ((b :: r).take (n + 1)).map PyData.int := by
            rw [cut_both _ (by omega) (by omega), Int.toNat_natCast, hn, show ((p : Int) + ((n + 1 : Nat) : Int)).toNat = p + (n + 1) from by omega, ← List.map_take, ← List.map_drop, List.drop_take, show p + (n + 1) - p = n + 1 from by omega, hr]
          have e2 := s_valF (k + 2) b (r.take n)
          have t := pcs_turn_good k c.d xs (acc.map trD) p (gsz c (b :: r)) (valF ((b :: r).take (n + 1))) _ _ s4 hc1 hc2 hg (by rw [List.length_map]; omega) e1 e2
          obtain ⟨s4', ih⟩ := pcs_loop k c xs hl m (p + (n + 1)) N (acc ++ [((p : Int), gsz c (b :: r), valF ((b :: r).take (n + 1)))]) (.cl (.int (gsz c (b :: r)))) (by omega) (by omega) (by omega) (by rw [List.length_append]; simp only [List.length_cons, List.length_nil]; omega)
          refine ⟨s4', ?_⟩
          rw [t]
          simp only [turnn]
          rw [List.map_append, List.map_cons, List.map_nil] at ih
          have hd : xs.drop (p + (n + 1)) = (b :: r).drop (n + 1) := by rw [← hr, List.drop_drop]
          rw [hd, show ((p + (n + 1) : Nat) : Int) = (p : Int) + gsz c (b :: r) from by omega] at ih
          rw [show (gsz c (b :: r)).toNat = n + 1 from by omega]
          rw [show trD ((p : Int), gsz c (b :: r), valF ((b :: r).take (n + 1))) = .tuple [.int p, .int (gsz c (b :: r)), .int (valF ((b :: r).take (n + 1)))] from rfl] at ih
          rw [ih, List.append_assoc]
          rfl
        · rw [if_neg hg]
          obtain ⟨q1, q2⟩ := bsz_range c (b :: r) (by simp)
          simp only [List.length_cons] at q2
          have e1' : G (k + 4) 38 [c.d, tu (b :: r)] = .ok (.int 0) := by rw [e1, show gsz c (b :: r) = 0 from by omega]
          have e2 := s_bsz k c b r (by omega)
          have t := pcs_turn_bad k c.d xs (acc.map trD) p (bsz c (b :: r)) _ s4 hc1 (by rw [List.length_map]; omega) e1' e2
          obtain ⟨s4', ih⟩ := pcs_loop k c xs hl m (p + bsz c (b :: r)) N (acc ++ [((p : Int), (bsz c (b :: r) : Int), -1)]) (.cl (.int (bsz c (b :: r)))) (by omega) (by omega) (by omega) (by rw [List.length_append]; simp only [List.length_cons, List.length_nil]; omega)
          refine ⟨s4', ?_⟩
          rw [t]
          simp only [turnn]
          rw [List.map_append, List.map_cons, List.map_nil] at ih
          have hd : xs.drop (p + bsz c (b :: r)) = (b :: r).drop (bsz c (b :: r)) := by rw [← hr, List.drop_drop]
          rw [hd, show ((p + bsz c (b :: r) : Nat) : Int) = (p : Int) + (bsz c (b :: r) : Int) from by omega] at ih
          rw [show trD ((p : Int), (bsz c (b :: r) : Int), -1) = .tuple [.int p, .int (bsz c (b :: r)), .int (-1)] from rfl] at ih
          rw [ih, List.append_assoc]
          rfl
    · have hpe : p = xs.length := by omega
      have ec : evB tx.C (G (k + 4)) (.cmp .lt (.var 3) (.bi .len (.var 1))) [.cl c.d, .cl (tu xs), .ow (acc.map trD), .cl (.int p), s4] = .ok false := by
        simp [evD, ssn, ssc, evS, evE, evEs, evI, evC, evO, evB, evX, evXs, evDo, endO, prm_n, prm_b, prm_i, prm_l, prm_t, prm_x, prob_u, prn_u, unOb_ob, iteX, setTs, putN, blX, noDict, insAt, op_ai, op_at, op_al, op_si, op_mi, op_mt, op_mb, rp_i, rv_l, op_fd, op_md, idx_t, idx_l, slc_t, slc_l, isa_i, isa_b, isa_s, isa_t, isa_l, isa_n, b2_min, b2_max, cp_lt, cp_le, cp_gt, cp_ge, cp_eqi, cp_nei, cp_eq, cp_ne, cp_is, cp_isnot, cp_int, cp_nint, cp_inl, cp_ninl, is_nn, is_bb, is_in, is_bn, is_sn, is_tn, is_ln, ok_n, ok_b, ok_i, ok_t, ok_l, eqv_int, eqv_tup, eqv_lst, eqv_nn, eqv_bb, eqv_tn, eqv_nt, eqa_nn, eqa_nc, eqa_cn, eqa_cc, eqvs_ints, int_beq, itemsD, wipeOk, Slot.holds, Tg.slots, wipeE, bindTg, setAll, evP, prt, setPs, Ps.slots, asList, compL, cap, flatD, tu, li, ite_and, ite_or, cut_tail, at_nat, bi_len_t, bi_len_l, bi_all, bi_any, bi_tup_l, bi_tup_t, bi_lst_l, bi_lst_t, show ¬ (p : Int) < xs.length from by omega]
      rw [ec, hpe, List.drop_length, pcs_nil, List.append_nil]
      exact ⟨s4, rfl⟩
theorem s_find_pieces (k : Nat) (c : Dc) (xs : List Int) (hl : xs.length ≤ 60) : G (k + 5) 40 [c.d, tu xs] = .ok (.list ((pcs c 60 0 xs).map trD)) := by
  rw [g_find_pieces]
  obtain ⟨s4', l⟩ := pcs_loop k c xs hl 60 0 fuel [] .no (by omega) (by omega) (by decide) (by simp)
  simp only [List.map_nil, List.drop_zero, List.nil_append, show ((0 : Nat) : Int) = 0 from rfl] at l
  generalize (pcs c 60 0 xs).map trD = out at l ⊢
  simp only [tu] at l ⊢
  simp [evD, ssn, ssc, evS, evE, evEs, evI, evC, evO, evB, evX, evXs, evDo, endO, prm_n, prm_b, prm_i, prm_l, prm_t, prm_x, prob_u, prn_u, unOb_ob, iteX, setTs, putN, blX, noDict, insAt, op_ai, op_at, op_al, op_si, op_mi, op_mt, op_mb, rp_i, rv_l, op_fd, op_md, idx_t, idx_l, slc_t, slc_l, isa_i, isa_b, isa_s, isa_t, isa_l, isa_n, b2_min, b2_max, cp_lt, cp_le, cp_gt, cp_ge, cp_eqi, cp_nei, cp_eq, cp_ne, cp_is, cp_isnot, cp_int, cp_nint, cp_inl, cp_ninl, is_nn, is_bb, is_in, is_bn, is_sn, is_tn, is_ln, ok_n, ok_b, ok_i, ok_t, ok_l, eqv_int, eqv_tup, eqv_lst, eqv_nn, eqv_bb, eqv_tn, eqv_nt, eqa_nn, eqa_nc, eqa_cn, eqa_cc, eqvs_ints, int_beq, itemsD, wipeOk, Slot.holds, Tg.slots, wipeE, bindTg, setAll, evP, prt, setPs, Ps.slots, asList, compL, cap, flatD, tu, li, ite_and, ite_or, cut_tail, at_nat, bi_len_t, bi_len_l, bi_all, bi_any, bi_tup_l, bi_tup_t, bi_lst_l, bi_lst_t, b_find_pieces, l]
end Pu

set_option maxHeartbeats 1000000
namespace Pu
open PySem PySem.Spec PyProof.Rows L2
theorem s_bad_items (k : Nat) (po : Po) (b : Int) (ab : Bool) : G (k + 1) 42 [.str po.s, .int b, .bool ab] = .ok (li (bitems po b ab)) := by
  rw [g_bad_items]
  cases po <;> cases ab <;> simp [evD, ssn, ssc, evS, evE, evEs, evI, evC, evO, evB, evX, evXs, evDo, endO, prm_n, prm_b, prm_i, prm_l, prm_t, prm_x, prob_u, prn_u, unOb_ob, iteX, setTs, putN, blX, noDict, insAt, op_ai, op_at, op_al, op_si, op_mi, op_mt, op_mb, rp_i, rv_l, op_fd, op_md, idx_t, idx_l, slc_t, slc_l, isa_i, isa_b, isa_s, isa_t, isa_l, isa_n, b2_min, b2_max, cp_lt, cp_le, cp_gt, cp_ge, cp_eqi, cp_nei, cp_is, cp_isnot, is_nn, is_bb, is_in, is_bn, is_sn, is_tn, is_ln, ok_n, ok_b, ok_i, ok_t, ok_l, eqv_int, eqv_tup, eqv_lst, eqv_nn, eqv_bb, eqv_tn, eqv_nt, eqa_nn, eqa_nc, eqa_cn, eqa_cc, eqvs_ints, int_beq, itemsD, wipeOk, Slot.holds, Tg.slots, wipeE, bindTg, setAll, evP, prt, setPs, Ps.slots, asList, compL, cap, flatD, tu, li, ite_and, ite_or, cut_tail, at_nat, bi_len_t, bi_len_l, bi_all, bi_any, bi_tup_l, bi_tup_t, bi_lst_l, bi_lst_t, b_bad_items, C_KEEP, C_SKIP, C_RUN, C_REPLACEMENT, cp_po4, cp_po5, cp_po6, bitems]
theorem items_turn1 (k : Nat) (c x : D) (ab : Bool) (acc : List Int) (p s v : Int) (hv : ¬ v = -1) (ha : acc.length + 1 ≤ 16777216) :
    evSs tx.C (G (k + 5)) w_items_of_0 [.cl c, .cl x, .cl (.bool ab), .cl (.list (acc.map PyData.int)), .cl (.int p), .cl (.int s), .cl (.int v)] = .next [.cl c, .cl x, .cl (.bool false), .cl (.list ((acc ++ [v]).map PyData.int)), .cl (.int p), .cl (.int s), .cl (.int v)] := by
  simp [evD, ssn, ssc, evS, evE, evEs, evI, evC, evO, evB, evX, evXs, evDo, endO, prm_n, prm_b, prm_i, prm_l, prm_t, prm_x, prob_u, prn_u, unOb_ob, iteX, setTs, putN, blX, noDict, insAt, op_ai, op_at, op_al, op_si, op_mi, op_mt, op_mb, rp_i, rv_l, op_fd, op_md, idx_t, idx_l, slc_t, slc_l, isa_i, isa_b, isa_s, isa_t, isa_l, isa_n, b2_min, b2_max, cp_lt, cp_le, cp_gt, cp_ge, cp_eqi, cp_nei, cp_eq, cp_ne, cp_is, cp_isnot, cp_int, cp_nint, cp_inl, cp_ninl, is_nn, is_bb, is_in, is_bn, is_sn, is_tn, is_ln, ok_n, ok_b, ok_i, ok_t, ok_l, eqv_int, eqv_tup, eqv_lst, eqv_nn, eqv_bb, eqv_tn, eqv_nt, eqa_nn, eqa_nc, eqa_cn, eqa_cc, eqvs_ints, int_beq, itemsD, wipeOk, Slot.holds, Tg.slots, wipeE, bindTg, setAll, evP, prt, setPs, Ps.slots, asList, compL, cap, flatD, tu, li, ite_and, ite_or, cut_tail, at_nat, bi_len_t, bi_len_l, bi_all, bi_any, bi_tup_l, bi_tup_t, bi_lst_l, bi_lst_t, w_items_of_0, C_REPLACEMENT, hv, ha]
theorem items_turn2 (k : Nat) (L ov su : D) (po : D) (x : List D) (ab : Bool) (acc bi : List Int) (p s b : Int) (ha : acc.length + bi.length ≤ 16777216) (hx : L2.atI x p = some (.int b)) (e : G (k + 5) 42 [po, .int b, .bool ab] = .ok (.list (bi.map PyData.int))) :
    evSs tx.C (G (k + 5)) w_items_of_0 [.cl (.tuple [L, ov, su, po]), .cl (.tuple x), .cl (.bool ab), .cl (.list (acc.map PyData.int)), .cl (.int p), .cl (.int s), .cl (.int (-1))] = .next [.cl (.tuple [L, ov, su, po]), .cl (.tuple x), .cl (.bool true), .cl (.list ((acc ++ bi).map PyData.int)), .cl (.int p), .cl (.int s), .cl (.int (-1))] := by
  simp [evD, ssn, ssc, evS, evE, evEs, evI, evC, evO, evB, evX, evXs, evDo, endO, prm_n, prm_b, prm_i, prm_l, prm_t, prm_x, prob_u, prn_u, unOb_ob, iteX, setTs, putN, blX, noDict, insAt, op_ai, op_at, op_al, op_si, op_mi, op_mt, op_mb, rp_i, rv_l, op_fd, op_md, idx_t, idx_l, slc_t, slc_l, isa_i, isa_b, isa_s, isa_t, isa_l, isa_n, b2_min, b2_max, cp_lt, cp_le, cp_gt, cp_ge, cp_eqi, cp_nei, cp_eq, cp_ne, cp_is, cp_isnot, cp_int, cp_nint, cp_inl, cp_ninl, is_nn, is_bb, is_in, is_bn, is_sn, is_tn, is_ln, ok_n, ok_b, ok_i, ok_t, ok_l, eqv_int, eqv_tup, eqv_lst, eqv_nn, eqv_bb, eqv_tn, eqv_nt, eqa_nn, eqa_nc, eqa_cn, eqa_cc, eqvs_ints, int_beq, itemsD, wipeOk, Slot.holds, Tg.slots, wipeE, bindTg, setAll, evP, prt, setPs, Ps.slots, asList, compL, cap, flatD, tu, li, ite_and, ite_or, cut_tail, at_nat, bi_len_t, bi_len_l, bi_all, bi_any, bi_tup_l, bi_tup_t, bi_lst_l, bi_lst_t, -at_nat, w_items_of_0, C_REPLACEMENT, ha, hx, e, show ∀ a b c d : D, L2.atI [a, b, c, d] 3 = some d from fun _ _ _ _ => rfl]
theorem items_loop (k : Nat) (c : Dc) (xs : List Int) : ∀ (ts : List (Int × Int × Int)) (acc : List Int) (ab : Bool) (s4 s5 s6 : Slot), (∀ t ∈ ts, 0 ≤ t.1 ∧ t.1 < xs.length) → acc.length + ts.length ≤ 1000 →
    ∃ s4' s5' s6', forL (evSs tx.C (G (k + 5)) w_items_of_0) (.tup [4, 5, 6]) (ts.map trD) [.cl c.d, .cl (tu xs), .cl (.bool ab), .cl (li acc), s4, s5, s6] = .next [.cl c.d, .cl (tu xs), .cl (.bool (ts.foldl (stepI c xs) (acc, ab)).2), .cl (li (ts.foldl (stepI c xs) (acc, ab)).1), s4', s5', s6']
  | [], acc, ab, s4, s5, s6, _, _ => ⟨s4, s5, s6, rfl⟩
  | t :: ts, acc, ab, s4, s5, s6, h, hl => by
    obtain ⟨p, s, v⟩ := t
    obtain ⟨h0, h1⟩ := h _ List.mem_cons_self
    simp only [List.length_cons] at hl
    rw [List.map_cons, flc]
    simp only [trD, bindTg, setAll, List.length_cons, List.length_nil, if_true, List.set_cons_succ, List.set_cons_zero, List.foldl_cons]
    by_cases hv : v = -1
    · subst hv
      have hlt : p.toNat < xs.length := by omega
      obtain ⟨b, hb⟩ : ∃ b, xs[p.toNat]? = some b := ⟨_, List.getElem?_eq_getElem hlt⟩
      have hat : L2.atI (xs.map PyData.int) p = some (.int b) := by rw [at_nat _ h0, List.getElem?_map, hb]; rfl
      have bl := bitems_len c.po b ab
      have e := s_bad_items (k + 4) c.po b ab
      have et := items_turn2 k (.int c.L) (.str c.ov.s) (.bool c.su) (.str c.po.s) (xs.map PyData.int) ab acc (bitems c.po b ab) p s b (by omega) hat e
      have hs : stepI c xs (acc, ab) (p, s, -1) = (acc ++ bitems c.po b ab, true) := by
        unfold stepI
        simp [hb]
      obtain ⟨a1, a2, a3, ih⟩ := items_loop k c xs ts (acc ++ bitems c.po b ab) true (.cl (.int p)) (.cl (.int s)) (.cl (.int (-1))) (fun t ht => h t (List.mem_cons_of_mem _ ht)) (by rw [List.length_append]; omega)
      refine ⟨a1, a2, a3, ?_⟩
      rw [hs, ← ih]
      exact congrArg (fun o => Out.turn (forL (evSs tx.C (G (k + 5)) w_items_of_0) (.tup [4, 5, 6]) (ts.map trD)) o) et
    · have et := items_turn1 k c.d (tu xs) ab acc p s v hv (by omega)
      have hs : stepI c xs (acc, ab) (p, s, v) = (acc ++ [v], false) := by
        unfold stepI
        simp [hv]
      obtain ⟨a1, a2, a3, ih⟩ := items_loop k c xs ts (acc ++ [v]) false (.cl (.int p)) (.cl (.int s)) (.cl (.int v)) (fun t ht => h t (List.mem_cons_of_mem _ ht)) (by rw [List.length_append]; simp only [List.length_cons, List.length_nil]; omega)
      refine ⟨a1, a2, a3, ?_⟩
      rw [hs, ← ih]
      exact congrArg (fun o => Out.turn (forL (evSs tx.C (G (k + 5)) w_items_of_0) (.tup [4, 5, 6]) (ts.map trD)) o) et
theorem items_of0 (k : Nat) (c x : D) (ab fb : Bool) (out : List D) (its : List Int) (s4 s5 s6 : Slot) (e : G (k + 5) 40 [c, x] = .ok (.list out))
    (l : forL (evSs tx.C (G (k + 5)) w_items_of_0) (.tup [4, 5, 6]) out [.cl c, .cl x, .cl (.bool ab), .cl (.list []), .no, .no, .no] = .next [.cl c, .cl x, .cl (.bool fb), .cl (.list (its.map PyData.int)), s4, s5, s6]) :
    evD tx.C (G (k + 5)) 7 b_items_of [c, x, .bool ab] = .ok (.tuple [li its, .bool fb]) := by
  simp [evD, ssn, ssc, evS, evE, evEs, evI, evC, evO, evB, evX, evXs, evDo, endO, prm_n, prm_b, prm_i, prm_l, prm_t, prm_x, prob_u, prn_u, unOb_ob, iteX, setTs, putN, blX, noDict, insAt, op_ai, op_at, op_al, op_si, op_mi, op_mt, op_mb, rp_i, rv_l, op_fd, op_md, idx_t, idx_l, slc_t, slc_l, isa_i, isa_b, isa_s, isa_t, isa_l, isa_n, b2_min, b2_max, cp_lt, cp_le, cp_gt, cp_ge, cp_eqi, cp_nei, cp_eq, cp_ne, cp_is, cp_isnot, cp_int, cp_nint, cp_inl, cp_ninl, is_nn, is_bb, is_in, is_bn, is_sn, is_tn, is_ln, ok_n, ok_b, ok_i, ok_t, ok_l, eqv_int, eqv_tup, eqv_lst, eqv_nn, eqv_bb, eqv_tn, eqv_nt, eqa_nn, eqa_nc, eqa_cn, eqa_cc, eqvs_ints, int_beq, itemsD, wipeOk, Slot.holds, Tg.slots, wipeE, bindTg, setAll, evP, prt, setPs, Ps.slots, asList, compL, cap, flatD, tu, li, ite_and, ite_or, cut_tail, at_nat, bi_len_t, bi_len_l, bi_all, bi_any, bi_tup_l, bi_tup_t, bi_lst_l, bi_lst_t, b_items_of, e, l]
theorem s_items_of (k : Nat) (c : Dc) (xs : List Int) (hl : xs.length ≤ 60) (ab : Bool) : G (k + 6) 43 [c.d, tu xs, .bool ab] = .ok (.tuple [li (itemsF c xs ab).1, .bool (itemsF c xs ab).2]) := by
  rw [g_items_of]
  have e := s_find_pieces k c xs hl
  have pl := pcs_len c 60 0 xs
  obtain ⟨s4, s5, s6, l⟩ := items_loop k c xs (pcs c 60 0 xs) [] ab .no .no .no (fun t ht => by have := pcs_mem c 60 0 xs t ht; omega) (by simp; omega)
  exact items_of0 k c.d (tu xs) ab _ _ _ s4 s5 s6 e l
end Pu

set_option maxHeartbeats 1000000
namespace Pu
open PySem PySem.Spec PyProof.Rows L2
end Pu

set_option maxHeartbeats 1000000
namespace Pu
open PySem PySem.Spec PyProof.Rows L2
theorem cp_ne_po3 (o : Po) : cmpD .ne (.str o.s) (.str "announced") = some (!decide (o = .announced)) := by
  have hk2 : okD 8 (.str "announced") = true := by decide +kernel
  rw [cp_ne, if_pos ⟨ok_po 7 o, hk2⟩, po_ann]
theorem opn0 (g : Nat → List D → Rs D) (L ov su b : D) (po : Po) (tl : List D) (an gs : Int) (bs : List Bool) (e1 : g 11 [.tuple [L, ov, su, .str po.s], .tuple (b :: tl)] = .ok (.bool false)) (e2 : g 4 [b] = .ok (.int an)) (e3 : g 38 [.tuple [L, ov, su, .str po.s], .tuple (b :: tl)] = .ok (.int gs))
    (e4 : compL (fun d => Rs.bd (g 3 [d]) fun v => Rs.ok (some v)) tl = .ok (bs.map PyData.bool)) (hl : tl.length = bs.length) :
    evD tx.C g 3 b_is_open [.tuple [L, ov, su, .str po.s], .tuple (b :: tl)] = .ok (.bool (if po ≠ .announced ∨ 0 < gs then false else decide ((tl.length : Int) + 1 < an) && bs.all id)) := by
  have hba : biD .all (.list (bs.map PyData.bool)) = .ok (.bool (bs.all id)) := by simp [biD, blsOf_map]
  by_cases q2 : po = .announced
  · subst q2
    have hz := cp_ne_po3 .announced
    rw [decide_eq_true rfl] at hz
    by_cases q3 : 0 < gs
    · simp [evD, ssn, ssc, evS, evE, evEs, evI, evC, evO, evB, evX, evXs, evDo, endO, prm_n, prm_b, prm_i, prm_l, prm_t, prm_x, prob_u, prn_u, unOb_ob, iteX, setTs, putN, blX, noDict, insAt, op_ai, op_at, op_al, op_si, op_mi, op_mt, op_mb, rp_i, rv_l, op_fd, op_md, idx_t, idx_l, slc_t, slc_l, isa_i, isa_b, isa_s, isa_t, isa_l, isa_n, b2_min, b2_max, cp_lt, cp_le, cp_gt, cp_ge, cp_eqi, cp_nei, cp_is, cp_isnot, is_nn, is_bb, is_in, is_bn, is_sn, is_tn, is_ln, ok_n, ok_b, ok_i, ok_t, ok_l, eqv_int, eqv_tup, eqv_lst, eqv_nn, eqv_bb, eqv_tn, eqv_nt, eqa_nn, eqa_nc, eqa_cn, eqa_cc, eqvs_ints, int_beq, itemsD, wipeOk, Slot.holds, Tg.slots, wipeE, bindTg, setAll, evP, prt, setPs, Ps.slots, asList, compL, cap, flatD, tu, li, ite_and, ite_or, cut_tail, at_nat, bi_len_t, bi_len_l, bi_all, bi_any, bi_tup_l, bi_tup_t, bi_lst_l, bi_lst_t, -at_nat, at_0, at4_3, b_is_open, C_ANNOUNCED, e1, e3, hz, q3]
    · by_cases q4 : (tl.length : Int) + 1 < an
      · simp [evD, ssn, ssc, evS, evE, evEs, evI, evC, evO, evB, evX, evXs, evDo, endO, prm_n, prm_b, prm_i, prm_l, prm_t, prm_x, prob_u, prn_u, unOb_ob, iteX, setTs, putN, blX, noDict, insAt, op_ai, op_at, op_al, op_si, op_mi, op_mt, op_mb, rp_i, rv_l, op_fd, op_md, idx_t, idx_l, slc_t, slc_l, isa_i, isa_b, isa_s, isa_t, isa_l, isa_n, b2_min, b2_max, cp_lt, cp_le, cp_gt, cp_ge, cp_eqi, cp_nei, cp_is, cp_isnot, is_nn, is_bb, is_in, is_bn, is_sn, is_tn, is_ln, ok_n, ok_b, ok_i, ok_t, ok_l, eqv_int, eqv_tup, eqv_lst, eqv_nn, eqv_bb, eqv_tn, eqv_nt, eqa_nn, eqa_nc, eqa_cn, eqa_cc, eqvs_ints, int_beq, itemsD, wipeOk, Slot.holds, Tg.slots, wipeE, bindTg, setAll, evP, prt, setPs, Ps.slots, asList, compL, cap, flatD, tu, li, ite_and, ite_or, cut_tail, at_nat, bi_len_t, bi_len_l, bi_all, bi_any, bi_tup_l, bi_tup_t, bi_lst_l, bi_lst_t, -at_nat, at_0, at4_3, b_is_open, C_ANNOUNCED, e1, e2, e3, hz, q3, q4, e4, hba]
      · simp [evD, ssn, ssc, evS, evE, evEs, evI, evC, evO, evB, evX, evXs, evDo, endO, prm_n, prm_b, prm_i, prm_l, prm_t, prm_x, prob_u, prn_u, unOb_ob, iteX, setTs, putN, blX, noDict, insAt, op_ai, op_at, op_al, op_si, op_mi, op_mt, op_mb, rp_i, rv_l, op_fd, op_md, idx_t, idx_l, slc_t, slc_l, isa_i, isa_b, isa_s, isa_t, isa_l, isa_n, b2_min, b2_max, cp_lt, cp_le, cp_gt, cp_ge, cp_eqi, cp_nei, cp_is, cp_isnot, is_nn, is_bb, is_in, is_bn, is_sn, is_tn, is_ln, ok_n, ok_b, ok_i, ok_t, ok_l, eqv_int, eqv_tup, eqv_lst, eqv_nn, eqv_bb, eqv_tn, eqv_nt, eqa_nn, eqa_nc, eqa_cn, eqa_cc, eqvs_ints, int_beq, itemsD, wipeOk, Slot.holds, Tg.slots, wipeE, bindTg, setAll, evP, prt, setPs, Ps.slots, asList, compL, cap, flatD, tu, li, ite_and, ite_or, cut_tail, at_nat, bi_len_t, bi_len_l, bi_all, bi_any, bi_tup_l, bi_tup_t, bi_lst_l, bi_lst_t, -at_nat, at_0, at4_3, b_is_open, C_ANNOUNCED, e1, e2, e3, hz, q3, q4]
  · have hz := cp_ne_po3 po
    rw [decide_eq_false q2] at hz
    simp [evD, ssn, ssc, evS, evE, evEs, evI, evC, evO, evB, evX, evXs, evDo, endO, prm_n, prm_b, prm_i, prm_l, prm_t, prm_x, prob_u, prn_u, unOb_ob, iteX, setTs, putN, blX, noDict, insAt, op_ai, op_at, op_al, op_si, op_mi, op_mt, op_mb, rp_i, rv_l, op_fd, op_md, idx_t, idx_l, slc_t, slc_l, isa_i, isa_b, isa_s, isa_t, isa_l, isa_n, b2_min, b2_max, cp_lt, cp_le, cp_gt, cp_ge, cp_eqi, cp_nei, cp_is, cp_isnot, is_nn, is_bb, is_in, is_bn, is_sn, is_tn, is_ln, ok_n, ok_b, ok_i, ok_t, ok_l, eqv_int, eqv_tup, eqv_lst, eqv_nn, eqv_bb, eqv_tn, eqv_nt, eqa_nn, eqa_nc, eqa_cn, eqa_cc, eqvs_ints, int_beq, itemsD, wipeOk, Slot.holds, Tg.slots, wipeE, bindTg, setAll, evP, prt, setPs, Ps.slots, asList, compL, cap, flatD, tu, li, ite_and, ite_or, cut_tail, at_nat, bi_len_t, bi_len_l, bi_all, bi_any, bi_tup_l, bi_tup_t, bi_lst_l, bi_lst_t, -at_nat, at_0, at4_3, b_is_open, C_ANNOUNCED, e1, hz, q2]
theorem s_is_open (k : Nat) (c : Dc) (b : Int) (r : List Int) : G (k + 5) 91 [c.d, tu (b :: r)] = .ok (.bool (opn c (b :: r))) := by
  rw [g_is_open]
  have e1 := s_begins (k + 1) c b r
  have e2 := s_ann (k + 3) b
  have e3 := s_gsz k c b r
  have e4 : compL (fun d => Rs.bd (G (k + 4) 3 [d]) fun v => Rs.ok (some v)) (r.map PyData.int) = .ok ((r.map isCont).map PyData.bool) := by
    rw [List.map_map]
    exact compL_each fun d hd => by
      rw [s_cont]; rfl
  have hlen : ((b :: r).length : Int) = (r.length : Int) + 1 := by simp
  unfold opn
  rw [List.headD_cons, hlen, List.tail_cons]
  simp only [tu, List.map_cons] at e1 e3 ⊢
  cases q1 : beg c (b :: r) with
  | true =>
    rw [q1] at e1
    simp [evD, ssn, ssc, evS, evE, evEs, evI, evC, evO, evB, evX, evXs, evDo, endO, prm_n, prm_b, prm_i, prm_l, prm_t, prm_x, prob_u, prn_u, unOb_ob, iteX, setTs, putN, blX, noDict, insAt, op_ai, op_at, op_al, op_si, op_mi, op_mt, op_mb, rp_i, rv_l, op_fd, op_md, idx_t, idx_l, slc_t, slc_l, isa_i, isa_b, isa_s, isa_t, isa_l, isa_n, b2_min, b2_max, cp_lt, cp_le, cp_gt, cp_ge, cp_eqi, cp_nei, cp_is, cp_isnot, is_nn, is_bb, is_in, is_bn, is_sn, is_tn, is_ln, ok_n, ok_b, ok_i, ok_t, ok_l, eqv_int, eqv_tup, eqv_lst, eqv_nn, eqv_bb, eqv_tn, eqv_nt, eqa_nn, eqa_nc, eqa_cn, eqa_cc, eqvs_ints, int_beq, itemsD, wipeOk, Slot.holds, Tg.slots, wipeE, bindTg, setAll, evP, prt, setPs, Ps.slots, asList, compL, cap, flatD, tu, li, ite_and, ite_or, cut_tail, at_nat, bi_len_t, bi_len_l, bi_all, bi_any, bi_tup_l, bi_tup_t, bi_lst_l, bi_lst_t, -at_nat, at_0, b_is_open, e1, e2]
  | false =>
    rw [q1] at e1
    have h := opn0 (G (k + 4)) _ _ _ _ c.po _ (ann b) (gsz c (b :: r)) (r.map isCont) e1 e2 e3 e4 (by simp)
    rw [List.length_map, List.all_map] at h
    rw [if_neg Bool.false_ne_true]
    exact h
def rdF (d x : D) (n : Int) (ab cl : Bool) : List (Nat × D) := [(0, d), (1, x), (2, .int n), (3, .bool ab), (4, .bool cl)]
theorem rdF_len (d x : D) (n : Int) (ab cl : Bool) : (rdF d x n ab cl).length ≤ 100 := by simp [rdF]
theorem rdF_0 (d x : D) (n : Int) (ab cl : Bool) : (rdF d x n ab cl).lookup 0 = some d := rfl
theorem rdF_1 (d x : D) (n : Int) (ab cl : Bool) : (rdF d x n ab cl).lookup 1 = some x := rfl
theorem rdF_2 (d x : D) (n : Int) (ab cl : Bool) : (rdF d x n ab cl).lookup 2 = some (.int n) := rfl
theorem rdF_3 (d x : D) (n : Int) (ab cl : Bool) : (rdF d x n ab cl).lookup 3 = some (.bool ab) := rfl
theorem rdF_4 (d x : D) (n : Int) (ab cl : Bool) : (rdF d x n ab cl).lookup 4 = some (.bool cl) := rfl
theorem rdF_s1 (d x y : D) (n : Int) (ab cl : Bool) : putN 1 y (rdF d x n ab cl) = rdF d y n ab cl := rfl
theorem rdF_s2 (d x : D) (n m : Int) (ab cl : Bool) : putN 2 (.int m) (rdF d x n ab cl) = rdF d x m ab cl := rfl
theorem rdF_s3 (d x : D) (n : Int) (ab ab' cl : Bool) : putN 3 (.bool ab') (rdF d x n ab cl) = rdF d x n ab' cl := rfl
theorem rdF_s4 (d x : D) (n : Int) (ab cl cl' : Bool) : putN 4 (.bool cl') (rdF d x n ab cl) = rdF d x n ab cl' := rfl
theorem rdF_lt (d x : D) (n : Int) (ab cl : Bool) : ((rdF d x n ab cl).length < 100) = True := by simp [rdF]
theorem rdF_le (d x : D) (n : Int) (ab cl : Bool) : ((rdF d x n ab cl).length ≤ 100) = True := by simp [rdF]
theorem tk_good (g : Nat → List D → Rs D) (d x y z : D) (n m v : Int) (ab cl : Bool) (e1 : g 38 [d, x] = .ok (.int n)) (hn : 0 < n) (c1 : slcD x none (some n) = .ok y) (e2 : g 6 [y] = .ok (.int v)) (c2 : slcD x (some n) none = .ok z) :
    evDo tx.C g 3 0 b_Reader_take_piece [] 0 (rdF d x m ab cl) [] = .ok (.tuple [.list [.int v], obD 0 (rdF d z m false cl)]) := by
  simp [evD, ssn, ssc, evS, evE, evEs, evI, evC, evO, evB, evX, evXs, evDo, endO, prm_n, prm_b, prm_i, prm_l, prm_t, prm_x, prob_u, prn_u, unOb_ob, iteX, setTs, putN, blX, noDict, insAt, op_ai, op_at, op_al, op_si, op_mi, op_mt, op_mb, rp_i, rv_l, op_fd, op_md, idx_t, idx_l, slc_t, slc_l, isa_i, isa_b, isa_s, isa_t, isa_l, isa_n, b2_min, b2_max, cp_lt, cp_le, cp_gt, cp_ge, cp_eqi, cp_nei, cp_eq, cp_ne, cp_is, cp_isnot, cp_int, cp_nint, cp_inl, cp_ninl, is_nn, is_bb, is_in, is_bn, is_sn, is_tn, is_ln, ok_n, ok_b, ok_i, ok_t, ok_l, eqv_int, eqv_tup, eqv_lst, eqv_nn, eqv_bb, eqv_tn, eqv_nt, eqa_nn, eqa_nc, eqa_cn, eqa_cc, eqvs_ints, int_beq, itemsD, wipeOk, Slot.holds, Tg.slots, wipeE, bindTg, setAll, evP, prt, setPs, Ps.slots, asList, compL, cap, flatD, tu, li, ite_and, ite_or, cut_tail, at_nat, bi_len_t, bi_len_l, bi_all, bi_any, bi_tup_l, bi_tup_t, bi_lst_l, bi_lst_t, -putN, b_Reader_take_piece, rdF_0, rdF_1, rdF_2, rdF_3, rdF_4, rdF_s1, rdF_s2, rdF_s3, rdF_s4, rdF_lt, rdF_le, e1, hn, c1, e2, c2]
theorem tk_bad (g : Nat → List D → Rs D) (d x z w b : D) (its : List D) (n m s : Int) (ab cl : Bool) (e1 : g 38 [d, x] = .ok (.int n)) (hn : ¬ 0 < n) (i1 : idxD d (.int 3) = .ok w) (i2 : idxD x (.int 0) = .ok b) (e2 : g 42 [w, b, .bool ab] = .ok (.list its)) (e3 : g 39 [d, x] = .ok (.int s)) (c2 : slcD x (some s) none = .ok z) :
    evDo tx.C g 3 0 b_Reader_take_piece [] 0 (rdF d x m ab cl) [] = .ok (.tuple [.list its, obD 0 (rdF d z m true cl)]) := by
  simp [evD, ssn, ssc, evS, evE, evEs, evI, evC, evO, evB, evX, evXs, evDo, endO, prm_n, prm_b, prm_i, prm_l, prm_t, prm_x, prob_u, prn_u, unOb_ob, iteX, setTs, putN, blX, noDict, insAt, op_ai, op_at, op_al, op_si, op_mi, op_mt, op_mb, rp_i, rv_l, op_fd, op_md, idx_t, idx_l, slc_t, slc_l, isa_i, isa_b, isa_s, isa_t, isa_l, isa_n, b2_min, b2_max, cp_lt, cp_le, cp_gt, cp_ge, cp_eqi, cp_nei, cp_eq, cp_ne, cp_is, cp_isnot, cp_int, cp_nint, cp_inl, cp_ninl, is_nn, is_bb, is_in, is_bn, is_sn, is_tn, is_ln, ok_n, ok_b, ok_i, ok_t, ok_l, eqv_int, eqv_tup, eqv_lst, eqv_nn, eqv_bb, eqv_tn, eqv_nt, eqa_nn, eqa_nc, eqa_cn, eqa_cc, eqvs_ints, int_beq, itemsD, wipeOk, Slot.holds, Tg.slots, wipeE, bindTg, setAll, evP, prt, setPs, Ps.slots, asList, compL, cap, flatD, tu, li, ite_and, ite_or, cut_tail, at_nat, bi_len_t, bi_len_l, bi_all, bi_any, bi_tup_l, bi_tup_t, bi_lst_l, bi_lst_t, -putN, b_Reader_take_piece, rdF_0, rdF_1, rdF_2, rdF_3, rdF_4, rdF_s1, rdF_s2, rdF_s3, rdF_s4, rdF_lt, rdF_le, e1, hn, i1, i2, e2, e3, c2]
theorem rd_init (g : Nat → List D → Rs D) (d : D) (e : g 10 [d] = .ok .none) : evDo tx.C g 2 0 b_Reader___init__ [] 0 [] [d] = .ok (.tuple [.none, obD 0 (rdF d (.tuple []) 0 false false)]) := by
  simp [evD, ssn, ssc, evS, evE, evEs, evI, evC, evO, evB, evX, evXs, evDo, endO, prm_n, prm_b, prm_i, prm_l, prm_t, prm_x, prob_u, prn_u, unOb_ob, iteX, setTs, putN, blX, noDict, insAt, op_ai, op_at, op_al, op_si, op_mi, op_mt, op_mb, rp_i, rv_l, op_fd, op_md, idx_t, idx_l, slc_t, slc_l, isa_i, isa_b, isa_s, isa_t, isa_l, isa_n, b2_min, b2_max, cp_lt, cp_le, cp_gt, cp_ge, cp_eqi, cp_nei, cp_eq, cp_ne, cp_is, cp_isnot, cp_int, cp_nint, cp_inl, cp_ninl, is_nn, is_bb, is_in, is_bn, is_sn, is_tn, is_ln, ok_n, ok_b, ok_i, ok_t, ok_l, eqv_int, eqv_tup, eqv_lst, eqv_nn, eqv_bb, eqv_tn, eqv_nt, eqa_nn, eqa_nc, eqa_cn, eqa_cc, eqvs_ints, int_beq, itemsD, wipeOk, Slot.holds, Tg.slots, wipeE, bindTg, setAll, evP, prt, setPs, Ps.slots, asList, compL, cap, flatD, tu, li, ite_and, ite_or, cut_tail, at_nat, bi_len_t, bi_len_l, bi_all, bi_any, bi_tup_l, bi_tup_t, bi_lst_l, bi_lst_t, b_Reader___init__, e, rdF]
theorem rd_init_x (g : Nat → List D → Rs D) (d : D) (x : Nat) (e : g 10 [d] = .exc x) : evDo tx.C g 2 0 b_Reader___init__ [] 0 [] [d] = .exc x := by
  simp [evD, ssn, ssc, evS, evE, evEs, evI, evC, evO, evB, evX, evXs, evDo, endO, prm_n, prm_b, prm_i, prm_l, prm_t, prm_x, prob_u, prn_u, unOb_ob, iteX, setTs, putN, blX, noDict, insAt, op_ai, op_at, op_al, op_si, op_mi, op_mt, op_mb, rp_i, rv_l, op_fd, op_md, idx_t, idx_l, slc_t, slc_l, isa_i, isa_b, isa_s, isa_t, isa_l, isa_n, b2_min, b2_max, cp_lt, cp_le, cp_gt, cp_ge, cp_eqi, cp_nei, cp_eq, cp_ne, cp_is, cp_isnot, cp_int, cp_nint, cp_inl, cp_ninl, is_nn, is_bb, is_in, is_bn, is_sn, is_tn, is_ln, ok_n, ok_b, ok_i, ok_t, ok_l, eqv_int, eqv_tup, eqv_lst, eqv_nn, eqv_bb, eqv_tn, eqv_nt, eqa_nn, eqa_nc, eqa_cn, eqa_cc, eqvs_ints, int_beq, itemsD, wipeOk, Slot.holds, Tg.slots, wipeE, bindTg, setAll, evP, prt, setPs, Ps.slots, asList, compL, cap, flatD, tu, li, ite_and, ite_or, cut_tail, at_nat, bi_len_t, bi_len_l, bi_all, bi_any, bi_tup_l, bi_tup_t, bi_lst_l, bi_lst_t, b_Reader___init__, e, excO, fbeq]
theorem rd_stopped (g : Nat → List D → Rs D) (L ov su x : D) (po : Po) (n : Int) (ab cl : Bool) : evDo tx.C g 1 0 b_Reader_is_stopped [] 0 (rdF (.tuple [L, ov, su, .str po.s]) x n ab cl) [] = .ok (.tuple [.bool (ab && decide (po = .stop)), obD 0 (rdF (.tuple [L, ov, su, .str po.s]) x n ab cl)]) := by
  have hk2 : okD 8 (.str "stop") = true := by decide +kernel
  have he : cmpD .eq (.str po.s) (.str "stop") = some (decide (po = .stop)) := by
    rw [cp_eq, if_pos ⟨ok_po 7 po, hk2⟩, po_stop]
  cases ab <;> simp [evD, ssn, ssc, evS, evE, evEs, evI, evC, evO, evB, evX, evXs, evDo, endO, prm_n, prm_b, prm_i, prm_l, prm_t, prm_x, prob_u, prn_u, unOb_ob, iteX, setTs, putN, blX, noDict, insAt, op_ai, op_at, op_al, op_si, op_mi, op_mt, op_mb, rp_i, rv_l, op_fd, op_md, idx_t, idx_l, slc_t, slc_l, isa_i, isa_b, isa_s, isa_t, isa_l, isa_n, b2_min, b2_max, cp_lt, cp_le, cp_gt, cp_ge, cp_eqi, cp_nei, cp_is, cp_isnot, is_nn, is_bb, is_in, is_bn, is_sn, is_tn, is_ln, ok_n, ok_b, ok_i, ok_t, ok_l, eqv_int, eqv_tup, eqv_lst, eqv_nn, eqv_bb, eqv_tn, eqv_nt, eqa_nn, eqa_nc, eqa_cn, eqa_cc, eqvs_ints, int_beq, itemsD, wipeOk, Slot.holds, Tg.slots, wipeE, bindTg, setAll, evP, prt, setPs, Ps.slots, asList, compL, cap, flatD, tu, li, ite_and, ite_or, cut_tail, at_nat, bi_len_t, bi_len_l, bi_all, bi_any, bi_tup_l, bi_tup_t, bi_lst_l, bi_lst_t, -putN, -at_nat, at4_3, b_Reader_is_stopped, C_STOP, rdF_0, rdF_1, rdF_2, rdF_3, rdF_4, he]
theorem rd_open (g : Nat → List D → Rs D) (d x : D) (n : Int) (ab : Bool) : evDo tx.C g 1 0 b_Reader_check_open [] 0 (rdF d x n ab false) [] = .ok (.tuple [.none, obD 0 (rdF d x n ab false)]) := by
  simp [evD, ssn, ssc, evS, evE, evEs, evI, evC, evO, evB, evX, evXs, evDo, endO, prm_n, prm_b, prm_i, prm_l, prm_t, prm_x, prob_u, prn_u, unOb_ob, iteX, setTs, putN, blX, noDict, insAt, op_ai, op_at, op_al, op_si, op_mi, op_mt, op_mb, rp_i, rv_l, op_fd, op_md, idx_t, idx_l, slc_t, slc_l, isa_i, isa_b, isa_s, isa_t, isa_l, isa_n, b2_min, b2_max, cp_lt, cp_le, cp_gt, cp_ge, cp_eqi, cp_nei, cp_eq, cp_ne, cp_is, cp_isnot, cp_int, cp_nint, cp_inl, cp_ninl, is_nn, is_bb, is_in, is_bn, is_sn, is_tn, is_ln, ok_n, ok_b, ok_i, ok_t, ok_l, eqv_int, eqv_tup, eqv_lst, eqv_nn, eqv_bb, eqv_tn, eqv_nt, eqa_nn, eqa_nc, eqa_cn, eqa_cc, eqvs_ints, int_beq, itemsD, wipeOk, Slot.holds, Tg.slots, wipeE, bindTg, setAll, evP, prt, setPs, Ps.slots, asList, compL, cap, flatD, tu, li, ite_and, ite_or, cut_tail, at_nat, bi_len_t, bi_len_l, bi_all, bi_any, bi_tup_l, bi_tup_t, bi_lst_l, bi_lst_t, -putN, b_Reader_check_open, rdF_0, rdF_1, rdF_2, rdF_3, rdF_4]
theorem rd_open_x (g : Nat → List D → Rs D) (d x : D) (n : Int) (ab : Bool) (hd : okD 8 d = true) (hx : okD 8 x = true) : evDo tx.C g 1 0 b_Reader_check_open [] 0 (rdF d x n ab true) [] = .exc 14 := by
  have hf : fbeq (rdF d x n ab true) (rdF d x n ab true) = true := fbeq_refl fun p hp => by
    simp only [rdF, List.mem_cons, List.mem_nil_iff, or_false] at hp
    rcases hp with h | h | h | h | h <;> subst h
    · exact ⟨8, hd⟩
    · exact ⟨8, hx⟩
    · exact ⟨1, rfl⟩
    · exact ⟨1, rfl⟩
    · exact ⟨1, rfl⟩
  simp [evD, ssn, ssc, evS, evE, evEs, evI, evC, evO, evB, evX, evXs, evDo, endO, prm_n, prm_b, prm_i, prm_l, prm_t, prm_x, prob_u, prn_u, unOb_ob, iteX, setTs, putN, blX, noDict, insAt, op_ai, op_at, op_al, op_si, op_mi, op_mt, op_mb, rp_i, rv_l, op_fd, op_md, idx_t, idx_l, slc_t, slc_l, isa_i, isa_b, isa_s, isa_t, isa_l, isa_n, b2_min, b2_max, cp_lt, cp_le, cp_gt, cp_ge, cp_eqi, cp_nei, cp_eq, cp_ne, cp_is, cp_isnot, cp_int, cp_nint, cp_inl, cp_ninl, is_nn, is_bb, is_in, is_bn, is_sn, is_tn, is_ln, ok_n, ok_b, ok_i, ok_t, ok_l, eqv_int, eqv_tup, eqv_lst, eqv_nn, eqv_bb, eqv_tn, eqv_nt, eqa_nn, eqa_nc, eqa_cn, eqa_cc, eqvs_ints, int_beq, itemsD, wipeOk, Slot.holds, Tg.slots, wipeE, bindTg, setAll, evP, prt, setPs, Ps.slots, asList, compL, cap, flatD, tu, li, ite_and, ite_or, cut_tail, at_nat, bi_len_t, bi_len_l, bi_all, bi_any, bi_tup_l, bi_tup_t, bi_lst_l, bi_lst_t, -putN, b_Reader_check_open, rdF_0, rdF_1, rdF_2, rdF_3, rdF_4, excO, hf]
theorem rd_pending (g : Nat → List D → Rs D) (d : D) (x : List D) (n : Int) (ab cl : Bool) : evDo tx.C g 1 0 b_Reader_pending [] 0 (rdF d (.tuple x) n ab cl) [] = .ok (.tuple [.tuple x, obD 0 (rdF d (.tuple x) n ab cl)]) := by
  simp [evD, ssn, ssc, evS, evE, evEs, evI, evC, evO, evB, evX, evXs, evDo, endO, prm_n, prm_b, prm_i, prm_l, prm_t, prm_x, prob_u, prn_u, unOb_ob, iteX, setTs, putN, blX, noDict, insAt, op_ai, op_at, op_al, op_si, op_mi, op_mt, op_mb, rp_i, rv_l, op_fd, op_md, idx_t, idx_l, slc_t, slc_l, isa_i, isa_b, isa_s, isa_t, isa_l, isa_n, b2_min, b2_max, cp_lt, cp_le, cp_gt, cp_ge, cp_eqi, cp_nei, cp_eq, cp_ne, cp_is, cp_isnot, cp_int, cp_nint, cp_inl, cp_ninl, is_nn, is_bb, is_in, is_bn, is_sn, is_tn, is_ln, ok_n, ok_b, ok_i, ok_t, ok_l, eqv_int, eqv_tup, eqv_lst, eqv_nn, eqv_bb, eqv_tn, eqv_nt, eqa_nn, eqa_nc, eqa_cn, eqa_cc, eqvs_ints, int_beq, itemsD, wipeOk, Slot.holds, Tg.slots, wipeE, bindTg, setAll, evP, prt, setPs, Ps.slots, asList, compL, cap, flatD, tu, li, ite_and, ite_or, cut_tail, at_nat, bi_len_t, bi_len_l, bi_all, bi_any, bi_tup_l, bi_tup_t, bi_lst_l, bi_lst_t, -putN, b_Reader_pending, rdF_0, rdF_1, rdF_2, rdF_3, rdF_4]
theorem rd_count (g : Nat → List D → Rs D) (d x : D) (n : Int) (ab cl : Bool) : evDo tx.C g 1 0 b_Reader_count [] 0 (rdF d x n ab cl) [] = .ok (.tuple [.int n, obD 0 (rdF d x n ab cl)]) := by
  simp [evD, ssn, ssc, evS, evE, evEs, evI, evC, evO, evB, evX, evXs, evDo, endO, prm_n, prm_b, prm_i, prm_l, prm_t, prm_x, prob_u, prn_u, unOb_ob, iteX, setTs, putN, blX, noDict, insAt, op_ai, op_at, op_al, op_si, op_mi, op_mt, op_mb, rp_i, rv_l, op_fd, op_md, idx_t, idx_l, slc_t, slc_l, isa_i, isa_b, isa_s, isa_t, isa_l, isa_n, b2_min, b2_max, cp_lt, cp_le, cp_gt, cp_ge, cp_eqi, cp_nei, cp_eq, cp_ne, cp_is, cp_isnot, cp_int, cp_nint, cp_inl, cp_ninl, is_nn, is_bb, is_in, is_bn, is_sn, is_tn, is_ln, ok_n, ok_b, ok_i, ok_t, ok_l, eqv_int, eqv_tup, eqv_lst, eqv_nn, eqv_bb, eqv_tn, eqv_nt, eqa_nn, eqa_nc, eqa_cn, eqa_cc, eqvs_ints, int_beq, itemsD, wipeOk, Slot.holds, Tg.slots, wipeE, bindTg, setAll, evP, prt, setPs, Ps.slots, asList, compL, cap, flatD, tu, li, ite_and, ite_or, cut_tail, at_nat, bi_len_t, bi_len_l, bi_all, bi_any, bi_tup_l, bi_tup_t, bi_lst_l, bi_lst_t, -putN, b_Reader_count, rdF_0, rdF_1, rdF_2, rdF_3, rdF_4]
theorem rd_finish (g : Nat → List D → Rs D) (d x : D) (n : Int) (ab fb : Bool) (its : List D) (e1 : g 142 [obD 0 (rdF d x n ab false)] = .ok (.tuple [.none, obD 0 (rdF d x n ab false)])) (e2 : g 43 [d, x, .bool ab] = .ok (.tuple [.list its, .bool fb])) :
    evDo tx.C g 3 0 b_Reader_finish [] 0 (rdF d x n ab false) [] = .ok (.tuple [.list its, obD 0 (rdF d (.tuple []) n ab true)]) := by
  simp [evD, ssn, ssc, evS, evE, evEs, evI, evC, evO, evB, evX, evXs, evDo, endO, prm_n, prm_b, prm_i, prm_l, prm_t, prm_x, prob_u, prn_u, unOb_ob, iteX, setTs, putN, blX, noDict, insAt, op_ai, op_at, op_al, op_si, op_mi, op_mt, op_mb, rp_i, rv_l, op_fd, op_md, idx_t, idx_l, slc_t, slc_l, isa_i, isa_b, isa_s, isa_t, isa_l, isa_n, b2_min, b2_max, cp_lt, cp_le, cp_gt, cp_ge, cp_eqi, cp_nei, cp_eq, cp_ne, cp_is, cp_isnot, cp_int, cp_nint, cp_inl, cp_ninl, is_nn, is_bb, is_in, is_bn, is_sn, is_tn, is_ln, ok_n, ok_b, ok_i, ok_t, ok_l, eqv_int, eqv_tup, eqv_lst, eqv_nn, eqv_bb, eqv_tn, eqv_nt, eqa_nn, eqa_nc, eqa_cn, eqa_cc, eqvs_ints, int_beq, itemsD, wipeOk, Slot.holds, Tg.slots, wipeE, bindTg, setAll, evP, prt, setPs, Ps.slots, asList, compL, cap, flatD, tu, li, ite_and, ite_or, cut_tail, at_nat, bi_len_t, bi_len_l, bi_all, bi_any, bi_tup_l, bi_tup_t, bi_lst_l, bi_lst_t, -putN, b_Reader_finish, rdF_0, rdF_1, rdF_2, rdF_3, rdF_4, rdF_s1, rdF_s2, rdF_s3, rdF_s4, rdF_lt, rdF_le, e1, e2]
theorem rd_finish_x (g : Nat → List D → Rs D) (fs : List (Nat × D)) (y : Nat) (e1 : g 142 [obD 0 fs] = .exc y) (hf : fbeq fs fs = true) :
    evDo tx.C g 3 0 b_Reader_finish [] 0 fs [] = .exc y := by
  simp [evD, ssn, ssc, evS, evE, evEs, evI, evC, evO, evB, evX, evXs, evDo, endO, prm_n, prm_b, prm_i, prm_l, prm_t, prm_x, prob_u, prn_u, unOb_ob, iteX, setTs, putN, blX, noDict, insAt, op_ai, op_at, op_al, op_si, op_mi, op_mt, op_mb, rp_i, rv_l, op_fd, op_md, idx_t, idx_l, slc_t, slc_l, isa_i, isa_b, isa_s, isa_t, isa_l, isa_n, b2_min, b2_max, cp_lt, cp_le, cp_gt, cp_ge, cp_eqi, cp_nei, cp_eq, cp_ne, cp_is, cp_isnot, cp_int, cp_nint, cp_inl, cp_ninl, is_nn, is_bb, is_in, is_bn, is_sn, is_tn, is_ln, ok_n, ok_b, ok_i, ok_t, ok_l, eqv_int, eqv_tup, eqv_lst, eqv_nn, eqv_bb, eqv_tn, eqv_nt, eqa_nn, eqa_nc, eqa_cn, eqa_cc, eqvs_ints, int_beq, itemsD, wipeOk, Slot.holds, Tg.slots, wipeE, bindTg, setAll, evP, prt, setPs, Ps.slots, asList, compL, cap, flatD, tu, li, ite_and, ite_or, cut_tail, at_nat, bi_len_t, bi_len_l, bi_all, bi_any, bi_tup_l, bi_tup_t, bi_lst_l, bi_lst_t, -putN, b_Reader_finish, e1, excO, hf]
theorem rd_feed_x1 (g : Nat → List D → Rs D) (fs : List (Nat × D)) (x : D) (y : Nat) (e1 : g 37 [x] = .exc y) (hf : fbeq fs fs = true) :
    evDo tx.C g 3 0 b_Reader_feed [] 0 fs [x] = .exc y := by
  simp [evD, ssn, ssc, evS, evE, evEs, evI, evC, evO, evB, evX, evXs, evDo, endO, prm_n, prm_b, prm_i, prm_l, prm_t, prm_x, prob_u, prn_u, unOb_ob, iteX, setTs, putN, blX, noDict, insAt, op_ai, op_at, op_al, op_si, op_mi, op_mt, op_mb, rp_i, rv_l, op_fd, op_md, idx_t, idx_l, slc_t, slc_l, isa_i, isa_b, isa_s, isa_t, isa_l, isa_n, b2_min, b2_max, cp_lt, cp_le, cp_gt, cp_ge, cp_eqi, cp_nei, cp_eq, cp_ne, cp_is, cp_isnot, cp_int, cp_nint, cp_inl, cp_ninl, is_nn, is_bb, is_in, is_bn, is_sn, is_tn, is_ln, ok_n, ok_b, ok_i, ok_t, ok_l, eqv_int, eqv_tup, eqv_lst, eqv_nn, eqv_bb, eqv_tn, eqv_nt, eqa_nn, eqa_nc, eqa_cn, eqa_cc, eqvs_ints, int_beq, itemsD, wipeOk, Slot.holds, Tg.slots, wipeE, bindTg, setAll, evP, prt, setPs, Ps.slots, asList, compL, cap, flatD, tu, li, ite_and, ite_or, cut_tail, at_nat, bi_len_t, bi_len_l, bi_all, bi_any, bi_tup_l, bi_tup_t, bi_lst_l, bi_lst_t, -putN, b_Reader_feed, e1, excO, hf]
theorem rd_feed_x2 (g : Nat → List D → Rs D) (fs : List (Nat × D)) (x : D) (y : Nat) (e0 : g 37 [x] = .ok .none) (e1 : g 142 [obD 0 fs] = .exc y) (hf : fbeq fs fs = true) :
    evDo tx.C g 3 0 b_Reader_feed [] 0 fs [x] = .exc y := by
  simp [evD, ssn, ssc, evS, evE, evEs, evI, evC, evO, evB, evX, evXs, evDo, endO, prm_n, prm_b, prm_i, prm_l, prm_t, prm_x, prob_u, prn_u, unOb_ob, iteX, setTs, putN, blX, noDict, insAt, op_ai, op_at, op_al, op_si, op_mi, op_mt, op_mb, rp_i, rv_l, op_fd, op_md, idx_t, idx_l, slc_t, slc_l, isa_i, isa_b, isa_s, isa_t, isa_l, isa_n, b2_min, b2_max, cp_lt, cp_le, cp_gt, cp_ge, cp_eqi, cp_nei, cp_eq, cp_ne, cp_is, cp_isnot, cp_int, cp_nint, cp_inl, cp_ninl, is_nn, is_bb, is_in, is_bn, is_sn, is_tn, is_ln, ok_n, ok_b, ok_i, ok_t, ok_l, eqv_int, eqv_tup, eqv_lst, eqv_nn, eqv_bb, eqv_tn, eqv_nt, eqa_nn, eqa_nc, eqa_cn, eqa_cc, eqvs_ints, int_beq, itemsD, wipeOk, Slot.holds, Tg.slots, wipeE, bindTg, setAll, evP, prt, setPs, Ps.slots, asList, compL, cap, flatD, tu, li, ite_and, ite_or, cut_tail, at_nat, bi_len_t, bi_len_l, bi_all, bi_any, bi_tup_l, bi_tup_t, bi_lst_l, bi_lst_t, -putN, b_Reader_feed, e0, e1, excO, hf]
theorem rd_feed_s (g : Nat → List D → Rs D) (d y : D) (x : List D) (n : Int) (ab : Bool) (e0 : g 37 [.tuple x] = .ok .none) (e1 : g 142 [obD 0 (rdF d y n ab false)] = .ok (.tuple [.none, obD 0 (rdF d y n ab false)]))
    (e2 : g 140 [obD 0 (rdF d y (n + x.length) ab false)] = .ok (.tuple [.bool true, obD 0 (rdF d y (n + x.length) ab false)])) :
    evDo tx.C g 3 0 b_Reader_feed [] 0 (rdF d y n ab false) [.tuple x] = .ok (.tuple [.list [], obD 0 (rdF d y (n + x.length) ab false)]) := by
  simp [evD, ssn, ssc, evS, evE, evEs, evI, evC, evO, evB, evX, evXs, evDo, endO, prm_n, prm_b, prm_i, prm_l, prm_t, prm_x, prob_u, prn_u, unOb_ob, iteX, setTs, putN, blX, noDict, insAt, op_ai, op_at, op_al, op_si, op_mi, op_mt, op_mb, rp_i, rv_l, op_fd, op_md, idx_t, idx_l, slc_t, slc_l, isa_i, isa_b, isa_s, isa_t, isa_l, isa_n, b2_min, b2_max, cp_lt, cp_le, cp_gt, cp_ge, cp_eqi, cp_nei, cp_eq, cp_ne, cp_is, cp_isnot, cp_int, cp_nint, cp_inl, cp_ninl, is_nn, is_bb, is_in, is_bn, is_sn, is_tn, is_ln, ok_n, ok_b, ok_i, ok_t, ok_l, eqv_int, eqv_tup, eqv_lst, eqv_nn, eqv_bb, eqv_tn, eqv_nt, eqa_nn, eqa_nc, eqa_cn, eqa_cc, eqvs_ints, int_beq, itemsD, wipeOk, Slot.holds, Tg.slots, wipeE, bindTg, setAll, evP, prt, setPs, Ps.slots, asList, compL, cap, flatD, tu, li, ite_and, ite_or, cut_tail, at_nat, bi_len_t, bi_len_l, bi_all, bi_any, bi_tup_l, bi_tup_t, bi_lst_l, bi_lst_t, -putN, b_Reader_feed, rdF_0, rdF_1, rdF_2, rdF_3, rdF_4, rdF_s1, rdF_s2, rdF_s3, rdF_s4, rdF_lt, rdF_le, e0, e1, e2]
def cR : Ex := (.and (.cmp .ne (.fld 0 1) (.tup .nil)) (.not (.call 91 (.cons (.fld 0 0) (.cons (.fld 0 1) .nil)))))
def bR (c : Ex) (b : Ss) : Ss :=
    (.cons (.ex (.call 37 (.cons (.var 1) .nil)))
    (.cons (.xs (.ex (.meth 0 0 142 .nil)))
    (.cons (.xs (.fset 0 2 (.op .add (.fld 0 2) (.bi .len (.var 1)))))
    (.cons (.xite (.meth 0 0 140 .nil)
    (.cons (.xs (.ret (.pur (.lst .nil))))
    .nil)
    .nil)
    (.cons (.xs (.px [.at_ 0 1, .sl 2] (.cons (.op .add (.fld 0 1) (.var 1)) (.cons (.lst .nil) .nil))))
    (.cons (.while_ c b)
    (.cons (.xs (.ret (.pur (.var 2))))
    .nil)))))))
theorem rd_feed (g : Nat → List D → Rs D) (d z : D) (y x its : List D) (n : Int) (ab ab' : Bool) (c : Ex) (b : Ss) (e0 : g 37 [.tuple x] = .ok .none) (e1 : g 142 [obD 0 (rdF d (.tuple y) n ab false)] = .ok (.tuple [.none, obD 0 (rdF d (.tuple y) n ab false)]))
    (e2 : g 140 [obD 0 (rdF d (.tuple y) (n + x.length) ab false)] = .ok (.tuple [.bool false, obD 0 (rdF d (.tuple y) (n + x.length) ab false)])) (hl : y.length + x.length ≤ 16777216)
    (e3 : whileL (evB tx.C g c) (evSs tx.C g b) fuel [.ob 0 (rdF d (.tuple (y ++ x)) (n + x.length) ab false), .cl (.tuple x), .cl (.list [])] = .next [.ob 0 (rdF d z (n + x.length) ab' false), .cl (.tuple x), .cl (.list its)]) :
    evDo tx.C g 3 0 (bR c b) [] 0 (rdF d (.tuple y) n ab false) [.tuple x] = .ok (.tuple [.list its, obD 0 (rdF d z (n + x.length) ab' false)]) := by
  simp [evD, ssn, ssc, evS, evE, evEs, evI, evC, evO, evB, evX, evXs, evDo, endO, prm_n, prm_b, prm_i, prm_l, prm_t, prm_x, prob_u, prn_u, unOb_ob, iteX, setTs, putN, blX, noDict, insAt, op_ai, op_at, op_al, op_si, op_mi, op_mt, op_mb, rp_i, rv_l, op_fd, op_md, idx_t, idx_l, slc_t, slc_l, isa_i, isa_b, isa_s, isa_t, isa_l, isa_n, b2_min, b2_max, cp_lt, cp_le, cp_gt, cp_ge, cp_eqi, cp_nei, cp_eq, cp_ne, cp_is, cp_isnot, cp_int, cp_nint, cp_inl, cp_ninl, is_nn, is_bb, is_in, is_bn, is_sn, is_tn, is_ln, ok_n, ok_b, ok_i, ok_t, ok_l, eqv_int, eqv_tup, eqv_lst, eqv_nn, eqv_bb, eqv_tn, eqv_nt, eqa_nn, eqa_nc, eqa_cn, eqa_cc, eqvs_ints, int_beq, itemsD, wipeOk, Slot.holds, Tg.slots, wipeE, bindTg, setAll, evP, prt, setPs, Ps.slots, asList, compL, cap, flatD, tu, li, ite_and, ite_or, cut_tail, at_nat, bi_len_t, bi_len_l, bi_all, bi_any, bi_tup_l, bi_tup_t, bi_lst_l, bi_lst_t, -putN, bR, rdF_0, rdF_1, rdF_2, rdF_3, rdF_4, rdF_s1, rdF_s2, rdF_s3, rdF_s4, rdF_lt, rdF_le, e0, e1, e2, hl, e3]
theorem rd_turn (g : Nat → List D → Rs D) (fs fs' : List (Nat × D)) (s1 : Slot) (told its : List D) (e : g 141 [obD 0 fs] = .ok (.tuple [.list its, obD 0 fs'])) (hf : fs'.length ≤ 100) (hl : told.length + its.length ≤ 16777216) :
    evSs tx.C g w_Reader_feed_0 [.ob 0 fs, s1, .cl (.list told)] = .next [.ob 0 fs', s1, .cl (.list (told ++ its))] := by
  simp [evD, ssn, ssc, evS, evE, evEs, evI, evC, evO, evB, evX, evXs, evDo, endO, prm_n, prm_b, prm_i, prm_l, prm_t, prm_x, prob_u, prn_u, unOb_ob, iteX, setTs, putN, blX, noDict, insAt, op_ai, op_at, op_al, op_si, op_mi, op_mt, op_mb, rp_i, rv_l, op_fd, op_md, idx_t, idx_l, slc_t, slc_l, isa_i, isa_b, isa_s, isa_t, isa_l, isa_n, b2_min, b2_max, cp_lt, cp_le, cp_gt, cp_ge, cp_eqi, cp_nei, cp_eq, cp_ne, cp_is, cp_isnot, cp_int, cp_nint, cp_inl, cp_ninl, is_nn, is_bb, is_in, is_bn, is_sn, is_tn, is_ln, ok_n, ok_b, ok_i, ok_t, ok_l, eqv_int, eqv_tup, eqv_lst, eqv_nn, eqv_bb, eqv_tn, eqv_nt, eqa_nn, eqa_nc, eqa_cn, eqa_cc, eqvs_ints, int_beq, itemsD, wipeOk, Slot.holds, Tg.slots, wipeE, bindTg, setAll, evP, prt, setPs, Ps.slots, asList, compL, cap, flatD, tu, li, ite_and, ite_or, cut_tail, at_nat, bi_len_t, bi_len_l, bi_all, bi_any, bi_tup_l, bi_tup_t, bi_lst_l, bi_lst_t, -putN, w_Reader_feed_0, e, hf, hl]
theorem rd_cond (g : Nat → List D → Rs D) (d b : D) (tl : List D) (n : Int) (ab cl op : Bool) (s1 s2 : Slot) (e : g 91 [d, .tuple (b :: tl)] = .ok (.bool op)) (hk : okD 8 (.tuple (b :: tl)) = true) : evB tx.C g cR [.ob 0 (rdF d (.tuple (b :: tl)) n ab cl), s1, s2] = .ok (!op) := by
  have hz : cmpD .ne (.tuple (b :: tl)) (.tuple []) = some true := by
    rw [cp_ne, if_pos ⟨hk, rfl⟩, eqv_tup, eqa_cn]; rfl
  simp [evD, ssn, ssc, evS, evE, evEs, evI, evC, evO, evB, evX, evXs, evDo, endO, prm_n, prm_b, prm_i, prm_l, prm_t, prm_x, prob_u, prn_u, unOb_ob, iteX, setTs, putN, blX, noDict, insAt, op_ai, op_at, op_al, op_si, op_mi, op_mt, op_mb, rp_i, rv_l, op_fd, op_md, idx_t, idx_l, slc_t, slc_l, isa_i, isa_b, isa_s, isa_t, isa_l, isa_n, b2_min, b2_max, cp_lt, cp_le, cp_gt, cp_ge, cp_eqi, cp_nei, cp_is, cp_isnot, is_nn, is_bb, is_in, is_bn, is_sn, is_tn, is_ln, ok_n, ok_b, ok_i, ok_t, ok_l, eqv_int, eqv_tup, eqv_lst, eqv_nn, eqv_bb, eqv_tn, eqv_nt, eqa_nn, eqa_nc, eqa_cn, eqa_cc, eqvs_ints, int_beq, itemsD, wipeOk, Slot.holds, Tg.slots, wipeE, bindTg, setAll, evP, prt, setPs, Ps.slots, asList, compL, cap, flatD, tu, li, ite_and, ite_or, cut_tail, at_nat, bi_len_t, bi_len_l, bi_all, bi_any, bi_tup_l, bi_tup_t, bi_lst_l, bi_lst_t, -putN, cR, rdF_0, rdF_1, rdF_2, rdF_3, rdF_4, hz, e]
theorem rd_cond0 (g : Nat → List D → Rs D) (d : D) (n : Int) (ab cl : Bool) (s1 s2 : Slot) : evB tx.C g cR [.ob 0 (rdF d (.tuple []) n ab cl), s1, s2] = .ok false := by
  have hz : cmpD .ne (.tuple []) (.tuple []) = some false := by
    rw [cp_ne, if_pos ⟨rfl, rfl⟩, eqv_tup, eqa_nn]; rfl
  simp [evD, ssn, ssc, evS, evE, evEs, evI, evC, evO, evB, evX, evXs, evDo, endO, prm_n, prm_b, prm_i, prm_l, prm_t, prm_x, prob_u, prn_u, unOb_ob, iteX, setTs, putN, blX, noDict, insAt, op_ai, op_at, op_al, op_si, op_mi, op_mt, op_mb, rp_i, rv_l, op_fd, op_md, idx_t, idx_l, slc_t, slc_l, isa_i, isa_b, isa_s, isa_t, isa_l, isa_n, b2_min, b2_max, cp_lt, cp_le, cp_gt, cp_ge, cp_eqi, cp_nei, cp_is, cp_isnot, is_nn, is_bb, is_in, is_bn, is_sn, is_tn, is_ln, ok_n, ok_b, ok_i, ok_t, ok_l, eqv_int, eqv_tup, eqv_lst, eqv_nn, eqv_bb, eqv_tn, eqv_nt, eqa_nn, eqa_nc, eqa_cn, eqa_cc, eqvs_ints, int_beq, itemsD, wipeOk, Slot.holds, Tg.slots, wipeE, bindTg, setAll, evP, prt, setPs, Ps.slots, asList, compL, cap, flatD, tu, li, ite_and, ite_or, cut_tail, at_nat, bi_len_t, bi_len_l, bi_all, bi_any, bi_tup_l, bi_tup_t, bi_lst_l, bi_lst_t, -putN, cR, rdF_0, rdF_1, rdF_2, rdF_3, rdF_4, hz]
end Pu

set_option maxHeartbeats 1000000
namespace Pu
open PySem PySem.Spec PyProof.Rows L2
def rdO (c : Dc) (r : Rd) (n : Int) (cl : Bool) : List (Nat × D) := rdF c.d (tu r.rest) n r.ab cl
theorem s_take (k : Nat) (c : Dc) (b : Int) (r : List Int) (n : Int) (ab cl : Bool) (hb : Bys (b :: r)) (hl : r.length + 1 ≤ 60) : G (k + 5) 141 [obD 0 (rdF c.d (tu (b :: r)) n ab cl)] =
    .ok (.tuple [li (if fva c (b :: r) = -1 then bitems c.po b ab else [fva c (b :: r)]), obD 0 (rdF c.d (tu ((b :: r).drop (fsz c (b :: r)))) n (decide (fva c (b :: r) = -1)) cl)]) := by
  rw [g_Reader_take_piece]
  have e1 := s_gsz k c b r
  have hr := fsz_range c (b :: r) (by simp)
  have cut2 : ∀ m : Nat, slcD (tu (b :: r)) (some (m : Int)) none = .ok (tu ((b :: r).drop m)) := fun m => by
    simp only [tu]
    rw [slc_t, cut_from _ (by omega), List.map_drop]
    rfl
  by_cases hg : 0 < gsz c (b :: r)
  · obtain ⟨f1, f2, f3⟩ := fva_good hg
    have f4 : ¬ fva c (b :: r) = -1 := fun z => absurd hg ((fva_iff hb).2.mp z)
    rw [if_neg f4, decide_eq_false f4]
    obtain ⟨m, hm⟩ : ∃ m : Nat, fsz c (b :: r) = m + 1 := ⟨fsz c (b :: r) - 1, by omega⟩
    have hgm : gsz c (b :: r) = ((m + 1 : Nat) : Int) := by omega
    have c1 : slcD (tu (b :: r)) none (some (gsz c (b :: r))) = .ok (tu (b :: r.take m)) := by
      simp only [tu]
      rw [slc_t, cut_to _ (by omega), hgm]
      show Rs.ok (PyData.tuple (((b :: r).map PyData.int).take (m + 1))) = _
      rw [← List.map_take, List.take_succ_cons]
    have e2 := s_valF (k + 2) b (r.take m)
    have hv : fva c (b :: r) = valF (b :: r.take m) := by rw [f1, hm, List.take_succ_cons]
    have c2 : slcD (tu (b :: r)) (some (gsz c (b :: r))) none = .ok (tu ((b :: r).drop (fsz c (b :: r)))) := by
      rw [hgm, hm]
      exact cut2 (m + 1)
    rw [hv]
    exact tk_good (G (k + 4)) c.d _ _ _ _ n _ ab cl e1 hg c1 e2 c2
  · obtain ⟨f1, f2⟩ := fva_bad hg
    rw [if_pos f1, decide_eq_true f1, f2]
    exact tk_bad (G (k + 4)) c.d _ _ (.str c.po.s) (.int b) _ _ n _ ab cl e1 hg (by unfold Dc.d; rw [idx_t, at4_3]; rfl) (by simp only [tu, List.map_cons]; rw [idx_t, at_0]; rfl) (s_bad_items (k + 3) c.po b ab) (s_bsz k c b r hl) (cut2 _)
theorem s_init (k : Nat) (c : Dc) (hc : c.Ok) : G (k + 4) 139 [obD 0 [], c.d] = .ok (.tuple [.none, obD 0 (rdO c ⟨[], false⟩ 0 false)]) := by
  rw [g_Reader___init__]
  exact rd_init (G (k + 3)) c.d (s_chk_ok k c hc)
theorem s_open (k : Nat) (d x : D) (n : Int) (ab : Bool) : G (k + 1) 142 [obD 0 (rdF d x n ab false)] = .ok (.tuple [.none, obD 0 (rdF d x n ab false)]) := by
  rw [g_Reader_check_open]
  exact rd_open _ _ _ _ _
theorem s_open_x (k : Nat) (c : Dc) (x : List Int) (n : Int) (ab : Bool) : G (k + 1) 142 [obD 0 (rdF c.d (tu x) n ab true)] = .exc 14 := by
  rw [g_Reader_check_open]
  exact rd_open_x _ _ _ _ _ (by unfold Dc.d; simp only [ok_8, ok_7, ok_t, List.all_cons, List.all_nil, ok_i, ok_b, Bool.true_and, Bool.and_true]; rw [ok_ov 6, ok_po 6]; rfl) (ok_tu 6 x)
theorem s_stopped (k : Nat) (c : Dc) (x : D) (n : Int) (ab cl : Bool) : G (k + 1) 140 [obD 0 (rdF c.d x n ab cl)] = .ok (.tuple [.bool (ab && decide (c.po = .stop)), obD 0 (rdF c.d x n ab cl)]) := by
  rw [g_Reader_is_stopped]
  exact rd_stopped _ _ _ _ _ _ _ _ _
theorem s_pending (k : Nat) (c : Dc) (r : Rd) (n : Int) (cl : Bool) : G (k + 1) 145 [obD 0 (rdO c r n cl)] = .ok (.tuple [tu r.rest, obD 0 (rdO c r n cl)]) := by
  rw [g_Reader_pending]
  exact rd_pending _ _ _ _ _ _
theorem s_count (k : Nat) (c : Dc) (r : Rd) (n : Int) (cl : Bool) : G (k + 1) 146 [obD 0 (rdO c r n cl)] = .ok (.tuple [.int n, obD 0 (rdO c r n cl)]) := by
  rw [g_Reader_count]
  exact rd_count _ _ _ _ _ _
theorem rd_loop (k : Nat) (c : Dc) (n : Int) (cl : Bool) (s1 : Slot) : ∀ (m : Nat) (xs : List Int) (ab : Bool) (told : List Int) (N : Nat), xs.length ≤ m → m < N → xs.length ≤ 60 → Bys xs → told.length + m ≤ 10000 →
    whileL (evB tx.C (G (k + 5)) cR) (evSs tx.C (G (k + 5)) w_Reader_feed_0) N [.ob 0 (rdF c.d (tu xs) n ab cl), s1, .cl (li told)] = .next [.ob 0 (rdF c.d (tu (run c m xs ab).2.1) n (run c m xs ab).2.2 cl), s1, .cl (li (told ++ (run c m xs ab).1))]
  | m, [], ab, told, N, _, hN, _, _, _ => by
    obtain ⟨N, rfl⟩ : ∃ M, N = M + 1 := ⟨N - 1, by omega⟩
    rw [run_stop (.inl rfl), List.append_nil]
    exact whileL_no (rd_cond0 _ _ _ _ _ _ _) _
  | 0, b :: r, ab, told, N, h, _, _, _, _ => by simp at h
  | m + 1, b :: r, ab, told, N, h, hN, hl, hb, ht => by
    obtain ⟨N, rfl⟩ : ∃ M, N = M + 1 := ⟨N - 1, by omega⟩
    have e1 := s_is_open k c b r
    have hk : okD 8 (tu (b :: r)) = true := ok_tu 6 _
    cases ho : opn c (b :: r) with
    | true =>
      rw [run_stop (.inr ho), List.append_nil]
      rw [ho] at e1
      exact whileL_no (rd_cond _ _ _ _ _ _ _ _ _ _ e1 hk) _
    | false =>
      rw [ho] at e1
      have hne : ¬ (b :: r = [] ∨ opn c (b :: r) = true) := by rw [ho]; simp
      rw [run_step hne]
      have hit : (if fva c (b :: r) = -1 then bitems c.po b ab else [fva c (b :: r)]).length ≤ 1 := by
        split
        · exact bitems_len _ _ _
        · exact Nat.le_refl 1
      have et := rd_turn (G (k + 5)) _ _ s1 (told.map PyData.int) _ (s_take k c b r n ab cl hb hl) (by simp [rdF]) (by simp only [List.length_map]; omega)
      rw [← List.map_append] at et
      have hr := fsz_range c (b :: r) (by simp)
      have hd : ((b :: r).drop (fsz c (b :: r))).length ≤ r.length := by rw [List.length_drop, List.length_cons]; omega
      simp only [List.length_cons] at h hl
      have ih := rd_loop k c n cl s1 m ((b :: r).drop (fsz c (b :: r))) (decide (fva c (b :: r) = -1)) (told ++ (if fva c (b :: r) = -1 then bitems c.po b ab else [fva c (b :: r)])) N (by omega) (by omega) (by omega) (bys_drop hb _) (by rw [List.length_append]; omega)
      rw [List.append_assoc] at ih
      rw [List.headD_cons]
      exact (whileL_yes (rd_cond _ _ _ _ _ _ _ _ _ _ e1 hk) et).trans ih
theorem s_feed (k : Nat) (c : Dc) (r : Rd) (n : Int) (x : List Int) (hx : Bys x) (hlx : x.length ≤ 60) (hr : Bys r.rest) (hl : (r.rest ++ x).length ≤ 60) : G (k + 6) 143 [obD 0 (rdO c r n false), tu x] = .ok (.tuple [li (r.feed c x).1, obD 0 (rdO c (r.feed c x).2 (n + x.length) false)]) := by
  rw [g_Reader_feed]
  have e0 := s_chk_str_ok (k + 1) x hlx hx
  have e1 := s_open (k + 4) c.d (tu r.rest) n r.ab
  have e2 := s_stopped (k + 4) c (tu r.rest) (n + x.length) r.ab false
  have hlm : (x.map PyData.int).length = x.length := List.length_map _
  unfold Rd.feed
  by_cases hs : stpd c r.ab
  · rw [if_pos hs]
    have hb : (r.ab && decide (c.po = .stop)) = true := by rw [hs.1, hs.2]; rfl
    rw [hb] at e2
    have := rd_feed_s (G (k + 5)) c.d (tu r.rest) (x.map PyData.int) n r.ab e0 e1 (by rw [hlm]; exact e2)
    rw [hlm] at this
    exact this
  · rw [if_neg hs]
    have hb : (r.ab && decide (c.po = .stop)) = false := by
      cases h1 : r.ab with
      | false => rfl
      | true =>
        have : ¬ c.po = .stop := fun z => hs ⟨h1, z⟩
        rw [decide_eq_false this]; rfl
    rw [hb] at e2
    rw [List.length_append] at hl
    have lp := rd_loop k c (n + x.length) false (.cl (tu x)) 1000 (r.rest ++ x) r.ab [] fuel (by rw [List.length_append]; omega) (by decide) (by rw [List.length_append]; omega) (bys_app hr hx) (by simp)
    rw [List.nil_append] at lp
    have := rd_feed (G (k + 5)) c.d (tu (run c 1000 (r.rest ++ x) r.ab).2.1) (r.rest.map PyData.int) (x.map PyData.int) _ n r.ab (run c 1000 (r.rest ++ x) r.ab).2.2 cR w_Reader_feed_0 e0 e1 (by rw [hlm]; exact e2) (by simp only [List.length_map]; omega) (by rw [hlm, ← List.map_append]; exact lp)
    rw [hlm] at this
    exact this
theorem s_finish (k : Nat) (c : Dc) (r : Rd) (n : Int) (hl : r.rest.length ≤ 60) : G (k + 7) 144 [obD 0 (rdO c r n false)] = .ok (.tuple [li (its c r.rest r.ab).1, obD 0 (rdO c ⟨[], r.ab⟩ n true)]) := by
  rw [g_Reader_finish]
  have e := s_items_of k c r.rest hl r.ab
  rw [itemsF_its c r.rest r.ab hl] at e
  exact rd_finish (G (k + 6)) c.d _ n r.ab _ _ (s_open (k + 5) _ _ _ _) e
end Pu

set_option maxHeartbeats 1000000
namespace Pu
open PySem PySem.Spec PyProof.Rows L2
theorem opn_more {c : Dc} {xs : List Int} (hx : xs ≠ []) (h : opn c xs = false) (ys : List Int) : opn c (xs ++ ys) = false := by
  cases q : opn c (xs ++ ys) with
  | false => rfl
  | true =>
    exfalso
    cases xs with
    | nil => exact hx rfl
    | cons b r =>
      have hl : (((b :: r) ++ ys).length : Int) = (r.length : Int) + 1 + ys.length := by simp; omega
      have hl2 : ((b :: r).length : Int) = (r.length : Int) + 1 := by simp
      unfold opn at q h
      rw [List.cons_append, List.headD_cons, List.tail_cons, ← List.cons_append, hl] at q
      rw [List.headD_cons, List.tail_cons, hl2] at h
      split at q
      · rename_i z
        rw [decide_eq_true_eq] at q
        rw [if_pos (beg_app c b ys r z), decide_eq_false_iff_not] at h
        omega
      · split at q
        · cases q
        · rename_i z
          rw [Bool.and_eq_true, decide_eq_true_eq, List.all_append, Bool.and_eq_true] at q
          rw [not_or] at z
          split at h
          · rw [decide_eq_false_iff_not] at h; omega
          · rw [if_neg (fun w => w.elim (fun w => z.1 w) fun w => z.2 (gsz_more w ys)), q.2.1, Bool.and_true, decide_eq_false_iff_not] at h
            omega
theorem run_fuel (c : Dc) : ∀ (m n : Nat) (xs : List Int) (ab : Bool), xs.length ≤ m → xs.length ≤ n → run c m xs ab = run c n xs ab
  | 0, n, xs, ab, h, _ => by
    have e : xs = [] := List.length_eq_zero_iff.mp (by omega)
    subst e
    rw [run_stop (.inl rfl), run_stop (.inl rfl)]
  | m + 1, 0, xs, ab, _, h => by
    have e : xs = [] := List.length_eq_zero_iff.mp (by omega)
    subst e
    rw [run_stop (.inl rfl), run_stop (.inl rfl)]
  | m + 1, n + 1, xs, ab, h1, h2 => by
    by_cases h : xs = [] ∨ opn c xs = true
    · rw [run_stop h, run_stop h]
    · have hx : xs ≠ [] := fun z => h (.inl z)
      have hr := fsz_range c xs hx
      rw [run_step h, run_step h, run_fuel c m n (xs.drop (fsz c xs)) _ (by rw [List.length_drop]; omega) (by rw [List.length_drop]; omega)]
theorem head_app {xs : List Int} (hx : xs ≠ []) (ys : List Int) : (xs ++ ys).headD 0 = xs.headD 0 := by
  cases xs with
  | nil => exact absurd rfl hx
  | cons _ _ => rfl
/-- reading on -/
theorem run_more (c : Dc) (ys : List Int) : ∀ (m : Nat) (xs : List Int) (ab : Bool), Bys xs → xs.length + ys.length ≤ m → ¬ stpd c ab →
    run c m (xs ++ ys) ab = if stpd c (run c m xs ab).2.2 then run c m xs ab else ((run c m xs ab).1 ++ (run c m ((run c m xs ab).2.1 ++ ys) (run c m xs ab).2.2).1, (run c m ((run c m xs ab).2.1 ++ ys) (run c m xs ab).2.2).2)
  | 0, xs, ab, hb, hl, hs => by
    have e : xs = [] := List.length_eq_zero_iff.mp (by omega)
    have e2 : ys = [] := List.length_eq_zero_iff.mp (by omega)
    subst e e2
    rw [run_stop (.inl rfl), if_neg hs, List.append_nil, run_stop (.inl rfl)]
    rfl
  | m + 1, xs, ab, hb, hl, hs => by
    by_cases h : xs = [] ∨ opn c xs = true
    · rw [run_stop h, if_neg hs, List.nil_append]
    · have hx : xs ≠ [] := fun z => h (.inl z)
      have ho : opn c xs = false := by
        cases q : opn c xs with
        | true => exact absurd (.inr q) h
        | false => rfl
      have hr := fsz_range c xs hx
      have h' : ¬ (xs ++ ys = [] ∨ opn c (xs ++ ys) = true) := by
        rw [opn_more hx ho ys]
        simp [hx]
      rw [run_step h, run_step h', head_app hx]
      by_cases hz : fva c xs = -1 ∧ c.po = .stop
      · have hg : ¬ 0 < gsz c xs := (fva_iff hb).2.mp hz.1
        obtain ⟨f1, _⟩ := stay_stop ho hx hz.2 hg []
        rw [List.append_nil] at f1
        obtain ⟨g1, g2⟩ := stay_stop ho hx hz.2 hg ys
        have gv : fva c (xs ++ ys) = -1 := by unfold fva; rw [if_neg g2]
        rw [gv, g1, f1, hz.1, List.drop_length, List.drop_length, run_stop (.inl rfl)]
        rw [if_pos (show stpd c (decide ((-1 : Int) = -1)) from ⟨rfl, hz.2⟩)]
      · have hst : c.po ≠ .stop ∨ 0 < gsz c xs := by
          by_cases q : c.po = .stop
          · right
            by_cases g : 0 < gsz c xs
            · exact g
            · exact absurd ⟨by unfold fva; rw [if_neg g], q⟩ hz
          · exact .inl q
        have hs' : ¬ stpd c (decide (fva c xs = -1)) := fun z => hz ⟨of_decide_eq_true z.1, z.2⟩
        obtain ⟨g1, g2⟩ := stay hx ho hst ys
        have hdl : (xs.drop (fsz c xs)).length + ys.length ≤ m := by rw [List.length_drop]; omega
        have ih := run_more c ys m (xs.drop (fsz c xs)) (decide (fva c xs = -1)) (bys_drop hb _) hdl hs'
        rw [g1, g2, List.drop_append_of_le_length hr.2, ih]
        dsimp only
        by_cases hq : stpd c (run c m (xs.drop (fsz c xs)) (decide (fva c xs = -1))).2.2
        · rw [if_pos hq, if_pos hq]
        · rw [if_neg hq, if_neg hq]
          obtain ⟨j, e⟩ := run_drop c m (xs.drop (fsz c xs)) (decide (fva c xs = -1))
          have hl2 : ((run c m (xs.drop (fsz c xs)) (decide (fva c xs = -1))).2.1 ++ ys).length ≤ m := by
            rw [e, List.length_append, List.length_drop]
            omega
          rw [run_fuel c (m + 1) m _ _ (by omega) hl2, List.append_assoc]
/-- a reader that has been fed s: what it has told, what it holds -/
structure Rd.At (c : Dc) (s t : List Int) (r : Rd) : Prop where
  run : run c 1000 s false = (t, (r.rest, r.ab))
theorem Rd.At.new (c : Dc) : Rd.At c [] [] ⟨[], false⟩ := ⟨run_stop (.inl rfl)⟩
theorem Rd.At.feed {c : Dc} {s t x : List Int} {r : Rd} (h : r.At c s t) (hs : Bys s) (hl : s.length + x.length ≤ 1000) : (r.feed c x).2.At c (s ++ x) (t ++ (r.feed c x).1) := by
  have q := run_more c x 1000 s false hs hl (fun z => by cases z.1)
  rw [h.run] at q
  dsimp only at q
  unfold Rd.feed
  by_cases hz : stpd c r.ab
  · rw [if_pos hz] at q ⊢
    exact ⟨by rw [q, List.append_nil]⟩
  · rw [if_neg hz] at q ⊢
    exact ⟨q⟩
/-- what the law asks of more bytes -/
def mores : List (List Int) := [[0], [0, 128], [0, 128, 128], [128], [128, 128], [128, 128, 128], [144], [144, 128], [144, 128, 128], [160], [160, 128], [160, 128, 128]]
def dif1 (c : Dc) (xs m : List Int) : Bool := !decide (fva c (xs ++ m) = fva c xs) || (!decide (fsz c (xs ++ m) = fsz c xs) && !decide (c.po = .stop))
theorem annN_full (xs : List Int) (ha : (xs.length : Int) ≤ ann (xs.headD 0)) : ∀ k n, n ≤ xs.length → (∀ j, n ≤ j → j < xs.length → isCont ((xs[j]?).getD 0) = true) → xs.length ≤ n + k → annN xs k n = xs.length
  | 0, n, h1, _, h3 => by unfold annN; omega
  | k + 1, n, h1, h2, h3 => by
    unfold annN
    by_cases e : n < xs.length
    · have hm := minS (xs.length : Int) (ann (xs.headD 0))
      rw [if_pos ⟨by omega, h2 n (Nat.le_refl _) e⟩]
      exact annN_full xs ha k (n + 1) e (fun j a b => h2 j (by omega) b) (by omega)
    · have hm := minS (xs.length : Int) (ann (xs.headD 0))
      rw [if_neg (fun z => e (by omega))]
      omega
theorem lopn (c : Dc) (xs : List Int) (hb : Bys xs) (hx : xs ≠ []) (hl : xs.length ≤ 50) : mores.any (dif1 c xs) = opn c xs := by
  cases ho : opn c xs with
  | false =>
    rw [List.any_eq_false]
    intro m _
    unfold dif1
    by_cases hz : c.po ≠ .stop ∨ 0 < gsz c xs
    · obtain ⟨h1, h2⟩ := stay hx ho hz m
      rw [h1, h2]; simp
    · rw [not_or, Decidable.not_not] at hz
      obtain ⟨h1, h2⟩ := stay_stop ho hx hz.1 hz.2 m
      have e1 : fva c (xs ++ m) = -1 := by unfold fva; rw [if_neg h2]
      have e2 : fva c xs = -1 := by unfold fva; rw [if_neg hz.2]
      rw [e1, e2, hz.1]; simp
  | true =>
    cases xs with
    | nil => exact absurd rfl hx
    | cons b r =>
      have hl2 : ((b :: r).length : Int) = (r.length : Int) + 1 := by simp
      have har := ann_range b
      rw [List.any_eq_true]
      -- nothing good yet
      have hno : ((r.length : Int) + 1 < ann b) → fva c (b :: r) = -1 := fun hlt => by
        have : ¬ 0 < gsz c (b :: r) := by
          rw [gsz_cons]
          rw [if_neg (fun z => by omega)]
          omega
        unfold fva
        rw [if_neg this]
      unfold opn at ho
      rw [List.headD_cons, List.tail_cons, hl2] at ho
      split at ho
      · rename_i hbg
        rw [decide_eq_true_eq] at ho
        have h1 := lb_beg c b r hb
        rw [hbg] at h1
        unfold lb at h1
        rw [List.headD_cons, hl2] at h1
        dsimp only at h1
        rw [if_neg (by omega), List.any_eq_true] at h1
        obtain ⟨y, hy, hv⟩ := h1
        have hyb : y = 128 ∨ y = 144 ∨ y = 160 := by simpa using hy
        have hm : (ann b - ((r.length : Int) + 1) - 1).toNat = 0 ∨ (ann b - ((r.length : Int) + 1) - 1).toNat = 1 ∨ (ann b - ((r.length : Int) + 1) - 1).toNat = 2 := by omega
        obtain ⟨m, hm2⟩ : ∃ m, m = [y] ++ List.replicate (ann b - ((r.length : Int) + 1) - 1).toNat 128 := ⟨_, rfl⟩
        have hmem : m ∈ mores := by
          rw [hm2]
          rcases hm with e | e | e <;> rw [e] <;> rcases hyb with e | e | e <;> subst e <;> decide
        have hmb : Bys m := fun z hz => by
          have h : (mores.all fun x => x.all fun b => decide (0 ≤ b) && decide (b ≤ 255)) = true := by decide
          have := List.all_eq_true.mp (List.all_eq_true.mp h m hmem) z hz
          simpa using this
        refine ⟨m, hmem, ?_⟩
        rw [List.append_assoc, ← hm2, lv_beg c _ (bys_app hb hmb)] at hv
        have hvl : vld c ((b :: r) ++ m) = true := hv
        have hg := gsz_vld hvl []
        rw [List.append_nil] at hg
        have hgp : 0 < gsz c ((b :: r) ++ m) := by rw [hg]; simp; omega
        have hp := (fva_iff (c := c) (bys_app hb hmb)).1.mpr hgp
        have := hno ho
        unfold dif1
        rw [this, decide_eq_false (by omega)]
        rfl
      · split at ho
        · cases ho
        · rename_i hbg hz
          rw [not_or, Decidable.not_not] at hz
          rw [Bool.and_eq_true, decide_eq_true_eq] at ho
          refine ⟨[128], by decide, ?_⟩
          unfold dif1
          rw [hno ho.1]
          by_cases hg : 0 < gsz c ((b :: r) ++ [128])
          · have hp := (fva_iff (c := c) (bys_app hb (ys := [128]) (fun z hz => by simp at hz; omega))).1.mpr hg
            rw [decide_eq_false (by omega)]
            rfl
          · have e1 : fsz c (b :: r) = annN (b :: r) 60 1 := by unfold fsz bsz; rw [if_neg hz.2, hz.1]
            have e2 : fsz c ((b :: r) ++ [128]) = annN ((b :: r) ++ [128]) 60 1 := by unfold fsz bsz; rw [if_neg hg, hz.1]
            have hall : ∀ (t : List Int), t.all isCont = true → ∀ j, 1 ≤ j → j < (b :: t).length → isCont ((((b :: t)[j]?)).getD 0) = true := fun t ht j h1 h2 => by
              obtain ⟨i, rfl⟩ : ∃ i, j = i + 1 := ⟨j - 1, by omega⟩
              rw [List.length_cons] at h2
              rw [List.getElem?_cons_succ, List.getElem?_eq_getElem (by omega), Option.getD_some]
              exact List.all_eq_true.mp ht _ (List.getElem_mem _)
            have f1 := annN_full (b :: r) (by rw [List.headD_cons, hl2]; omega) 60 1 (by simp) (hall r ho.2) (by omega)
            have f2 := annN_full (b :: (r ++ [128])) (by rw [List.headD_cons]; simp; omega) 60 1 (by simp) (hall (r ++ [128]) (by rw [List.all_append, ho.2]; rfl)) (by simp at hl ⊢; omega)
            rw [← List.cons_append] at f2
            rw [e1, e2, f1, f2, hz.1]
            simp
end Pu

set_option maxHeartbeats 1000000
namespace Pu
open PySem PySem.Spec PyProof.Rows L2
/-- slots: 0 decoder, 1 rest, 2 size, 3 policy -/
theorem sz_turn (g : Nat → List D → Rs D) (d : D) (X Y : List D) (n z : Int) (v : Bool) (s3 : Slot) (hc : cutD X none (some n) = Y) (e : g 25 [d, .tuple Y] = .ok (.bool v)) (e2 : v = true → g 24 [.tuple Y] = .ok (.int z)) : evSs tx.C g w__law_size_0 [.cl d, .cl (.tuple X), .cl (.int n), s3] = if v = true then .ret (.tuple [.int n, .int z]) else .next [.cl d, .cl (.tuple X), .cl (.int n), s3] := by
  cases v with
  | true =>
    have e2 := e2 rfl
    simp [evD, ssn, ssc, evS, evE, evEs, evI, evC, evO, evB, evX, evXs, evDo, endO, prm_n, prm_b, prm_i, prm_l, prm_t, prm_x, prob_u, prn_u, unOb_ob, iteX, setTs, putN, blX, noDict, insAt, op_ai, op_at, op_al, op_si, op_mi, op_mt, op_mb, rp_i, rv_l, op_fd, op_md, idx_t, idx_l, slc_t, slc_l, isa_i, isa_b, isa_s, isa_t, isa_l, isa_n, b2_min, b2_max, cp_lt, cp_le, cp_gt, cp_ge, cp_eqi, cp_nei, cp_is, cp_isnot, is_nn, is_bb, is_in, is_bn, is_sn, is_tn, is_ln, ok_n, ok_b, ok_i, ok_t, ok_l, eqv_int, eqv_tup, eqv_lst, eqv_nn, eqv_bb, eqv_tn, eqv_nt, eqa_nn, eqa_nc, eqa_cn, eqa_cc, eqvs_ints, int_beq, itemsD, wipeOk, Slot.holds, Tg.slots, wipeE, bindTg, setAll, evP, prt, setPs, Ps.slots, asList, compL, cap, flatD, tu, li, ite_and, ite_or, cut_tail, at_nat, bi_len_t, bi_len_l, bi_all, bi_any, bi_tup_l, bi_tup_t, bi_lst_l, bi_lst_t, w__law_size_0, hc, e, e2]
  | false => simp [evD, ssn, ssc, evS, evE, evEs, evI, evC, evO, evB, evX, evXs, evDo, endO, prm_n, prm_b, prm_i, prm_l, prm_t, prm_x, prob_u, prn_u, unOb_ob, iteX, setTs, putN, blX, noDict, insAt, op_ai, op_at, op_al, op_si, op_mi, op_mt, op_mb, rp_i, rv_l, op_fd, op_md, idx_t, idx_l, slc_t, slc_l, isa_i, isa_b, isa_s, isa_t, isa_l, isa_n, b2_min, b2_max, cp_lt, cp_le, cp_gt, cp_ge, cp_eqi, cp_nei, cp_is, cp_isnot, is_nn, is_bb, is_in, is_bn, is_sn, is_tn, is_ln, ok_n, ok_b, ok_i, ok_t, ok_l, eqv_int, eqv_tup, eqv_lst, eqv_nn, eqv_bb, eqv_tn, eqv_nt, eqa_nn, eqa_nc, eqa_cn, eqa_cc, eqvs_ints, int_beq, itemsD, wipeOk, Slot.holds, Tg.slots, wipeE, bindTg, setAll, evP, prt, setPs, Ps.slots, asList, compL, cap, flatD, tu, li, ite_and, ite_or, cut_tail, at_nat, bi_len_t, bi_len_l, bi_all, bi_any, bi_tup_l, bi_tup_t, bi_lst_l, bi_lst_t, w__law_size_0, hc, e]
theorem sz_at (k : Nat) (c : Dc) (hc : c.Ok) (xs : List Int) (hb : Bys xs) (n : Nat) (s3 : Slot) : evSs tx.C (G (k + 2)) w__law_size_0 [.cl c.d, .cl (tu xs), .cl (ni n), s3] = if vld c (xs.take n) = true then .ret (.tuple [ni n, .int (valF (xs.take n))]) else .next [.cl c.d, .cl (tu xs), .cl (ni n), s3] := by
  have hcut : cutD (xs.map PyData.int) none (some (n : Int)) = (xs.take n).map PyData.int := by
    rw [cut_to _ (by omega), Int.toNat_natCast, List.map_take]
  have e := s_lvalid k c hc (xs.take n) (bys_take hb n)
  refine sz_turn (G (k + 2)) c.d (xs.map PyData.int) _ n (valF (xs.take n)) (vld c (xs.take n)) s3 hcut e fun hv => ?_
  have hl := vld_len hv
  have hne := vld_ne hv
  rw [← vld_lval hv]
  generalize xs.take n = row at *
  cases row with
  | nil => exact absurd rfl hne
  | cons b r => exact s_lval (k + 1) b r (by rw [List.length_cons] at hl; omega)
theorem sz_loop (k : Nat) (c : Dc) (hc : c.Ok) (xs : List Int) (hb : Bys xs) (s3 : Slot) : ∀ (m a : Nat) (s2 : Slot),
    (∃ s2', (∀ j, a ≤ j → j < a + m → vld c (xs.take j) = false) ∧ forL (evSs tx.C (G (k + 2)) w__law_size_0) (.name 2) ((List.range' a m).map ni) [.cl c.d, .cl (tu xs), s2, s3] = .next [.cl c.d, .cl (tu xs), s2', s3]) ∨
    (∃ j, a ≤ j ∧ j < a + m ∧ vld c (xs.take j) = true ∧ (∀ i, a ≤ i → i < j → vld c (xs.take i) = false) ∧ forL (evSs tx.C (G (k + 2)) w__law_size_0) (.name 2) ((List.range' a m).map ni) [.cl c.d, .cl (tu xs), s2, s3] = .ret (.tuple [ni j, .int (valF (xs.take j))]))
  | 0, a, s2 => .inl ⟨s2, fun j h1 h2 => by omega, rfl⟩
  | m + 1, a, s2 => by
    have t := sz_at k c hc xs hb a s3
    have hf : ∀ o, evSs tx.C (G (k + 2)) w__law_size_0 [.cl c.d, .cl (tu xs), .cl (ni a), s3] = o → forL (evSs tx.C (G (k + 2)) w__law_size_0) (.name 2) ((List.range' a (m + 1)).map ni) [.cl c.d, .cl (tu xs), s2, s3] = o.turn (forL (evSs tx.C (G (k + 2)) w__law_size_0) (.name 2) ((List.range' (a + 1) m).map ni)) := by
      intro o ho
      rw [List.range'_succ, List.map_cons, flc]
      exact congrArg (fun o => Out.turn (forL (evSs tx.C (G (k + 2)) w__law_size_0) (.name 2) ((List.range' (a + 1) m).map ni)) o) ho
    cases hv : vld c (xs.take a) with
    | true =>
      rw [hv, if_pos rfl] at t
      exact .inr ⟨a, Nat.le_refl _, by omega, hv, fun i h1 h2 => by omega, hf _ t⟩
    | false =>
      rw [hv, if_neg (by decide)] at t
      have hf := hf _ t
      rcases sz_loop k c hc xs hb s3 m (a + 1) (.cl (ni a)) with ⟨s2', h1, h2⟩ | ⟨j, h1, h2, h3, h4, h5⟩
      · refine .inl ⟨s2', fun j g1 g2 => ?_, hf.trans h2⟩
        by_cases e : j = a
        · rw [e]; exact hv
        · exact h1 j (by omega) (by omega)
      · refine .inr ⟨j, by omega, by omega, h3, fun i g1 g2 => ?_, hf.trans h5⟩
        by_cases e : i = a
        · rw [e]; exact hv
        · exact h4 i (by omega) (by omega)
def pxE : Ex := .and (.cmp .lt (.var 2) (.bi .len (.var 1))) (.call 26 (.cons (.var 0) (.cons (.slc (.var 1) .no (.one (.op .add (.var 2) (.int 1)))) .nil)))
theorem px_no (g : Nat → List D → Rs D) (d : D) (X : List D) (n : Int) (s3 : Slot) (h : ¬ n < X.length) : evB tx.C g pxE [.cl d, .cl (.tuple X), .cl (.int n), s3] = .ok false := by
  simp [evD, ssn, ssc, evS, evE, evEs, evI, evC, evO, evB, evX, evXs, evDo, endO, prm_n, prm_b, prm_i, prm_l, prm_t, prm_x, prob_u, prn_u, unOb_ob, iteX, setTs, putN, blX, noDict, insAt, op_ai, op_at, op_al, op_si, op_mi, op_mt, op_mb, rp_i, rv_l, op_fd, op_md, idx_t, idx_l, slc_t, slc_l, isa_i, isa_b, isa_s, isa_t, isa_l, isa_n, b2_min, b2_max, cp_lt, cp_le, cp_gt, cp_ge, cp_eqi, cp_nei, cp_is, cp_isnot, is_nn, is_bb, is_in, is_bn, is_sn, is_tn, is_ln, ok_n, ok_b, ok_i, ok_t, ok_l, eqv_int, eqv_tup, eqv_lst, eqv_nn, eqv_bb, eqv_tn, eqv_nt, eqa_nn, eqa_nc, eqa_cn, eqa_cc, eqvs_ints, int_beq, itemsD, wipeOk, Slot.holds, Tg.slots, wipeE, bindTg, setAll, evP, prt, setPs, Ps.slots, asList, compL, cap, flatD, tu, li, ite_and, ite_or, cut_tail, at_nat, bi_len_t, bi_len_l, bi_all, bi_any, bi_tup_l, bi_tup_t, bi_lst_l, bi_lst_t, pxE, h]
theorem px_yes (g : Nat → List D → Rs D) (d : D) (X Y : List D) (n : Int) (v : Bool) (s3 : Slot) (h : n < X.length) (hc : cutD X none (some (n + 1)) = Y) (e : g 26 [d, .tuple Y] = .ok (.bool v)) : evB tx.C g pxE [.cl d, .cl (.tuple X), .cl (.int n), s3] = .ok v := by
  simp [evD, ssn, ssc, evS, evE, evEs, evI, evC, evO, evB, evX, evXs, evDo, endO, prm_n, prm_b, prm_i, prm_l, prm_t, prm_x, prob_u, prn_u, unOb_ob, iteX, setTs, putN, blX, noDict, insAt, op_ai, op_at, op_al, op_si, op_mi, op_mt, op_mb, rp_i, rv_l, op_fd, op_md, idx_t, idx_l, slc_t, slc_l, isa_i, isa_b, isa_s, isa_t, isa_l, isa_n, b2_min, b2_max, cp_lt, cp_le, cp_gt, cp_ge, cp_eqi, cp_nei, cp_is, cp_isnot, is_nn, is_bb, is_in, is_bn, is_sn, is_tn, is_ln, ok_n, ok_b, ok_i, ok_t, ok_l, eqv_int, eqv_tup, eqv_lst, eqv_nn, eqv_bb, eqv_tn, eqv_nt, eqa_nn, eqa_nc, eqa_cn, eqa_cc, eqvs_ints, int_beq, itemsD, wipeOk, Slot.holds, Tg.slots, wipeE, bindTg, setAll, evP, prt, setPs, Ps.slots, asList, compL, cap, flatD, tu, li, ite_and, ite_or, cut_tail, at_nat, bi_len_t, bi_len_l, bi_all, bi_any, bi_tup_l, bi_tup_t, bi_lst_l, bi_lst_t, pxE, h, hc, e]
theorem px_step (g : Nat → List D → Rs D) (s0 s1 s3 : Slot) (n : Int) : evSs tx.C g w__law_size_1 [s0, s1, .cl (.int n), s3] = .next [s0, s1, .cl (.int (n + 1)), s3] := by
  simp [evD, ssn, ssc, evS, evE, evEs, evI, evC, evO, evB, evX, evXs, evDo, endO, prm_n, prm_b, prm_i, prm_l, prm_t, prm_x, prob_u, prn_u, unOb_ob, iteX, setTs, putN, blX, noDict, insAt, op_ai, op_at, op_al, op_si, op_mi, op_mt, op_mb, rp_i, rv_l, op_fd, op_md, idx_t, idx_l, slc_t, slc_l, isa_i, isa_b, isa_s, isa_t, isa_l, isa_n, b2_min, b2_max, cp_lt, cp_le, cp_gt, cp_ge, cp_eqi, cp_nei, cp_is, cp_isnot, is_nn, is_bb, is_in, is_bn, is_sn, is_tn, is_ln, ok_n, ok_b, ok_i, ok_t, ok_l, eqv_int, eqv_tup, eqv_lst, eqv_nn, eqv_bb, eqv_tn, eqv_nt, eqa_nn, eqa_nc, eqa_cn, eqa_cc, eqvs_ints, int_beq, itemsD, wipeOk, Slot.holds, Tg.slots, wipeE, bindTg, setAll, evP, prt, setPs, Ps.slots, asList, compL, cap, flatD, tu, li, ite_and, ite_or, cut_tail, at_nat, bi_len_t, bi_len_l, bi_all, bi_any, bi_tup_l, bi_tup_t, bi_lst_l, bi_lst_t, w__law_size_1]
theorem an_step (g : Nat → List D → Rs D) (s0 s1 s3 : Slot) (n : Int) : evSs tx.C g w__law_size_2 [s0, s1, .cl (.int n), s3] = .next [s0, s1, .cl (.int (n + 1)), s3] := by
  simp [evD, ssn, ssc, evS, evE, evEs, evI, evC, evO, evB, evX, evXs, evDo, endO, prm_n, prm_b, prm_i, prm_l, prm_t, prm_x, prob_u, prn_u, unOb_ob, iteX, setTs, putN, blX, noDict, insAt, op_ai, op_at, op_al, op_si, op_mi, op_mt, op_mb, rp_i, rv_l, op_fd, op_md, idx_t, idx_l, slc_t, slc_l, isa_i, isa_b, isa_s, isa_t, isa_l, isa_n, b2_min, b2_max, cp_lt, cp_le, cp_gt, cp_ge, cp_eqi, cp_nei, cp_is, cp_isnot, is_nn, is_bb, is_in, is_bn, is_sn, is_tn, is_ln, ok_n, ok_b, ok_i, ok_t, ok_l, eqv_int, eqv_tup, eqv_lst, eqv_nn, eqv_bb, eqv_tn, eqv_nt, eqa_nn, eqa_nc, eqa_cn, eqa_cc, eqvs_ints, int_beq, itemsD, wipeOk, Slot.holds, Tg.slots, wipeE, bindTg, setAll, evP, prt, setPs, Ps.slots, asList, compL, cap, flatD, tu, li, ite_and, ite_or, cut_tail, at_nat, bi_len_t, bi_len_l, bi_all, bi_any, bi_tup_l, bi_tup_t, bi_lst_l, bi_lst_t, w__law_size_2]
theorem px_loop (k : Nat) (c : Dc) (hc : c.Ok) (b : Int) (r : List Int) (hb : Bys (b :: r)) (s3 : Slot) : ∀ (m n N : Nat), 1 ≤ n → (b :: r).length ≤ n + m → m < N →
    whileL (evB tx.C (G (k + 3)) pxE) (evSs tx.C (G (k + 3)) w__law_size_1) N [.cl c.d, .cl (tu (b :: r)), .cl (ni n), s3] = .next [.cl c.d, .cl (tu (b :: r)), .cl (ni (preN c (b :: r) m n)), s3]
  | m, n, 0, _, _, h => absurd h (Nat.not_lt_zero _)
  | m, n, N + 1, h1, h5, hN => by
    by_cases hn : n < (b :: r).length
    · obtain ⟨m, rfl⟩ : ∃ x, m = x + 1 := ⟨m - 1, by omega⟩
      have hcut : cutD ((b :: r).map PyData.int) none (some ((n : Int) + 1)) = (b :: r.take n).map PyData.int := by
        rw [cut_to _ (by omega), show ((n : Int) + 1).toNat = n + 1 from by omega, ← List.map_take, List.take_succ_cons]
      have e := s_lbegins k c hc b (r.take n) (by have := bys_take hb (n + 1); rwa [List.take_succ_cons] at this)
      have ec := px_yes (G (k + 3)) c.d ((b :: r).map PyData.int) _ n _ s3 (by rw [List.length_map]; omega) hcut e
      unfold preN
      rw [List.take_succ_cons]
      cases q : beg c (b :: r.take n) with
      | false =>
        rw [q] at ec
        rw [if_neg (fun z => by cases z.2)]
        exact whileL_no ec N
      | true =>
        rw [q] at ec
        rw [if_pos ⟨hn, rfl⟩]
        exact (whileL_yes ec (px_step _ _ _ _ _)).trans (px_loop k c hc b r hb s3 m (n + 1) N (by omega) (by omega) (by omega))
    · have ec := px_no (G (k + 3)) c.d ((b :: r).map PyData.int) n s3 (by rw [List.length_map]; omega)
      have hst : preN c (b :: r) m n = n := by
        cases m with
        | zero => rfl
        | succ m => unfold preN; rw [if_neg (fun z => hn z.1)]
      rw [hst]
      exact whileL_no ec N
def anE : Ex := .and (.cmp .lt (.var 2) (.bi2 .min (.bi .len (.var 1)) (.call 23 (.cons (.idx (.var 1) (.int 0)) .nil)))) (.chain .lt .lt (.int 127) (.idx (.var 1) (.var 2)) (.int 192))
theorem an_no (g : Nat → List D → Rs D) (d b : D) (X : List D) (n a : Int) (s3 : Slot) (e : g 23 [b] = .ok (.int a)) (h : ¬ n < min ((b :: X).length : Int) a) : evB tx.C g anE [.cl d, .cl (.tuple (b :: X)), .cl (.int n), s3] = .ok false := by
  have h0 : L2.atI (b :: X) 0 = some b := at_0 ..
  generalize hX : b :: X = Y at *
  simp [evD, ssn, ssc, evS, evE, evEs, evI, evC, evO, evB, evX, evXs, evDo, endO, prm_n, prm_b, prm_i, prm_l, prm_t, prm_x, prob_u, prn_u, unOb_ob, iteX, setTs, putN, blX, noDict, insAt, op_ai, op_at, op_al, op_si, op_mi, op_mt, op_mb, rp_i, rv_l, op_fd, op_md, idx_t, idx_l, slc_t, slc_l, isa_i, isa_b, isa_s, isa_t, isa_l, isa_n, b2_min, b2_max, cp_lt, cp_le, cp_gt, cp_ge, cp_eqi, cp_nei, cp_is, cp_isnot, is_nn, is_bb, is_in, is_bn, is_sn, is_tn, is_ln, ok_n, ok_b, ok_i, ok_t, ok_l, eqv_int, eqv_tup, eqv_lst, eqv_nn, eqv_bb, eqv_tn, eqv_nt, eqa_nn, eqa_nc, eqa_cn, eqa_cc, eqvs_ints, int_beq, itemsD, wipeOk, Slot.holds, Tg.slots, wipeE, bindTg, setAll, evP, prt, setPs, Ps.slots, asList, compL, cap, flatD, tu, li, ite_and, ite_or, cut_tail, at_nat, bi_len_t, bi_len_l, bi_all, bi_any, bi_tup_l, bi_tup_t, bi_lst_l, bi_lst_t, -at_nat, anE, h0, e, h]
theorem an_yes (g : Nat → List D → Rs D) (d b : D) (X : List D) (n a x : Int) (s3 : Slot) (e : g 23 [b] = .ok (.int a)) (h : n < min ((b :: X).length : Int) a) (hx : L2.atI (b :: X) n = some (.int x)) : evB tx.C g anE [.cl d, .cl (.tuple (b :: X)), .cl (.int n), s3] = .ok (isCont x) := by
  have h0 : L2.atI (b :: X) 0 = some b := at_0 ..
  generalize hX : b :: X = Y at *
  unfold isCont
  by_cases a1 : 127 < x
  · by_cases a2 : x < 192
    · simp [evD, ssn, ssc, evS, evE, evEs, evI, evC, evO, evB, evX, evXs, evDo, endO, prm_n, prm_b, prm_i, prm_l, prm_t, prm_x, prob_u, prn_u, unOb_ob, iteX, setTs, putN, blX, noDict, insAt, op_ai, op_at, op_al, op_si, op_mi, op_mt, op_mb, rp_i, rv_l, op_fd, op_md, idx_t, idx_l, slc_t, slc_l, isa_i, isa_b, isa_s, isa_t, isa_l, isa_n, b2_min, b2_max, cp_lt, cp_le, cp_gt, cp_ge, cp_eqi, cp_nei, cp_is, cp_isnot, is_nn, is_bb, is_in, is_bn, is_sn, is_tn, is_ln, ok_n, ok_b, ok_i, ok_t, ok_l, eqv_int, eqv_tup, eqv_lst, eqv_nn, eqv_bb, eqv_tn, eqv_nt, eqa_nn, eqa_nc, eqa_cn, eqa_cc, eqvs_ints, int_beq, itemsD, wipeOk, Slot.holds, Tg.slots, wipeE, bindTg, setAll, evP, prt, setPs, Ps.slots, asList, compL, cap, flatD, tu, li, ite_and, ite_or, cut_tail, at_nat, bi_len_t, bi_len_l, bi_all, bi_any, bi_tup_l, bi_tup_t, bi_lst_l, bi_lst_t, -at_nat, anE, h0, e, h, hx, a1, a2, show 128 ≤ x from by omega, show x ≤ 191 from by omega]
    · simp [evD, ssn, ssc, evS, evE, evEs, evI, evC, evO, evB, evX, evXs, evDo, endO, prm_n, prm_b, prm_i, prm_l, prm_t, prm_x, prob_u, prn_u, unOb_ob, iteX, setTs, putN, blX, noDict, insAt, op_ai, op_at, op_al, op_si, op_mi, op_mt, op_mb, rp_i, rv_l, op_fd, op_md, idx_t, idx_l, slc_t, slc_l, isa_i, isa_b, isa_s, isa_t, isa_l, isa_n, b2_min, b2_max, cp_lt, cp_le, cp_gt, cp_ge, cp_eqi, cp_nei, cp_is, cp_isnot, is_nn, is_bb, is_in, is_bn, is_sn, is_tn, is_ln, ok_n, ok_b, ok_i, ok_t, ok_l, eqv_int, eqv_tup, eqv_lst, eqv_nn, eqv_bb, eqv_tn, eqv_nt, eqa_nn, eqa_nc, eqa_cn, eqa_cc, eqvs_ints, int_beq, itemsD, wipeOk, Slot.holds, Tg.slots, wipeE, bindTg, setAll, evP, prt, setPs, Ps.slots, asList, compL, cap, flatD, tu, li, ite_and, ite_or, cut_tail, at_nat, bi_len_t, bi_len_l, bi_all, bi_any, bi_tup_l, bi_tup_t, bi_lst_l, bi_lst_t, -at_nat, anE, h0, e, h, hx, a1, a2, show ¬ x ≤ 191 from by omega]
  · simp [evD, ssn, ssc, evS, evE, evEs, evI, evC, evO, evB, evX, evXs, evDo, endO, prm_n, prm_b, prm_i, prm_l, prm_t, prm_x, prob_u, prn_u, unOb_ob, iteX, setTs, putN, blX, noDict, insAt, op_ai, op_at, op_al, op_si, op_mi, op_mt, op_mb, rp_i, rv_l, op_fd, op_md, idx_t, idx_l, slc_t, slc_l, isa_i, isa_b, isa_s, isa_t, isa_l, isa_n, b2_min, b2_max, cp_lt, cp_le, cp_gt, cp_ge, cp_eqi, cp_nei, cp_is, cp_isnot, is_nn, is_bb, is_in, is_bn, is_sn, is_tn, is_ln, ok_n, ok_b, ok_i, ok_t, ok_l, eqv_int, eqv_tup, eqv_lst, eqv_nn, eqv_bb, eqv_tn, eqv_nt, eqa_nn, eqa_nc, eqa_cn, eqa_cc, eqvs_ints, int_beq, itemsD, wipeOk, Slot.holds, Tg.slots, wipeE, bindTg, setAll, evP, prt, setPs, Ps.slots, asList, compL, cap, flatD, tu, li, ite_and, ite_or, cut_tail, at_nat, bi_len_t, bi_len_l, bi_all, bi_any, bi_tup_l, bi_tup_t, bi_lst_l, bi_lst_t, -at_nat, anE, h0, e, h, hx, a1, show ¬ 128 ≤ x from by omega]
theorem an_loop (k : Nat) (c : Dc) (b : Int) (r : List Int) (s3 : Slot) : ∀ (m n N : Nat), 1 ≤ n → (b :: r).length ≤ n + m → m < N →
    whileL (evB tx.C (G (k + 1)) anE) (evSs tx.C (G (k + 1)) w__law_size_2) N [.cl c.d, .cl (tu (b :: r)), .cl (ni n), s3] = .next [.cl c.d, .cl (tu (b :: r)), .cl (ni (annN (b :: r) m n)), s3]
  | m, n, 0, _, _, h => absurd h (Nat.not_lt_zero _)
  | m, n, N + 1, h1, h5, hN => by
    have e := s_lann k b
    have hl : (((PyData.int b :: r.map PyData.int).length : Nat) : Int) = ((b :: r).length : Int) := by rw [List.length_cons, List.length_cons, List.length_map]
    have m2 := minS (((b :: r).length : Nat) : Int) (ann b)
    by_cases hn : (n : Int) < min (((b :: r).length : Nat) : Int) (ann b)
    · obtain ⟨m, rfl⟩ : ∃ x, m = x + 1 := ⟨m - 1, by omega⟩
      obtain ⟨x, hx⟩ : ∃ x, (b :: r)[n]? = some x := ⟨_, List.getElem?_eq_getElem (by omega)⟩
      have hat : L2.atI ((b :: r).map PyData.int) (n : Int) = some (.int x) := by
        rw [at_nat _ (by omega), Int.toNat_natCast, List.getElem?_map, hx]; rfl
      have ec := an_yes (G (k + 1)) c.d (.int b) (r.map PyData.int) n (ann b) x s3 e (by rw [hl]; exact hn) hat
      unfold annN
      rw [List.headD_cons, hx, Option.getD_some]
      cases q : isCont x with
      | false =>
        rw [q] at ec
        rw [if_neg (fun z => by cases z.2)]
        exact whileL_no ec N
      | true =>
        rw [q] at ec
        rw [if_pos ⟨hn, rfl⟩]
        exact (whileL_yes ec (an_step _ _ _ _ _)).trans (an_loop k c b r s3 m (n + 1) N (by omega) (by omega) (by omega))
    · have ec := an_no (G (k + 1)) c.d (.int b) (r.map PyData.int) n (ann b) s3 e (by rw [hl]; exact hn)
      have hst : annN (b :: r) m n = n := by
        cases m with
        | zero => rfl
        | succ m => unfold annN; rw [List.headD_cons, if_neg (fun z => hn z.1)]
      rw [hst]
      exact whileL_no ec N
def bSz (w w1 w2 : Ss) (E1 E2 : Ex) : Ss := (.cons (.for_ (.name 2) (.range2 (.int 1) (.int 5)) w)
    (.cons (.par (.cons 3 false (.idx (.var 0) (.int 3)) (.cons 2 false (.int 1) .nil)))
    (.cons (.ite (.cmp .eq (.var 3) (.str "stop"))
    (.cons (.ret (.tup (.cons (.bi .len (.var 1)) (.cons (.neg (.int 1)) .nil))))
    .nil)
    .nil)
    (.cons (.ite (.cmp .eq (.var 3) (.str "prefix"))
    (.cons (.while_ E1 w1)
    .nil)
    .nil)
    (.cons (.ite (.cmp .eq (.var 3) (.str "announced"))
    (.cons (.while_ E2 w2)
    .nil)
    .nil)
    (.cons (.ret (.tup (.cons (.var 2) (.cons (.neg (.int 1)) .nil))))
    .nil))))))
theorem sz_good (g : Nat → List D → Rs D) (w w1 w2 : Ss) (E1 E2 : Ex) (d x R : D) (l : forL (evSs tx.C g w) (.name 2) ((List.range' 1 4).map ni) [.cl d, .cl x, .no, .no] = .ret R) : evD tx.C g 4 (bSz w w1 w2 E1 E2) [d, x] = .ok R := by
  have r : rangeL 1 5 = (List.range' 1 4).map ni := rfl
  rw [← r] at l
  simp [evD, ssn, ssc, evS, evE, evEs, evI, evC, evO, evB, evX, evXs, evDo, endO, prm_n, prm_b, prm_i, prm_l, prm_t, prm_x, prob_u, prn_u, unOb_ob, iteX, setTs, putN, blX, noDict, insAt, op_ai, op_at, op_al, op_si, op_mi, op_mt, op_mb, rp_i, rv_l, op_fd, op_md, idx_t, idx_l, slc_t, slc_l, isa_i, isa_b, isa_s, isa_t, isa_l, isa_n, b2_min, b2_max, cp_lt, cp_le, cp_gt, cp_ge, cp_eqi, cp_nei, cp_is, cp_isnot, is_nn, is_bb, is_in, is_bn, is_sn, is_tn, is_ln, ok_n, ok_b, ok_i, ok_t, ok_l, eqv_int, eqv_tup, eqv_lst, eqv_nn, eqv_bb, eqv_tn, eqv_nt, eqa_nn, eqa_nc, eqa_cn, eqa_cc, eqvs_ints, int_beq, itemsD, wipeOk, Slot.holds, Tg.slots, wipeE, bindTg, setAll, evP, prt, setPs, Ps.slots, asList, compL, cap, flatD, tu, li, ite_and, ite_or, cut_tail, at_nat, bi_len_t, bi_len_l, bi_all, bi_any, bi_tup_l, bi_tup_t, bi_lst_l, bi_lst_t, bSz, l]
theorem sz_bad (g : Nat → List D → Rs D) (w w1 w2 : Ss) (E1 E2 : Ex) (a0 a1 a2 p : D) (X : List D) (s2 : Slot) (n : Int) (b1 b2 b3 : Bool) (q1 : cmpD .eq p (.str "stop") = some b1) (q2 : cmpD .eq p (.str "prefix") = some b2) (q3 : cmpD .eq p (.str "announced") = some b3)
    (l : forL (evSs tx.C g w) (.name 2) ((List.range' 1 4).map ni) [.cl (.tuple [a0, a1, a2, p]), .cl (.tuple X), .no, .no] = .next [.cl (.tuple [a0, a1, a2, p]), .cl (.tuple X), s2, .no])
    (h : (b1 = true ∧ n = X.length) ∨ (b1 = false ∧ b2 = true ∧ b3 = false ∧ whileL (evB tx.C g E1) (evSs tx.C g w1) fuel [.cl (.tuple [a0, a1, a2, p]), .cl (.tuple X), .cl (.int 1), .cl p] = .next [.cl (.tuple [a0, a1, a2, p]), .cl (.tuple X), .cl (.int n), .cl p]) ∨
      (b1 = false ∧ b2 = false ∧ b3 = true ∧ whileL (evB tx.C g E2) (evSs tx.C g w2) fuel [.cl (.tuple [a0, a1, a2, p]), .cl (.tuple X), .cl (.int 1), .cl p] = .next [.cl (.tuple [a0, a1, a2, p]), .cl (.tuple X), .cl (.int n), .cl p]) ∨ (b1 = false ∧ b2 = false ∧ b3 = false ∧ n = 1)) :
    evD tx.C g 4 (bSz w w1 w2 E1 E2) [.tuple [a0, a1, a2, p], .tuple X] = .ok (.tuple [.int n, .int (-1)]) := by
  have r : rangeL 1 5 = (List.range' 1 4).map ni := rfl
  rw [← r] at l
  rcases h with ⟨h1, h2⟩ | ⟨h1, h2, h3, h4⟩ | ⟨h1, h2, h3, h4⟩ | ⟨h1, h2, h3, h4⟩
  · subst h1 h2
    simp [evD, ssn, ssc, evS, evE, evEs, evI, evC, evO, evB, evX, evXs, evDo, endO, prm_n, prm_b, prm_i, prm_l, prm_t, prm_x, prob_u, prn_u, unOb_ob, iteX, setTs, putN, blX, noDict, insAt, op_ai, op_at, op_al, op_si, op_mi, op_mt, op_mb, rp_i, rv_l, op_fd, op_md, idx_t, idx_l, slc_t, slc_l, isa_i, isa_b, isa_s, isa_t, isa_l, isa_n, b2_min, b2_max, cp_lt, cp_le, cp_gt, cp_ge, cp_eqi, cp_nei, cp_is, cp_isnot, is_nn, is_bb, is_in, is_bn, is_sn, is_tn, is_ln, ok_n, ok_b, ok_i, ok_t, ok_l, eqv_int, eqv_tup, eqv_lst, eqv_nn, eqv_bb, eqv_tn, eqv_nt, eqa_nn, eqa_nc, eqa_cn, eqa_cc, eqvs_ints, int_beq, itemsD, wipeOk, Slot.holds, Tg.slots, wipeE, bindTg, setAll, evP, prt, setPs, Ps.slots, asList, compL, cap, flatD, tu, li, ite_and, ite_or, cut_tail, at_nat, bi_len_t, bi_len_l, bi_all, bi_any, bi_tup_l, bi_tup_t, bi_lst_l, bi_lst_t, -at_nat, bSz, l, at4_3, q1]
  · subst h1 h2 h3
    simp [evD, ssn, ssc, evS, evE, evEs, evI, evC, evO, evB, evX, evXs, evDo, endO, prm_n, prm_b, prm_i, prm_l, prm_t, prm_x, prob_u, prn_u, unOb_ob, iteX, setTs, putN, blX, noDict, insAt, op_ai, op_at, op_al, op_si, op_mi, op_mt, op_mb, rp_i, rv_l, op_fd, op_md, idx_t, idx_l, slc_t, slc_l, isa_i, isa_b, isa_s, isa_t, isa_l, isa_n, b2_min, b2_max, cp_lt, cp_le, cp_gt, cp_ge, cp_eqi, cp_nei, cp_is, cp_isnot, is_nn, is_bb, is_in, is_bn, is_sn, is_tn, is_ln, ok_n, ok_b, ok_i, ok_t, ok_l, eqv_int, eqv_tup, eqv_lst, eqv_nn, eqv_bb, eqv_tn, eqv_nt, eqa_nn, eqa_nc, eqa_cn, eqa_cc, eqvs_ints, int_beq, itemsD, wipeOk, Slot.holds, Tg.slots, wipeE, bindTg, setAll, evP, prt, setPs, Ps.slots, asList, compL, cap, flatD, tu, li, ite_and, ite_or, cut_tail, at_nat, bi_len_t, bi_len_l, bi_all, bi_any, bi_tup_l, bi_tup_t, bi_lst_l, bi_lst_t, -at_nat, bSz, l, at4_3, q1, q2, q3, h4]
  · subst h1 h2 h3
    simp [evD, ssn, ssc, evS, evE, evEs, evI, evC, evO, evB, evX, evXs, evDo, endO, prm_n, prm_b, prm_i, prm_l, prm_t, prm_x, prob_u, prn_u, unOb_ob, iteX, setTs, putN, blX, noDict, insAt, op_ai, op_at, op_al, op_si, op_mi, op_mt, op_mb, rp_i, rv_l, op_fd, op_md, idx_t, idx_l, slc_t, slc_l, isa_i, isa_b, isa_s, isa_t, isa_l, isa_n, b2_min, b2_max, cp_lt, cp_le, cp_gt, cp_ge, cp_eqi, cp_nei, cp_is, cp_isnot, is_nn, is_bb, is_in, is_bn, is_sn, is_tn, is_ln, ok_n, ok_b, ok_i, ok_t, ok_l, eqv_int, eqv_tup, eqv_lst, eqv_nn, eqv_bb, eqv_tn, eqv_nt, eqa_nn, eqa_nc, eqa_cn, eqa_cc, eqvs_ints, int_beq, itemsD, wipeOk, Slot.holds, Tg.slots, wipeE, bindTg, setAll, evP, prt, setPs, Ps.slots, asList, compL, cap, flatD, tu, li, ite_and, ite_or, cut_tail, at_nat, bi_len_t, bi_len_l, bi_all, bi_any, bi_tup_l, bi_tup_t, bi_lst_l, bi_lst_t, -at_nat, bSz, l, at4_3, q1, q2, q3, h4]
  · subst h1 h2 h3 h4
    simp [evD, ssn, ssc, evS, evE, evEs, evI, evC, evO, evB, evX, evXs, evDo, endO, prm_n, prm_b, prm_i, prm_l, prm_t, prm_x, prob_u, prn_u, unOb_ob, iteX, setTs, putN, blX, noDict, insAt, op_ai, op_at, op_al, op_si, op_mi, op_mt, op_mb, rp_i, rv_l, op_fd, op_md, idx_t, idx_l, slc_t, slc_l, isa_i, isa_b, isa_s, isa_t, isa_l, isa_n, b2_min, b2_max, cp_lt, cp_le, cp_gt, cp_ge, cp_eqi, cp_nei, cp_is, cp_isnot, is_nn, is_bb, is_in, is_bn, is_sn, is_tn, is_ln, ok_n, ok_b, ok_i, ok_t, ok_l, eqv_int, eqv_tup, eqv_lst, eqv_nn, eqv_bb, eqv_tn, eqv_nt, eqa_nn, eqa_nc, eqa_cn, eqa_cc, eqvs_ints, int_beq, itemsD, wipeOk, Slot.holds, Tg.slots, wipeE, bindTg, setAll, evP, prt, setPs, Ps.slots, asList, compL, cap, flatD, tu, li, ite_and, ite_or, cut_tail, at_nat, bi_len_t, bi_len_l, bi_all, bi_any, bi_tup_l, bi_tup_t, bi_lst_l, bi_lst_t, -at_nat, bSz, l, at4_3, q1, q2, q3]
theorem s_lsize (k : Nat) (c : Dc) (hc : c.Ok) (b : Int) (r : List Int) (hb : Bys (b :: r)) (hl : (b :: r).length ≤ 60) : G (k + 4) 89 [c.d, tu (b :: r)] = .ok (.tuple [ni (fsz c (b :: r)), .int (fva c (b :: r))]) := by
  rw [g__law_size]
  have e0 : b__law_size = bSz w__law_size_0 w__law_size_1 w__law_size_2 pxE anE := rfl
  rw [e0]
  obtain ⟨g0, g4, gl⟩ := gsz_range c (b :: r)
  rcases sz_loop (k + 1) c hc (b :: r) hb .no 4 1 .no with ⟨s2', h1, h2⟩ | ⟨j, h1, h2, h3, h4, h5⟩
  · have hg : ¬ 0 < gsz c (b :: r) := fun z => by
      have v := vld_gsz z
      rw [h1 (gsz c (b :: r)).toNat (by omega) (by omega)] at v
      cases v
    obtain ⟨f1, f2⟩ := fva_bad hg
    rw [f1, f2]
    have p1 := px_loop k c hc b r hb (.cl (.str c.po.s)) 60 1 fuel (by omega) (by omega) (by show 60 < 2000; omega)
    have p2 := an_loop (k + 2) c b r (.cl (.str c.po.s)) 60 1 fuel (by omega) (by omega) (by show 60 < 2000; omega)
    have q1 : cmpD .eq (.str c.po.s) (.str "stop") = some (decide (c.po = .stop)) := by cases c.po <;> kernel_rfl
    have q2 : cmpD .eq (.str c.po.s) (.str "prefix") = some (decide (c.po = .pre)) := by cases c.po <;> kernel_rfl
    have q3 : cmpD .eq (.str c.po.s) (.str "announced") = some (decide (c.po = .announced)) := by cases c.po <;> kernel_rfl
    refine sz_bad (G (k + 3)) w__law_size_0 w__law_size_1 w__law_size_2 pxE anE (.int c.L) (.str c.ov.s) (.bool c.su) (.str c.po.s) ((b :: r).map PyData.int) s2' _ _ _ _ q1 q2 q3 h2 ?_
    unfold bsz
    cases hp : c.po with
    | stop => exact .inl ⟨rfl, by rw [List.length_map]⟩
    | pre => rw [hp] at p1; exact .inr (.inl ⟨rfl, rfl, rfl, by rw [show c.d = .tuple [.int c.L, .str c.ov.s, .bool c.su, .str Po.pre.s] from by unfold Dc.d; rw [hp]] at p1; exact p1⟩)
    | announced => rw [hp] at p2; exact .inr (.inr (.inl ⟨rfl, rfl, rfl, by rw [show c.d = .tuple [.int c.L, .str c.ov.s, .bool c.su, .str Po.announced.s] from by unfold Dc.d; rw [hp]] at p2; exact p2⟩))
    | byte => exact .inr (.inr (.inr ⟨rfl, rfl, rfl, rfl⟩))
    | run => exact .inr (.inr (.inr ⟨rfl, rfl, rfl, rfl⟩))
    | skip => exact .inr (.inr (.inr ⟨rfl, rfl, rfl, rfl⟩))
    | keep => exact .inr (.inr (.inr ⟨rfl, rfl, rfl, rfl⟩))
  · obtain ⟨v1, v2⟩ := vld_take h1 h3
    obtain ⟨f1, f2, f3⟩ := fva_good v1
    have hjl : j ≤ (b :: r).length := by
      refine Nat.le_of_not_lt fun z => ?_
      have := h4 (b :: r).length (by simp) z
      rw [List.take_length] at this
      rw [List.take_of_length_le (by omega)] at h3
      rw [this] at h3
      cases h3
    have hj : fsz c (b :: r) = j := by
      rw [f2, v2, List.length_take, Nat.min_eq_left hjl, Int.toNat_natCast]
    rw [f1, hj]
    exact sz_good (G (k + 3)) _ _ _ _ _ c.d (tu (b :: r)) _ h5
theorem pcA_turn (g : Nat → List D → Rs D) (d : D) (X Y acc : List D) (p s v : Int) (s4 s5 : Slot) (hc : cutD X (some p) none = Y) (e : g 89 [d, .tuple Y] = .ok (.tuple [.int s, .int v])) (ha : acc.length < 16777216) : evSs tx.C g w__law_pieces_0 [.cl d, .cl (.tuple X), .ow acc, .cl (.int p), s4, s5] = .next [.cl d, .cl (.tuple X), .ow (acc ++ [.tuple [.int p, .int s, .int v]]), .cl (.int (p + s)), .cl (.int s), .cl (.int v)] := by
  simp [evD, ssn, ssc, evS, evE, evEs, evI, evC, evO, evB, evX, evXs, evDo, endO, prm_n, prm_b, prm_i, prm_l, prm_t, prm_x, prob_u, prn_u, unOb_ob, iteX, setTs, putN, blX, noDict, insAt, op_ai, op_at, op_al, op_si, op_mi, op_mt, op_mb, rp_i, rv_l, op_fd, op_md, idx_t, idx_l, slc_t, slc_l, isa_i, isa_b, isa_s, isa_t, isa_l, isa_n, b2_min, b2_max, cp_lt, cp_le, cp_gt, cp_ge, cp_eqi, cp_nei, cp_is, cp_isnot, is_nn, is_bb, is_in, is_bn, is_sn, is_tn, is_ln, ok_n, ok_b, ok_i, ok_t, ok_l, eqv_int, eqv_tup, eqv_lst, eqv_nn, eqv_bb, eqv_tn, eqv_nt, eqa_nn, eqa_nc, eqa_cn, eqa_cc, eqvs_ints, int_beq, itemsD, wipeOk, Slot.holds, Tg.slots, wipeE, bindTg, setAll, evP, prt, setPs, Ps.slots, asList, compL, cap, flatD, tu, li, ite_and, ite_or, cut_tail, at_nat, bi_len_t, bi_len_l, bi_all, bi_any, bi_tup_l, bi_tup_t, bi_lst_l, bi_lst_t, w__law_pieces_0, hc, e, ha]
def plA : Ex := .cmp .lt (.var 3) (.bi .len (.var 1))
theorem plA_ev (g : Nat → List D → Rs D) (X : List D) (p : Int) (s0 s2 s4 s5 : Slot) : evB tx.C g plA [s0, .cl (.tuple X), s2, .cl (.int p), s4, s5] = .ok (decide (p < X.length)) := by
  simp [evD, ssn, ssc, evS, evE, evEs, evI, evC, evO, evB, evX, evXs, evDo, endO, prm_n, prm_b, prm_i, prm_l, prm_t, prm_x, prob_u, prn_u, unOb_ob, iteX, setTs, putN, blX, noDict, insAt, op_ai, op_at, op_al, op_si, op_mi, op_mt, op_mb, rp_i, rv_l, op_fd, op_md, idx_t, idx_l, slc_t, slc_l, isa_i, isa_b, isa_s, isa_t, isa_l, isa_n, b2_min, b2_max, cp_lt, cp_le, cp_gt, cp_ge, cp_eqi, cp_nei, cp_is, cp_isnot, is_nn, is_bb, is_in, is_bn, is_sn, is_tn, is_ln, ok_n, ok_b, ok_i, ok_t, ok_l, eqv_int, eqv_tup, eqv_lst, eqv_nn, eqv_bb, eqv_tn, eqv_nt, eqa_nn, eqa_nc, eqa_cn, eqa_cc, eqvs_ints, int_beq, itemsD, wipeOk, Slot.holds, Tg.slots, wipeE, bindTg, setAll, evP, prt, setPs, Ps.slots, asList, compL, cap, flatD, tu, li, ite_and, ite_or, cut_tail, at_nat, bi_len_t, bi_len_l, bi_all, bi_any, bi_tup_l, bi_tup_t, bi_lst_l, bi_lst_t, plA]
theorem pcA_loop (k : Nat) (c : Dc) (hc : c.Ok) (xs : List Int) (hb : Bys xs) (hl60 : xs.length ≤ 60) {m : Nat} : ∀ (ys : List Int) (p N : Nat) (acc : List (Int × Int × Int)) (s4 s5 : Slot), ys.length ≤ m → xs.drop p = ys → p ≤ xs.length → ys.length < N → acc.length + ys.length ≤ 1000 →
    ∃ s4' s5', whileL (evB tx.C (G (k + 4)) plA) (evSs tx.C (G (k + 4)) w__law_pieces_0) N [.cl c.d, .cl (tu xs), .ow (acc.map trD), .cl (.int p), s4, s5] = .next [.cl c.d, .cl (tu xs), .ow ((acc ++ pcs c m p ys).map trD), .cl (.int xs.length), s4', s5'] := by
  refine piece_ind c (fun p N acc s4 s5 _ he hp hN _ => ?_) fun ys hy ih p N acc s4 s5 hm he hp hN hl => ?_
  · have hpe : p = xs.length := by have := List.drop_eq_nil_iff.mp he; omega
    obtain ⟨N', rfl⟩ : ∃ n, N = n + 1 := ⟨N - 1, by omega⟩
    have ec := plA_ev (G (k + 4)) (xs.map PyData.int) p (.cl c.d) (.ow (acc.map trD)) s4 s5
    rw [List.length_map, decide_eq_false (by omega)] at ec
    rw [pcs_nil', List.append_nil, whileL_no ec, hpe]
    exact ⟨_, _, rfl⟩
  · have hyl : ys.length = xs.length - p := by rw [← he, List.length_drop]
    have l1 := List.length_pos_iff.mpr hy
    have f := fsz_range c ys hy
    obtain ⟨N', rfl⟩ : ∃ n, N = n + 1 := ⟨N - 1, by omega⟩
    have ec := plA_ev (G (k + 4)) (xs.map PyData.int) p (.cl c.d) (.ow (acc.map trD)) s4 s5
    rw [List.length_map, decide_eq_true (by omega)] at ec
    have hyb : Bys ys := by rw [← he]; exact bys_drop hb p
    have hcut : cutD (xs.map PyData.int) (some (p : Int)) none = ys.map PyData.int := by
      rw [cut_from _ (by omega), Int.toNat_natCast, ← List.map_drop, he]
    have es : G (k + 4) 89 [c.d, tu ys] = .ok (.tuple [ni (fsz c ys), .int (fva c ys)]) := by
      clear ih ec hm hcut he l1 f
      cases ys with
      | nil => exact absurd rfl hy
      | cons b r => exact s_lsize k c hc b r hyb (by omega)
    have t := pcA_turn (G (k + 4)) c.d (xs.map PyData.int) (ys.map PyData.int) (acc.map trD) p (fsz c ys) (fva c ys) s4 s5 hcut es (by rw [List.length_map]; omega)
    obtain ⟨s4', s5', i⟩ := ih (p + fsz c ys) N' (acc ++ [((p : Int), (fsz c ys : Int), fva c ys)]) (.cl (.int (fsz c ys))) (.cl (.int (fva c ys))) (by rw [List.length_drop]; omega) (by rw [← he, List.drop_drop]) (by omega) (by rw [List.length_drop]; omega) (by rw [List.length_drop, List.length_append]; simp only [List.length_cons, List.length_nil]; omega)
    refine ⟨s4', s5', ?_⟩
    rw [whileL_yes ec t, pcs_step c _ hy hm]
    rw [List.append_assoc, List.map_append, List.map_singleton, show ((p + fsz c ys : Nat) : Int) = (p : Int) + (fsz c ys : Int) from by omega] at i
    exact i
def bPsA (E : Ex) (w : Ss) : Ss := (.cons (.par (.cons 2 true (.lst .nil) (.cons 3 false (.int 0) .nil))) (.cons (.while_ E w) (.cons (.ret (.own 2)) .nil)))
theorem psA0 (g : Nat → List D → Rs D) (E : Ex) (w : Ss) (d x : D) (out : List D) (s1 s3 s4 s5 : Slot) (l : whileL (evB tx.C g E) (evSs tx.C g w) fuel [.cl d, .cl x, .ow [], .cl (.int 0), .no, .no] = .next [.cl d, s1, .ow out, s3, s4, s5]) :
    evD tx.C g 6 (bPsA E w) [d, x] = .ok (.list out) := by
  simp [evD, ssn, ssc, evS, evE, evEs, evI, evC, evO, evB, evX, evXs, evDo, endO, prm_n, prm_b, prm_i, prm_l, prm_t, prm_x, prob_u, prn_u, unOb_ob, iteX, setTs, putN, blX, noDict, insAt, op_ai, op_at, op_al, op_si, op_mi, op_mt, op_mb, rp_i, rv_l, op_fd, op_md, idx_t, idx_l, slc_t, slc_l, isa_i, isa_b, isa_s, isa_t, isa_l, isa_n, b2_min, b2_max, cp_lt, cp_le, cp_gt, cp_ge, cp_eqi, cp_nei, cp_is, cp_isnot, is_nn, is_bb, is_in, is_bn, is_sn, is_tn, is_ln, ok_n, ok_b, ok_i, ok_t, ok_l, eqv_int, eqv_tup, eqv_lst, eqv_nn, eqv_bb, eqv_tn, eqv_nt, eqa_nn, eqa_nc, eqa_cn, eqa_cc, eqvs_ints, int_beq, itemsD, wipeOk, Slot.holds, Tg.slots, wipeE, bindTg, setAll, evP, prt, setPs, Ps.slots, asList, compL, cap, flatD, tu, li, ite_and, ite_or, cut_tail, at_nat, bi_len_t, bi_len_l, bi_all, bi_any, bi_tup_l, bi_tup_t, bi_lst_l, bi_lst_t, bPsA, l]
theorem s_lpieces (k : Nat) (c : Dc) (hc : c.Ok) (xs : List Int) (hb : Bys xs) (hl : xs.length ≤ 60) : G (k + 5) 56 [c.d, tu xs] = .ok (.list ((pcs c 60 0 xs).map trD)) := by
  rw [g__law_pieces]
  obtain ⟨s4, s5, l⟩ := pcA_loop k c hc xs hb hl (m := 60) xs 0 fuel [] .no .no hl List.drop_zero (Nat.zero_le _) (by show xs.length < 2000; omega) (by simp; omega)
  rw [List.nil_append, List.map_nil, show ((0 : Nat) : Int) = 0 from rfl] at l
  exact psA0 (G (k + 4)) plA w__law_pieces_0 c.d (tu xs) _ _ _ s4 s5 l
/-- slots: 0 decoder, 1 string, 2 found, 3 before, 4 place, 5 size, 6 value -/
theorem itA_good (g : Nat → List D → Rs D) (s0 s1 s3 : Slot) (acc : List D) (p s v : D) (n : Int) (hv : v = .int n) (h : 0 ≤ n) (ha : acc.length < 16777216) : evSs tx.C g w__law_items_0 [s0, s1, .ow acc, s3, .cl p, .cl s, .cl v] = .next [s0, s1, .ow (acc ++ [v]), .cl v, .cl p, .cl s, .cl v] := by
  subst hv
  simp [evD, ssn, ssc, evS, evE, evEs, evI, evC, evO, evB, evX, evXs, evDo, endO, prm_n, prm_b, prm_i, prm_l, prm_t, prm_x, prob_u, prn_u, unOb_ob, iteX, setTs, putN, blX, noDict, insAt, op_ai, op_at, op_al, op_si, op_mi, op_mt, op_mb, rp_i, rv_l, op_fd, op_md, idx_t, idx_l, slc_t, slc_l, isa_i, isa_b, isa_s, isa_t, isa_l, isa_n, b2_min, b2_max, cp_lt, cp_le, cp_gt, cp_ge, cp_eqi, cp_nei, cp_is, cp_isnot, is_nn, is_bb, is_in, is_bn, is_sn, is_tn, is_ln, ok_n, ok_b, ok_i, ok_t, ok_l, eqv_int, eqv_tup, eqv_lst, eqv_nn, eqv_bb, eqv_tn, eqv_nt, eqa_nn, eqa_nc, eqa_cn, eqa_cc, eqvs_ints, int_beq, itemsD, wipeOk, Slot.holds, Tg.slots, wipeE, bindTg, setAll, evP, prt, setPs, Ps.slots, asList, compL, cap, flatD, tu, li, ite_and, ite_or, cut_tail, at_nat, bi_len_t, bi_len_l, bi_all, bi_any, bi_tup_l, bi_tup_t, bi_lst_l, bi_lst_t, w__law_items_0, h, ha]
theorem itA_bad (g : Nat → List D → Rs D) (a0 a1 a2 : D) (po : Po) (X acc : List D) (p b bf : Int) (s : D) (hx : L2.atI X p = some (.int b)) (ha : acc.length < 16777216) : evSs tx.C g w__law_items_0 [.cl (.tuple [a0, a1, a2, .str po.s]), .cl (.tuple X), .ow acc, .cl (.int bf), .cl (.int p), .cl s, .cl (.int (-1))] = .next [.cl (.tuple [a0, a1, a2, .str po.s]), .cl (.tuple X), .ow (acc ++ (bitems po b (decide (bf < 0))).map PyData.int), .cl (.int (-1)), .cl (.int p), .cl s, .cl (.int (-1))] := by
  have q1 : cmpD .ne (.str po.s) (.str "skip") = some (!decide (po = .skip)) := by cases po <;> kernel_rfl
  have q2 : cmpD .ne (.str po.s) (.str "run") = some (!decide (po = .run)) := by cases po <;> kernel_rfl
  have q3 : cmpD .eq (.str po.s) (.str "keep") = some (decide (po = .keep)) := by cases po <;> kernel_rfl
  by_cases hb : 0 ≤ bf
  · have hb' : ¬ bf < 0 := by omega
    cases po <;> simp [evD, ssn, ssc, evS, evE, evEs, evI, evC, evO, evB, evX, evXs, evDo, endO, prm_n, prm_b, prm_i, prm_l, prm_t, prm_x, prob_u, prn_u, unOb_ob, iteX, setTs, putN, blX, noDict, insAt, op_ai, op_at, op_al, op_si, op_mi, op_mt, op_mb, rp_i, rv_l, op_fd, op_md, idx_t, idx_l, slc_t, slc_l, isa_i, isa_b, isa_s, isa_t, isa_l, isa_n, b2_min, b2_max, cp_lt, cp_le, cp_gt, cp_ge, cp_eqi, cp_nei, cp_is, cp_isnot, is_nn, is_bb, is_in, is_bn, is_sn, is_tn, is_ln, ok_n, ok_b, ok_i, ok_t, ok_l, eqv_int, eqv_tup, eqv_lst, eqv_nn, eqv_bb, eqv_tn, eqv_nt, eqa_nn, eqa_nc, eqa_cn, eqa_cc, eqvs_ints, int_beq, itemsD, wipeOk, Slot.holds, Tg.slots, wipeE, bindTg, setAll, evP, prt, setPs, Ps.slots, asList, compL, cap, flatD, tu, li, ite_and, ite_or, cut_tail, at_nat, bi_len_t, bi_len_l, bi_all, bi_any, bi_tup_l, bi_tup_t, bi_lst_l, bi_lst_t, -at_nat, at4_3, w__law_items_0, ha, hx, q1, q2, q3, bitems, hb, hb']
  · have hb' : bf < 0 := by omega
    cases po <;> simp [evD, ssn, ssc, evS, evE, evEs, evI, evC, evO, evB, evX, evXs, evDo, endO, prm_n, prm_b, prm_i, prm_l, prm_t, prm_x, prob_u, prn_u, unOb_ob, iteX, setTs, putN, blX, noDict, insAt, op_ai, op_at, op_al, op_si, op_mi, op_mt, op_mb, rp_i, rv_l, op_fd, op_md, idx_t, idx_l, slc_t, slc_l, isa_i, isa_b, isa_s, isa_t, isa_l, isa_n, b2_min, b2_max, cp_lt, cp_le, cp_gt, cp_ge, cp_eqi, cp_nei, cp_is, cp_isnot, is_nn, is_bb, is_in, is_bn, is_sn, is_tn, is_ln, ok_n, ok_b, ok_i, ok_t, ok_l, eqv_int, eqv_tup, eqv_lst, eqv_nn, eqv_bb, eqv_tn, eqv_nt, eqa_nn, eqa_nc, eqa_cn, eqa_cc, eqvs_ints, int_beq, itemsD, wipeOk, Slot.holds, Tg.slots, wipeE, bindTg, setAll, evP, prt, setPs, Ps.slots, asList, compL, cap, flatD, tu, li, ite_and, ite_or, cut_tail, at_nat, bi_len_t, bi_len_l, bi_all, bi_any, bi_tup_l, bi_tup_t, bi_lst_l, bi_lst_t, -at_nat, at4_3, w__law_items_0, ha, hx, q1, q2, q3, bitems, hb, hb']
theorem itA_loop (g : Nat → List D → Rs D) (c : Dc) (xs : List Int) : ∀ (ts : List (Int × Int × Int)) (acc : List Int) (bf : Int) (s4 s5 s6 : Slot), (∀ t ∈ ts, (0 ≤ t.1 ∧ t.1 < xs.length) ∧ (t.2.2 = -1 ∨ 0 ≤ t.2.2)) → acc.length + ts.length ≤ 1000 →
    ∃ s3' s4' s5' s6', forL (evSs tx.C g w__law_items_0) (.tup [4, 5, 6]) (ts.map trD) [.cl c.d, .cl (tu xs), .ow (acc.map PyData.int), .cl (.int bf), s4, s5, s6] = .next [.cl c.d, .cl (tu xs), .ow ((ts.foldl (stepI c xs) (acc, decide (bf < 0))).1.map PyData.int), s3', s4', s5', s6']
  | [], acc, bf, s4, s5, s6, _, _ => ⟨_, s4, s5, s6, rfl⟩
  | t :: ts, acc, bf, s4, s5, s6, h, hl => by
    obtain ⟨p, s, v⟩ := t
    obtain ⟨⟨h0, h1⟩, hv⟩ := h _ List.mem_cons_self
    have hr := fun t ht => h t (List.mem_cons_of_mem _ ht)
    dsimp only at h0 h1 hv
    simp only [List.length_cons] at hl
    rw [List.map_cons, flc]
    simp only [trD, bindTg, setAll, List.length_cons, List.length_nil, if_true, List.set_cons_succ, List.set_cons_zero, List.foldl_cons]
    rcases hv with hv | hv
    · subst hv
      have hlt : p.toNat < xs.length := by omega
      obtain ⟨b, hb⟩ : ∃ b, xs[p.toNat]? = some b := ⟨_, List.getElem?_eq_getElem hlt⟩
      have hat : L2.atI (xs.map PyData.int) p = some (.int b) := by rw [at_nat _ h0, List.getElem?_map, hb]; rfl
      have bl := bitems_len c.po b (decide (bf < 0))
      have et := itA_bad g (.int c.L) (.str c.ov.s) (.bool c.su) c.po (xs.map PyData.int) (acc.map PyData.int) p b bf (.int s) hat (by rw [List.length_map]; omega)
      have hs : stepI c xs (acc, decide (bf < 0)) (p, s, -1) = (acc ++ bitems c.po b (decide (bf < 0)), true) := by
        unfold stepI
        simp [hb]
      obtain ⟨a1, a2, a3, a4, ih⟩ := itA_loop g c xs ts (acc ++ bitems c.po b (decide (bf < 0))) (-1) (.cl (.int p)) (.cl (.int s)) (.cl (.int (-1))) hr (by rw [List.length_append]; omega)
      refine ⟨a1, a2, a3, a4, ?_⟩
      rw [show decide ((-1 : Int) < 0) = true from rfl, List.map_append] at ih
      rw [hs, ← ih]
      exact congrArg (fun o => Out.turn (forL (evSs tx.C g w__law_items_0) (.tup [4, 5, 6]) (ts.map trD)) o) et
    · have et := itA_good g (.cl c.d) (.cl (tu xs)) (.cl (.int bf)) (acc.map PyData.int) (.int p) (.int s) (.int v) v rfl hv (by rw [List.length_map]; omega)
      have hs : stepI c xs (acc, decide (bf < 0)) (p, s, v) = (acc ++ [v], false) := by
        unfold stepI
        simp [show ¬ v = -1 from by omega]
      obtain ⟨a1, a2, a3, a4, ih⟩ := itA_loop g c xs ts (acc ++ [v]) v (.cl (.int p)) (.cl (.int s)) (.cl (.int v)) hr (by rw [List.length_append]; simp only [List.length_cons, List.length_nil]; omega)
      refine ⟨a1, a2, a3, a4, ?_⟩
      rw [decide_eq_false (show ¬ v < 0 by omega), List.map_append] at ih
      rw [hs, ← ih]
      exact congrArg (fun o => Out.turn (forL (evSs tx.C g w__law_items_0) (.tup [4, 5, 6]) (ts.map trD)) o) et
theorem lits0 (g : Nat → List D → Rs D) (d x : D) (T out : List D) (s3 s4 s5 s6 : Slot) (e : g 56 [d, x] = .ok (.list T))
    (l : forL (evSs tx.C g w__law_items_0) (.tup [4, 5, 6]) T [.cl d, .cl x, .ow [], .cl (.int 0), .no, .no, .no] = .next [.cl d, .cl x, .ow out, s3, s4, s5, s6]) :
    evD tx.C g 7 b__law_items [d, x] = .ok (.list out) := by
  simp [evD, ssn, ssc, evS, evE, evEs, evI, evC, evO, evB, evX, evXs, evDo, endO, prm_n, prm_b, prm_i, prm_l, prm_t, prm_x, prob_u, prn_u, unOb_ob, iteX, setTs, putN, blX, noDict, insAt, op_ai, op_at, op_al, op_si, op_mi, op_mt, op_mb, rp_i, rv_l, op_fd, op_md, idx_t, idx_l, slc_t, slc_l, isa_i, isa_b, isa_s, isa_t, isa_l, isa_n, b2_min, b2_max, cp_lt, cp_le, cp_gt, cp_ge, cp_eqi, cp_nei, cp_is, cp_isnot, is_nn, is_bb, is_in, is_bn, is_sn, is_tn, is_ln, ok_n, ok_b, ok_i, ok_t, ok_l, eqv_int, eqv_tup, eqv_lst, eqv_nn, eqv_bb, eqv_tn, eqv_nt, eqa_nn, eqa_nc, eqa_cn, eqa_cc, eqvs_ints, int_beq, itemsD, wipeOk, Slot.holds, Tg.slots, wipeE, bindTg, setAll, evP, prt, setPs, Ps.slots, asList, compL, cap, flatD, tu, li, ite_and, ite_or, cut_tail, at_nat, bi_len_t, bi_len_l, bi_all, bi_any, bi_tup_l, bi_tup_t, bi_lst_l, bi_lst_t, b__law_items, e, l]
theorem pcs_val (c : Dc) {xs : List Int} (hb : Bys xs) (hl : xs.length ≤ 60) : ∀ t ∈ pcs c 60 0 xs, (0 ≤ t.1 ∧ t.1 < xs.length) ∧ (t.2.2 = -1 ∨ 0 ≤ t.2.2) := fun t ht => by
  obtain ⟨m1, _, _, m4, m5⟩ := Bd.mem xs 0 hl t ht
  have q := fva_iff (c := c) (bys_drop hb (t.1 - 0).toNat)
  rw [← m4] at q
  refine ⟨by omega, ?_⟩
  by_cases h : 0 < gsz c (xs.drop (t.1 - 0).toNat)
  · exact .inr (q.1.mpr h)
  · exact .inl (q.2.mpr h)
theorem s_litems (k : Nat) (c : Dc) (hc : c.Ok) (xs : List Int) (hb : Bys xs) (hl : xs.length ≤ 60) : G (k + 6) 57 [c.d, tu xs] = .ok (li (itemsF c xs false).1) := by
  rw [g__law_items]
  have e := s_lpieces k c hc xs hb hl
  have pl := pcs_len c 60 0 xs
  obtain ⟨s3, s4, s5, s6, l⟩ := itA_loop (G (k + 5)) c xs (pcs c 60 0 xs) [] 0 .no .no .no (pcs_val c hb hl) (by simp; omega)
  rw [List.map_nil, show decide ((0 : Int) < 0) = false from rfl] at l
  exact lits0 (G (k + 5)) c.d (tu xs) _ _ s3 s4 s5 s6 e l
end Pu

set_option maxHeartbeats 1000000
namespace Pu
open PySem PySem.Spec PyProof.Rows L2
theorem lo_turn (g : Nat → List D → Rs D) (a0 a1 a2 : D) (po : Po) (X M : List D) (s0 s1 : Int) (v0 v1 : Int) (s3 s5 s6 : Slot) (e : g 89 [.tuple [a0, a1, a2, .str po.s], .tuple (X ++ M)] = .ok (.tuple [.int s1, .int v1])) (hl : X.length + M.length ≤ 16777216) :
    evSs tx.C g w__law_open_0 [.cl (.tuple [a0, a1, a2, .str po.s]), .cl (.tuple X), .cl (.tuple [.int s0, .int v0]), s3, .cl (.tuple M), s5, s6] =
      if (!decide (v1 = v0) || (!decide (s1 = s0) && !decide (po = .stop))) = true then .ret (.bool true) else .next [.cl (.tuple [a0, a1, a2, .str po.s]), .cl (.tuple X), .cl (.tuple [.int s0, .int v0]), s3, .cl (.tuple M), .cl (.int s1), .cl (.int v1)] := by
  have hk2 : okD 8 (.str "stop") = true := by decide +kernel
  have he : cmpD .ne (.str po.s) (.str "stop") = some (!decide (po = .stop)) := by
    rw [cp_ne, if_pos ⟨ok_po 7 po, hk2⟩, po_stop]
  have i1 : L2.atI [PyData.int s0, PyData.int v0] 1 = some (.int v0) := rfl
  have i0 : L2.atI [PyData.int s0, PyData.int v0] 0 = some (.int s0) := rfl
  by_cases h1 : v1 = v0
  · by_cases h2 : s1 = s0
    · simp [evD, ssn, ssc, evS, evE, evEs, evI, evC, evO, evB, evX, evXs, evDo, endO, prm_n, prm_b, prm_i, prm_l, prm_t, prm_x, prob_u, prn_u, unOb_ob, iteX, setTs, putN, blX, noDict, insAt, op_ai, op_at, op_al, op_si, op_mi, op_mt, op_mb, rp_i, rv_l, op_fd, op_md, idx_t, idx_l, slc_t, slc_l, isa_i, isa_b, isa_s, isa_t, isa_l, isa_n, b2_min, b2_max, cp_lt, cp_le, cp_gt, cp_ge, cp_eqi, cp_nei, cp_is, cp_isnot, is_nn, is_bb, is_in, is_bn, is_sn, is_tn, is_ln, ok_n, ok_b, ok_i, ok_t, ok_l, eqv_int, eqv_tup, eqv_lst, eqv_nn, eqv_bb, eqv_tn, eqv_nt, eqa_nn, eqa_nc, eqa_cn, eqa_cc, eqvs_ints, int_beq, itemsD, wipeOk, Slot.holds, Tg.slots, wipeE, bindTg, setAll, evP, prt, setPs, Ps.slots, asList, compL, cap, flatD, tu, li, ite_and, ite_or, cut_tail, at_nat, bi_len_t, bi_len_l, bi_all, bi_any, bi_tup_l, bi_tup_t, bi_lst_l, bi_lst_t, -at_nat, at4_3, w__law_open_0, e, hl, he, i0, i1, h1, h2]
    · by_cases h3 : po = .stop
      · subst h3
        simp [evD, ssn, ssc, evS, evE, evEs, evI, evC, evO, evB, evX, evXs, evDo, endO, prm_n, prm_b, prm_i, prm_l, prm_t, prm_x, prob_u, prn_u, unOb_ob, iteX, setTs, putN, blX, noDict, insAt, op_ai, op_at, op_al, op_si, op_mi, op_mt, op_mb, rp_i, rv_l, op_fd, op_md, idx_t, idx_l, slc_t, slc_l, isa_i, isa_b, isa_s, isa_t, isa_l, isa_n, b2_min, b2_max, cp_lt, cp_le, cp_gt, cp_ge, cp_eqi, cp_nei, cp_is, cp_isnot, is_nn, is_bb, is_in, is_bn, is_sn, is_tn, is_ln, ok_n, ok_b, ok_i, ok_t, ok_l, eqv_int, eqv_tup, eqv_lst, eqv_nn, eqv_bb, eqv_tn, eqv_nt, eqa_nn, eqa_nc, eqa_cn, eqa_cc, eqvs_ints, int_beq, itemsD, wipeOk, Slot.holds, Tg.slots, wipeE, bindTg, setAll, evP, prt, setPs, Ps.slots, asList, compL, cap, flatD, tu, li, ite_and, ite_or, cut_tail, at_nat, bi_len_t, bi_len_l, bi_all, bi_any, bi_tup_l, bi_tup_t, bi_lst_l, bi_lst_t, -at_nat, at4_3, w__law_open_0, e, hl, he, i0, i1, h1, h2]
      · simp [evD, ssn, ssc, evS, evE, evEs, evI, evC, evO, evB, evX, evXs, evDo, endO, prm_n, prm_b, prm_i, prm_l, prm_t, prm_x, prob_u, prn_u, unOb_ob, iteX, setTs, putN, blX, noDict, insAt, op_ai, op_at, op_al, op_si, op_mi, op_mt, op_mb, rp_i, rv_l, op_fd, op_md, idx_t, idx_l, slc_t, slc_l, isa_i, isa_b, isa_s, isa_t, isa_l, isa_n, b2_min, b2_max, cp_lt, cp_le, cp_gt, cp_ge, cp_eqi, cp_nei, cp_is, cp_isnot, is_nn, is_bb, is_in, is_bn, is_sn, is_tn, is_ln, ok_n, ok_b, ok_i, ok_t, ok_l, eqv_int, eqv_tup, eqv_lst, eqv_nn, eqv_bb, eqv_tn, eqv_nt, eqa_nn, eqa_nc, eqa_cn, eqa_cc, eqvs_ints, int_beq, itemsD, wipeOk, Slot.holds, Tg.slots, wipeE, bindTg, setAll, evP, prt, setPs, Ps.slots, asList, compL, cap, flatD, tu, li, ite_and, ite_or, cut_tail, at_nat, bi_len_t, bi_len_l, bi_all, bi_any, bi_tup_l, bi_tup_t, bi_lst_l, bi_lst_t, -at_nat, at4_3, w__law_open_0, e, hl, he, i0, i1, h1, h2, h3]
  · simp [evD, ssn, ssc, evS, evE, evEs, evI, evC, evO, evB, evX, evXs, evDo, endO, prm_n, prm_b, prm_i, prm_l, prm_t, prm_x, prob_u, prn_u, unOb_ob, iteX, setTs, putN, blX, noDict, insAt, op_ai, op_at, op_al, op_si, op_mi, op_mt, op_mb, rp_i, rv_l, op_fd, op_md, idx_t, idx_l, slc_t, slc_l, isa_i, isa_b, isa_s, isa_t, isa_l, isa_n, b2_min, b2_max, cp_lt, cp_le, cp_gt, cp_ge, cp_eqi, cp_nei, cp_is, cp_isnot, is_nn, is_bb, is_in, is_bn, is_sn, is_tn, is_ln, ok_n, ok_b, ok_i, ok_t, ok_l, eqv_int, eqv_tup, eqv_lst, eqv_nn, eqv_bb, eqv_tn, eqv_nt, eqa_nn, eqa_nc, eqa_cn, eqa_cc, eqvs_ints, int_beq, itemsD, wipeOk, Slot.holds, Tg.slots, wipeE, bindTg, setAll, evP, prt, setPs, Ps.slots, asList, compL, cap, flatD, tu, li, ite_and, ite_or, cut_tail, at_nat, bi_len_t, bi_len_l, bi_all, bi_any, bi_tup_l, bi_tup_t, bi_lst_l, bi_lst_t, -at_nat, at4_3, w__law_open_0, e, hl, he, i0, i1, h1]
theorem lo_in (k : Nat) (c : Dc) (hc : c.Ok) (b : Int) (r : List Int) (hb : Bys (b :: r)) (hl : r.length ≤ 50) (s3 : Slot) : ∀ (ms : List (List Int)) (s4 s5 s6 : Slot), (∀ m ∈ ms, Bys m ∧ m.length ≤ 3) →
    if ms.any (dif1 c (b :: r)) = true then forL (evSs tx.C (G (k + 4)) w__law_open_0) (.name 4) (ms.map tu) [.cl c.d, .cl (tu (b :: r)), .cl (.tuple [ni (fsz c (b :: r)), .int (fva c (b :: r))]), s3, s4, s5, s6] = .ret (.bool true)
    else ∃ s4' s5' s6', forL (evSs tx.C (G (k + 4)) w__law_open_0) (.name 4) (ms.map tu) [.cl c.d, .cl (tu (b :: r)), .cl (.tuple [ni (fsz c (b :: r)), .int (fva c (b :: r))]), s3, s4, s5, s6] = .next [.cl c.d, .cl (tu (b :: r)), .cl (.tuple [ni (fsz c (b :: r)), .int (fva c (b :: r))]), s3, s4', s5', s6']
  | [], s4, s5, s6, _ => by
    rw [if_neg (by simp)]
    exact ⟨s4, s5, s6, rfl⟩
  | m :: ms, s4, s5, s6, hm => by
    obtain ⟨m1, m2⟩ := hm m List.mem_cons_self
    have e := s_lsize k c hc b (r ++ m) (bys_app hb m1) (by simp; omega)
    rw [← List.cons_append] at e
    simp only [tu, List.map_append, ni] at e
    have t := lo_turn (G (k + 4)) (.int c.L) (.str c.ov.s) (.bool c.su) c.po ((b :: r).map PyData.int) (m.map PyData.int) (fsz c (b :: r)) _ (fva c (b :: r)) _ s3 s5 s6 e (by simp only [List.length_map, List.length_cons]; omega)
    have hd : (!decide (fva c ((b :: r) ++ m) = fva c (b :: r)) || (!decide ((fsz c ((b :: r) ++ m) : Int) = (fsz c (b :: r) : Int)) && !decide (c.po = .stop))) = dif1 c (b :: r) m := by
      unfold dif1
      congr 3
      exact decide_eq_decide.mpr Int.ofNat_inj
    rw [hd] at t
    have ih := lo_in k c hc b r hb hl s3 ms (.cl (tu m)) (.cl (.int (fsz c ((b :: r) ++ m)))) (.cl (.int (fva c ((b :: r) ++ m)))) (fun x hx => hm x (List.mem_cons_of_mem _ hx))
    rw [List.any_cons, List.map_cons]
    have fl : ∀ o, evSs tx.C (G (k + 4)) w__law_open_0 [.cl c.d, .cl (tu (b :: r)), .cl (.tuple [ni (fsz c (b :: r)), .int (fva c (b :: r))]), s3, .cl (tu m), s5, s6] = o → forL (evSs tx.C (G (k + 4)) w__law_open_0) (.name 4) (tu m :: ms.map tu) [.cl c.d, .cl (tu (b :: r)), .cl (.tuple [ni (fsz c (b :: r)), .int (fva c (b :: r))]), s3, s4, s5, s6] = o.turn (forL (evSs tx.C (G (k + 4)) w__law_open_0) (.name 4) (ms.map tu)) := fun o ho => by
      rw [flc]
      exact congrArg (fun o => Out.turn (forL (evSs tx.C (G (k + 4)) w__law_open_0) (.name 4) (ms.map tu)) o) ho
    cases hq : dif1 c (b :: r) m with
    | true =>
      rw [hq, if_pos rfl] at t
      rw [Bool.true_or, if_pos rfl]
      exact fl _ t
    | false =>
      rw [hq, if_neg Bool.false_ne_true] at t
      rw [Bool.false_or]
      have t' := fl _ t
      cases ha : ms.any (dif1 c (b :: r)) with
      | true =>
        rw [ha, if_pos rfl] at ih
        rw [if_pos rfl]
        exact t'.trans ih
      | false =>
        rw [ha, if_neg Bool.false_ne_true] at ih
        rw [if_neg Bool.false_ne_true]
        obtain ⟨a, b, d, ih⟩ := ih
        exact ⟨a, b, d, t'.trans ih⟩
def morB (y : Int) : List (List Int) := [[y], [y, 128], [y, 128, 128]]
theorem lo_out (k : Nat) (c : Dc) (hc : c.Ok) (b : Int) (r : List Int) (hb : Bys (b :: r)) (hl : r.length ≤ 50) : ∀ (ys : List Int) (s3 s4 s5 s6 : Slot), (∀ y ∈ ys, 0 ≤ y ∧ y ≤ 255) →
    if (ys.flatMap morB).any (dif1 c (b :: r)) = true then forL (evSs tx.C (G (k + 4)) w__law_open_1) (.name 3) (ys.map PyData.int) [.cl c.d, .cl (tu (b :: r)), .cl (.tuple [ni (fsz c (b :: r)), .int (fva c (b :: r))]), s3, s4, s5, s6] = .ret (.bool true)
    else ∃ s3' s4' s5' s6', forL (evSs tx.C (G (k + 4)) w__law_open_1) (.name 3) (ys.map PyData.int) [.cl c.d, .cl (tu (b :: r)), .cl (.tuple [ni (fsz c (b :: r)), .int (fva c (b :: r))]), s3, s4, s5, s6] = .next [.cl c.d, .cl (tu (b :: r)), .cl (.tuple [ni (fsz c (b :: r)), .int (fva c (b :: r))]), s3', s4', s5', s6']
  | [], s3, s4, s5, s6, _ => by
    rw [if_neg (by simp)]
    exact ⟨s3, s4, s5, s6, rfl⟩
  | y :: ys, s3, s4, s5, s6, hy => by
    have hy1 := hy y List.mem_cons_self
    have inn := lo_in k c hc b r hb hl (.cl (.int y)) (morB y) s4 s5 s6 (fun m hm => by
      simp only [morB, List.mem_cons, List.mem_nil_iff, or_false] at hm
      rcases hm with e | e | e <;> subst e <;> refine ⟨fun z hz => ?_, by simp⟩ <;> simp at hz <;> omega)
    have fl : ∀ o, forL (evSs tx.C (G (k + 4)) w__law_open_0) (.name 4) ((morB y).map tu) [.cl c.d, .cl (tu (b :: r)), .cl (.tuple [ni (fsz c (b :: r)), .int (fva c (b :: r))]), .cl (.int y), s4, s5, s6] = o → (∀ ρ, o = .next ρ ∨ o = .ret (.bool true) → True) → forL (evSs tx.C (G (k + 4)) w__law_open_1) (.name 3) (.int y :: ys.map PyData.int) [.cl c.d, .cl (tu (b :: r)), .cl (.tuple [ni (fsz c (b :: r)), .int (fva c (b :: r))]), s3, s4, s5, s6] = (o.seq (evSs tx.C (G (k + 4)) .nil)).turn (forL (evSs tx.C (G (k + 4)) w__law_open_1) (.name 3) (ys.map PyData.int)) := fun o ho _ => by
      rw [flc]
      have : evSs tx.C (G (k + 4)) w__law_open_1 [.cl c.d, .cl (tu (b :: r)), .cl (.tuple [ni (fsz c (b :: r)), .int (fva c (b :: r))]), .cl (.int y), s4, s5, s6] = o.seq (evSs tx.C (G (k + 4)) .nil) := by
        rw [← ho]
        simp only [w__law_open_1, ssc, evS]
        rw [ev_seqt (ds := (morB y).map tu) (by simp [evD, ssn, ssc, evS, evE, evEs, evI, evC, evO, evB, evX, evXs, evDo, endO, prm_n, prm_b, prm_i, prm_l, prm_t, prm_x, prob_u, prn_u, unOb_ob, iteX, setTs, putN, blX, noDict, insAt, op_ai, op_at, op_al, op_si, op_mi, op_mt, op_mb, rp_i, rv_l, op_fd, op_md, idx_t, idx_l, slc_t, slc_l, isa_i, isa_b, isa_s, isa_t, isa_l, isa_n, b2_min, b2_max, cp_lt, cp_le, cp_gt, cp_ge, cp_eqi, cp_nei, cp_eq, cp_ne, cp_is, cp_isnot, cp_int, cp_nint, cp_inl, cp_ninl, is_nn, is_bb, is_in, is_bn, is_sn, is_tn, is_ln, ok_n, ok_b, ok_i, ok_t, ok_l, eqv_int, eqv_tup, eqv_lst, eqv_nn, eqv_bb, eqv_tn, eqv_nt, eqa_nn, eqa_nc, eqa_cn, eqa_cc, eqvs_ints, int_beq, itemsD, wipeOk, Slot.holds, Tg.slots, wipeE, bindTg, setAll, evP, prt, setPs, Ps.slots, asList, compL, cap, flatD, tu, li, ite_and, ite_or, cut_tail, at_nat, bi_len_t, bi_len_l, bi_all, bi_any, bi_tup_l, bi_tup_t, bi_lst_l, bi_lst_t, morB])]
        rfl
      exact congrArg (fun o => Out.turn (forL (evSs tx.C (G (k + 4)) w__law_open_1) (.name 3) (ys.map PyData.int)) o) this
    rw [List.flatMap_cons, List.any_append, List.map_cons]
    cases hq : (morB y).any (dif1 c (b :: r)) with
    | true =>
      rw [hq, if_pos rfl] at inn
      rw [Bool.true_or, if_pos rfl]
      exact fl _ inn fun _ _ => trivial
    | false =>
      rw [hq, if_neg Bool.false_ne_true] at inn
      obtain ⟨a4, a5, a6, inn⟩ := inn
      have t' := fl _ inn fun _ _ => trivial
      simp only [seqn, ssn, turnn] at t'
      have ih := lo_out k c hc b r hb hl ys (.cl (.int y)) a4 a5 a6 (fun z hz => hy z (List.mem_cons_of_mem _ hz))
      rw [Bool.false_or]
      cases ha : (ys.flatMap morB).any (dif1 c (b :: r)) with
      | true =>
        rw [ha, if_pos rfl] at ih
        rw [if_pos rfl]
        exact t'.trans ih
      | false =>
        rw [ha, if_neg Bool.false_ne_true] at ih
        rw [if_neg Bool.false_ne_true]
        obtain ⟨z3, z4, z5, z6, ih⟩ := ih
        exact ⟨z3, z4, z5, z6, t'.trans ih⟩
def bLo (w : Ss) : Ss := (.cons (.set 2 (.call 89 (.cons (.var 0) (.cons (.var 1) .nil))))
    (.cons (.for_ (.name 3) (.seq (.tup (.cons (.int 0) (.cons (.int 128) (.cons (.int 144) (.cons (.int 160) .nil)))))) w)
    (.cons (.ret (.bl false))
    .nil)))
theorem lo_ret (g : Nat → List D → Rs D) (w : Ss) (d x f : D) (e : g 89 [d, x] = .ok f) (l : forL (evSs tx.C g w) (.name 3) ([0, 128, 144, 160].map PyData.int) [.cl d, .cl x, .cl f, .no, .no, .no, .no] = .ret (.bool true)) : evD tx.C g 7 (bLo w) [d, x] = .ok (.bool true) := by
  simp only [List.map_cons, List.map_nil] at l
  simp [evD, ssn, ssc, evS, evE, evEs, evI, evC, evO, evB, evX, evXs, evDo, endO, prm_n, prm_b, prm_i, prm_l, prm_t, prm_x, prob_u, prn_u, unOb_ob, iteX, setTs, putN, blX, noDict, insAt, op_ai, op_at, op_al, op_si, op_mi, op_mt, op_mb, rp_i, rv_l, op_fd, op_md, idx_t, idx_l, slc_t, slc_l, isa_i, isa_b, isa_s, isa_t, isa_l, isa_n, b2_min, b2_max, cp_lt, cp_le, cp_gt, cp_ge, cp_eqi, cp_nei, cp_eq, cp_ne, cp_is, cp_isnot, cp_int, cp_nint, cp_inl, cp_ninl, is_nn, is_bb, is_in, is_bn, is_sn, is_tn, is_ln, ok_n, ok_b, ok_i, ok_t, ok_l, eqv_int, eqv_tup, eqv_lst, eqv_nn, eqv_bb, eqv_tn, eqv_nt, eqa_nn, eqa_nc, eqa_cn, eqa_cc, eqvs_ints, int_beq, itemsD, wipeOk, Slot.holds, Tg.slots, wipeE, bindTg, setAll, evP, prt, setPs, Ps.slots, asList, compL, cap, flatD, tu, li, ite_and, ite_or, cut_tail, at_nat, bi_len_t, bi_len_l, bi_all, bi_any, bi_tup_l, bi_tup_t, bi_lst_l, bi_lst_t, bLo, e, l]
theorem lo_nxt (g : Nat → List D → Rs D) (w : Ss) (d x f : D) (s3 s4 s5 s6 : Slot) (e : g 89 [d, x] = .ok f) (l : forL (evSs tx.C g w) (.name 3) ([0, 128, 144, 160].map PyData.int) [.cl d, .cl x, .cl f, .no, .no, .no, .no] = .next [.cl d, .cl x, .cl f, s3, s4, s5, s6]) : evD tx.C g 7 (bLo w) [d, x] = .ok (.bool false) := by
  simp only [List.map_cons, List.map_nil] at l
  simp [evD, ssn, ssc, evS, evE, evEs, evI, evC, evO, evB, evX, evXs, evDo, endO, prm_n, prm_b, prm_i, prm_l, prm_t, prm_x, prob_u, prn_u, unOb_ob, iteX, setTs, putN, blX, noDict, insAt, op_ai, op_at, op_al, op_si, op_mi, op_mt, op_mb, rp_i, rv_l, op_fd, op_md, idx_t, idx_l, slc_t, slc_l, isa_i, isa_b, isa_s, isa_t, isa_l, isa_n, b2_min, b2_max, cp_lt, cp_le, cp_gt, cp_ge, cp_eqi, cp_nei, cp_eq, cp_ne, cp_is, cp_isnot, cp_int, cp_nint, cp_inl, cp_ninl, is_nn, is_bb, is_in, is_bn, is_sn, is_tn, is_ln, ok_n, ok_b, ok_i, ok_t, ok_l, eqv_int, eqv_tup, eqv_lst, eqv_nn, eqv_bb, eqv_tn, eqv_nt, eqa_nn, eqa_nc, eqa_cn, eqa_cc, eqvs_ints, int_beq, itemsD, wipeOk, Slot.holds, Tg.slots, wipeE, bindTg, setAll, evP, prt, setPs, Ps.slots, asList, compL, cap, flatD, tu, li, ite_and, ite_or, cut_tail, at_nat, bi_len_t, bi_len_l, bi_all, bi_any, bi_tup_l, bi_tup_t, bi_lst_l, bi_lst_t, bLo, e, l]
theorem s_lopen (k : Nat) (c : Dc) (hc : c.Ok) (b : Int) (r : List Int) (hb : Bys (b :: r)) (hl : r.length + 1 ≤ 50) : G (k + 5) 92 [c.d, tu (b :: r)] = .ok (.bool (opn c (b :: r))) := by
  rw [g__law_open]
  have e := s_lsize k c hc b r hb (by simp; omega)
  have l := lo_out k c hc b r hb (by omega) [0, 128, 144, 160] .no .no .no .no (by intro y hy; simp at hy; omega)
  have hm : [0, 128, 144, 160].flatMap morB = mores := rfl
  rw [hm, lopn c (b :: r) hb (by simp) (by simp; omega)] at l
  have hw : b__law_open = bLo w__law_open_1 := rfl
  rw [hw]
  cases ho : opn c (b :: r) with
  | true =>
    rw [ho, if_pos rfl] at l
    exact lo_ret (G (k + 4)) _ _ _ _ e l
  | false =>
    rw [ho, if_neg Bool.false_ne_true] at l
    obtain ⟨s3, s4, s5, s6, l⟩ := l
    exact lo_nxt (G (k + 4)) _ _ _ _ s3 s4 s5 s6 e l
end Pu

set_option maxHeartbeats 1000000
namespace Pu
open PySem PySem.Spec PyProof.Rows L2
def cK : Ex := (.and (.cmp .lt (.var 3) (.bi .len (.var 1))) (.not (.call 92 (.cons (.var 0) (.cons (.slc (.var 1) (.one (.var 3)) .no) .nil)))))
theorem kn_turn (g : Nat → List D → Rs D) (a0 a1 a2 : D) (po : Po) (S X Y F I : List D) (p s v bf : Int) (s5 s6 s7 : Slot) (hx : cutD S (some p) none = X) (e1 : g 89 [.tuple [a0, a1, a2, .str po.s], .tuple X] = .ok (.tuple [.int s, .int v])) (hy : cutD S (some p) (some (p + s)) = Y)
    (e2 : g 57 [.tuple [a0, a1, a2, .str po.s], .tuple Y] = .ok (.list I)) (hl : F.length + I.length ≤ 16777216) :
    evSs tx.C g w__law_known_0 [.cl (.tuple [a0, a1, a2, .str po.s]), .cl (.tuple S), .cl (.list F), .cl (.int p), .cl (.int bf), s5, s6, s7] =
      .next [.cl (.tuple [a0, a1, a2, .str po.s]), .cl (.tuple S), .cl (.list (if 0 ≤ v ∨ 0 ≤ bf ∨ po ≠ .run then F ++ I else F)), .cl (.int (p + s)), .cl (.int v), .cl (.list I), .cl (.int s), .cl (.int v)] := by
  have hk2 : okD 8 (.str "run") = true := by decide +kernel
  have he : cmpD .ne (.str po.s) (.str "run") = some (!decide (po = .run)) := by
    rw [cp_ne, if_pos ⟨ok_po 7 po, hk2⟩, po_run]
  by_cases h1 : 0 ≤ v
  · simp [evD, ssn, ssc, evS, evE, evEs, evI, evC, evO, evB, evX, evXs, evDo, endO, prm_n, prm_b, prm_i, prm_l, prm_t, prm_x, prob_u, prn_u, unOb_ob, iteX, setTs, putN, blX, noDict, insAt, op_ai, op_at, op_al, op_si, op_mi, op_mt, op_mb, rp_i, rv_l, op_fd, op_md, idx_t, idx_l, slc_t, slc_l, isa_i, isa_b, isa_s, isa_t, isa_l, isa_n, b2_min, b2_max, cp_lt, cp_le, cp_gt, cp_ge, cp_eqi, cp_nei, cp_is, cp_isnot, is_nn, is_bb, is_in, is_bn, is_sn, is_tn, is_ln, ok_n, ok_b, ok_i, ok_t, ok_l, eqv_int, eqv_tup, eqv_lst, eqv_nn, eqv_bb, eqv_tn, eqv_nt, eqa_nn, eqa_nc, eqa_cn, eqa_cc, eqvs_ints, int_beq, itemsD, wipeOk, Slot.holds, Tg.slots, wipeE, bindTg, setAll, evP, prt, setPs, Ps.slots, asList, compL, cap, flatD, tu, li, ite_and, ite_or, cut_tail, at_nat, bi_len_t, bi_len_l, bi_all, bi_any, bi_tup_l, bi_tup_t, bi_lst_l, bi_lst_t, -at_nat, at4_3, w__law_known_0, hx, e1, hy, e2, hl, h1]
  · by_cases h2 : 0 ≤ bf
    · simp [evD, ssn, ssc, evS, evE, evEs, evI, evC, evO, evB, evX, evXs, evDo, endO, prm_n, prm_b, prm_i, prm_l, prm_t, prm_x, prob_u, prn_u, unOb_ob, iteX, setTs, putN, blX, noDict, insAt, op_ai, op_at, op_al, op_si, op_mi, op_mt, op_mb, rp_i, rv_l, op_fd, op_md, idx_t, idx_l, slc_t, slc_l, isa_i, isa_b, isa_s, isa_t, isa_l, isa_n, b2_min, b2_max, cp_lt, cp_le, cp_gt, cp_ge, cp_eqi, cp_nei, cp_is, cp_isnot, is_nn, is_bb, is_in, is_bn, is_sn, is_tn, is_ln, ok_n, ok_b, ok_i, ok_t, ok_l, eqv_int, eqv_tup, eqv_lst, eqv_nn, eqv_bb, eqv_tn, eqv_nt, eqa_nn, eqa_nc, eqa_cn, eqa_cc, eqvs_ints, int_beq, itemsD, wipeOk, Slot.holds, Tg.slots, wipeE, bindTg, setAll, evP, prt, setPs, Ps.slots, asList, compL, cap, flatD, tu, li, ite_and, ite_or, cut_tail, at_nat, bi_len_t, bi_len_l, bi_all, bi_any, bi_tup_l, bi_tup_t, bi_lst_l, bi_lst_t, -at_nat, at4_3, w__law_known_0, hx, e1, hy, e2, hl, h1, h2]
    · by_cases h3 : po = .run
      · subst h3
        rw [decide_eq_true rfl] at he
        simp [evD, ssn, ssc, evS, evE, evEs, evI, evC, evO, evB, evX, evXs, evDo, endO, prm_n, prm_b, prm_i, prm_l, prm_t, prm_x, prob_u, prn_u, unOb_ob, iteX, setTs, putN, blX, noDict, insAt, op_ai, op_at, op_al, op_si, op_mi, op_mt, op_mb, rp_i, rv_l, op_fd, op_md, idx_t, idx_l, slc_t, slc_l, isa_i, isa_b, isa_s, isa_t, isa_l, isa_n, b2_min, b2_max, cp_lt, cp_le, cp_gt, cp_ge, cp_eqi, cp_nei, cp_is, cp_isnot, is_nn, is_bb, is_in, is_bn, is_sn, is_tn, is_ln, ok_n, ok_b, ok_i, ok_t, ok_l, eqv_int, eqv_tup, eqv_lst, eqv_nn, eqv_bb, eqv_tn, eqv_nt, eqa_nn, eqa_nc, eqa_cn, eqa_cc, eqvs_ints, int_beq, itemsD, wipeOk, Slot.holds, Tg.slots, wipeE, bindTg, setAll, evP, prt, setPs, Ps.slots, asList, compL, cap, flatD, tu, li, ite_and, ite_or, cut_tail, at_nat, bi_len_t, bi_len_l, bi_all, bi_any, bi_tup_l, bi_tup_t, bi_lst_l, bi_lst_t, -at_nat, at4_3, w__law_known_0, hx, e1, hy, e2, hl, h1, h2, he]
      · rw [decide_eq_false h3] at he
        simp [evD, ssn, ssc, evS, evE, evEs, evI, evC, evO, evB, evX, evXs, evDo, endO, prm_n, prm_b, prm_i, prm_l, prm_t, prm_x, prob_u, prn_u, unOb_ob, iteX, setTs, putN, blX, noDict, insAt, op_ai, op_at, op_al, op_si, op_mi, op_mt, op_mb, rp_i, rv_l, op_fd, op_md, idx_t, idx_l, slc_t, slc_l, isa_i, isa_b, isa_s, isa_t, isa_l, isa_n, b2_min, b2_max, cp_lt, cp_le, cp_gt, cp_ge, cp_eqi, cp_nei, cp_is, cp_isnot, is_nn, is_bb, is_in, is_bn, is_sn, is_tn, is_ln, ok_n, ok_b, ok_i, ok_t, ok_l, eqv_int, eqv_tup, eqv_lst, eqv_nn, eqv_bb, eqv_tn, eqv_nt, eqa_nn, eqa_nc, eqa_cn, eqa_cc, eqvs_ints, int_beq, itemsD, wipeOk, Slot.holds, Tg.slots, wipeE, bindTg, setAll, evP, prt, setPs, Ps.slots, asList, compL, cap, flatD, tu, li, ite_and, ite_or, cut_tail, at_nat, bi_len_t, bi_len_l, bi_all, bi_any, bi_tup_l, bi_tup_t, bi_lst_l, bi_lst_t, -at_nat, at4_3, w__law_known_0, hx, e1, hy, e2, hl, h1, h2, h3, he]
theorem kn_cond (g : Nat → List D → Rs D) (d : D) (S X : List D) (p : Int) (o : Bool) (s2 s4 s5 s6 s7 : Slot) (hx : cutD S (some p) none = X) (hp : p < S.length) (e : g 92 [d, .tuple X] = .ok (.bool o)) : evB tx.C g cK [.cl d, .cl (.tuple S), s2, .cl (.int p), s4, s5, s6, s7] = .ok (!o) := by
  simp [evD, ssn, ssc, evS, evE, evEs, evI, evC, evO, evB, evX, evXs, evDo, endO, prm_n, prm_b, prm_i, prm_l, prm_t, prm_x, prob_u, prn_u, unOb_ob, iteX, setTs, putN, blX, noDict, insAt, op_ai, op_at, op_al, op_si, op_mi, op_mt, op_mb, rp_i, rv_l, op_fd, op_md, idx_t, idx_l, slc_t, slc_l, isa_i, isa_b, isa_s, isa_t, isa_l, isa_n, b2_min, b2_max, cp_lt, cp_le, cp_gt, cp_ge, cp_eqi, cp_nei, cp_is, cp_isnot, is_nn, is_bb, is_in, is_bn, is_sn, is_tn, is_ln, ok_n, ok_b, ok_i, ok_t, ok_l, eqv_int, eqv_tup, eqv_lst, eqv_nn, eqv_bb, eqv_tn, eqv_nt, eqa_nn, eqa_nc, eqa_cn, eqa_cc, eqvs_ints, int_beq, itemsD, wipeOk, Slot.holds, Tg.slots, wipeE, bindTg, setAll, evP, prt, setPs, Ps.slots, asList, compL, cap, flatD, tu, li, ite_and, ite_or, cut_tail, at_nat, bi_len_t, bi_len_l, bi_all, bi_any, bi_tup_l, bi_tup_t, bi_lst_l, bi_lst_t, -at_nat, cK, hx, hp, e]
theorem kn_cond0 (g : Nat → List D → Rs D) (d : D) (S : List D) (p : Int) (s2 s4 s5 s6 s7 : Slot) (hp : ¬ p < S.length) : evB tx.C g cK [.cl d, .cl (.tuple S), s2, .cl (.int p), s4, s5, s6, s7] = .ok false := by
  simp [evD, ssn, ssc, evS, evE, evEs, evI, evC, evO, evB, evX, evXs, evDo, endO, prm_n, prm_b, prm_i, prm_l, prm_t, prm_x, prob_u, prn_u, unOb_ob, iteX, setTs, putN, blX, noDict, insAt, op_ai, op_at, op_al, op_si, op_mi, op_mt, op_mb, rp_i, rv_l, op_fd, op_md, idx_t, idx_l, slc_t, slc_l, isa_i, isa_b, isa_s, isa_t, isa_l, isa_n, b2_min, b2_max, cp_lt, cp_le, cp_gt, cp_ge, cp_eqi, cp_nei, cp_is, cp_isnot, is_nn, is_bb, is_in, is_bn, is_sn, is_tn, is_ln, ok_n, ok_b, ok_i, ok_t, ok_l, eqv_int, eqv_tup, eqv_lst, eqv_nn, eqv_bb, eqv_tn, eqv_nt, eqa_nn, eqa_nc, eqa_cn, eqa_cc, eqvs_ints, int_beq, itemsD, wipeOk, Slot.holds, Tg.slots, wipeE, bindTg, setAll, evP, prt, setPs, Ps.slots, asList, compL, cap, flatD, tu, li, ite_and, ite_or, cut_tail, at_nat, bi_len_t, bi_len_l, bi_all, bi_any, bi_tup_l, bi_tup_t, bi_lst_l, bi_lst_t, -at_nat, cK, hp]
/-- the items of the first piece alone -/
theorem its_first (c : Dc) {xs : List Int} (hx : xs ≠ []) : (its c (xs.take (fsz c xs)) false).1 = (if fva c xs = -1 then bitems c.po (xs.headD 0) false else [fva c xs]) := by
  have hr := fsz_range c xs hx
  obtain ⟨f1, f2⟩ := first_take c xs (fsz c xs) hx hr.2 (Nat.le_refl _)
  have hne : xs.take (fsz c xs) ≠ [] := fun z => by
    have := congrArg List.length z
    rw [List.length_take, List.length_nil] at this
    omega
  have hd : (xs.take (fsz c xs)).headD 0 = xs.headD 0 := headD_take xs _ hr.1
  rw [its_cons c false hne, f1, f2, hd]
  have : (xs.take (fsz c xs)).drop (fsz c xs) = [] := by rw [List.drop_eq_nil_iff, List.length_take]; omega
  rw [this, its_nil, List.append_nil]
theorem kn_loop (k : Nat) (c : Dc) (hc : c.Ok) (s : List Int) (hs : Bys s) (hl : s.length ≤ 50) : ∀ (m p N : Nat) (F : List Int) (bf : Int) (s5 s6 s7 : Slot), s.length ≤ p + m → p ≤ s.length → m < N → F.length + m ≤ 1000 →
    ∃ bf' s5' s6' s7', whileL (evB tx.C (G (k + 6)) cK) (evSs tx.C (G (k + 6)) w__law_known_0) N [.cl c.d, .cl (tu s), .cl (li F), .cl (.int p), .cl (.int bf), s5, s6, s7] =
      .next [.cl c.d, .cl (tu s), .cl (li (F ++ (run c m (s.drop p) (decide (bf < 0))).1)), .cl (.int ((s.length : Int) - ((run c m (s.drop p) (decide (bf < 0))).2.1.length : Int))), .cl (.int bf'), s5', s6', s7']
  | m, p, 0, _, _, _, _, _, _, _, h, _ => absurd h (Nat.not_lt_zero _)
  | m, p, N + 1, F, bf, s5, s6, s7, hm, hp, hN, hF => by
    by_cases hlt : p < s.length
    case neg =>
      have hd : s.drop p = [] := by rw [List.drop_eq_nil_iff]; omega
      rw [hd, run_stop (.inl rfl), List.append_nil]
      refine ⟨bf, s5, s6, s7, ?_⟩
      have hpe : ((s.length : Int) - (([] : List Int).length : Int)) = (p : Int) := by simp; omega
      dsimp only
      rw [hpe]
      exact whileL_no (kn_cond0 _ _ _ _ _ _ _ _ _ (by rw [List.length_map]; omega)) _
    obtain ⟨m, rfl⟩ : ∃ m', m = m' + 1 := ⟨m - 1, by omega⟩
    have hx : cutD (s.map PyData.int) (some (p : Int)) none = (s.drop p).map PyData.int := by rw [cut_from _ (by omega), List.map_drop]; rfl
    have hdl : (s.drop p).length = s.length - p := List.length_drop
    obtain ⟨b, r, e⟩ : ∃ b r, s.drop p = b :: r := by
      cases q : s.drop p with
      | nil => rw [q] at hdl; simp at hdl; omega
      | cons b r => exact ⟨b, r, rfl⟩
    have hb : Bys (b :: r) := by rw [← e]; exact bys_drop hs p
    have hrl : r.length + 1 = s.length - p := by rw [← hdl, e]; rfl
    have eo := s_lopen (k + 1) c hc b r hb (by omega)
    rw [e] at hx ⊢
    have hne : b :: r ≠ [] := by simp
    cases ho : opn c (b :: r) with
    | true =>
      rw [ho] at eo
      rw [run_stop (.inr ho), List.append_nil]
      refine ⟨bf, s5, s6, s7, ?_⟩
      have hpe : ((s.length : Int) - ((b :: r).length : Int)) = (p : Int) := by rw [List.length_cons]; omega
      dsimp only
      rw [hpe]
      exact whileL_no (kn_cond _ _ _ _ _ _ _ _ _ _ _ hx (by rw [List.length_map]; omega) eo) _
    | false =>
      rw [ho] at eo
      have hr := fsz_range c (b :: r) hne
      have es := s_lsize (k + 2) c hc b r hb (by simp; omega)
      have hy : cutD (s.map PyData.int) (some (p : Int)) (some ((p : Int) + (fsz c (b :: r) : Int))) = ((b :: r).take (fsz c (b :: r))).map PyData.int := by
        generalize fsz c (b :: r) = f
        rw [cut_both _ (by omega) (by omega), Int.toNat_natCast, show ((p : Int) + (f : Int)).toNat = p + f by omega, List.drop_take, show p + f - p = f by omega, ← List.map_drop, e, ← List.map_take]
      have ei := s_litems k c hc ((b :: r).take (fsz c (b :: r))) (bys_take hb _) (by rw [List.length_take]; simp; omega)
      rw [itemsF_its c _ false (by rw [List.length_take]; simp; omega), its_first c hne, List.headD_cons] at ei
      have hil : (if fva c (b :: r) = -1 then bitems c.po b false else [fva c (b :: r)]).length ≤ 1 := by
        split
        · exact bitems_len _ _ _
        · exact Nat.le_refl 1
      have t := kn_turn (G (k + 6)) (.int c.L) (.str c.ov.s) (.bool c.su) c.po (s.map PyData.int) _ _ (F.map PyData.int) _ p (fsz c (b :: r)) (fva c (b :: r)) bf s5 s6 s7 hx es hy ei (by simp only [List.length_map]; omega)
      obtain ⟨v1, v2⟩ := fva_iff (c := c) hb
      have hF' : (if 0 ≤ fva c (b :: r) ∨ 0 ≤ bf ∨ c.po ≠ .run then F.map PyData.int ++ (if fva c (b :: r) = -1 then bitems c.po b false else [fva c (b :: r)]).map PyData.int else F.map PyData.int) =
          (F ++ (if fva c (b :: r) = -1 then bitems c.po b (decide (bf < 0)) else [fva c (b :: r)])).map PyData.int := by
        rw [List.map_append]
        by_cases hv : fva c (b :: r) = -1
        · rw [if_pos hv, if_pos hv]
          by_cases h2 : 0 ≤ bf
          · rw [if_pos (.inr (.inl h2)), decide_eq_false (by omega)]
          · by_cases h3 : c.po = .run
            · rw [if_neg (by rintro (z | z | z); omega; exact h2 z; exact z h3), decide_eq_true (by omega), h3]
              simp [bitems]
            · rw [if_pos (.inr (.inr h3)), bitems_ab h3 b false (decide (bf < 0))]
        · have hv0 : 0 ≤ fva c (b :: r) := by
            by_cases hg : 0 < gsz c (b :: r)
            · exact v1.mpr hg
            · exact absurd (v2.mpr hg) hv
          rw [if_neg hv, if_neg hv, if_pos (.inl hv0)]
      rw [hF'] at t
      have hneg : decide (fva c (b :: r) < 0) = decide (fva c (b :: r) = -1) := by
        by_cases hg : 0 < gsz c (b :: r)
        · have := v1.mpr hg
          rw [decide_eq_false (by omega), decide_eq_false (by omega)]
        · have := v2.mpr hg
          rw [this]; rfl
      have hdd : s.drop (p + fsz c (b :: r)) = (b :: r).drop (fsz c (b :: r)) := by rw [← List.drop_drop, e]
      simp only [List.length_cons] at hr
      obtain ⟨bf', t5, t6, t7, ih⟩ := kn_loop k c hc s hs hl m (p + fsz c (b :: r)) N (F ++ (if fva c (b :: r) = -1 then bitems c.po b (decide (bf < 0)) else [fva c (b :: r)])) (fva c (b :: r)) (.cl (.list ((if fva c (b :: r) = -1 then bitems c.po b false else [fva c (b :: r)]).map PyData.int))) (.cl (.int (fsz c (b :: r)))) (.cl (.int (fva c (b :: r)))) (by omega) (by omega) (by omega) (by
          have : (if fva c (b :: r) = -1 then bitems c.po b (decide (bf < 0)) else [fva c (b :: r)]).length ≤ 1 := by
            split
            · exact bitems_len _ _ _
            · exact Nat.le_refl 1
          rw [List.length_append]; omega)
      rw [hneg, hdd, Int.natCast_add] at ih
      rw [run_step (show ¬ (b :: r = [] ∨ opn c (b :: r) = true) by rw [ho]; simp), List.headD_cons]
      dsimp only
      rw [← List.append_assoc]
      exact ⟨bf', t5, t6, t7, (whileL_yes (kn_cond _ _ _ _ _ _ _ _ _ _ _ hx (by rw [List.length_map]; omega) eo) t).trans ih⟩
def bKn (c : Ex) (w : Ss) : Ss := (.cons (.par (.cons 2 false (.lst .nil) (.cons 3 false (.int 0) (.cons 4 false (.int 0) .nil))))
    (.cons (.while_ c w)
    (.cons (.ret (.tup (.cons (.var 2) (.cons (.op .sub (.bi .len (.var 1)) (.var 3)) .nil))))
    .nil)))
theorem kn0 (g : Nat → List D → Rs D) (c : Ex) (w : Ss) (d : D) (S F : List D) (p : Int) (s4 s5 s6 s7 : Slot) (l : whileL (evB tx.C g c) (evSs tx.C g w) fuel [.cl d, .cl (.tuple S), .cl (.list []), .cl (.int 0), .cl (.int 0), .no, .no, .no] = .next [.cl d, .cl (.tuple S), .cl (.list F), .cl (.int p), s4, s5, s6, s7]) :
    evD tx.C g 8 (bKn c w) [d, .tuple S] = .ok (.tuple [.list F, .int ((S.length : Int) - p)]) := by
  simp [evD, ssn, ssc, evS, evE, evEs, evI, evC, evO, evB, evX, evXs, evDo, endO, prm_n, prm_b, prm_i, prm_l, prm_t, prm_x, prob_u, prn_u, unOb_ob, iteX, setTs, putN, blX, noDict, insAt, op_ai, op_at, op_al, op_si, op_mi, op_mt, op_mb, rp_i, rv_l, op_fd, op_md, idx_t, idx_l, slc_t, slc_l, isa_i, isa_b, isa_s, isa_t, isa_l, isa_n, b2_min, b2_max, cp_lt, cp_le, cp_gt, cp_ge, cp_eqi, cp_nei, cp_is, cp_isnot, is_nn, is_bb, is_in, is_bn, is_sn, is_tn, is_ln, ok_n, ok_b, ok_i, ok_t, ok_l, eqv_int, eqv_tup, eqv_lst, eqv_nn, eqv_bb, eqv_tn, eqv_nt, eqa_nn, eqa_nc, eqa_cn, eqa_cc, eqvs_ints, int_beq, itemsD, wipeOk, Slot.holds, Tg.slots, wipeE, bindTg, setAll, evP, prt, setPs, Ps.slots, asList, compL, cap, flatD, tu, li, ite_and, ite_or, cut_tail, at_nat, bi_len_t, bi_len_l, bi_all, bi_any, bi_tup_l, bi_tup_t, bi_lst_l, bi_lst_t, -at_nat, bKn, l]
theorem s_known (k : Nat) (c : Dc) (hc : c.Ok) (s : List Int) (hs : Bys s) (hl : s.length ≤ 50) : G (k + 7) 93 [c.d, tu s] = .ok (.tuple [li (run c 1000 s false).1, .int ((run c 1000 s false).2.1.length : Int)]) := by
  rw [g__law_known]
  have hw : b__law_known = bKn cK w__law_known_0 := rfl
  obtain ⟨bf, s5, s6, s7, l⟩ := kn_loop k c hc s hs hl s.length 0 fuel [] 0 .no .no .no (by omega) (by omega) (by show s.length < 2000; omega) (by simp; omega)
  rw [List.drop_zero, List.nil_append, show decide ((0 : Int) < 0) = false from rfl, run_fuel c s.length 1000 s false (Nat.le_refl _) (by omega)] at l
  have := kn0 (G (k + 6)) cK w__law_known_0 c.d (s.map PyData.int) _ _ (.cl (.int bf)) s5 s6 s7 l
  rw [hw, this, List.length_map]
  congr 5
  omega
theorem er_feed1 (g : Nat → List D → Rs D) (fs : List (Nat × D)) (od : D) (e : g 143 [obD 0 fs, od] = .exc 5) : evDo tx.C g 4 1 b__law_error [.int 1] 0 fs [od] = .ok (.tuple [.int 1, obD 0 fs]) := by
  simp [evD, ssn, ssc, evS, evE, evEs, evI, evC, evO, evB, evX, evXs, evDo, endO, prm_n, prm_b, prm_i, prm_l, prm_t, prm_x, prob_u, prn_u, unOb_ob, iteX, setTs, putN, blX, noDict, insAt, op_ai, op_at, op_al, op_si, op_mi, op_mt, op_mb, rp_i, rv_l, op_fd, op_md, idx_t, idx_l, slc_t, slc_l, isa_i, isa_b, isa_s, isa_t, isa_l, isa_n, b2_min, b2_max, cp_lt, cp_le, cp_gt, cp_ge, cp_eqi, cp_nei, cp_eq, cp_ne, cp_is, cp_isnot, cp_int, cp_nint, cp_inl, cp_ninl, is_nn, is_bb, is_in, is_bn, is_sn, is_tn, is_ln, ok_n, ok_b, ok_i, ok_t, ok_l, eqv_int, eqv_tup, eqv_lst, eqv_nn, eqv_bb, eqv_tn, eqv_nt, eqa_nn, eqa_nc, eqa_cn, eqa_cc, eqvs_ints, int_beq, itemsD, wipeOk, Slot.holds, Tg.slots, wipeE, bindTg, setAll, evP, prt, setPs, Ps.slots, asList, compL, cap, flatD, tu, li, ite_and, ite_or, cut_tail, at_nat, bi_len_t, bi_len_l, bi_all, bi_any, bi_tup_l, bi_tup_t, bi_lst_l, bi_lst_t, b__law_error, e, subC, Out.suite, noEx, mthD, findD, PyData.eqv]
theorem er_feed2 (g : Nat → List D → Rs D) (fs : List (Nat × D)) (od : D) (e : g 143 [obD 0 fs, od] = .exc 14) : evDo tx.C g 4 1 b__law_error [.int 1] 0 fs [od] = .ok (.tuple [.int 2, obD 0 fs]) := by
  simp [evD, ssn, ssc, evS, evE, evEs, evI, evC, evO, evB, evX, evXs, evDo, endO, prm_n, prm_b, prm_i, prm_l, prm_t, prm_x, prob_u, prn_u, unOb_ob, iteX, setTs, putN, blX, noDict, insAt, op_ai, op_at, op_al, op_si, op_mi, op_mt, op_mb, rp_i, rv_l, op_fd, op_md, idx_t, idx_l, slc_t, slc_l, isa_i, isa_b, isa_s, isa_t, isa_l, isa_n, b2_min, b2_max, cp_lt, cp_le, cp_gt, cp_ge, cp_eqi, cp_nei, cp_eq, cp_ne, cp_is, cp_isnot, cp_int, cp_nint, cp_inl, cp_ninl, is_nn, is_bb, is_in, is_bn, is_sn, is_tn, is_ln, ok_n, ok_b, ok_i, ok_t, ok_l, eqv_int, eqv_tup, eqv_lst, eqv_nn, eqv_bb, eqv_tn, eqv_nt, eqa_nn, eqa_nc, eqa_cn, eqa_cc, eqvs_ints, int_beq, itemsD, wipeOk, Slot.holds, Tg.slots, wipeE, bindTg, setAll, evP, prt, setPs, Ps.slots, asList, compL, cap, flatD, tu, li, ite_and, ite_or, cut_tail, at_nat, bi_len_t, bi_len_l, bi_all, bi_any, bi_tup_l, bi_tup_t, bi_lst_l, bi_lst_t, b__law_error, e, subC, Out.suite, noEx, mthD, findD, PyData.eqv]
theorem er_fin (g : Nat → List D → Rs D) (fs : List (Nat × D)) (od : D) (e : g 144 [obD 0 fs] = .exc 14) : evDo tx.C g 4 1 b__law_error [.int 2] 0 fs [od] = .ok (.tuple [.int 2, obD 0 fs]) := by
  simp [evD, ssn, ssc, evS, evE, evEs, evI, evC, evO, evB, evX, evXs, evDo, endO, prm_n, prm_b, prm_i, prm_l, prm_t, prm_x, prob_u, prn_u, unOb_ob, iteX, setTs, putN, blX, noDict, insAt, op_ai, op_at, op_al, op_si, op_mi, op_mt, op_mb, rp_i, rv_l, op_fd, op_md, idx_t, idx_l, slc_t, slc_l, isa_i, isa_b, isa_s, isa_t, isa_l, isa_n, b2_min, b2_max, cp_lt, cp_le, cp_gt, cp_ge, cp_eqi, cp_nei, cp_eq, cp_ne, cp_is, cp_isnot, cp_int, cp_nint, cp_inl, cp_ninl, is_nn, is_bb, is_in, is_bn, is_sn, is_tn, is_ln, ok_n, ok_b, ok_i, ok_t, ok_l, eqv_int, eqv_tup, eqv_lst, eqv_nn, eqv_bb, eqv_tn, eqv_nt, eqa_nn, eqa_nc, eqa_cn, eqa_cc, eqvs_ints, int_beq, itemsD, wipeOk, Slot.holds, Tg.slots, wipeE, bindTg, setAll, evP, prt, setPs, Ps.slots, asList, compL, cap, flatD, tu, li, ite_and, ite_or, cut_tail, at_nat, bi_len_t, bi_len_l, bi_all, bi_any, bi_tup_l, bi_tup_t, bi_lst_l, bi_lst_t, b__law_error, e, subC, Out.suite, noEx, mthD, findD, PyData.eqv]
theorem er_new (g : Nat → List D → Rs D) (bd od : D) (e : g 139 [obD 0 [], bd] = .exc 2) : evD tx.C g 4 b__law_error [.int 0, bd, od] = .ok (.int 0) := by
  simp [evD, ssn, ssc, evS, evE, evEs, evI, evC, evO, evB, evX, evXs, evDo, endO, prm_n, prm_b, prm_i, prm_l, prm_t, prm_x, prob_u, prn_u, unOb_ob, iteX, setTs, putN, blX, noDict, insAt, op_ai, op_at, op_al, op_si, op_mi, op_mt, op_mb, rp_i, rv_l, op_fd, op_md, idx_t, idx_l, slc_t, slc_l, isa_i, isa_b, isa_s, isa_t, isa_l, isa_n, b2_min, b2_max, cp_lt, cp_le, cp_gt, cp_ge, cp_eqi, cp_nei, cp_eq, cp_ne, cp_is, cp_isnot, cp_int, cp_nint, cp_inl, cp_ninl, is_nn, is_bb, is_in, is_bn, is_sn, is_tn, is_ln, ok_n, ok_b, ok_i, ok_t, ok_l, eqv_int, eqv_tup, eqv_lst, eqv_nn, eqv_bb, eqv_tn, eqv_nt, eqa_nn, eqa_nc, eqa_cn, eqa_cc, eqvs_ints, int_beq, itemsD, wipeOk, Slot.holds, Tg.slots, wipeE, bindTg, setAll, evP, prt, setPs, Ps.slots, asList, compL, cap, flatD, tu, li, ite_and, ite_or, cut_tail, at_nat, bi_len_t, bi_len_l, bi_all, bi_any, bi_tup_l, bi_tup_t, bi_lst_l, bi_lst_t, b__law_error, e, subC, Out.suite, noEx, mthD, findD, PyData.eqv]
end Pu

set_option maxHeartbeats 1000000
namespace Pu
open PySem PySem.Spec PyProof.Rows L2
def odds : List D := [.none, .str "a", .list [.int 65], .tuple [.int 256], .tuple [.int (-1)], .tuple [.bool true], .tuple (List.replicate 61 (.int 0))]
theorem odds_ok : ∀ o ∈ odds, ∀ k, G (k + 3) 2 [o] = .ok (.bool false) := by
  intro o ho
  simp only [odds, List.mem_cons, List.mem_nil_iff, or_false] at ho
  rcases ho with e | e | e | e | e | e | e <;> subst e <;> exact fun k => by kernel_rfl
def bads (c : Dc) : List D := [.none, .tuple [], .tuple [.int c.L, .str c.ov.s, .bool c.su], .list [.int c.L, .str c.ov.s, .bool c.su, .str c.po.s], .tuple [.int 5, .str c.ov.s, .bool c.su, .str c.po.s], .tuple [.int c.L, .str c.ov.s, .bool c.su, .str "drop"]]
theorem bad4 {a b c d : D} (ha : noD a = true) (hb : noD b = true) (hc : noD c = true) (hd : noD d = true) (h : isDec (.tuple [a, b, c, d]) = false) : ∀ k, G (k + 2) 9 [.tuple [a, b, c, d]] = .ok (.bool false) := fun k => by rw [s_dec4 k a b c d ha hb hc hd, h]
theorem poB_drop : poB "drop" = false := by decide +kernel
theorem bads_ok (c : Dc) : ∀ w ∈ bads c, ∀ k, G (k + 2) 9 [w] = .ok (.bool false) := by
  intro w hw
  simp only [bads, List.mem_cons, List.mem_nil_iff, or_false] at hw
  rcases hw with e | e | e | e | e | e <;> subst e
  · exact fun k => s_dec_no k _ rfl fun ds z => by cases z
  · exact fun k => s_dec_no k _ rfl fun ds z => by cases z; simp
  · exact fun k => s_dec_no k _ rfl fun ds z => by cases z; simp
  · exact fun k => s_dec_no k _ rfl fun ds z => by cases z
  · exact bad4 rfl rfl rfl rfl (by simp [isDec, isInt])
  · exact bad4 rfl rfl rfl rfl (by simp [isDec, poD, poB_drop])
theorem at_mem {xs : List D} {i : Int} (h0 : 0 ≤ i) (h1 : i < xs.length) : ∃ x ∈ xs, L2.atI xs i = some x := by
  have hl : i.toNat < xs.length := by omega
  exact ⟨xs[i.toNat], List.getElem_mem hl, by rw [at_nat _ h0, List.getElem?_eq_getElem hl]⟩
theorem fb14 (c : Dc) (x : List Int) (n : Int) (ab cl : Bool) : fbeq (rdF c.d (tu x) n ab cl) (rdF c.d (tu x) n ab cl) = true := fbeq_refl fun p hp => by
    simp only [rdF, List.mem_cons, List.mem_nil_iff, or_false] at hp
    rcases hp with h | h | h | h | h <;> subst h
    · exact ⟨8, by unfold Dc.d; simp only [ok_8, ok_7, ok_t, List.all_cons, List.all_nil, ok_i, ok_b, Bool.true_and, Bool.and_true]; rw [ok_ov 6, ok_po 6]; rfl⟩
    · exact ⟨8, ok_tu 6 x⟩
    · exact ⟨1, rfl⟩
    · exact ⟨1, rfl⟩
    · exact ⟨1, rfl⟩
/-! the errors -/
theorem e_odd (k : Nat) (c : Dc) (r : Rd) (n : Int) (cl : Bool) (od : D) (ho : ∀ k, G (k + 3) 2 [od] = .ok (.bool false)) : G (k + 8) 148 [.int 1, obD 0 (rdO c r n cl), od] = .ok (.tuple [.int 1, obD 0 (rdO c r n cl)]) := by
  rw [gO__law_error]
  refine er_feed1 (G (k + 7)) _ od ?_
  rw [g_Reader_feed]
  have e := s_chk_str (k + 2) od false (ho (k + 2))
  rw [if_neg Bool.false_ne_true] at e
  exact rd_feed_x1 (G (k + 6)) _ od _ e (fb14 _ _ _ _ _)
theorem e_65 (k : Nat) (c : Dc) (r : Rd) (n : Int) : G (k + 8) 148 [.int 1, obD 0 (rdO c r n true), tu [65]] = .ok (.tuple [.int 2, obD 0 (rdO c r n true)]) := by
  rw [gO__law_error]
  refine er_feed2 (G (k + 7)) _ _ ?_
  rw [g_Reader_feed]
  exact rd_feed_x2 (G (k + 6)) _ _ _ (s_chk_str_ok (k + 2) [65] (by simp) (by intro b hb; simp at hb; omega)) (s_open_x (k + 5) c _ _ _) (fb14 _ _ _ _ _)
theorem e_end (k : Nat) (c : Dc) (r : Rd) (n : Int) (x : D) : G (k + 8) 148 [.int 2, obD 0 (rdO c r n true), x] = .ok (.tuple [.int 2, obD 0 (rdO c r n true)]) := by
  rw [gO__law_error]
  refine er_fin (G (k + 7)) _ _ ?_
  rw [g_Reader_finish]
  exact rd_finish_x (G (k + 6)) _ _ (s_open_x (k + 5) c _ _ _) (fb14 _ _ _ _ _)
theorem e_new (k : Nat) (bd x : D) (hb : ∀ k, G (k + 2) 9 [bd] = .ok (.bool false)) : G (k + 8) 27 [.int 0, bd, x] = .ok (.int 0) := by
  rw [g__law_error]
  refine er_new (G (k + 7)) bd x ?_
  rw [g_Reader___init__]
  have e := s_chk_dec (k + 3) bd false (hb (k + 3))
  rw [if_neg Bool.false_ne_true] at e
  exact rd_init_x (G (k + 6)) bd _ e
/-! a turn -/
theorem t14a (g : Nat → List D → Rs D) (scr dec od : D) (S X TOLD IT DUE Y R Z : List D) (p dr p' rl : Int) (fs fs1 : List (Nat × D)) (s3 s4 s9 s10 s11 : Slot)
    (hdr : g 19 [scr, .int (30 + p), .int 4] = .ok (.int dr)) (hpos : 0 < dr) (hx : cutD S (some p) (some (p + dr)) = X) (hf : g 143 [obD 0 fs, .tuple X] = .ok (.tuple [.list IT, obD 0 fs1])) (hmin : bi2D .min (.int (p + dr)) (.int S.length) = .ok (.int p'))
    (hy : cutD S none (some p') = Y) (hkn : g 93 [dec, .tuple Y] = .ok (.tuple [.list DUE, .int rl])) (hc1 : cmpD .ne (.list (TOLD ++ IT)) (.list DUE) = some false) (hcn : g 146 [obD 0 fs1] = .ok (.tuple [.int p', obD 0 fs1])) (hpp : cmpD .ne (.int p') (.int p') = some false)
    (hpn : g 145 [obD 0 fs1] = .ok (.tuple [.tuple R, obD 0 fs1])) (hz : cutD S (some (p' - rl)) (some p') = Z) (hc2 : cmpD .ne (.tuple R) (.tuple Z) = some false) (her : g 148 [.int 1, obD 0 fs1, od] = .ok (.tuple [.int 1, obD 0 fs1]))
    (l1 : fs1.length ≤ 100) (k1 : TOLD.length + IT.length ≤ 16777216) :
    evSs tx.C g w_law_0 [.cl scr, .cl od, .cl (.list TOLD), s3, s4, .cl dec, .cl (.tuple S), .ob 0 fs, .cl (.int p), s9, s10, s11] = .next [.cl scr, .cl od, .cl (.list (TOLD ++ IT)), s3, s4, .cl dec, .cl (.tuple S), .ob 0 fs1, .cl (.int p'), .cl (.int dr), .cl (.list DUE), .cl (.int rl)] := by
  have h11 : cmpD .ne (.int 1) (.int 1) = some false := rfl
  have hne : cmpD .eq (.int dr) (.int 0) = some false := by simp [cmpD, okD, PyData.eqv]; omega
  simp [evD, ssn, ssc, evS, evE, evEs, evI, evC, evO, evB, evX, evXs, evDo, endO, prm_n, prm_b, prm_i, prm_l, prm_t, prm_x, prob_u, prn_u, unOb_ob, iteX, setTs, putN, blX, noDict, insAt, op_ai, op_at, op_al, op_si, op_mi, op_mt, op_mb, rp_i, rv_l, op_fd, op_md, idx_t, idx_l, slc_t, slc_l, isa_i, isa_b, isa_s, isa_t, isa_l, isa_n, b2_min, b2_max, cp_lt, cp_le, cp_gt, cp_ge, cp_eqi, cp_nei, cp_is, cp_isnot, is_nn, is_bb, is_in, is_bn, is_sn, is_tn, is_ln, ok_n, ok_b, ok_i, ok_t, ok_l, eqv_int, eqv_tup, eqv_lst, eqv_nn, eqv_bb, eqv_tn, eqv_nt, eqa_nn, eqa_nc, eqa_cn, eqa_cc, eqvs_ints, int_beq, itemsD, wipeOk, Slot.holds, Tg.slots, wipeE, bindTg, setAll, evP, prt, setPs, Ps.slots, asList, compL, cap, flatD, tu, li, ite_and, ite_or, cut_tail, at_nat, bi_len_t, bi_len_l, bi_all, bi_any, bi_tup_l, bi_tup_t, bi_lst_l, bi_lst_t, -at_nat, -putN, -b2_min, -cp_eqi, -cp_nei, w_law_0, hdr, hpos, hx, hf, hmin, hy, hkn, hc1, hcn, hpp, hpn, hz, hc2, her, l1, k1, h11, hne]
theorem t14b (g : Nat → List D → Rs D) (scr dec od : D) (S X X0 TOLD IT0 IT DUE Y R Z : List D) (p p' rl : Int) (fs fs0 fs1 : List (Nat × D)) (s3 s4 s9 s10 s11 : Slot)
    (hdr : g 19 [scr, .int (30 + p), .int 4] = .ok (.int 0)) (hx0 : cutD S (some p) (some p) = X0) (hf0 : g 143 [obD 0 fs, .tuple X0] = .ok (.tuple [.list IT0, obD 0 fs0])) (hmin : bi2D .min (.int (p + 1)) (.int S.length) = .ok (.int p'))
    (hx : cutD S (some (p' - 1)) (some p') = X) (hf : g 143 [obD 0 fs0, .tuple X] = .ok (.tuple [.list IT, obD 0 fs1]))
    (hy : cutD S none (some p') = Y) (hkn : g 93 [dec, .tuple Y] = .ok (.tuple [.list DUE, .int rl])) (hc1 : cmpD .ne (.list (TOLD ++ (IT0 ++ IT))) (.list DUE) = some false) (hcn : g 146 [obD 0 fs1] = .ok (.tuple [.int p', obD 0 fs1])) (hpp : cmpD .ne (.int p') (.int p') = some false)
    (hpn : g 145 [obD 0 fs1] = .ok (.tuple [.tuple R, obD 0 fs1])) (hz : cutD S (some (p' - rl)) (some p') = Z) (hc2 : cmpD .ne (.tuple R) (.tuple Z) = some false) (her : g 148 [.int 1, obD 0 fs1, od] = .ok (.tuple [.int 1, obD 0 fs1]))
    (l0 : fs0.length ≤ 100) (l1 : fs1.length ≤ 100) (k0 : TOLD.length + IT0.length ≤ 16777216) (k1 : TOLD.length + (IT0.length + IT.length) ≤ 16777216) :
    evSs tx.C g w_law_0 [.cl scr, .cl od, .cl (.list TOLD), s3, s4, .cl dec, .cl (.tuple S), .ob 0 fs, .cl (.int p), s9, s10, s11] = .next [.cl scr, .cl od, .cl (.list (TOLD ++ (IT0 ++ IT))), s3, s4, .cl dec, .cl (.tuple S), .ob 0 fs1, .cl (.int p'), .cl (.int 0), .cl (.list DUE), .cl (.int rl)] := by
  have h11 : cmpD .ne (.int 1) (.int 1) = some false := rfl
  have h00 : cmpD .eq (.int 0) (.int 0) = some true := rfl
  have k1' : TOLD.length + IT0.length + IT.length ≤ 16777216 := by omega
  simp [evD, ssn, ssc, evS, evE, evEs, evI, evC, evO, evB, evX, evXs, evDo, endO, prm_n, prm_b, prm_i, prm_l, prm_t, prm_x, prob_u, prn_u, unOb_ob, iteX, setTs, putN, blX, noDict, insAt, op_ai, op_at, op_al, op_si, op_mi, op_mt, op_mb, rp_i, rv_l, op_fd, op_md, idx_t, idx_l, slc_t, slc_l, isa_i, isa_b, isa_s, isa_t, isa_l, isa_n, b2_min, b2_max, cp_lt, cp_le, cp_gt, cp_ge, cp_eqi, cp_nei, cp_is, cp_isnot, is_nn, is_bb, is_in, is_bn, is_sn, is_tn, is_ln, ok_n, ok_b, ok_i, ok_t, ok_l, eqv_int, eqv_tup, eqv_lst, eqv_nn, eqv_bb, eqv_tn, eqv_nt, eqa_nn, eqa_nc, eqa_cn, eqa_cc, eqvs_ints, int_beq, itemsD, wipeOk, Slot.holds, Tg.slots, wipeE, bindTg, setAll, evP, prt, setPs, Ps.slots, asList, compL, cap, flatD, tu, li, ite_and, ite_or, cut_tail, at_nat, bi_len_t, bi_len_l, bi_all, bi_any, bi_tup_l, bi_tup_t, bi_lst_l, bi_lst_t, -at_nat, -putN, -b2_min, -cp_eqi, -cp_nei, w_law_0, hdr, hx0, hf0, hmin, hx, hf, hy, hkn, hc1, hcn, hpp, hpn, hz, hc2, her, l0, l1, k0, k1, k1', h11, h00]
def c14 : Ex := (.cmp .lt (.var 8) (.bi .len (.var 6)))
theorem c14_ev (g : Nat → List D → Rs D) (S : List D) (p : Int) (a b c d e f h i j m : Slot) : evB tx.C g c14 [a, b, c, d, e, f, .cl (.tuple S), m, .cl (.int p), h, i, j] = .ok (decide (p < (S.length : Int))) := by
  simp [evD, ssn, ssc, evS, evE, evEs, evI, evC, evO, evB, evX, evXs, evDo, endO, prm_n, prm_b, prm_i, prm_l, prm_t, prm_x, prob_u, prn_u, unOb_ob, iteX, setTs, putN, blX, noDict, insAt, op_ai, op_at, op_al, op_si, op_mi, op_mt, op_mb, rp_i, rv_l, op_fd, op_md, idx_t, idx_l, slc_t, slc_l, isa_i, isa_b, isa_s, isa_t, isa_l, isa_n, b2_min, b2_max, cp_lt, cp_le, cp_gt, cp_ge, cp_eqi, cp_nei, cp_is, cp_isnot, is_nn, is_bb, is_in, is_bn, is_sn, is_tn, is_ln, ok_n, ok_b, ok_i, ok_t, ok_l, eqv_int, eqv_tup, eqv_lst, eqv_nn, eqv_bb, eqv_tn, eqv_nt, eqa_nn, eqa_nc, eqa_cn, eqa_cc, eqvs_ints, int_beq, itemsD, wipeOk, Slot.holds, Tg.slots, wipeE, bindTg, setAll, evP, prt, setPs, Ps.slots, asList, compL, cap, flatD, tu, li, ite_and, ite_or, cut_tail, at_nat, bi_len_t, bi_len_l, bi_all, bi_any, bi_tup_l, bi_tup_t, bi_lst_l, bi_lst_t, c14]
theorem rest_tail {c : Dc} {s t : List Int} {r : Rd} (h : r.At c s t) : s.drop (s.length - r.rest.length) = r.rest := by
  obtain ⟨j, e⟩ := run_drop c 1000 s false
  rw [h.run] at e
  dsimp only at e
  rw [e, List.length_drop]
  by_cases hj : j ≤ s.length
  · congr 1; omega
  · have h1 : s.drop j = [] := by rw [List.drop_eq_nil_iff]; omega
    rw [h1, List.drop_eq_nil_iff]; omega
theorem loop14 (k : Nat) (c : Dc) (hc : c.Ok) (ns : List Int) (hns : ns.length ≤ 63) (s : List Int) (hs : Bys s) (hsl : s.length ≤ 24) (od : D) (ho : ∀ k, G (k + 3) 2 [od] = .ok (.bool false)) : ∀ (m p N : Nat) (told : List Int) (r : Rd) (s9 s10 s11 : Slot),
    s.length ≤ p + m → m < N → p ≤ s.length → r.Is c (s.take p) told → r.At c (s.take p) told → Bys r.rest →
    ∃ told' r' s9' s10' s11', r'.Is c s told' ∧
    whileL (evB tx.C (G (k + 8)) c14) (evSs tx.C (G (k + 8)) w_law_0) N [.cl (li ns), .cl od, .cl (li told), .no, .no, .cl c.d, .cl (tu s), .ob 0 (rdO c r p false), .cl (.int p), s9, s10, s11] =
      .next [.cl (li ns), .cl od, .cl (li told'), .no, .no, .cl c.d, .cl (tu s), .ob 0 (rdO c r' s.length false), .cl (.int s.length), s9', s10', s11']
  | m, p, 0, _, _, _, _, _, _, h, _, _, _, _ => absurd h (Nat.not_lt_zero _)
  | m, p, N + 1, told, r, s9, s10, s11, hm, hN, hp, hI, hA, hb => by
    by_cases hlt : p < s.length
    case neg =>
      have hpe : p = s.length := by omega
      subst hpe
      rw [List.take_length] at hI
      exact ⟨told, r, s9, s10, s11, hI, whileL_no (by rw [c14_ev, List.length_map, decide_eq_false (by omega)]) _⟩
    obtain ⟨m, rfl⟩ : ∃ m', m = m' + 1 := ⟨m - 1, by omega⟩
    have cond : evB tx.C (G (k + 8)) c14 [.cl (li ns), .cl od, .cl (li told), .no, .no, .cl c.d, .cl (tu s), .ob 0 (rdO c r p false), .cl (.int p), s9, s10, s11] = .ok true := by
      rw [c14_ev, List.length_map, decide_eq_true (by omega)]
    obtain ⟨d0, d1⟩ := drawn_range ns (30 + p) (m := 4) (by omega)
    have hdr := s_drawn (k + 7) ns (30 + p) 4 hns (by omega) (by omega) (by omega)
    obtain ⟨d, hd⟩ : ∃ d : Nat, drawn ns (30 + p) 4 = (d : Int) := ⟨(drawn ns (30 + p) 4).toNat, by omega⟩
    rw [hd] at hdr d1
    have hrl := hI.len
    have hpl : (s.take p).length = p := by rw [List.length_take]; omega
    -- what both have in common
    have fin : ∀ (p' : Nat) (t1 : List Int) (r1 : Rd), p < p' → p' ≤ s.length → r1.Is c (s.take p') t1 → r1.At c (s.take p') t1 → Bys r1.rest →
        G (k + 8) 93 [c.d, .tuple ((s.take p').map PyData.int)] = .ok (.tuple [.list (t1.map PyData.int), .int (r1.rest.length : Int)]) ∧ cutD (s.map PyData.int) none (some (p' : Int)) = (s.take p').map PyData.int ∧
        cutD (s.map PyData.int) (some ((p' : Int) - (r1.rest.length : Int))) (some (p' : Int)) = r1.rest.map PyData.int ∧ t1.length ≤ 100 ∧
        ∀ s9 s10 s11 : Slot, ∃ told' r' s9' s10' s11', r'.Is c s told' ∧ whileL (evB tx.C (G (k + 8)) c14) (evSs tx.C (G (k + 8)) w_law_0) N [.cl (li ns), .cl od, .cl (li t1), .no, .no, .cl c.d, .cl (tu s), .ob 0 (rdO c r1 p' false), .cl (.int p'), s9, s10, s11] =
          .next [.cl (li ns), .cl od, .cl (li told'), .no, .no, .cl c.d, .cl (tu s), .ob 0 (rdO c r' s.length false), .cl (.int s.length), s9', s10', s11'] := by
      intro p' t1 r1 h1 h2 i1 a1 b1
      have htl : (s.take p').length = p' := by rw [List.length_take]; omega
      have hk := s_known (k + 1) c hc (s.take p') (bys_take hs _) (by omega)
      rw [a1.run] at hk
      have hrest := rest_tail a1
      have hrl1 := i1.len
      have hle : r1.rest.length ≤ p' := by
        have := congrArg List.length hrest
        rw [List.length_drop, htl] at this
        omega
      have e1 := i1.end_
      have n1 := its_len c (s.take p') false
      rw [← e1, List.length_append] at n1
      refine ⟨hk, by rw [cut_to _ (by omega), List.map_take]; rfl, ?_, by omega, fun s9 s10 s11 => loop14 k c hc ns hns s hs hsl od ho m p' N t1 r1 s9 s10 s11 (by omega) (by omega) h2 i1 a1 b1⟩
      rw [cut_both _ (by omega) (by omega), Int.toNat_natCast, ← List.map_take, ← List.map_drop, show ((p' : Int) - (r1.rest.length : Int)).toNat = (s.take p').length - r1.rest.length by omega, hrest]
    by_cases hz : d = 0
    · subst hz
      obtain ⟨q0, b0⟩ := hI.feed hb (x := []) (fun _ z => by cases z) (by simp)
      have a0 := hA.feed (x := []) (bys_take hs _) (by simp; omega)
      have f0 := s_feed (k + 2) c r p [] (fun _ z => by cases z) (by simp) hb (by rw [List.append_nil]; omega)
      rw [List.append_nil] at q0 a0
      generalize (r.feed c []).1 = it0 at f0 q0 a0
      generalize (r.feed c []).2 = r0 at f0 q0 a0 b0
      have hr0 := q0.len
      obtain ⟨x, hx⟩ : ∃ x, x = (s.take (p + 1)).drop p := ⟨_, rfl⟩
      have hxl : x.length = 1 := by rw [hx, List.length_drop, List.length_take]; omega
      have hxb : Bys x := by rw [hx]; exact bys_drop (bys_take hs _) _
      have hsx : s.take p ++ x = s.take (p + 1) := by
        have e1 : s.take p = (s.take (p + 1)).take p := by rw [List.take_take]; congr 1; omega
        rw [hx, e1, List.take_append_drop]
      obtain ⟨q1, b1⟩ := q0.feed b0 hxb (by omega)
      have a1 := a0.feed (x := x) (bys_take hs _) (by omega)
      have f1 := s_feed (k + 2) c r0 ((p : Int) + (([] : List Int).length : Int)) x hxb (by omega) b0 (by rw [List.length_append]; omega)
      rw [hsx] at q1 a1
      have hp1 : (p : Int) + (([] : List Int).length : Int) + (x.length : Int) = ((p + 1 : Nat) : Int) := by rw [hxl]; simp
      rw [hp1] at f1
      generalize (r0.feed c x).1 = it1 at f1 q1 a1
      generalize (r0.feed c x).2 = r1 at f1 q1 a1 b1
      obtain ⟨g1, g2, g3, g4, g5⟩ := fin (p + 1) _ r1 (by omega) (by omega) q1 a1 b1
      rw [List.length_append, List.length_append] at g4
      have tn := t14b (G (k + 8)) (li ns) c.d od (s.map PyData.int) (x.map PyData.int) [] (told.map PyData.int) (it0.map PyData.int) (it1.map PyData.int) ((told ++ it0 ++ it1).map PyData.int) _ _ _ p ((p + 1 : Nat) : Int) _ _ _ _ .no .no s9 s10 s11 hdr (by rw [cut_both _ (by omega) (by omega), Int.toNat_natCast, List.drop_eq_nil_iff, List.length_take]; omega) f0
        (by rw [List.length_map, b2_min]; congr 2; omega) (by rw [cut_both _ (by omega) (by omega), Int.toNat_natCast, show (((p + 1 : Nat) : Int) - 1).toNat = p by omega, hx, List.map_drop, List.map_take]) f1 g2 g1 (by rw [← List.map_append, ← List.map_append, ← List.append_assoc]; exact ne_li _) (s_count (k + 7) c r1 _ false) (by simp [cmpD, okD, PyData.eqv])
        (s_pending (k + 7) c r1 _ false) g3 (ne_tu _) (e_odd k c r1 _ false od ho) (rdF_le _ _ _ _ _ ▸ trivial) (rdF_le _ _ _ _ _ ▸ trivial) (by simp only [List.length_map]; omega) (by simp only [List.length_map]; omega)
      rw [← List.map_append, ← List.map_append, ← List.append_assoc] at tn
      obtain ⟨told', r', s9', s10', s11', w1, w2⟩ := g5 (.cl (.int 0)) (.cl (.list ((told ++ it0 ++ it1).map PyData.int))) (.cl (.int (r1.rest.length : Int)))
      exact ⟨told', r', s9', s10', s11', w1, (whileL_yes cond tn).trans w2⟩
    · obtain ⟨p', hp'⟩ : ∃ p', p' = min (p + d) s.length := ⟨_, rfl⟩
      obtain ⟨x, hx⟩ : ∃ x, x = (s.take (p + d)).drop p := ⟨_, rfl⟩
      have hxl : x.length = p' - p := by rw [hx, List.length_drop, List.length_take, hp']
      have hxb : Bys x := by rw [hx]; exact bys_drop (bys_take hs _) _
      have hsx : s.take p ++ x = s.take p' := by
        have e1 : s.take p = (s.take (p + d)).take p := by rw [List.take_take]; congr 1; omega
        rw [hx, e1, List.take_append_drop]
        by_cases h : p + d ≤ s.length
        · rw [hp', Nat.min_eq_left h]
        · rw [hp', Nat.min_eq_right (by omega), List.take_length, List.take_of_length_le (by omega)]
      have hcx : cutD (s.map PyData.int) (some (p : Int)) (some ((p : Int) + (d : Int))) = x.map PyData.int := by
        rw [cut_both _ (by omega) (by omega), hx, List.map_drop, List.map_take]
        congr 2
      obtain ⟨q1, b1⟩ := hI.feed hb hxb (by omega)
      have a1 := hA.feed (x := x) (bys_take hs _) (by omega)
      have f1 := s_feed (k + 2) c r p x hxb (by omega) hb (by rw [List.length_append]; omega)
      rw [hsx] at q1 a1
      have hp1 : (p : Int) + (x.length : Int) = (p' : Int) := by omega
      rw [hp1] at f1
      generalize (r.feed c x).1 = it1 at f1 q1 a1
      generalize (r.feed c x).2 = r1 at f1 q1 a1 b1
      obtain ⟨g1, g2, g3, g4, g5⟩ := fin p' _ r1 (by omega) (by omega) q1 a1 b1
      rw [List.length_append] at g4
      have tn := t14a (G (k + 8)) (li ns) c.d od (s.map PyData.int) (x.map PyData.int) (told.map PyData.int) (it1.map PyData.int) ((told ++ it1).map PyData.int) _ _ _ p d (p' : Int) _ _ _ .no .no s9 s10 s11 hdr (by omega) hcx f1
        (by rw [List.length_map, b2_min]; congr 2; omega) g2 g1 (by rw [← List.map_append]; exact ne_li _) (s_count (k + 7) c r1 _ false) (by simp [cmpD, okD, PyData.eqv])
        (s_pending (k + 7) c r1 _ false) g3 (ne_tu _) (e_odd k c r1 _ false od ho) (rdF_le _ _ _ _ _ ▸ trivial) (by simp only [List.length_map]; omega)
      rw [← List.map_append] at tn
      obtain ⟨told', r', s9', s10', s11', w1, w2⟩ := g5 (.cl (.int d)) (.cl (.list ((told ++ it1).map PyData.int))) (.cl (.int (r1.rest.length : Int)))
      exact ⟨told', r', s9', s10', s11', w1, (whileL_yes cond tn).trans w2⟩
def b14 (E61 c : Ex) (w : Ss) : Ss :=
    (.cons (.par (.cons 5 false (.call 20 (.cons (.var 0) (.cons (.int 1) .nil))) (.cons 6 false (.call 22 (.cons (.var 0) (.cons (.int 10) (.cons (.int 6) .nil)))) .nil)))
    (.cons (.set 1 (.idx (.lst (.cons .non (.cons (.str "a") (.cons (.lst (.cons (.int 65) .nil)) (.cons (.tup (.cons (.int 256) .nil)) (.cons (.tup (.cons (.neg (.int 1)) .nil)) (.cons (.tup (.cons (.bl true) .nil)) (.cons E61 .nil)))))))) (.call 19 (.cons (.var 0) (.cons (.int 7) (.cons (.int 7) .nil))))))
    (.cons (.par (.mk 7 0 139 (.cons (.var 5) .nil) (.cons 8 false (.int 0) (.cons 2 false (.lst .nil) .nil))))
    (.cons (.while_ c w)
    (.cons (.xs (.set 2 (.op .add (.pur (.var 2)) (.meth 7 0 144 .nil))))
    (.cons (.xite (.or (.pur (.cmp .ne (.var 2) (.call 57 (.cons (.var 5) (.cons (.var 6) .nil))))) (.cmp .ne (.meth 7 0 145 .nil) (.pur (.tup .nil))))
    (.cons (.ret (.bl false))
    .nil)
    .nil)
    (.cons (.xite (.cmp .ne (.meth 7 0 146 .nil) (.pur (.bi .len (.var 6))))
    (.cons (.ret (.bl false))
    .nil)
    .nil)
    (.cons (.set 3 (.lst (.cons .non (.cons (.tup .nil) (.cons (.slc (.var 5) .no (.one (.int 3))) (.cons (.bi .list (.var 5)) (.cons (.op .add (.tup (.cons (.int 5) .nil)) (.slc (.var 5) (.one (.int 1)) .no)) .nil)))))))
    (.cons (.set 3 (.idx (.op .add (.var 3) (.lst (.cons (.op .add (.slc (.var 5) .no (.one (.int 3))) (.tup (.cons (.str "drop") .nil))) .nil))) (.call 19 (.cons (.var 0) (.cons (.int 8) (.cons (.int 6) .nil))))))
    (.cons (.xs (.set 4 (.lst (.cons (.callo 148 1 7 (.cons (.int 1) (.cons (.var 1) .nil))) (.cons (.callo 148 1 7 (.cons (.int 1) (.cons (.tup (.cons (.int 65) .nil)) .nil))) (.cons (.callo 148 1 7 (.cons (.int 2) (.cons (.int 0) .nil))) .nil))))))
    (.cons (.set 4 (.op .add (.var 4) (.lst (.cons (.call 27 (.cons (.int 0) (.cons (.var 3) (.cons (.int 0) .nil)))) .nil))))
    (.cons (.xs (.ret (.and (.pur (.cmp .eq (.var 4) (.lst (.cons (.int 1) (.cons (.int 2) (.cons (.int 2) (.cons (.int 0) .nil))))))) (.cmp .eq (.meth 7 0 146 .nil) (.pur (.bi .len (.var 6)))))))
    .nil))))))))))))
theorem core14 (g : Nat → List D → Rs D) (E61 cc : Ex) (w : Ss) (scr od bd : D) (c : Dc) (S TOLD IT DUE : List D) (i1 i2 : Int) (fs0 fs1 fs2 : List (Nat × D)) (s9 s10 s11 : Slot) (x61 : ∀ ρ, evE tx.C g E61 ρ = .ok (.tuple (List.replicate 61 (.int 0))))
    (h1 : g 20 [scr, .int 1] = .ok c.d) (h2 : g 22 [scr, .int 10, .int 6] = .ok (.tuple S)) (r1 : g 19 [scr, .int 7, .int 7] = .ok (.int i1)) (a1 : L2.atI odds i1 = some od) (r2 : g 19 [scr, .int 8, .int 6] = .ok (.int i2)) (a2 : L2.atI (bads c) i2 = some bd)
    (hi : g 139 [obD 0 [], c.d] = .ok (.tuple [.none, obD 0 fs0])) (l : whileL (evB tx.C g cc) (evSs tx.C g w) fuel [.cl scr, .cl od, .cl (.list []), .no, .no, .cl c.d, .cl (.tuple S), .ob 0 fs0, .cl (.int 0), .no, .no, .no] = .next [.cl scr, .cl od, .cl (.list TOLD), .no, .no, .cl c.d, .cl (.tuple S), .ob 0 fs1, .cl (.int S.length), s9, s10, s11])
    (hf : g 144 [obD 0 fs1] = .ok (.tuple [.list IT, obD 0 fs2])) (hit : g 57 [c.d, .tuple S] = .ok (.list DUE)) (hc1 : cmpD .ne (.list (TOLD ++ IT)) (.list DUE) = some false) (hpn : g 145 [obD 0 fs2] = .ok (.tuple [.tuple [], obD 0 fs2])) (hcn : g 146 [obD 0 fs2] = .ok (.tuple [.int S.length, obD 0 fs2]))
    (e1 : g 148 [.int 1, obD 0 fs2, od] = .ok (.tuple [.int 1, obD 0 fs2])) (e2 : g 148 [.int 1, obD 0 fs2, .tuple [.int 65]] = .ok (.tuple [.int 2, obD 0 fs2])) (e3 : g 148 [.int 2, obD 0 fs2, .int 0] = .ok (.tuple [.int 2, obD 0 fs2])) (e4 : g 27 [.int 0, bd, .int 0] = .ok (.int 0))
    (n1 : cmpD .ne (.int S.length) (.int S.length) = some false) (n2 : cmpD .eq (.int S.length) (.int S.length) = some true) (l0 : fs0.length ≤ 100) (l1 : fs1.length ≤ 100) (l2 : fs2.length ≤ 100) (k1 : TOLD.length + IT.length ≤ 16777216) :
    evD tx.C g 12 (b14 E61 cc w) [scr] = .ok (.bool true) := by
  have c3 : ∀ a b c d : D, cutD [a, b, c, d] none (some 3) = [a, b, c] := fun _ _ _ _ => rfl
  have q : cmpD .eq (.list [.int 1, .int 2, .int 2, .int 0]) (.list [.int 1, .int 2, .int 2, .int 0]) = some true := by kernel_rfl
  have qt : cmpD .ne (.tuple []) (.tuple []) = some false := rfl
  unfold odds at a1
  unfold bads at a2
  unfold Dc.d at *
  generalize PyData.tuple (List.replicate 61 (.int 0)) = z at *
  simp [evD, ssn, ssc, evS, evE, evEs, evI, evC, evO, evB, evX, evXs, evDo, endO, prm_n, prm_b, prm_i, prm_l, prm_t, prm_x, prob_u, prn_u, unOb_ob, iteX, setTs, putN, blX, noDict, insAt, op_ai, op_at, op_al, op_si, op_mi, op_mt, op_mb, rp_i, rv_l, op_fd, op_md, idx_t, idx_l, slc_t, slc_l, isa_i, isa_b, isa_s, isa_t, isa_l, isa_n, b2_min, b2_max, cp_lt, cp_le, cp_gt, cp_ge, cp_eqi, cp_nei, cp_is, cp_isnot, is_nn, is_bb, is_in, is_bn, is_sn, is_tn, is_ln, ok_n, ok_b, ok_i, ok_t, ok_l, eqv_int, eqv_tup, eqv_lst, eqv_nn, eqv_bb, eqv_tn, eqv_nt, eqa_nn, eqa_nc, eqa_cn, eqa_cc, eqvs_ints, int_beq, itemsD, wipeOk, Slot.holds, Tg.slots, wipeE, bindTg, setAll, evP, prt, setPs, Ps.slots, asList, compL, cap, flatD, tu, li, ite_and, ite_or, cut_tail, at_nat, bi_len_t, bi_len_l, bi_all, bi_any, bi_tup_l, bi_tup_t, bi_lst_l, bi_lst_t, -at_nat, -putN, -cp_eqi, -cp_nei, b14, x61, h1, h2, r1, a1, r2, a2, hi, l, hf, hit, hc1, hpn, hcn, e1, e2, e3, e4, n1, n2, l0, l1, l2, k1, c3, q, qt, consX, lstX]
theorem law_ok (k : Nat) (ns : List Int) (hns : ns.length ≤ 63) : G (k + 9) 29 [li ns] = .ok (.bool true) := by
  have hc := dcA_ok ns 1
  obtain ⟨hs, hsl⟩ := strS_ok ns 10 6 (by omega)
  have e1 := s_decoder (k + 6) ns 1 hns (by omega) (by omega)
  have e2 := s_string (k + 6) ns 10 6 hns (by omega) (by omega) (by omega) (by omega)
  generalize dcA ns 1 = c at hc e1
  generalize strS ns 10 6 = s at hs hsl e2
  have hsl' : s.length ≤ 24 := by simpa using hsl
  obtain ⟨p0, p1⟩ := drawn_range ns 7 (m := 7) (by omega)
  obtain ⟨q0, q1⟩ := drawn_range ns 8 (m := 6) (by omega)
  obtain ⟨od, ho, ao⟩ := at_mem (xs := odds) p0 p1
  obtain ⟨bd, hb, ab⟩ := at_mem (xs := bads c) q0 q1
  have ho := odds_ok od ho
  have hb := bads_ok c bd hb
  obtain ⟨told, r, s9, s10, s11, hr, l⟩ := loop14 k c hc ns hns s hs hsl' od ho s.length 0 fuel [] ⟨[], false⟩ .no .no .no (by omega) (by show s.length < 2000; omega) (by omega) (Rd.Is.new c) (Rd.At.new c) (fun _ z => by cases z)
  have hlen := hr.len
  have hf := s_finish (k + 1) c r s.length (by omega)
  have he := hr.end_
  have hit := s_litems (k + 2) c hc s hs (by omega)
  rw [itemsF_its c s false (by omega)] at hit
  have n := its_len c s false
  rw [← he, List.length_append] at n
  rw [g_law]
  have hw : b_law = b14 (.op .mul (.tup (.cons (.int 0) .nil)) (.int 61)) c14 w_law_0 := rfl
  rw [hw]
  have hlm : (s.map PyData.int).length = s.length := List.length_map _
  refine core14 (G (k + 8)) _ c14 w_law_0 (li ns) od bd c (s.map PyData.int) (told.map PyData.int) ((its c r.rest r.ab).1.map PyData.int) ((its c s false).1.map PyData.int) _ _ _ _ _ s9 s10 s11 (fun ρ => by kernel_rfl) e1 e2 (s_drawn (k + 7) ns 7 7 hns (by omega) (by omega) (by omega)) ao (s_drawn (k + 7) ns 8 6 hns (by omega) (by omega) (by omega)) ab (s_init (k + 4) c hc) (by rw [hlm]; exact l) hf hit
    (by rw [← List.map_append, he]; exact ne_li _) (s_pending (k + 7) c _ _ _) (by rw [hlm]; exact s_count (k + 7) c _ _ _) (e_odd k c _ _ _ od ho) (e_65 k c _ _) (e_end k c _ _ _) (e_new k bd _ hb) (by simp [cmpD, okD, PyData.eqv]) (by simp [cmpD, okD, PyData.eqv]) (rdF_le _ _ _ _ _ ▸ trivial) (rdF_le _ _ _ _ _ ▸ trivial) (rdF_le _ _ _ _ _ ▸ trivial) (by simp only [List.length_map]; omega)
end Pu

set_option maxHeartbeats 0
namespace Pu
open PySem PySem.Spec PyProof.Rows L2
def loose0 : List Str := ["_wall", "DecodingError", "InvalidDecoder", "InvalidString", "Closed", "MAX_STRING", "MAX_CODE", "FIRST_SURROGATE", "LAST_SURROGATE", "LEADS", "LIMITS", "FIRST_CONTINUATION", "LAST_CONTINUATION", "STEP", "REPLACEMENT", "is_int", "is_byte", "is_string", "is_continuation", "announced", "value_from", "least_value", "NONE", "ZERO", "ALL", "STOP", "BYTE", "PREFIX", "ANNOUNCED", "RUN"]
def loose1 : List Str := ["SKIP", "KEEP", "POLICIES", "ZERO_BYTES", "is_decoder", "check_decoder", "begins", "check_string", "good_size", "bad_size", "find_pieces", "bad_items", "items_of", "is_open", "Reader", "_law_drawn", "_law_decoder", "_law_chunks", "_law_string", "_law_announced", "_law_value", "_law_valid", "_law_begins", "_law_size", "_law_pieces", "_law_items", "_law_error", "_law_open", "_law_known"]
abbrev loose : List Str := loose0 ++ loose1
abbrev RR : PySem.W.OpenRow := PySem.W.OpenLaw.row PySem.Challenge.rw_badbytes_k14_reading
abbrev hk : PySem.W.Hook := He.hookX 5 tx.fa tx.fn [] [] tx.ex
def ob (s : PySem.W.SharedT) : He.AlX := He.obsX 5 tx.fa tx.fn [] [] tx.ex (HandSHeadRun.getT s)
theorem ob_eq (s : PySem.W.SharedT) : ob s = hk.obs s.abs := He.obsX_eq (HandSHeadRun.getT_eq s)
theorem runH (w : World) : HandSHeadRun.RunEq RR (PySem.W.view RR.prog [65]) hk ob 4000 loose w := by
  intro os
  kernel_rfl
end Pu
open PySem PySem.W PySem.Calls PyProof.Rows
theorem headT (hl : ∀ ns : List Int, ns.length ≤ 63 → Pu.Gk Pu.tx.fs Pu.tx.obs Pu.tx.C 40 29 [.list (ns.map PyData.int)] = .ok (.bool true)) : PySem.Challenge.rw_badbytes_k14_reading.Holds := by
  w_on; o_law
  refine HandSHeadRun.head_any (r := OpenLaw.row PySem.Challenge.rw_badbytes_k14_reading) (q := view (OpenLaw.row PySem.Challenge.rw_badbytes_k14_reading).prog [65]) (H := Pu.hk) (ob := Pu.ob) (M := 4000) (loose := Pu.loose) (d := HandSHeadRun.topDef (OpenLaw.row PySem.Challenge.rw_badbytes_k14_reading).prog 65) (kwd := []) Pu.ob_eq
    (by kernel_rfl) (fun s => by kernel_rfl) Pu.runH (by kernel_rfl) (by kernel_rfl) (by kernel_rfl) (by rfl) (by first | assumption | decide +kernel) (by decide +kernel) ⟨rfl, rfl, rfl, rfl, rfl, by decide +kernel⟩ ?hw ?hc
  case hw => w_witness2
  case hc => exact Pu.Tx.walk (l := PySem.Challenge.rw_badbytes_k14_reading) (n := 63) (k := 39) (x := "_law_script") Pu.tx_ok rfl (by decide) (by kernel_rfl) ⟨rfl, by decide, by decide⟩ (d := Pu.d_law) rfl (by kernel_rfl) rfl hl

open PySem PySem.W PySem.Calls PyProof.Rows
theorem PySem.Challenge.cw_badbytes_k14_reading_holds : PySem.Challenge.rw_badbytes_k14_reading.Holds := by
  exact headT fun ns h => Pu.law_ok 31 ns h
