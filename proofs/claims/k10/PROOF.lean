import PyProof.Rows.All
import Wide.All
import OpenK.AllK
import Wide.FinOn
import KE.DataEq
import KE.DataMinMax
import KE.DataAny
import KE.DataFind
import KE.DataIsa
import KE.SortData
import KE.SortCalls
import PyProof.ReprReads
import HandS.ForMost
import HandS.Exc
import HandS.ExcOwn
import HandS.TryOnly
import HandS.WordsExc
import HandS.Wide
import HandS.Flow
import HandS.IsInst
import HandS.TupAny
import HandS.Conv
import HandS.Zip
import HandS.More
import HandS.Style
import HandS.Defaults
import HandS.StrMore
import HandS.EndBits
import HandS.Walk
import HandS.WideMore
import PyProof.ReprRoads
import KE.GoesEnum
import KE.GoesZip
import HandS.HeadHook3
import HandS.Head2
import HandS.HeadEnd
import PySem.Challenge.RW_handboxes_k10_whole_turns_undone
set_option Elab.async false
set_option linter.all false
set_option maxRecDepth 100000
set_option maxHeartbeats 0
/-! The intermediate language and its run. -/
namespace HB
open PySem PySem.W
abbrev D := PyData
/-- a value in a slot: data, or a list of one's own (its place in the store) -/
inductive W where
  | d (v : D) | h (i : Nat)
/-- lst: a list of data; frz: one that stays for ever; lsw: a list whose items may be lists of one's own -/
inductive Cell where
  | lst (xs : List D) | frz (xs : List D) | lsw (ws : List W)
abbrev Sto := List Cell
abbrev Env := List (Option W)
structure Xn where
  cls : Str
  args : List D
inductive R (α : Type) where
  | ok (a : α) (s : Sto) | ex (x : Xn) (s : Sto) | bad
def R.bind {α β : Type} : R α → (α → Sto → R β) → R β
  | .ok a s, f => f a s
  | .ex x s, _ => .ex x s
  | .bad, _ => .bad
def R.of {α : Type} (s : Sto) : Option α → R α
  | some a => .ok a s
  | none => .bad
inductive O where
  | nx (e : Env) (s : Sto) | brk (e : Env) (s : Sto) | cnt (e : Env) (s : Sto) | ret (w : W) (s : Sto) | ex (x : Xn) (e : Env) (s : Sto) | bad
def O.bind : O → (Env → Sto → O) → O
  | .nx e s, f => f e s
  | o, _ => o
def R.toO {α : Type} (e : Env) : R α → (α → Sto → O) → O
  | .ok a s, f => f a s
  | .ex x s, _ => .ex x e s
  | .bad, _ => .bad
@[simp] theorem R.bind_ok {α β : Type} (a : α) (s : Sto) (f : α → Sto → R β) : (R.ok a s).bind f = f a s := rfl
@[simp] theorem R.of_some {α : Type} (a : α) (s : Sto) : R.of s (some a) = .ok a s := rfl
@[simp] theorem O.bind_nx (e : Env) (s : Sto) (f : Env → Sto → O) : (O.nx e s).bind f = f e s := rfl
@[simp] theorem O.bind_ret (w : W) (s : Sto) (f : Env → Sto → O) : (O.ret w s).bind f = .ret w s := rfl
@[simp] theorem O.bind_brk (e : Env) (s : Sto) (f : Env → Sto → O) : (O.brk e s).bind f = .brk e s := rfl
@[simp] theorem O.bind_cnt (e : Env) (s : Sto) (f : Env → Sto → O) : (O.cnt e s).bind f = .cnt e s := rfl
@[simp] theorem O.bind_ex (x : Xn) (e : Env) (s : Sto) (f : Env → Sto → O) : (O.ex x e s).bind f = .ex x e s := rfl
@[simp] theorem R.toO_ok {α : Type} (e : Env) (a : α) (s : Sto) (f : α → Sto → O) : (R.ok a s).toO e f = f a s := rfl

/-- what is to be read of a value now -/
def peek (s : Sto) : W → Option D
  | .d v => some v
  | .h i => match s[i]? with
    | some (.lst xs) => some (.list xs)
    | some (.frz xs) => some (.list xs)
    | _ => none
def peeks (s : Sto) : List W → Option (List D)
  | [] => some []
  | w :: ws => match peek s w, peeks s ws with
    | some d, some ds => some (d :: ds)
    | _, _ => none
/-- as data for ever: a list of one's own, with all in it, is no more changed -/
def frzsBy (f : Sto → W → Option (D × Sto)) : Sto → List W → Option (List D × Sto)
  | s, [] => some ([], s)
  | s, w :: ws => match f s w with
    | some (d, s') => match frzsBy f s' ws with
      | some (ds, s'') => some (d :: ds, s'')
      | none => none
    | none => none
def frzN : Nat → Sto → W → Option (D × Sto)
  | _, s, .d v => some (v, s)
  | 0, _, .h _ => none
  | n + 1, s, .h i => match s[i]? with
    | some (.lst xs) => some (.list xs, s.set i (.frz xs))
    | some (.frz xs) => some (.list xs, s)
    | some (.lsw ws) => match frzsBy (frzN n) s ws with
      | some (ds, s') => match s'[i]? with
        | some (.lsw _) => some (.list ds, s'.set i (.frz ds))
        | _ => none
      | none => none
    | none => none
def frz (s : Sto) (w : W) : Option (D × Sto) := frzN 30 s w
def toD {α : Type} (s : Sto) (w : W) (f : D → Sto → R α) : R α := match frz s w with
  | some (d, s') => f d s'
  | none => .bad

def maxLen : Nat := 1000000
/-! ### operators on data -/
inductive Op2 where
  | add | sub | mul | mod | fdiv | pow
  deriving DecidableEq
def bits (i : Int) : Nat := i.natAbs.log2
def bin2 : Op2 → D → D → Option D
  | .add, .int a, .int b => some (.int (a + b))
  | .sub, .int a, .int b => some (.int (a - b))
  | .mul, .int a, .int b => if bits a + bits b < 900000 then some (.int (a * b)) else none
  | .mod, .int a, .int b => if 0 < b then some (.int (a % b)) else none
  | .fdiv, .int a, .int b => if 0 < b ∧ bits b < 8000 then some (.int (a / b)) else none
  | .pow, .int a, .int b => if 0 ≤ b ∧ b ≤ 1000 ∧ a.natAbs < 1000000 then some (.int (a ^ b.toNat)) else none
  | .add, .str a, .str b => if a.length + b.length ≤ maxLen then some (.str (a ++ b)) else none
  | .add, .tuple a, .tuple b => if a.length + b.length ≤ maxLen then some (.tuple (a ++ b)) else none
  | _, _, _ => none
/-- .. in place -/
def ibin2 : Op2 → D → D → Option D
  | .add, .int a, .int b => some (.int (a + b))
  | .sub, .int a, .int b => some (.int (a - b))
  | .mod, .int a, .int b => if 0 < b then some (.int (a % b)) else none
  | .fdiv, .int a, .int b => if 0 < b ∧ bits b < 8000 then some (.int (a / b)) else none
  | .add, .str a, .str b => if a.length + b.length ≤ maxLen then some (.str (a ++ b)) else none
  | _, _, _ => none
inductive Cmp where
  | eq | ne | lt | le | gt | ge | isin | notin
  deriving DecidableEq
def cmp2 : Cmp → D → D → Option Bool
  | .eq, a, b => if a.plain && b.plain && decide (min a.depth b.depth ≤ 60) then some (PyData.eqv a b) else none
  | .ne, a, b => if a.plain && b.plain && decide (min a.depth b.depth ≤ 60) then some (!PyData.eqv a b) else none
  | .lt, .int a, .int b => some (decide (a < b))
  | .le, .int a, .int b => some (decide (a ≤ b))
  | .gt, .int a, .int b => some (decide (b < a))
  | .ge, .int a, .int b => some (decide (b ≤ a))
  | .isin, a, .list xs => if PyData.plainAll xs && a.plain && decide (min (PyData.depthAll xs) a.depth ≤ 60) then some (xs.any fun y => PyData.eqv y a) else none
  | .notin, a, .list xs => if PyData.plainAll xs && a.plain && decide (min (PyData.depthAll xs) a.depth ≤ 60) then some (!xs.any fun y => PyData.eqv y a) else none
  | .isin, a, .tuple xs => if PyData.plainAll xs && a.plain && decide (min (PyData.depthAll xs) a.depth ≤ 60) then some (xs.any fun y => PyData.eqv y a) else none
  | .notin, a, .tuple xs => if PyData.plainAll xs && a.plain && decide (min (PyData.depthAll xs) a.depth ≤ 60) then some (!xs.any fun y => PyData.eqv y a) else none
  | .isin, .str x, .str y => if x.length = 1 then some (y.cps.toList.contains (x.cps.toList.getD 0 0)) else none
  | .notin, .str x, .str y => if x.length = 1 then some (!y.cps.toList.contains (x.cps.toList.getD 0 0)) else none
  | _, _, _ => none
def truth : D → Option Bool
  | .none => some false
  | .bool b => some b
  | .int i => some (i != 0)
  | .str x => if x.length ≤ maxLen then some ((x.length : Int) != 0) else none
  | .list xs => some (!xs.isEmpty)
  | .tuple xs => some (!xs.isEmpty)
  | .dict _ => none

/-! ### data are one or not -/
mutual
def beqD : D → D → Bool
  | .none, .none => true
  | .bool a, .bool b => a == b
  | .int a, .int b => decide (a = b)
  | .str a, .str b => decide (a = b)
  | .list a, .list b => beqDs a b
  | .tuple a, .tuple b => beqDs a b
  | _, _ => false
def beqDs : List D → List D → Bool
  | [], [] => true
  | a :: as, b :: bs => beqD a b && beqDs as bs
  | _, _ => false
end
mutual
theorem beqD_eq : ∀ {a b : D}, beqD a b = true → a = b
  | .none, b, h => by cases b <;> first | rfl | cases h
  | .bool a, b, h => by
    cases b <;> try cases h
    simp [beqD] at h; rw [h]
  | .int a, b, h => by
    cases b <;> try cases h
    simp [beqD] at h; rw [h]
  | .str a, b, h => by
    cases b <;> try cases h
    simp [beqD] at h; rw [h]
  | .list a, b, h => by
    cases b <;> try cases h
    rw [beqDs_eq (a := a) (by simpa [beqD] using h)]
  | .tuple a, b, h => by
    cases b <;> try cases h
    rw [beqDs_eq (a := a) (by simpa [beqD] using h)]
  | .dict a, b, h => by cases b <;> cases h
theorem beqDs_eq : ∀ {a b : List D}, beqDs a b = true → a = b
  | [], b, h => by cases b <;> first | rfl | cases h
  | a :: as, b, h => by
    cases b with
    | nil => cases h
    | cons b bs =>
      simp [beqDs] at h
      rw [beqD_eq h.1, beqDs_eq h.2]
end
mutual
theorem beqD_self : ∀ {a : D}, a.plain = true → beqD a a = true
  | .none, _ => rfl
  | .bool a, _ => by simp [beqD]
  | .int a, _ => by simp [beqD]
  | .str a, _ => by simp [beqD]
  | .list a, h => by simpa [beqD] using beqDs_self (a := a) (by simpa [PyData.plain] using h)
  | .tuple a, h => by simpa [beqD] using beqDs_self (a := a) (by simpa [PyData.plain] using h)
  | .dict a, h => by cases h
theorem beqDs_self : ∀ {a : List D}, PyData.plainAll a = true → beqDs a a = true
  | [], _ => rfl
  | a :: as, h => by
    simp [PyData.plainAll] at h
    simp [beqDs, beqD_self h.1, beqDs_self h.2]
end
/-! ### the language -/
inductive Prim where
  | len | max1 | min1 | max2 | min2 | int | str | repr | tuple | sum | any | all | abs | isinst (ts : List String) | divmod
inductive PrimN where
  | list | sorted
inductive Mth where
  | append | extend | pop | popAt | reverse | insert | join | index | count
mutual
inductive Ex where
  | lit (d : D) | var (i : Nat) | glb (x : Str) (d : D)
  | bin (o : Op2) (a b : Ex) | neg (a : Ex) | cmp (o : Cmp) (a b : Ex) | isN (n : Bool) (a : Ex) | chain (o o' : Cmp) (a b c : Ex)
  | and (a b : Ex) | or (a b : Ex) | not (a : Ex) | ife (c a b : Ex)
  | tup (es : List Ex) | idx (a i : Ex) | slc (a : Ex) (lo hi : Option Ex) | rev (a : Ex)
  | call (f : Str) (es : List Ex) | prim (p : Prim) (es : List Ex) | mth (m : Mth) (ty : String) (o : Ex) (es : List Ex)
  | dlk (kvs : List (Str × Str)) (e : Ex) | gin (n : Bool) (x : Str) (ks : List Str) (e : Ex) | git (x : Str) (kvs : List (Str × D)) (e : Ex)
  | frs (n : Nw) | new (n : Nw)
  | newW (es : List Ex) | appW (o e : Ex) | popW (o : Ex)
/-- what makes a new list -/
inductive Nw where
  | lst (es : List Ex) | lc (own : List Nat) (elt : Ex) (tg : Tg) (it : It) (cond : Option Ex)
  | prm (p : PrimN) (es : List Ex) | slc (a : Ex) (lo hi : Option Ex) | cat (a b : Ex) | rep (a n : Ex)
inductive It where
  | each (e : Ex) | range1 (a : Ex) | range2 (a b : Ex) | enum (e : Ex) | zip (a b : Ex)
inductive Tg where
  | name (i : Nat) | tup (ts : List Tg) | ix (o i : Ex) | sl (o : Ex) (lo hi : Option Ex)
end
inductive St where
  | asg (t : Tg) (e : Ex) | par (ts : List Tg) (es : List Ex) | aug (i : Nat) (o : Op2) (e : Ex) | augIx (a i : Ex) (o : Op2) (e : Ex)
  | exp (e : Ex) | ite (c : Ex) (a b : List St) | for_ (t : Tg) (it : It) (b : List St) | while_ (c : Ex) (b : List St)
  | ret (e : Ex) | retN | pass | brk | cnt | raise_ (cls : Str) (es : List Ex) | nop
structure Def where
  name : Str
  params : Nat
  slots : List Str
  keep : Bool
  body : List St
/-! ### what the pieces tell -/
def strsOf : List D → Option (List Str)
  | [] => some []
  | .str x :: r => match strsOf r with
    | some l => some (x :: l)
    | none => none
  | _ => none
def intsOf : List D → Option (List Int)
  | [] => some []
  | .int x :: r => match intsOf r with
    | some l => some (x :: l)
    | none => none
  | _ => none
def boolsOf : List D → Option (List Bool)
  | [] => some []
  | .bool x :: r => match boolsOf r with
    | some l => some (x :: l)
    | none => none
  | _ => none
def alikeAllB (xs : List D) : Bool := xs.all fun x => (match x with | .none => false | _ => true) && xs.all fun y => alike x y
def depthOk (xs : List D) : Bool := decide (PyData.depthAll xs ≤ 60)
/-- the type of data, by its name -/
def isTy : D → String → Bool
  | .bool _, t => t == "bool" || t == "int"
  | .int _, t => t == "int"
  | .str _, t => t == "str"
  | .list _, t => t == "list"
  | .tuple _, t => t == "tuple"
  | .dict _, t => t == "dict"
  | .none, _ => false
def prim : Prim → List D → Option D
  | .len, [.str x] => if x.length ≤ maxLen then some (.int x.length) else none
  | .len, [.list xs] => some (.int xs.length)
  | .len, [.tuple xs] => some (.int xs.length)
  | .max1, [.list (x :: xs)] => if alikeAllB (x :: xs) && depthOk (x :: xs) then some (maxD x xs) else none
  | .max1, [.tuple (x :: xs)] => if alikeAllB (x :: xs) && depthOk (x :: xs) then some (maxD x xs) else none
  | .min1, [.list (x :: xs)] => if alikeAllB (x :: xs) && depthOk (x :: xs) then some (minD x xs) else none
  | .min1, [.tuple (x :: xs)] => if alikeAllB (x :: xs) && depthOk (x :: xs) then some (minD x xs) else none
  | .max2, [.int a, .int b] => some (.int (if b > a then b else a))
  | .min2, [.int a, .int b] => some (.int (if b < a then b else a))
  | .int, [.bool b] => some (.int (if b then 1 else 0))
  | .int, [.int i] => some (.int i)
  | .str, [.int i] => if bits i < 1900 then some (.str (toString i)) else none
  | .repr, [d] => if d.plain && d.showable && decide (d.depth ≤ 60) && decide (d.shown.length ≤ maxLen) then some (.str d.shown) else none
  | .tuple, [.list xs] => some (.tuple xs)
  | .tuple, [.tuple xs] => some (.tuple xs)
  | .sum, [.list xs] => match intsOf xs with
    | some ns => some (.int ns.sum)
    | none => none
  | .any, [.list xs] => match boolsOf xs with
    | some bs => some (.bool (bs.any id))
    | none => none
  | .all, [.list xs] => match boolsOf xs with
    | some bs => some (.bool (bs.all id))
    | none => none
  | .abs, [.int i] => some (.int (if i < 0 then -i else i))
  | .isinst ts, [x] => some (.bool (ts.any (isTy x)))
  | _, _ => none
def tupB : D → Bool
  | .tuple (_ :: _) => true
  | _ => false
def ntupB : D → Bool
  | .tuple _ => false
  | _ => true
/-- what sorted(..) takes -/
def sortOk (xs : List D) : Bool := alikeAllB xs && depthOk xs && (xs.all tupB || xs.all ntupB)
def primN : PrimN → List D → Option (List D)
  | .sorted, [.list xs] => if sortOk xs && decide (xs.length ≤ maxLen) then some (xs.mergeSort (dataLe false id)) else none
  | .list, [.list xs] => some xs
  | .list, [.tuple xs] => some xs
  | _, _ => none
def idx2 : D → D → Option D
  | .str x, .int i => if x.length ≤ maxLen then (L2.atI x.cps.toList i).map fun c => .str ⟨#[c]⟩ else none
  | .list xs, .int i => L2.atI xs i
  | .tuple xs, .int i => L2.atI xs i
  | _, _ => none
def idxL : D → D → Option D
  | .list xs, .int i => L2.atI xs i
  | _, _ => none
def cutD (xs : List D) (lo hi : Option Int) : List D := (xs.drop (HT.sIx xs.length 0 lo)).take (HT.sIx xs.length xs.length hi - HT.sIx xs.length 0 lo)
def slc2 : D → Option Int → Option Int → Option D
  | .str x, lo, hi => if x.length ≤ maxLen then some (.str (L2.cutS x lo hi)) else none
  | .tuple xs, lo, hi => some (.tuple (cutD xs lo hi))
  | _, _, _ => none
def rev2 : D → Option D
  | .tuple xs => some (.tuple xs.reverse)
  | .list xs => some (.list xs.reverse)
  | .str x => if x.length ≤ maxLen then some (.str ⟨x.cps.toList.reverse.toArray⟩) else none
  | _ => none
def neg1 : D → Option D
  | .int i => some (.int (-i))
  | _ => none
def int1 : D → Option (Option Int)
  | .int i => some (some i)
  | _ => none
def look (kvs : List (Str × Str)) : D → Option D
  | .str k => (kvs.lookup k).map .str
  | _ => none
def lookD (kvs : List (Str × D)) : D → Option D
  | .str k => kvs.lookup k
  | _ => none
def hasKey (n : Bool) (ks : List Str) : D → Option D
  | .str k => some (.bool (if n then !ks.contains k else ks.contains k))
  | _ => none
def small (o : Option (List D)) : Option (List D) := match o with
  | some xs => if xs.length ≤ maxLen then some xs else none
  | none => none
def cat2 : D → D → Option (List D)
  | .list xs, .list ys => some (xs ++ ys)
  | _, _ => none
def rep2 : D → D → Option (List D)
  | .list xs, .int k => if -(2 ^ 62) ≤ k ∧ k < 2 ^ 62 ∧ xs.length * k.toNat ≤ maxLen then some ((List.replicate k.toNat xs).flatten) else none
  | _, _ => none
def cut1 : D → Option Int → Option Int → Option (List D)
  | .list xs, lo, hi => some (cutD xs lo hi)
  | _, _, _ => none
def rangeL (lo hi : Int) : List D := (List.range (hi - lo).toNat).map fun (k : Nat) => .int (lo + k)
def enumL (k : Nat) : List D → List D
  | [] => []
  | x :: xs => .tuple [.int k, x] :: enumL (k + 1) xs
/-- what is walked: the lists of one's own that must stay, the items -/
structure Src where
  keep : List (Nat × List D)
  items : List D
def Src.ok (s : Sto) (c : List (Nat × List D)) : Bool := c.all fun p => match s[p.1]? with
  | some (.lst xs) => beqDs xs p.2
  | some (.frz xs) => beqDs xs p.2
  | _ => false
def range1 : D → Option Src
  | .int n => if -(2 ^ 62) ≤ n ∧ n < 2 ^ 62 then some ⟨[], rangeL 0 n⟩ else none
  | _ => none
def range2 : D → D → Option Src
  | .int a, .int b => if -(2 ^ 62) ≤ a ∧ a < 2 ^ 62 ∧ -(2 ^ 62) ≤ b ∧ b < 2 ^ 62 then some ⟨[], rangeL a b⟩ else none
  | _, _ => none
/-- a list, a tuple (a text) as it is walked -/
def srcOf (s : Sto) : W → Option Src
  | .d (.list xs) => some ⟨[], xs⟩
  | .d (.tuple xs) => some ⟨[], xs⟩
  | .h i => match s[i]? with
    | some (.lst xs) => some ⟨[(i, xs)], xs⟩
    | some (.frz xs) => some ⟨[], xs⟩
    | _ => none
  | _ => none
def srcS (s : Sto) : W → Option Src
  | .d (.str x) => some ⟨[], x.cps.toList.map fun c => .str ⟨#[c]⟩⟩
  | w => srcOf s w
def zipL : List D → List D → List D
  | x :: xs, y :: ys => .tuple [x, y] :: zipL xs ys
  | _, _ => []
/-- a list of one's own is written -/
def put (s : Sto) (w : W) (f : List D → Option (List D × D)) : R D := match w with
  | .h i => match s[i]? with
    | some (.lst xs) => match f xs with
      | some (ys, d) => if ys.length ≤ maxLen then .ok d (s.set i (.lst ys)) else .bad
      | none => .bad
    | _ => .bad
  | _ => .bad
/-- methods that change their list: what it holds then, what is told -/
def mthF : Mth → List D → List D → Option (List D × D)
  | .append, [x], xs => some (xs ++ [x], .none)
  | .extend, [.list ys], xs => some (xs ++ ys, .none)
  | .pop, [], xs => match xs.getLast? with
    | some x => some (xs.dropLast, x)
    | none => none
  | .reverse, [], xs => some (xs.reverse, .none)
  | _, _, _ => none
def mthW (s : Sto) (m : Mth) (w : W) (ds : List D) : R D := put s w (mthF m ds)
/-- methods that tell -/
def mthD : Mth → D → List D → Option D
  | .index, .str x, [.str y] => (Txt.index0 x y).map fun k => .int (k : Nat)
  | .join, .str z, [.list xs] => match strsOf xs with
    | some ys => if ys.length ≤ 1000 ∧ z.length ≤ 1000 ∧ (ys.map Str.length).sum ≤ 10000 then some (.str (Txt.join z ys)) else none
    | none => none
  | .join, .str z, [.tuple xs] => match strsOf xs with
    | some ys => if ys.length ≤ 1000 ∧ z.length ≤ 1000 ∧ (ys.map Str.length).sum ≤ 10000 then some (.str (Txt.join z ys)) else none
    | none => none
  | _, _, _ => none
def hasTy : D → String → Bool
  | .str _, t => t == "str"
  | .list _, t => t == "list"
  | _, _ => false
def Mth.writes : Mth → Bool
  | .append | .extend | .pop | .popAt | .reverse | .insert => true
  | _ => false
def alloc (r : R (List D)) : R W := r.bind fun xs s => .ok (.h s.length) (s ++ [.lst xs])
def setIx (s : Sto) (o i : W) (x : D) : R Unit := match peek s i with
  | some (.int k) => (put s o fun xs => (L2.ixN xs.length k).map fun j => (xs.set j x, PyData.none)).bind fun _ s => .ok () s
  | _ => .bad
def sameH (o : W) (j : Nat) : Bool := match o with
  | .h i => i == j
  | .d _ => true
/-- a part of a list of one's own becomes what another holds -/
def setSl (s : Sto) (o : W) (l h : Option Int) (w : W) : R Unit := match l, h, w with
  | some a, some c, .h j => match s[j]? with
    | some (.lst ys) => if sameH o j then .bad else
      (put s o fun xs => if 0 ≤ a ∧ a ≤ c ∧ c ≤ xs.length ∧ xs.length + ys.length ≤ maxLen then some (xs.take a.toNat ++ ys ++ xs.drop c.toNat, PyData.none) else none).bind fun _ s => .ok () s
    | _ => .bad
  | _, _, _ => .bad
def wipeE (e : Env) : List Nat → Env
  | [] => e
  | v :: vs => (wipeE e vs).set v none
end HB

namespace HB
open PySem PySem.W
/-! ### the run -/
def parts : Option (R W) → Sto → (Option Int → Sto → R W) → R W
  | none, s, f => f none s
  | some r, _, f => r.bind fun w s => match peek s w with
    | some (.int i) => f (some i) s
    | _ => .bad
def R.map1 (s : Sto) (o : Option D) : R W := R.of s (o.map W.d)
abbrev Calls := Str → List W → Sto → R W
def rd1 {α : Type} (s : Sto) (x : W) (g : D → R α) : R α := match peek s x with
  | some u => g u
  | none => .bad
def rd2 {α : Type} (s : Sto) (x y : W) (g : D → D → R α) : R α := match peek s x, peek s y with
  | some u, some v => g u v
  | _, _ => .bad
def rds {α : Type} (s : Sto) (ws : List W) (g : List D → R α) : R α := match peeks s ws with
  | some ds => g ds
  | none => .bad
def tst {α : Type} (s : Sto) (x : W) (g : Bool → R α) : R α := match (peek s x).bind truth with
  | some b => g b
  | none => .bad
def strD : D → Option Str
  | .str x => some x
  | _ => none
/-- a place of a list, of one's own lists too -/
def idxR (s : Sto) (x y : W) : R W := match x with
  | .h i => match s[i]? with
    | some (.lsw ws) => match peek s y with
      | some (.int k) => R.of s (L2.atI ws k)
      | _ => .bad
    | _ => rd2 s x y fun u v => R.map1 s (idx2 u v)
  | .d _ => rd2 s x y fun u v => R.map1 s (idx2 u v)
def appR (s : Sto) (x y : W) : R W := match x with
  | .h i => match s[i]? with
    | some (.lsw ws) => if ws.length + 1 ≤ maxLen then .ok (.d .none) (s.set i (.lsw (ws ++ [y]))) else .bad
    | _ => .bad
  | .d _ => .bad
def popR (s : Sto) (x : W) : R W := match x with
  | .h i => match s[i]? with
    | some (.lsw ws) => match ws.getLast? with
      | some y => .ok y (s.set i (.lsw ws.dropLast))
      | none => .bad
    | _ => .bad
  | .d _ => .bad
/-- a call sees the lists that are handed in alone -/
def gath : List W → Sto → List Nat → Option (List W × List Nat)
  | [], _, is => some ([], is)
  | .d v :: ws, s, is => (gath ws s is).map fun p => (.d v :: p.1, p.2)
  | .h i :: ws, s, is => if is.contains i then (gath ws s is).map fun p => (.h (is.idxOf i) :: p.1, p.2)
    else match s[i]? with
      | some (.lsw _) => none
      | none => none
      | _ => (gath ws s (is ++ [i])).map fun p => (.h is.length :: p.1, p.2)
def cellsAt (s : Sto) : List Nat → Sto
  | [] => []
  | i :: is => (match s[i]? with
    | some c => c
    | none => .lst []) :: cellsAt s is
def scat : List Nat → Sto → Sto → Option Sto
  | [], _, s => some s
  | i :: is, c :: cs, s => match c with
    | .lsw _ => none
    | _ => scat is cs (s.set i c)
  | _ :: _, [], _ => none
def callIn (c : Str → List W → Sto → R W) (f : Str) (ws : List W) (s : Sto) : R W := match gath ws s [] with
  | some (ws', is) => match c f ws' (cellsAt s is) with
    | .ok w s' => match scat is s' s with
      | some s2 => match w with
        | .d v => .ok (.d v) s2
        | .h i => if i = is.length then match s'[i]? with
          | some (.lst xs) => .ok (.h s2.length) (s2 ++ [.lst xs])
          | _ => .bad else .bad
      | none => .bad
    | .ex x s' => match scat is s' s with
      | some s2 => .ex x s2
      | none => .bad
    | .bad => .bad
  | none => .bad
/-- the items of a walk, each behind the other -/
def lcL (keep : Sto → Bool) (f : D → Sto → R (Option D)) : List D → Sto → R (List D)
  | [], s => if keep s then .ok [] s else .bad
  | x :: xs, s => if keep s then (f x s).bind fun o s => (lcL keep f xs s).bind fun ys s => .ok (match o with | some y => y :: ys | none => ys) s else .bad
def noEx {α : Type} : R α → R α
  | .ex _ _ => .bad
  | r => r
mutual
def evE (c : Calls) : Ex → Env → Sto → R W
  | .lit d, _, s => .ok (.d d) s
  | .glb _ d, _, s => .ok (.d d) s
  | .var i, e, s => match e[i]? with
    | some (some w) => .ok w s
    | _ => .bad
  | .bin o a b, e, s => (evE c a e s).bind fun x s => (evE c b e s).bind fun y s => rd2 s x y fun u v => R.map1 s (bin2 o u v)
  | .neg a, e, s => (evE c a e s).bind fun x s => rd1 s x fun u => R.map1 s (neg1 u)
  | .cmp o a b, e, s => (evE c a e s).bind fun x s => (evE c b e s).bind fun y s => rd2 s x y fun u v => R.map1 s ((cmp2 o u v).map .bool)
  | .isN n a, e, s => (evE c a e s).bind fun x s => .ok (.d (.bool (match x with | .d .none => !n | _ => n))) s
  | .chain o o' a b d, e, s => (evE c a e s).bind fun x s => (evE c b e s).bind fun y s => rd2 s x y fun u v => match cmp2 o u v with
    | some true => (evE c d e s).bind fun z s => rd2 s y z fun v t => R.map1 s ((cmp2 o' v t).map .bool)
    | some false => .ok (.d (.bool false)) s
    | none => .bad
  | .and a b, e, s => (evE c a e s).bind fun x s => tst s x fun k => if k then evE c b e s else .ok x s
  | .or a b, e, s => (evE c a e s).bind fun x s => tst s x fun k => if k then .ok x s else evE c b e s
  | .not a, e, s => (evE c a e s).bind fun x s => tst s x fun k => .ok (.d (.bool (!k))) s
  | .ife t a b, e, s => (evE c t e s).bind fun x s => tst s x fun k => if k then evE c a e s else evE c b e s
  | .tup es, e, s => (evD c es e s).bind fun ds s => if ds.length ≤ maxLen then .ok (.d (.tuple ds)) s else .bad
  | .idx a i, e, s => (evE c a e s).bind fun x s => (evE c i e s).bind fun y s => idxR s x y
  | .slc a lo hi, e, s => (evE c a e s).bind fun x s => (evP c lo e s).bind fun l s => (evP c hi e s).bind fun h s => rd1 s x fun u => R.map1 s (slc2 u l h)
  | .rev a, e, s => (evE c a e s).bind fun x s => rd1 s x fun u => R.map1 s (rev2 u)
  | .call f es, e, s => (evs c es e s).bind fun ws s => callIn c f ws s
  | .prim p es, e, s => (evs c es e s).bind fun ws s => rds s ws fun ds => R.map1 s (prim p ds)
  | .mth m ty o es, e, s => (evE c o e s).bind fun x s => rd1 s x fun u => if hasTy u ty then (if m.writes then (evD c es e s).bind fun ds s => (mthW s m x ds).bind fun d s => .ok (.d d) s
    else (evs c es e s).bind fun ws s => rd1 s x fun u => rds s ws fun ds => R.map1 s (mthD m u ds)) else .bad
  | .dlk kvs a, e, s => (evE c a e s).bind fun x s => rd1 s x fun u => R.map1 s (look kvs u)
  | .gin n _ ks a, e, s => (evE c a e s).bind fun x s => rd1 s x fun u => R.map1 s (hasKey n ks u)
  | .git _ kvs a, e, s => (evE c a e s).bind fun x s => rd1 s x fun u => R.map1 s (lookD kvs u)
  | .newW es, e, s => (evs c es e s).bind fun ws s => if ws.length ≤ maxLen then .ok (.h s.length) (s ++ [.lsw ws]) else .bad
  | .appW o a, e, s => (evE c o e s).bind fun x s => match x with
    | .h _ => (evE c a e s).bind fun y s => appR s x y
    | .d _ => .bad
  | .popW o, e, s => (evE c o e s).bind fun x s => popR s x
  | .frs n, e, s => (evN c n e s).bind fun xs s => .ok (.d (.list xs)) s
  | .new n, e, s => alloc (evN c n e s)
def evs (c : Calls) : List Ex → Env → Sto → R (List W)
  | [], _, s => .ok [] s
  | a :: es, e, s => (evE c a e s).bind fun x s => (evs c es e s).bind fun xs s => .ok (x :: xs) s
/-- .. as data for ever, each as it comes -/
def evD (c : Calls) : List Ex → Env → Sto → R (List D)
  | [], _, s => .ok [] s
  | a :: es, e, s => (evE c a e s).bind fun x s => toD s x fun d s => (evD c es e s).bind fun xs s => .ok (d :: xs) s
def evP (c : Calls) : Option Ex → Env → Sto → R (Option Int)
  | none, _, s => .ok none s
  | some a, e, s => (evE c a e s).bind fun x s => rd1 s x fun u => R.of s (int1 u)
def evN (c : Calls) : Nw → Env → Sto → R (List D)
  | .lst es, e, s => (evD c es e s).bind fun ds s => if ds.length ≤ maxLen then .ok ds s else .bad
  | .lc own elt tg it cond, e, s => (evI c it e s).bind fun src s =>
    (lcL (fun s => Src.ok s src.keep) (fun x s => noEx ((asT c tg (.d x) (wipeE e own) s).bind fun e' s => (evC c cond e' s).bind fun b s =>
      if b then (evE c elt e' s).bind fun w s => toD s w fun d s => .ok (some d) s else .ok none s)) src.items s).bind fun ys s =>
    if ys.length ≤ maxLen then .ok ys s else .bad
  | .prm p es, e, s => (evs c es e s).bind fun ws s => rds s ws fun ds => R.of s (small (primN p ds))
  | .slc a lo hi, e, s => (evE c a e s).bind fun x s => (evP c lo e s).bind fun l s => (evP c hi e s).bind fun h s => rd1 s x fun u => R.of s (cut1 u l h)
  | .cat a b, e, s => (evE c a e s).bind fun x s => (evE c b e s).bind fun y s => rd2 s x y fun u v => R.of s (small (cat2 u v))
  | .rep a n, e, s => (evE c a e s).bind fun x s => (evE c n e s).bind fun y s => rd2 s x y fun u v => R.of s (rep2 u v)
def evC (c : Calls) : Option Ex → Env → Sto → R Bool
  | none, _, s => .ok true s
  | some t, e, s => (evE c t e s).bind fun x s => tst s x fun k => .ok k s
def evI (c : Calls) : It → Env → Sto → R Src
  | .each a, e, s => (evE c a e s).bind fun x s => R.of s (srcS s x)
  | .range1 a, e, s => (evE c a e s).bind fun x s => rd1 s x fun u => R.of s (range1 u)
  | .range2 a b, e, s => (evE c a e s).bind fun x s => (evE c b e s).bind fun y s => rd2 s x y fun u v => R.of s (range2 u v)
  | .enum a, e, s => (evE c a e s).bind fun x s => R.of s ((srcS s x).map fun q => ⟨q.keep, enumL 0 q.items⟩)
  | .zip a b, e, s => (evE c a e s).bind fun x s => (evE c b e s).bind fun y s => R.of s ((srcS s x).bind fun p => (srcS s y).map fun q => ⟨p.keep ++ q.keep, zipL p.items q.items⟩)
def asT (c : Calls) : Tg → W → Env → Sto → R Env
  | .name i, w, e, s => if i < e.length then .ok (e.set i (some w)) s else .bad
  | .tup ts, w, e, s => match w with
    | .d (.tuple ds) => if ds.length = ts.length then asTs c ts (ds.map .d) e s else .bad
    | _ => .bad
  | .ix o i, w, e, s => toD s w fun x s => (evE c o e s).bind fun o s => (evE c i e s).bind fun i s => (setIx s o i x).bind fun _ s => .ok e s
  | .sl o lo hi, w, e, s => (evE c o e s).bind fun o s => (evP c lo e s).bind fun l s => (evP c hi e s).bind fun h s => (setSl s o l h w).bind fun _ s => .ok e s
def asTs (c : Calls) : List Tg → List W → Env → Sto → R Env
  | [], [], e, s => .ok e s
  | t :: ts, w :: ws, e, s => (asT c t w e s).bind fun e s => asTs c ts ws e s
  | _, _, _, _ => .bad
end
/-- a for's turns -/
def forL (keep : Sto → Bool) (f : D → Env → Sto → O) : List D → Env → Sto → O
  | [], e, s => if keep s then .nx e s else .bad
  | x :: xs, e, s => if keep s then (match f x e s with
    | .nx e s => forL keep f xs e s
    | .cnt e s => forL keep f xs e s
    | .brk e s => .nx e s
    | o => o) else .bad
def whileL (t : Env → Sto → R Bool) (f : Env → Sto → O) : Nat → Env → Sto → O
  | 0, _, _ => .bad
  | n + 1, e, s => match t e s with
    | .ok true s => (match f e s with
      | .nx e s => whileL t f n e s
      | .cnt e s => whileL t f n e s
      | .brk e s => .nx e s
      | o => o)
    | .ok false s => .nx e s
    | .ex x s => .ex x e s
    | .bad => .bad
def evT (c : Calls) (t : Ex) (e : Env) (s : Sto) : R Bool := (evE c t e s).bind fun x s => tst s x fun k => .ok k s
def turnsMost : Nat := 1000000
mutual
def exS (c : Calls) : St → Env → Sto → O
  | .asg t a, e, s => (evE c a e s).toO e fun w s => (noEx (asT c t w e s)).toO e .nx
  | .par ts es, e, s => (evs c es e s).toO e fun ws s => (noEx (asTs c ts ws e s)).toO e .nx
  | .aug i o a, e, s => match e[i]? with
    | some (some x) => ((evE c a e s).bind fun y s => rd2 s x y fun u v => R.map1 s (ibin2 o u v)).toO e fun w s => .nx (e.set i (some w)) s
    | _ => .bad
  | .augIx a i o b, e, s => ((evE c a e s).bind fun x s => (evE c i e s).bind fun y s => (rd2 s x y fun u v => R.of s (idxL u v)).bind fun w s => (evE c b e s).bind fun z s =>
    (rd1 s z fun v => R.of s (ibin2 o w v)).bind fun r s => setIx s x y r).toO e fun _ s => .nx e s
  | .exp a, e, s => (evE c a e s).toO e fun _ s => .nx e s
  | .ite t a b, e, s => (evT c t e s).toO e fun k s => if k then exB c a e s else exB c b e s
  | .for_ t it b, e, s => (evI c it e s).toO e fun src s =>
    forL (fun s => Src.ok s src.keep) (fun x e s => (noEx (asT c t (.d x) e s)).toO e fun e s => exB c b e s) src.items e s
  | .while_ t b, e, s => whileL (evT c t) (exB c b) turnsMost e s
  | .ret a, e, s => (evE c a e s).toO e .ret
  | .retN, _, s => .ret (.d .none) s
  | .pass, e, s => .nx e s
  | .brk, e, s => .brk e s
  | .cnt, e, s => .cnt e s
  | .raise_ n es, e, s => (evD c es e s).toO e fun ds s => .ex ⟨n, ds⟩ e s
  | .nop, e, s => .nx e s
def exB (c : Calls) : List St → Env → Sto → O
  | [], e, s => .nx e s
  | a :: b, e, s => (exS c a e s).bind fun e s => exB c b e s
end
/-- what a def hands back -/
def plainC : Cell → Bool
  | .lsw _ => false
  | _ => true
/-- the caller's lists are plain ones behind a call, too -/
def chkR (n : Nat) : R W → R W
  | .ok w s => if (s.take n).all plainC then .ok w s else .bad
  | .ex x s => if (s.take n).all plainC then .ex x s else .bad
  | .bad => .bad
def endF (keep : Bool) (n : Nat) (w : W) (s : Sto) : R W :=
  if keep then (match w with
    | .d v => .ok (.d v) (s.take n)
    | .h i => if n ≤ i then (match s[i]? with
      | some (.lst xs) => .ok (.h n) (s.take n ++ [.lst xs])
      | _ => .bad) else .bad)
  else toD s w fun d s => .ok (.d d) (s.take n)
def outF (keep : Bool) (n : Nat) : O → R W
  | .nx _ s => .ok (.d .none) (s.take n)
  | .ret w s => endF keep n w s
  | .ex x _ s => .ex x (s.take n)
  | _ => .bad
abbrev Ext := List (Str × (List D → Option D))
/-- the defs of a program; ext: what is told by hand of others -/
def runF (P : List Def) (X : Ext) : Nat → Calls
  | 0, _, _, _ => .bad
  | k + 1, f, ws, s => match P.find? (fun d => decide (d.name = f)) with
    | some d => if ws.length = d.params then chkR s.length (outF d.keep s.length (exB (runF P X k) d.body (ws.map some ++ List.replicate (d.slots.length - ws.length) none) s)) else .bad
    | none => match X.lookup f with
      | some g => rds s ws fun ds => R.map1 s (g ds)
      | none => .bad
end HB
/-! The run and the model: what is meant, the ground. -/
namespace HB
open PySem PySem.W PySem.Spec PyProof.Rows L2
def K0 : PySem.W.Frag := []
def Sub (Φ H : Hp) : Prop := ∀ a o, Φ a = some o → H a = some o
theorem Sub.refl (Φ : Hp) : Sub Φ Φ := fun _ _ h => h
theorem Sub.trans {a b c : Hp} (h : Sub a b) (g : Sub b c) : Sub a c := fun x o e => g x o (h x o e)
theorem sub_upd {Φ H : Hp} (h : Sub Φ H) (p : Addr) (o : HO) : Sub (L2.upd Φ p o) (L2.upd H p o) := fun a u e => by
  by_cases q : a = p
  · subst q; rw [upd_same] at e ⊢; exact e
  · rw [upd_ne q] at e ⊢; exact h a u e
theorem Sub.grow {Φ : Hp} {p : Addr} (o : HO) (h : Φ p = none) : Sub Φ (L2.upd Φ p o) := fun a u e => by
  rw [upd_ne (ne_of_none e h)]; exact e
theorem Sub.free {Φ H : Hp} (h : Sub Φ H) {p : Addr} (e : H p = none) : Φ p = none := by
  cases q : Φ p with
  | none => rfl
  | some o => rw [h p o q] at e; cases e
section
variable {K : PySem.W.Frag}
theorem Rd.sub {Φ H : Hp} (s : Sub Φ H) {a : Addr} {u : HO} (h : Rd Φ a u) : Rd H a u := by
  rcases h with h | ⟨o, h⟩
  · exact .inl (s _ _ h)
  · exact .inr ⟨o, s _ _ h⟩
theorem sqL0 {Φ : Hp} {a : Addr} {xs : List V} (h : SqL K0 Φ a xs) : Rd Φ a (.lst xs) := by
  rcases h with h | ⟨o, _, _, h, _⟩
  · exact h
  · cases h
theorem sqT0 {Φ : Hp} {a : Addr} {xs : List V} (h : SqT K0 Φ a xs) : Rd Φ a (.tup xs) := by
  rcases h with h | ⟨o, _, _, h, _⟩
  · exact h
  · cases h
theorem SqL.sub {Φ H : Hp} (s : Sub Φ H) {a : Addr} {xs : List V} (h : SqL K0 Φ a xs) : SqL K H a xs := .inl (Rd.sub s (sqL0 h))
theorem SqT.sub {Φ H : Hp} (s : Sub Φ H) {a : Addr} {xs : List V} (h : SqT K0 Φ a xs) : SqT K H a xs := .inl (Rd.sub s (sqT0 h))
mutual
theorem Dp.sub {Φ H : Hp} (s : Sub Φ H) : ∀ {v : V} {d : D}, Dp K0 Φ v d → Dp K H v d
  | _, _, .non => .non
  | _, _, .bl b => .bl b
  | _, _, .int i => .int i
  | _, _, .str x => .str x
  | _, _, .lst h t => .lst (SqL.sub s h) (DpAll.sub s t)
  | _, _, .tup h t => .tup (SqT.sub s h) (DpAll.sub s t)
theorem DpAll.sub {Φ H : Hp} (s : Sub Φ H) : ∀ {vs : List V} {ds : List D}, DpAll K0 Φ vs ds → DpAll K H vs ds
  | _, _, .nil => .nil
  | _, _, .cons h t => .cons (Dp.sub s h) (DpAll.sub s t)
end
mutual
theorem Dp.plain {Φ : Hp} : ∀ {v : V} {d : D}, Dp K0 Φ v d → d.plain = true
  | _, _, .non => rfl
  | _, _, .bl b => rfl
  | _, _, .int i => rfl
  | _, _, .str x => rfl
  | _, _, .lst h t => by simpa [PyData.plain] using DpAll.plain t
  | _, _, .tup h t => by simpa [PyData.plain] using DpAll.plain t
theorem DpAll.plain {Φ : Hp} : ∀ {vs : List V} {ds : List D}, DpAll K0 Φ vs ds → PyData.plainAll ds = true
  | _, _, .nil => rfl
  | _, _, .cons h t => by simp [PyData.plainAll, Dp.plain h, DpAll.plain t]
end
theorem DpAll.length {Φ : Hp} : ∀ {vs : List V} {ds : List D}, DpAll K0 Φ vs ds → vs.length = ds.length
  | _, _, .nil => rfl
  | _, _, .cons _ t => congrArg (· + 1) (DpAll.length t)
theorem DpAll.append {Φ : Hp} : ∀ {vs ws : List V} {ds es : List D}, DpAll K0 Φ vs ds → DpAll K0 Φ ws es → DpAll K0 Φ (vs ++ ws) (ds ++ es)
  | _, _, _, _, .nil, s => s
  | _, _, _, _, .cons h t, s => .cons h (DpAll.append t s)
theorem DpAll.get {Φ : Hp} : ∀ {vs : List V} {ds : List D} {i : Nat} {d : D}, DpAll K0 Φ vs ds → ds[i]? = some d → ∃ v, vs[i]? = some v ∧ Dp K0 Φ v d
  | _, _, _, _, .nil, e => by simp at e
  | _, _, 0, _, .cons h _, e => by simp at e; subst e; exact ⟨_, rfl, h⟩
  | _, _, i + 1, _, .cons _ t, e => by
    obtain ⟨v, h1, h2⟩ := DpAll.get (i := i) t (by simpa using e)
    exact ⟨v, by simpa using h1, h2⟩
theorem DpAll.getV {Φ : Hp} : ∀ {vs : List V} {ds : List D} {i : Nat} {v : V}, DpAll K0 Φ vs ds → vs[i]? = some v → ∃ d, ds[i]? = some d ∧ Dp K0 Φ v d
  | _, _, _, _, .nil, e => by simp at e
  | _, _, 0, _, .cons h _, e => by simp at e; subst e; exact ⟨_, rfl, h⟩
  | _, _, i + 1, _, .cons _ t, e => by
    obtain ⟨d, h1, h2⟩ := DpAll.getV (i := i) t (by simpa using e)
    exact ⟨d, by simpa using h1, h2⟩
theorem DpAll.take {Φ : Hp} : ∀ {vs : List V} {ds : List D} (n : Nat), DpAll K0 Φ vs ds → DpAll K0 Φ (vs.take n) (ds.take n)
  | _, _, 0, _ => by simp; exact .nil
  | _, _, _ + 1, .nil => .nil
  | _, _, n + 1, .cons h t => .cons h (DpAll.take n t)
theorem DpAll.drop {Φ : Hp} : ∀ {vs : List V} {ds : List D} (n : Nat), DpAll K0 Φ vs ds → DpAll K0 Φ (vs.drop n) (ds.drop n)
  | _, _, 0, h => h
  | _, _, _ + 1, .nil => .nil
  | _, _, n + 1, .cons _ t => DpAll.drop n t
theorem DpAll.set {Φ : Hp} {v : V} {d : D} (r : Dp K0 Φ v d) : ∀ {vs : List V} {ds : List D} (n : Nat), DpAll K0 Φ vs ds → DpAll K0 Φ (vs.set n v) (ds.set n d)
  | _, _, _, .nil => .nil
  | _, _, 0, .cons _ t => .cons r t
  | _, _, n + 1, .cons h t => .cons h (DpAll.set r n t)
theorem DpAll.reverse {Φ : Hp} : ∀ {vs : List V} {ds : List D}, DpAll K0 Φ vs ds → DpAll K0 Φ vs.reverse ds.reverse
  | _, _, .nil => .nil
  | _, _, .cons h t => by
    rw [List.reverse_cons, List.reverse_cons]
    exact DpAll.append (DpAll.reverse t) (.cons h .nil)

theorem nodup_at {α : Type} {l : List α} (h : l.Nodup) {i j : Nat} {a : α} (e : l[i]? = some a) (f : l[j]? = some a) : i = j := by
  obtain ⟨hi, e⟩ := List.getElem?_eq_some_iff.mp e
  obtain ⟨hj, f⟩ := List.getElem?_eq_some_iff.mp f
  have p := List.pairwise_iff_getElem.mp h
  rcases Nat.lt_trichotomy i j with q | q | q
  · exact absurd (e.trans f.symm) (p i j hi hj q)
  · exact q
  · exact absurd (f.trans e.symm) (p j i hj hi q)
/-! ### the store -/
def RelW (Φ : Hp) (ρ : List Addr) : W → V → Prop
  | .d d, v => Dp K0 Φ v d
  | .h i, v => ∃ a, ρ[i]? = some a ∧ v = .ref a
abbrev RelWs (Φ : Hp) (ρ : List Addr) : List W → List V → Prop := Paired (RelW Φ ρ)
def CellOk (Φ : Hp) (ρ : List Addr) (H : Hp) (a : Addr) : Cell → Prop
  | .lst ds => Φ a = none ∧ ∃ vs, H a = some (.lst vs) ∧ DpAll K0 Φ vs ds
  | .frz ds => ∃ vs, Φ a = some (.lst vs) ∧ DpAll K0 Φ vs ds
  | .lsw ws => Φ a = none ∧ ∃ vs, H a = some (.lst vs) ∧ RelWs Φ ρ ws vs
structure Ok (Ψ Φ : Hp) (ρ : List Addr) (σ : Sto) (H : Hp) : Prop where
  pin : ∀ a u, Ψ a = some u → H a = some u ∧ Φ a = none ∧ a ∉ ρ
  sub : Sub Φ H
  nd : ρ.Nodup
  len : ρ.length = σ.length
  cell : ∀ (i : Nat) (a : Addr) (c : Cell), ρ[i]? = some a → σ[i]? = some c → CellOk Φ ρ H a c
theorem pre_get {ρ ρ' : List Addr} (h : ρ <+: ρ') {i : Nat} {a : Addr} (e : ρ[i]? = some a) : ρ'[i]? = some a := by
  obtain ⟨t, rfl⟩ := h
  have hl : i < ρ.length := by
    rcases Nat.lt_or_ge i ρ.length with h | h
    · exact h
    · rw [List.getElem?_eq_none h] at e; cases e
  rw [List.getElem?_append_left hl]; exact e
theorem RelW.mono {Φ Φ' : Hp} {ρ ρ' : List Addr} (s : Sub Φ Φ') (p : ρ <+: ρ') {w : W} {v : V} (h : RelW Φ ρ w v) : RelW Φ' ρ' w v := by
  cases w with
  | d d => exact Dp.sub s h
  | h i =>
    obtain ⟨a, e, r⟩ := h
    exact ⟨a, pre_get p e, r⟩
theorem RelWs.mono {Φ Φ' : Hp} {ρ ρ' : List Addr} (s : Sub Φ Φ') (p : ρ <+: ρ') {ws : List W} {vs : List V} (h : RelWs Φ ρ ws vs) : RelWs Φ' ρ' ws vs := Paired.mapP h fun _ _ r => r.mono s p
structure EnvOk (Φ : Hp) (ρ : List Addr) (env : Env) (σ : L2.St) : Prop where
  len : env.length = σ.length
  get : ∀ (i : Nat) (w : W), env[i]? = some (some w) → ∃ v, σ[i]? = some (some v) ∧ RelW Φ ρ w v
theorem EnvOk.mono {Φ Φ' : Hp} {ρ ρ' : List Addr} (s : Sub Φ Φ') (p : ρ <+: ρ') {env : Env} {σ : L2.St} (h : EnvOk Φ ρ env σ) : EnvOk Φ' ρ' env σ :=
  ⟨h.len, fun i w e => by obtain ⟨v, h1, h2⟩ := h.get i w e; exact ⟨v, h1, h2.mono s p⟩⟩
theorem EnvOk.set {Φ : Hp} {ρ : List Addr} {env : Env} {σ : L2.St} (h : EnvOk Φ ρ env σ) (i : Nat) {w : W} {v : V} (r : RelW Φ ρ w v) : EnvOk Φ ρ (env.set i (some w)) (σ.set i (some v)) := by
  refine ⟨by simp [h.len], fun j u e => ?_⟩
  rw [List.getElem?_set] at e ⊢
  by_cases hj : i = j
  · subst hj
    rw [if_pos rfl] at e ⊢
    by_cases hl : i < env.length
    · rw [if_pos hl] at e
      have := h.len
      rw [if_pos (by omega)]
      cases e
      exact ⟨v, rfl, r⟩
    · rw [if_neg hl] at e; cases e
  · rw [if_neg hj] at e ⊢
    exact h.get j u e
theorem EnvOk.setNone {Φ : Hp} {ρ : List Addr} {env : Env} {σ : L2.St} (h : EnvOk Φ ρ env σ) (i : Nat) : EnvOk Φ ρ (env.set i none) (σ.set i none) := by
  refine ⟨by simp [h.len], fun j u e => ?_⟩
  rw [List.getElem?_set] at e ⊢
  by_cases hj : i = j
  · subst hj
    rw [if_pos rfl] at e
    split at e <;> cases e
  · rw [if_neg hj] at e ⊢
    exact h.get j u e
theorem EnvOk.wipe {Φ : Hp} {ρ : List Addr} {env : Env} {σ : L2.St} (h : EnvOk Φ ρ env σ) : ∀ vs : List Nat, EnvOk Φ ρ (wipeE env vs) (L2.wipe σ vs)
  | [] => h
  | v :: vs => (EnvOk.wipe h vs).setNone v

/-! ### what a run's end means -/
def Fin {α : Type} (Ψ Φ : Hp) (ρ : List Addr) (r : R α) (P : α → Sto → Hp → List Addr → Hp → Prop) (E : Xn → Hp → Prop) : Prop :=
  match r with
  | .ok a s => ∀ Φ' ρ' H', Sub Φ Φ' → ρ <+: ρ' → Ok Ψ Φ' ρ' s H' → P a s Φ' ρ' H'
  | .ex x s => ∀ Φ' ρ' H', Sub Φ Φ' → ρ <+: ρ' → Ok Ψ Φ' ρ' s H' → E x H'
  | .bad => False
section
variable {α β : Type} {Φ Φ' : Hp} {ρ ρ' : List Addr} {E E' : Xn → Hp → Prop}
theorem Fin.mono {r : R α} {P : α → Sto → Hp → List Addr → Hp → Prop} (h : Fin Ψ Φ ρ r P E) (s : Sub Φ Φ') (p : ρ <+: ρ') : Fin Ψ Φ' ρ' r P E := by
  cases r with
  | ok a t => exact fun Φ2 ρ2 H2 s2 p2 o => h Φ2 ρ2 H2 (s.trans s2) (p.trans p2) o
  | ex x t => exact fun Φ2 ρ2 H2 s2 p2 o => h Φ2 ρ2 H2 (s.trans s2) (p.trans p2) o
  | bad => exact h
theorem Fin.bind {r : R α} {f : α → Sto → R β} {P : β → Sto → Hp → List Addr → Hp → Prop} (h : Fin Ψ Φ ρ (r.bind f) P E) : Fin Ψ Φ ρ r (fun a s Φ1 ρ1 _ => Fin Ψ Φ1 ρ1 (f a s) P E) E := by
  cases r with
  | ok a t => exact fun Φ1 ρ1 H1 s1 p1 o => Fin.mono (r := f a t) h s1 p1
  | ex x t => exact h
  | bad => exact h
theorem Fin.imp {r : R α} {P P' : α → Sto → Hp → List Addr → Hp → Prop} (h : Fin Ψ Φ ρ r P E)
    (i : ∀ a s Φ' ρ' H', Sub Φ Φ' → ρ <+: ρ' → Ok Ψ Φ' ρ' s H' → P a s Φ' ρ' H' → P' a s Φ' ρ' H') : Fin Ψ Φ ρ r P' E := by
  cases r with
  | ok a t => exact fun Φ1 ρ1 H1 s1 p1 o => i _ _ _ _ _ s1 p1 o (h Φ1 ρ1 H1 s1 p1 o)
  | ex x t => exact h
  | bad => exact h
theorem Fin.impE {r : R α} {P : α → Sto → Hp → List Addr → Hp → Prop} (h : Fin Ψ Φ ρ r P E) (i : ∀ x H, E x H → E' x H) : Fin Ψ Φ ρ r P E' := by
  cases r with
  | ok a t => exact h
  | ex x t => exact fun Φ1 ρ1 H1 s1 p1 o => i _ _ (h Φ1 ρ1 H1 s1 p1 o)
  | bad => exact h
/-- it came through -/
theorem Fin.ok {a : α} {s : Sto} {P : α → Sto → Hp → List Addr → Hp → Prop} {H : Hp} (h : Fin Ψ Φ ρ (.ok a s) P E) (o : Ok Ψ Φ ρ s H) : P a s Φ ρ H := h Φ ρ H (Sub.refl _) (List.prefix_refl _) o
end

/-! ### the store's steps -/
section
variable {K : PySem.W.Frag} {Φ H : Hp} {ρ : List Addr} {σ : Sto}
theorem Ok.addr (o : Ok Ψ Φ ρ σ H) {i : Nat} {c : Cell} (e : σ[i]? = some c) : ∃ a, ρ[i]? = some a := by
  have hl : i < σ.length := by
    rcases Nat.lt_or_ge i σ.length with h | h
    · exact h
    · rw [List.getElem?_eq_none h] at e; cases e
  have := o.len
  exact ⟨_, List.getElem?_eq_getElem (by omega)⟩
theorem Ok.there (o : Ok Ψ Φ ρ σ H) {i : Nat} {a : Addr} (e : ρ[i]? = some a) : ∃ u, H a = some u := by
  have hl : i < ρ.length := by
    rcases Nat.lt_or_ge i ρ.length with h | h
    · exact h
    · rw [List.getElem?_eq_none h] at e; cases e
  have := o.len
  have q : σ[i]? = some (σ[i]'(by omega)) := List.getElem?_eq_getElem (by omega)
  have c := o.cell i a _ e q
  cases h : σ[i]'(by omega) with
  | lst ds => rw [h] at c; obtain ⟨_, vs, h1, _⟩ := c; exact ⟨_, h1⟩
  | frz ds => rw [h] at c; obtain ⟨vs, h1, _⟩ := c; exact ⟨_, o.sub _ _ h1⟩
  | lsw ws => rw [h] at c; obtain ⟨_, vs, h1, _⟩ := c; exact ⟨_, h1⟩
theorem CellOk.grow {Φ' : Hp} {ρ' : List Addr} {a : Addr} {c : Cell} (h : CellOk Φ ρ H a c) (s : Sub Φ Φ') (n : Φ a = none → Φ' a = none) {H' : Hp} (hh : ∀ o, H a = some o → H' a = some o) (p : ρ <+: ρ' := by exact List.prefix_refl _) : CellOk Φ' ρ' H' a c := by
  cases c with
  | lsw ws => obtain ⟨h1, vs, h2, h3⟩ := h; exact ⟨n h1, vs, hh _ h2, RelWs.mono s p h3⟩
  | lst ds => obtain ⟨h1, vs, h2, h3⟩ := h; exact ⟨n h1, vs, hh _ h2, DpAll.sub s h3⟩
  | frz ds => obtain ⟨vs, h2, h3⟩ := h; exact ⟨vs, s _ _ h2, DpAll.sub s h3⟩
theorem Ok.unpinned (o : Ok Ψ Φ ρ σ H) {p : Addr} (hp : H p = none) : Ψ p = none := by
  cases q : Ψ p with
  | none => rfl
  | some u => have := (o.pin p u q).1; rw [hp] at this; cases this
theorem Ok.away (o : Ok Ψ Φ ρ σ H) {p a : Addr} {u : HO} (hp : H p = none) (e : Ψ a = some u) : a ≠ p := fun q => by
  subst q; rw [o.unpinned hp] at e; cases e
/-- a new object that never changes -/
theorem Ok.fresh (o : Ok Ψ Φ ρ σ H) {p : Addr} (hp : H p = none) (u : HO) : Ok Ψ (upd Φ p u) ρ σ (upd H p u) := by
  have hΦ := o.sub.free hp
  refine ⟨fun a x e => ?_, sub_upd o.sub p u, o.nd, o.len, fun i a c e1 e2 => ?_⟩
  · have hne := o.away hp e
    rw [upd_ne hne, upd_ne hne]; exact o.pin a x e
  · obtain ⟨v, hv⟩ := o.there e1
    have hne := ne_of_none hv hp
    exact (o.cell i a c e1 e2).grow (H' := L2.upd H p u) (Sub.grow u hΦ) (fun h => by rw [upd_ne hne]; exact h) fun x h => by rw [upd_ne hne]; exact h
/-- an object that nobody follows -/
theorem Ok.other (o : Ok Ψ Φ ρ σ H) {p : Addr} (hp : H p = none) (u : HO) : Ok Ψ Φ ρ σ (upd H p u) := by
  have hΦ := o.sub.free hp
  refine ⟨fun a x e => ?_, fun a x e => ?_, o.nd, o.len, fun i a c e1 e2 => ?_⟩
  · have hne := o.away hp e
    rw [upd_ne hne]; exact o.pin a x e
  · rw [upd_ne (ne_of_none e hΦ)]; exact o.sub _ _ e
  · obtain ⟨v, hv⟩ := o.there e1
    have hne := ne_of_none hv hp
    exact (o.cell i a c e1 e2).grow (H' := L2.upd H p _) (Sub.refl _) (fun h => h) fun x h => by rw [upd_ne hne]; exact h
/-- a new list of one's own -/
theorem Ok.allocC (o : Ok Ψ Φ ρ σ H) {p : Addr} (hp : H p = none) {vs : List V} {cl : Cell} (h : Φ p = none → CellOk Φ (ρ ++ [p]) (upd H p (.lst vs)) p cl) : Ok Ψ Φ (ρ ++ [p]) (σ ++ [cl]) (upd H p (.lst vs)) := by
  have hΦ := o.sub.free hp
  refine ⟨fun a x e => ?_, fun a x e => ?_, ?_, by simp [o.len], fun i a c e1 e2 => ?_⟩
  · have hne := o.away hp e
    obtain ⟨h1, h2, h3⟩ := o.pin a x e
    rw [upd_ne hne]
    exact ⟨h1, h2, by simp [h3, hne]⟩
  · rw [upd_ne (ne_of_none e hΦ)]; exact o.sub _ _ e
  · rw [List.nodup_append]
    refine ⟨o.nd, by simp, fun a ha b hb => ?_⟩
    simp at hb; subst hb
    intro e; subst e
    obtain ⟨i, hi, e⟩ := List.mem_iff_getElem.mp ha
    obtain ⟨u, hu⟩ := o.there (i := i) (a := a) (by rw [List.getElem?_eq_getElem hi, e])
    rw [hp] at hu; cases hu
  · by_cases hi : i < ρ.length
    · rw [List.getElem?_append_left hi] at e1
      rw [List.getElem?_append_left (by rw [← o.len]; exact hi)] at e2
      obtain ⟨v, hv⟩ := o.there e1
      have hne := ne_of_none hv hp
      exact (o.cell i a c e1 e2).grow (H' := L2.upd H p _) (Sub.refl _) (fun h => h) (fun x h => by rw [upd_ne hne]; exact h) (List.prefix_append _ _)
    · have hl := o.len
      rw [List.getElem?_append_right (by omega)] at e1
      rw [List.getElem?_append_right (by omega)] at e2
      have : i - ρ.length = 0 := by
        rcases Nat.eq_zero_or_pos (i - ρ.length) with h | h
        · exact h
        · rw [List.getElem?_eq_none (by simp; omega)] at e1; cases e1
      rw [← hl, this] at e2
      rw [this] at e1
      simp at e1 e2
      subst e1 e2
      exact h hΦ
theorem Ok.alloc (o : Ok Ψ Φ ρ σ H) {p : Addr} (hp : H p = none) {vs : List V} {ds : List D} (h : DpAll K0 Φ vs ds) : Ok Ψ Φ (ρ ++ [p]) (σ ++ [.lst ds]) (upd H p (.lst vs)) :=
  o.allocC hp fun n => ⟨n, vs, upd_same, h⟩
theorem Ok.allocW (o : Ok Ψ Φ ρ σ H) {p : Addr} (hp : H p = none) {vs : List V} {ws : List W} (h : RelWs Φ ρ ws vs) : Ok Ψ Φ (ρ ++ [p]) (σ ++ [.lsw ws]) (upd H p (.lst vs)) :=
  o.allocC hp fun n => ⟨n, vs, upd_same, RelWs.mono (Sub.refl _) (List.prefix_append _ _) h⟩
/-- a list of one's own written -/
theorem Ok.writeC (o : Ok Ψ Φ ρ σ H) {i : Nat} {a : Addr} {cl : Cell} (e1 : ρ[i]? = some a) (hΦ : Φ a = none) {vs : List V} (h : CellOk Φ ρ (upd H a (.lst vs)) a cl) : Ok Ψ Φ ρ (σ.set i cl) (upd H a (.lst vs)) := by
  refine ⟨fun b x e => ?_, fun b x e => ?_, o.nd, by simp [o.len], fun j b c e3 e4 => ?_⟩
  · obtain ⟨h1, h2, h3⟩ := o.pin b x e
    have hne : b ≠ a := fun q => h3 (by subst q; exact List.mem_of_getElem? e1)
    rw [upd_ne hne]
    exact ⟨h1, h2, h3⟩
  · rw [upd_ne (ne_of_none e hΦ)]; exact o.sub _ _ e
  · rw [List.getElem?_set] at e4
    by_cases hj : i = j
    · subst hj
      rw [if_pos rfl] at e4
      split at e4
      · rw [e1] at e3
        cases e3; cases e4
        exact h
      · cases e4
    · rw [if_neg hj] at e4
      have hne : b ≠ a := by
        intro q; subst q
        exact hj (nodup_at o.nd e1 e3)
      exact (o.cell j b c e3 e4).grow (H' := L2.upd H a _) (Sub.refl _) (fun h => h) fun x h => by rw [upd_ne hne]; exact h
theorem Ok.write (o : Ok Ψ Φ ρ σ H) {i : Nat} {a : Addr} {xs : List D} (e1 : ρ[i]? = some a) (e2 : σ[i]? = some (.lst xs)) {vs : List V} {ds : List D} (h : DpAll K0 Φ vs ds) : Ok Ψ Φ ρ (σ.set i (.lst ds)) (upd H a (.lst vs)) := by
  obtain ⟨hΦ, _, _, _⟩ := o.cell i a _ e1 e2
  exact o.writeC e1 hΦ ⟨hΦ, vs, upd_same, h⟩
theorem Ok.writeW (o : Ok Ψ Φ ρ σ H) {i : Nat} {a : Addr} {xs : List W} (e1 : ρ[i]? = some a) (e2 : σ[i]? = some (.lsw xs)) {vs : List V} {ws : List W} (h : RelWs Φ ρ ws vs) : Ok Ψ Φ ρ (σ.set i (.lsw ws)) (upd H a (.lst vs)) := by
  obtain ⟨hΦ, _, _, _⟩ := o.cell i a _ e1 e2
  exact o.writeC e1 hΦ ⟨hΦ, vs, upd_same, h⟩
/-- a list of one's own is data from now on -/
theorem Ok.freeze (o : Ok Ψ Φ ρ σ H) {i : Nat} {a : Addr} {xs : List D} {vs : List V} (e1 : ρ[i]? = some a) (hΦ : Φ a = none) (hH : H a = some (.lst vs)) (h : DpAll K0 Φ vs xs) : Ok Ψ (upd Φ a (.lst vs)) ρ (σ.set i (.frz xs)) H := by
  have hs : Sub Φ (upd Φ a (.lst vs)) := Sub.grow _ hΦ
  refine ⟨fun b x e => ?_, fun b x e => ?_, o.nd, by simp [o.len], fun j b c e3 e4 => ?_⟩
  · obtain ⟨h1, h2, h3⟩ := o.pin b x e
    have hne : b ≠ a := fun q => h3 (by subst q; exact List.mem_of_getElem? e1)
    rw [upd_ne hne]
    exact ⟨h1, h2, h3⟩
  · by_cases q : b = a
    · subst q; rw [upd_same] at e; cases e; exact hH
    · rw [upd_ne q] at e; exact o.sub _ _ e
  · rw [List.getElem?_set] at e4
    by_cases hj : i = j
    · subst hj
      rw [if_pos rfl] at e4
      split at e4
      · rw [e1] at e3
        cases e3; cases e4
        exact ⟨vs, upd_same, DpAll.sub hs h⟩
      · cases e4
    · rw [if_neg hj] at e4
      have hne : b ≠ a := by
        intro q; subst q
        exact hj (nodup_at o.nd e1 e3)
      exact (o.cell j b c e3 e4).grow hs (fun h => by rw [upd_ne hne]; exact h) fun x h => h
/-- behind a call: the callee's own lists are nobody's -/
theorem CellOk.plain {ρ' : List Addr} {a : Addr} {c : Cell} (h : CellOk Φ ρ H a c) (p : plainC c = true) : CellOk Φ ρ' H a c := by
  cases c with
  | lsw ws => cases p
  | lst xs => exact h
  | frz xs => exact h
theorem Ok.cut (o : Ok Ψ Φ ρ σ H) (n : Nat) (hp : (σ.take n).all plainC = true) : Ok Ψ Φ (ρ.take n) (σ.take n) H := by
  refine ⟨fun a u e => ?_, o.sub, o.nd.sublist (List.take_sublist _ _), by simp [o.len], fun i a c e1 e2 => ?_⟩
  · obtain ⟨h1, h2, h3⟩ := o.pin a u e
    exact ⟨h1, h2, fun h => h3 (List.mem_of_mem_take h)⟩
  · have pc : plainC c = true := List.all_eq_true.mp hp c (List.mem_of_getElem? e2)
    rw [List.getElem?_take] at e1 e2
    split at e1
    · rename_i h; rw [if_pos h] at e2; exact (o.cell i a c e1 e2).plain pc
    · cases e1
/-- an object that only the proof follows: laid, written, given up -/
theorem Ok.pinNew (o : Ok Ψ Φ ρ σ H) {p : Addr} (hp : H p = none) (u : HO) : Ok (upd Ψ p u) Φ ρ σ (upd H p u) := by
  have q := o.other hp u
  refine ⟨fun a x e => ?_, q.sub, q.nd, q.len, q.cell⟩
  by_cases h : a = p
  · subst h
    rw [upd_same] at e; cases e
    refine ⟨upd_same, o.sub.free hp, fun h => ?_⟩
    obtain ⟨i, hi, e⟩ := List.mem_iff_getElem.mp h
    obtain ⟨u, hu⟩ := o.there (i := i) (a := a) (by rw [List.getElem?_eq_getElem hi, e])
    rw [hp] at hu; cases hu
  · rw [upd_ne h] at e
    exact q.pin a x e
theorem Ok.pinSet {p : Addr} {u u' : HO} (o : Ok (upd Ψ p u) Φ ρ σ H) : Ok (upd Ψ p u') Φ ρ σ (upd H p u') := by
  obtain ⟨h1, h2, h3⟩ := o.pin p u upd_same
  refine ⟨fun a x e => ?_, fun a x e => ?_, o.nd, o.len, fun i a c e1 e2 => ?_⟩
  · by_cases h : a = p
    · subst h
      rw [upd_same] at e; cases e
      exact ⟨upd_same, h2, h3⟩
    · rw [upd_ne h] at e ⊢
      exact o.pin a x (by rw [upd_ne h]; exact e)
  · rw [upd_ne (ne_of_none e h2)]; exact o.sub _ _ e
  · have hne : a ≠ p := fun q => h3 (by subst q; exact List.mem_of_getElem? e1)
    exact (o.cell i a c e1 e2).grow (H' := L2.upd H p u') (Sub.refl _) (fun h => h) fun x h => by rw [upd_ne hne]; exact h
def less (H : Hp) (p : Addr) : Hp := fun a => if a = p then none else H a
theorem less_same {H : Hp} {p : Addr} : less H p p = none := by unfold less; rw [if_pos rfl]
theorem less_ne {H : Hp} {p a : Addr} (h : a ≠ p) : less H p a = H a := by unfold less; rw [if_neg h]
theorem upd_less {H : Hp} {p : Addr} {u : HO} (h : H p = some u) : upd (less H p) p u = H := by
  funext a
  by_cases q : a = p
  · subst q; rw [upd_same, h]
  · rw [upd_ne q, less_ne q]
theorem Ok.unpin {p : Addr} {u : HO} (o : Ok (upd Ψ p u) Φ ρ σ H) (hp : Ψ p = none) : Ok Ψ Φ ρ σ (less H p) := by
  obtain ⟨h1, h2, h3⟩ := o.pin p u upd_same
  refine ⟨fun a x e => ?_, fun a x e => ?_, o.nd, o.len, fun i a c e1 e2 => ?_⟩
  · have hne := ne_of_none e hp
    rw [less_ne hne]
    exact o.pin a x (by rw [upd_ne hne]; exact e)
  · rw [less_ne (ne_of_none e h2)]; exact o.sub _ _ e
  · have hne : a ≠ p := fun q => h3 (by subst q; exact List.mem_of_getElem? e1)
    exact (o.cell i a c e1 e2).grow (H' := less H p) (Sub.refl _) (fun h => h) fun x h => by rw [less_ne hne]; exact h
/-- what is read now -/
theorem peek_ok (o : Ok Ψ Φ ρ σ H) {w : W} {v : V} {d : D} (r : RelW Φ ρ w v) (e : peek σ w = some d) : Dp K0 H v d ∧ ((∀ xs, d ≠ .list xs) → Dp K0 Φ v d) := by
  cases w with
  | d x => cases e; exact ⟨Dp.sub o.sub r, fun _ => r⟩
  | h i =>
    obtain ⟨a, e1, rfl⟩ := r
    cases q : σ[i]? with
    | none => simp only [peek, q] at e; cases e
    | some c =>
      simp only [peek, q] at e
      have cc := o.cell i a c e1 q
      cases c with
      | lst xs =>
        cases e
        obtain ⟨_, vs, h1, h2⟩ := cc
        exact ⟨.lst (SqL.of h1) (DpAll.sub o.sub h2), fun h => absurd rfl (h xs)⟩
      | frz xs =>
        cases e
        obtain ⟨vs, h1, h2⟩ := cc
        exact ⟨.lst (SqL.of (o.sub _ _ h1)) (DpAll.sub o.sub h2), fun h => absurd rfl (h xs)⟩
      | lsw ws => cases e
theorem peeks_ok (o : Ok Ψ Φ ρ σ H) : ∀ {ws : List W} {vs : List V} {ds : List D}, RelWs Φ ρ ws vs → peeks σ ws = some ds → DpAll K0 H vs ds
  | _, _, _, .nil, e => by cases e; exact .nil
  | w :: ws, _, ds, .cons r t, e => by
    unfold peeks at e
    cases q : peek σ w with
    | none => rw [q] at e; cases e
    | some d =>
      cases q2 : peeks σ ws with
      | none => rw [q, q2] at e; cases e
      | some ds' =>
        rw [q, q2] at e
        cases e
        exact .cons (peek_ok o r q).1 (peeks_ok o t q2)
/-- as data for ever -/
theorem frzsBy_ok {f : Sto → W → Option (D × Sto)} (hf : ∀ {Φ : Hp} {σ σ' : Sto} {w : W} {v : V} {d : D}, Ok Ψ Φ ρ σ H → RelW Φ ρ w v → f σ w = some (d, σ') → ∃ Φ', Sub Φ Φ' ∧ Ok Ψ Φ' ρ σ' H ∧ Dp K0 Φ' v d) :
    ∀ {ws : List W} {vs : List V} {Φ : Hp} {σ σ' : Sto} {ds : List D}, Ok Ψ Φ ρ σ H → RelWs Φ ρ ws vs → frzsBy f σ ws = some (ds, σ') → ∃ Φ', Sub Φ Φ' ∧ Ok Ψ Φ' ρ σ' H ∧ DpAll K0 Φ' vs ds := by
  intro ws
  induction ws with
  | nil => intro vs Φ σ σ' ds o r e; cases r; cases e; exact ⟨Φ, Sub.refl _, o, .nil⟩
  | cons w ws ih =>
    intro vs Φ σ σ' ds o r e
    cases r with
    | cons r1 r2 =>
      unfold frzsBy at e
      split at e
      · rename_i d s1 e1
        split at e
        · rename_i ds' s2 e2
          cases e
          obtain ⟨Φ1, h1, o1, d1⟩ := hf o r1 e1
          obtain ⟨Φ2, h2, o2, d2⟩ := ih o1 (RelWs.mono h1 (List.prefix_refl _) r2) e2
          exact ⟨Φ2, h1.trans h2, o2, .cons (Dp.sub h2 d1) d2⟩
        · cases e
      · cases e
theorem frzN_ok : ∀ (n : Nat) {Φ : Hp} {σ σ' : Sto} {w : W} {v : V} {d : D}, Ok Ψ Φ ρ σ H → RelW Φ ρ w v → frzN n σ w = some (d, σ') → ∃ Φ', Sub Φ Φ' ∧ Ok Ψ Φ' ρ σ' H ∧ Dp K0 Φ' v d := by
  intro n
  induction n with
  | zero =>
    intro Φ σ σ' w v d o r e
    cases w with
    | d x => cases e; exact ⟨Φ, Sub.refl _, o, r⟩
    | h i => cases e
  | succ n ih =>
    intro Φ σ σ' w v d o r e
    cases w with
    | d x => cases e; exact ⟨Φ, Sub.refl _, o, r⟩
    | h i =>
      obtain ⟨a, e1, rfl⟩ := r
      simp only [frzN] at e
      split at e
      · rename_i xs q
        cases e
        obtain ⟨h0, vs, h1, h2⟩ := o.cell i a _ e1 q
        exact ⟨_, Sub.grow _ h0, o.freeze e1 h0 h1 h2, .lst (SqL.of upd_same) (DpAll.sub (Sub.grow _ h0) h2)⟩
      · rename_i xs q
        cases e
        obtain ⟨vs, h1, h2⟩ := o.cell i a _ e1 q
        exact ⟨Φ, Sub.refl _, o, .lst (SqL.of h1) h2⟩
      · rename_i ws q
        obtain ⟨h0, vs, h1, h2⟩ := o.cell i a _ e1 q
        split at e
        · rename_i ds s1 e2
          split at e
          · rename_i ws' q'
            cases e
            obtain ⟨Φ1, g1, o1, d1⟩ := frzsBy_ok (fun o r e => ih o r e) o h2 e2
            obtain ⟨h0', vs', h1', _⟩ := o1.cell i a _ e1 q'
            exact ⟨_, g1.trans (Sub.grow _ h0'), o1.freeze e1 h0' h1 d1, .lst (SqL.of upd_same) (DpAll.sub (Sub.grow _ h0') d1)⟩
          · cases e
        · cases e
      · cases e
theorem frz_ok (o : Ok Ψ Φ ρ σ H) {w : W} {v : V} {d : D} {σ' : Sto} (r : RelW Φ ρ w v) (e : frz σ w = some (d, σ')) : ∃ Φ', Sub Φ Φ' ∧ Ok Ψ Φ' ρ σ' H ∧ Dp K0 Φ' v d := frzN_ok 30 o r e
end
end
end HB
/-! A def's promise where no repr is under way: what HandS.Call says of a def, with one premise more (repr of nested data asks it). -/
namespace HB
open PySem PySem.W PySem.Spec PyProof.Rows L2
structure FnG (P : Program) (w : World) (K : PySem.W.Frag) (mg : Str → Option Value) (B0 : Heap) (k : Nat) (f : Addr) (fd : FuncData) (ps : List Str) (sp : Sp) : Prop where
  len : ∀ vs H Q E, sp vs H Q E → vs.length = ps.length
  go : ∀ (A : Around), A.guards = some [] → Room k A → ∀ (up : List PySem.Env) (t : Shared) (H : Hp) (args : Args) (us : List Value) (vs : List V) (Q : VK) (E : XK), Env0 P w K mg B0 A up t H → BindsTo t fd args (ps.zip us) → Vals vs us → sp vs H Q E →
    codeAny (model P w) A (.call (.ref f) args) (CR (L2.CX P w) up P w H t Q E) t
section
variable {X : Cx} {k : Nat} {f : Addr} {fd : FuncData} {ps : List Str} {sp : Sp} {E : L2.St → XK}
/-- a def called by values -/
theorem go_call {pins : List (Addr × Obj)} {σ : L2.St} {H : Hp} {t : Shared} {Q : VK} {us : List Value} {vs : List V} (F : FnG X.prog X.w X.K X.mg X.base k f fd ps sp) (gd : X.A.guards = some []) (room : Room k X.A) (bd : Binds X.K fd ps [])
    (up : PassesAt (L2.CX X.prog X.w) X σ (E σ)) (I : Inv X pins σ H t) (rv : Vals vs us) (q : sp vs H Q (E σ)) : wpAny (model X.prog X.w) X.A (call (.ref f) us) (EP X pins σ Q) X.xe t := by
  have l := F.len _ _ _ _ q
  have l2 : us.length = ps.length := rv.length ▸ l
  have b := bd t us I.kIn (by simp [l2])
  simp only [List.append_nil] at b
  have key := F.go X.A gd room X.stack t H ⟨us, []⟩ us vs Q (E σ) I.env0 b rv q
  refine wpAny_call (codeAny_mono key fun r t' z => ?_)
  rcases r with e | fl
  · exact up pins H t e t' I z
  · cases fl <;> first | exact I.after z | exact False.elim z
/-- f(e, ..) -/
theorem go_name {x : Str} {p pos : Pos} {e : Expr} {es : List Expr} {ta : TA} (F : FnG X.prog X.w X.K X.mg X.base k f fd ps sp) (gd : X.A.guards = some []) (room : Room k X.A) (gx : Gl X x) (mx : X.mg x = some (.ref f)) (kx : keepIn X.K (.ref f) = true) (bd : Binds X.K fd ps [])
    (up : ∀ σ, PassesAt (L2.CX X.prog X.w) X σ (E σ)) (ha : PA X (e :: es) ta) (nd : (x == ("__debug__" : Str)) = false) (h1 : starEach (e :: es) X.env = (false, eval e X.env) :: starEach es X.env) (h2 : (backTo pos (starEach es X.env)).any (·.1) = false) :
    PE X (.Call (.Name x p) (e :: es) [] pos) (fun σ H Q => ta σ H fun vs H1 => sp vs H1 Q (E σ)) := by
  constructor
  intro pins t σ H Q I q
  apply wpAny_Call_Name_kw
  refine ld_glob I gx mx ?_ nd
  refine callWith_K (h₀ := X.base) I.ok.mod.kin kx ?_ h1 h2
  refine thn (ha.run pos pins t σ H _ I q) fun us t1 ⟨vs, H1, J, rv, z⟩ => ⟨J.kIn, ?_⟩
  exact go_call F gd room bd (up σ) J rv z
/-- f() -/
theorem go_name0 {x : Str} {p pos : Pos} (F : FnG X.prog X.w X.K X.mg X.base k f fd ps sp) (gd : X.A.guards = some []) (room : Room k X.A) (gx : Gl X x) (mx : X.mg x = some (.ref f)) (kx : keepIn X.K (.ref f) = true) (bd : Binds X.K fd ps [])
    (up : ∀ σ, PassesAt (L2.CX X.prog X.w) X σ (E σ)) (nd : (x == ("__debug__" : Str)) = false) : PE X (.Call (.Name x p) [] [] pos) (fun σ H Q => sp [] H Q (E σ)) := by
  constructor
  intro pins t σ H Q I q
  apply wpAny_Call_Name_kw
  refine ld_glob I gx mx ?_ nd
  exact callWith_K0 I.kIn kx (go_call (us := []) F gd room bd (up σ) I .nil q)
end
section
variable {P : Program} {w : World} {K : PySem.W.Frag} {mg : Str → Option Value} {B0 : Heap} {x qual : Str} {params : Arguments} {body : List Stmt} {scope : Scope} {dvs : List V} {kws : List (Str × V)} {f : Addr} {fd : FuncData} {N ps : List Str} {k : Nat} {sp : Sp}
/-- the context of a def's body -/
abbrev bodyX (P : Program) (w : World) (K : PySem.W.Frag) (mg : Str → Option Value) (B0 : Heap) (N : List Str) (qual : Str) (scope : Scope) (f : Addr) (cd : Value) (A : Around) (up : List PySem.Env) (t : Shared) (H : Hp) (E : XK) : Cx :=
  cxOf (L2.CX P w) P w K mg B0 N qual scope f cd A up t H E
/-- a def keeps what its body keeps -/
theorem fn_go (F : FunD K x qual params body scope dvs kws f fd) (S : FnScope N ps scope) (len : ∀ vs H Q E, sp vs H Q E → vs.length = ps.length)
    (hb : ∀ (cd : Value) (A : Around) (up : List PySem.Env) (t : Shared) (H : Hp) (vs : List V) (Q : VK) (E : XK), A.guards = some [] → Room k (A.deeper (envOfC qual scope t.heap.objs.size f cd)) → sp vs H Q E →
      ∃ r, PSs (bodyX P w K mg B0 N qual scope f cd A up t H E) body r ∧ r { nx := fun _ H' => Q .non H', rt := Q } (L2.start N vs) H) : FnG P w K mg B0 (k + 1) f fd ps sp := by
  obtain ⟨oc, od, dV, kV, doc, pm, an, cd, ct, osl, efd, lf, hcd, _, _⟩ := F.ex
  subst efd
  constructor
  · exact len
  intro A gd room up t H args us vs Q E e0 bd rv q
  have keep : ∀ b o, B0.get? b = some o → t.heap.get? b = some o := fun b o e => (e0.bs b o e).1
  have KT := e0.mod.kin.keeps keep
  have NL := e0.mod.nolimit.keeps keep
  have par : ∀ y ∈ ps.zip us, scope.names.lookup y.1 = some .local ∨ (scope.names.lookup y.1 = some .cell ∧ ((cellsFrom (t.heap.objs.size + 1) scope.names []).lookup y.1).isSome = true) := by
    intro y hy
    rcases S.par y.1 (List.of_mem_zip hy).1 with z | z
    · exact Or.inl z
    · exact Or.inr ⟨z, cellsFrom_some _ _ _ (Or.inl z)⟩
  refine codeAny_call_function room.depth (KT _ _ lf) rfl S.co S.gen rfl (codeRec_of KT hcd) (bd _ _ _ _ ?_)
  refine wpAny_newFunctionEnv_cells S.kind par fun env he t1 ic => ?_
  subst he
  refine ⟨NL.keeps ic.toInCall.keep, codeAny_func ?_⟩
  obtain ⟨r, hr, z⟩ := hb cd A up t H vs Q E gd (room.deeper _) q
  have J := inv_start (CX := L2.CX P w) (qual := qual) (E := E) S room.hd e0 (len _ _ _ _ q) rv ic
  refine wpAny_mono (hr.run [] t1 _ H _ J z) (fun fl t2 y => ?_) fun _ _ y => y
  cases fl
  case ret u =>
    obtain ⟨v, σ', H', J', r', z'⟩ := y
    exact ⟨v, H', J'.os, J'.bare, J'.base, J'.hok, r', z'⟩
  case next =>
    obtain ⟨σ', H', J', z'⟩ := y
    exact ⟨V.non, H', J'.os, J'.bare, J'.base, J'.hok, rfl, z'⟩
  case brk =>
    obtain ⟨_, _, _, z⟩ := y
    exact z.elim
  case cont =>
    obtain ⟨_, _, _, z⟩ := y
    exact z.elim
end
end HB
/-! Each expression of the language keeps to the model. -/
namespace HB
open PySem PySem.W PySem.Spec PyProof.Rows L2
/-- an exception's class and fields, as the model has it -/
def XOk (mg : Str → Option Value) (x : Xn) (cls : Value) (d : Option Addr) (H : Hp) : Prop :=
  ∃ C, mg x.cls = some (.ref C) ∧ cls = .ref C ∧ x.args = [] ∧ d = none
def EX (mg : Str → Option Value) (E : XK) : Xn → Hp → Prop := fun x H => ∀ cls d, XOk mg x cls d H → E cls d H
/-- what a def's run promises -/
def spI (mg : Str → Option Value) (c : Calls) (f : Str) : Sp := fun vs H Q E => ∃ Ψ Φ ρ σ ws, Ok Ψ Φ ρ σ H ∧ RelWs Φ ρ ws vs ∧
  Fin Ψ Φ ρ (c f ws σ) (fun w _ Φ' ρ' H' => ∀ v, RelW Φ' ρ' w v → Q v H') (EX mg E)
section
variable (X : Cx) (c : Calls) (W : WX)
def tE (e : Ex) : TE := fun σh H Q => ∃ Ψ Φ ρ σ env, Ok Ψ Φ ρ σ H ∧ EnvOk Φ ρ env σh ∧
  Fin Ψ Φ ρ (evE c e env σ) (fun w _ Φ' ρ' H' => ∀ v, RelW Φ' ρ' w v → Q v H') (EX X.mg fun cls d H' => W cls d σh H')
def tN (n : Nw) : TE := fun σh H Q => ∃ Ψ Φ ρ σ env, Ok Ψ Φ ρ σ H ∧ EnvOk Φ ρ env σh ∧
  Fin Ψ Φ ρ (evN c n env σ) (fun ds _ Φ' _ H' => ∀ p vs, H' p = none → DpAll K0 Φ' vs ds → Q (.ref p) (upd H' p (.lst vs))) (EX X.mg fun cls d H' => W cls d σh H')
def tEs (es : List Ex) : TA := fun σh H Q => ∃ Ψ Φ ρ σ env, Ok Ψ Φ ρ σ H ∧ EnvOk Φ ρ env σh ∧
  Fin Ψ Φ ρ (evs c es env σ) (fun ws _ Φ' ρ' H' => ∀ vs, RelWs Φ' ρ' ws vs → Q vs H') (EX X.mg fun cls d H' => W cls d σh H')
def tDs (es : List Ex) : TA := fun σh H Q => ∃ Ψ Φ ρ σ env, Ok Ψ Φ ρ σ H ∧ EnvOk Φ ρ env σh ∧
  Fin Ψ Φ ρ (evD c es env σ) (fun ds _ Φ' _ H' => ∀ vs, DpAll K0 Φ' vs ds → Q vs H') (EX X.mg fun cls d H' => W cls d σh H')
def tP (o : Option Ex) : TO := fun σh H Q => ∃ Ψ Φ ρ σ env, Ok Ψ Φ ρ σ H ∧ EnvOk Φ ρ env σh ∧
  Fin Ψ Φ ρ (evP c o env σ) (fun i _ _ _ H' => Q i H') (EX X.mg fun cls d H' => W cls d σh H')
def tTe (t : Ex) : TT := fun σh H Q => ∃ Ψ Φ ρ σ env, Ok Ψ Φ ρ σ H ∧ EnvOk Φ ρ env σh ∧
  Fin Ψ Φ ρ (evT c t env σ) (fun b _ _ _ H' => Q b H') (EX X.mg fun cls d H' => W cls d σh H')
end
theorem PE.imp {X : Cx} {e : Expr} {t t' : TE} (h : PE X e t) (i : ∀ σ H Q, t' σ H Q → t σ H Q) : PE X e t' := ⟨fun pins s σ H Q I q => h.run pins s σ H Q I (i σ H Q q)⟩
theorem PT.imp {X : Cx} {e : Expr} {t t' : TT} (h : PT X e t) (i : ∀ σ H Q, t' σ H Q → t σ H Q) : PT X e t' := ⟨fun pins s σ H Q I q => h.run pins s σ H Q I (i σ H Q q)⟩
theorem PA.imp {X : Cx} {e : List Expr} {t t' : TA} (h : PA X e t) (i : ∀ σ H Q, t' σ H Q → t σ H Q) : PA X e t' := ⟨fun pos pins s σ H Q I q => h.run pos pins s σ H Q I (i σ H Q q)⟩
/-- what is read now, one floor deep; below it all is data for ever -/
def Rp (Φ H : Hp) (v : V) : D → Prop
  | .list xs => ∃ a vs, v = .ref a ∧ Rd H a (.lst vs) ∧ DpAll K0 Φ vs xs
  | d => Dp K0 Φ v d
section
variable {K : PySem.W.Frag} {Φ H : Hp} {ρ : List Addr} {σ : Sto}
theorem Rp.dp {v : V} {d : D} (s : Sub Φ H) (h : Rp Φ H v d) : Dp K H v d := by
  cases d with
  | list xs => obtain ⟨a, vs, rfl, h1, h2⟩ := h; exact .lst (.inl h1) (DpAll.sub s h2)
  | _ => exact Dp.sub s h
theorem Rp.of_dp {v : V} {d : D} (s : Sub Φ H) (h : Dp K0 Φ v d) : Rp Φ H v d := by
  cases d with
  | list xs => cases h with | lst h1 h2 => exact ⟨_, _, rfl, Rd.sub s (sqL0 h1), h2⟩
  | _ => exact h
theorem peek_rp (o : Ok Ψ Φ ρ σ H) {w : W} {v : V} {d : D} (r : RelW Φ ρ w v) (e : peek σ w = some d) : Rp Φ H v d := by
  cases w with
  | d x => cases e; exact Rp.of_dp o.sub r
  | h i =>
    obtain ⟨a, e1, rfl⟩ := r
    cases q : σ[i]? with
    | none => simp only [peek, q] at e; cases e
    | some cl =>
      simp only [peek, q] at e
      have cc := o.cell i a cl e1 q
      cases cl with
      | lst xs =>
        cases e
        obtain ⟨_, vs, h1, h2⟩ := cc
        exact ⟨a, vs, rfl, Rd.of h1, h2⟩
      | frz xs =>
        cases e
        obtain ⟨vs, h1, h2⟩ := cc
        exact ⟨a, vs, rfl, Rd.of (o.sub _ _ h1), h2⟩
      | lsw ws => cases e
/-- .. and later -/
theorem Rp.mono {Φ' : Hp} {v : V} {d : D} (s : Sub Φ Φ') (h : Rp Φ H v d) : Rp Φ' H v d := by
  cases d with
  | list xs => obtain ⟨a, vs, rfl, h1, h2⟩ := h; exact ⟨a, vs, rfl, h1, DpAll.sub s h2⟩
  | _ => exact Dp.sub s h
inductive RpAll (Φ H : Hp) : List V → List D → Prop
  | nil : RpAll Φ H [] []
  | cons {v : V} {vs : List V} {d : D} {ds : List D} : Rp Φ H v d → RpAll Φ H vs ds → RpAll Φ H (v :: vs) (d :: ds)
theorem peeks_rp (o : Ok Ψ Φ ρ σ H) : ∀ {ws : List W} {vs : List V} {ds : List D}, RelWs Φ ρ ws vs → peeks σ ws = some ds → RpAll Φ H vs ds
  | _, _, _, .nil, e => by cases e; exact .nil
  | w :: ws, _, ds, .cons r t, e => by
    unfold peeks at e
    cases q : peek σ w with
    | none => rw [q] at e; cases e
    | some d =>
      cases q2 : peeks σ ws with
      | none => rw [q, q2] at e; cases e
      | some ds' =>
        rw [q, q2] at e
        cases e
        exact .cons (peek_rp o r q) (peeks_rp o t q2)
theorem line_of {n : Nat} (h : n ≤ maxLen) : n < sizeLine := by
  rw [sizeLine_eq]; unfold maxLen at h; omega
theorem tru_of {K : PySem.W.Frag} {Φ H : Hp} {v : V} {d : D} {k : Bool} (s : Sub Φ H) (h : Rp Φ H v d) (e : truth d = some k) : TruV K v H k := by
  cases d with
  | none => cases h; cases e; rfl
  | bool b => cases h; cases e; rfl
  | int i => cases h; cases e; rfl
  | str x =>
    cases h
    simp only [truth] at e
    split at e
    · rename_i hl; cases e; exact ⟨Nat.le_of_lt (line_of hl), rfl⟩
    · cases e
  | list xs =>
    obtain ⟨a, vs, rfl, h1, h2⟩ := h
    cases e
    refine .inl ⟨vs, .inl h1, ?_⟩
    cases h2 <;> rfl
  | tuple xs =>
    cases h with
    | tup h1 h2 =>
      cases e
      refine .inr (.inl ⟨_, SqT.sub s h1, ?_⟩)
      cases h2 <;> rfl
  | dict kvs => cases e
end
/-- a result that is data, new or not -/
def Out (Φ H : Hp) (r : D) (Q : VK) : Prop :=
  ∀ v Φ' H', Sub Φ Φ' → (∀ Ψ ρ σ, Ok Ψ Φ ρ σ H → Ok Ψ Φ' ρ σ H') → Dp K0 Φ' v r → Q v H'
theorem Out.old {Φ H : Hp} {r : D} {Q : VK} (h : Out Φ H r Q) {v : V} (e : Dp K0 Φ v r) : Q v H := h v Φ H (Sub.refl _) (fun _ _ _ o => o) e
theorem Out.new {Φ H : Hp} {xs : List D} {Q : VK} (h : Out Φ H (.tuple xs) Q) (s : Sub Φ H) {vs : List V} (e : DpAll K0 Φ vs xs) {p : Addr} (hp : H p = none) : Q (.ref p) (upd H p (.tup vs)) := by
  have g : Sub Φ (upd Φ p (.tup vs)) := Sub.grow _ (s.free hp)
  exact h _ _ _ g (fun _ _ _ o => o.fresh hp _) (.tup (SqT.of upd_same) (DpAll.sub g e))
section
variable {K : PySem.W.Frag} {Φ : Hp} {ρ : List Addr} {α : Type} {P : α → Sto → Hp → List Addr → Hp → Prop} {E : Xn → Hp → Prop}
theorem Fin.rd1 {s : Sto} {x : W} {g : D → R α} (f : Fin Ψ Φ ρ (rd1 s x g) P E) : ∃ u, peek s x = some u ∧ Fin Ψ Φ ρ (g u) P E := by
  unfold HB.rd1 at f
  split at f
  · rename_i u e; exact ⟨u, e, f⟩
  · exact f.elim
theorem Fin.rd2 {s : Sto} {x y : W} {g : D → D → R α} (f : Fin Ψ Φ ρ (rd2 s x y g) P E) : ∃ u v, peek s x = some u ∧ peek s y = some v ∧ Fin Ψ Φ ρ (g u v) P E := by
  unfold HB.rd2 at f
  split at f
  · rename_i u v e1 e2; exact ⟨u, v, e1, e2, f⟩
  · exact f.elim
theorem Fin.rds {s : Sto} {ws : List W} {g : List D → R α} (f : Fin Ψ Φ ρ (rds s ws g) P E) : ∃ ds, peeks s ws = some ds ∧ Fin Ψ Φ ρ (g ds) P E := by
  unfold HB.rds at f
  split at f
  · rename_i u e; exact ⟨u, e, f⟩
  · exact f.elim
theorem Fin.tst {s : Sto} {x : W} {g : Bool → R α} (f : Fin Ψ Φ ρ (tst s x g) P E) : ∃ u k, peek s x = some u ∧ truth u = some k ∧ Fin Ψ Φ ρ (g k) P E := by
  unfold HB.tst at f
  split at f
  · rename_i k e
    cases q : peek s x with
    | none => rw [q] at e; cases e
    | some u => rw [q] at e; exact ⟨u, k, rfl, e, f⟩
  · exact f.elim
theorem Fin.of {s : Sto} {o : Option α} (f : Fin Ψ Φ ρ (R.of s o) P E) : ∃ r, o = some r ∧ Fin Ψ Φ ρ (.ok r s) P E := by
  cases o with
  | none => exact f.elim
  | some r => exact ⟨r, rfl, f⟩
theorem Fin.map1 {s : Sto} {o : Option D} {P : W → Sto → Hp → List Addr → Hp → Prop} (f : Fin Ψ Φ ρ (R.map1 s o) P E) : ∃ r, o = some r ∧ Fin Ψ Φ ρ (.ok (.d r) s) P E := by
  cases o with
  | none => exact f.elim
  | some r => exact ⟨r, rfl, f⟩
theorem Fin.toD {s : Sto} {x : W} {g : D → Sto → R α} (f : Fin Ψ Φ ρ (toD s x g) P E) : ∃ d s', frz s x = some (d, s') ∧ Fin Ψ Φ ρ (g d s') P E := by
  unfold HB.toD at f
  split at f
  · rename_i d s' e; exact ⟨d, s', e, f⟩
  · exact f.elim
theorem Out.of {H : Hp} {Q : VK} {r : D} {s : Sto} (o : Ok Ψ Φ ρ s H) (f : Fin Ψ Φ ρ (.ok (.d r) s) (fun w _ Φ' ρ' H' => ∀ v, RelW Φ' ρ' w v → Q v H') E) : Out Φ H r Q :=
  fun z Φ3 H3 s3 o3 d3 => f Φ3 ρ H3 s3 (List.prefix_refl _) (o3 _ _ _ o) z d3
end
/-- what is known around -/
structure Tab where
  prog : List Def
  free : List Str
  glob : List (Str × D)
  kds : List (Str × List (Str × D))
  excs : List Str
  ext : Ext := []
def Tab.knows (T : Tab) (f : Str) : Bool := T.prog.any (fun d => decide (d.name = f)) || T.ext.any (fun p => decide (p.1 = f))
/-- a class of errors of one's own over ValueError, without an __init__ -/
structure ExcF (K : PySem.W.Frag) (C : Addr) : Prop where
  is : PySem.W.excIn K C [.type "ValueError", .type "Exception", .type "BaseException", .type "object"] "ValueError.__new__" = true
  kp : keepIn K (.ref C) = true
  sub : PySem.W.subIn K (.ref C) (.type "BaseException") = some true
  ty : PySem.W.typeIn K (.ref C) = some (.type "type")
structure Facts (T : Tab) (X : Cx) (c : Calls) (W : WX) : Prop where
  calm : X.calm = true
  nd : X.N.Nodup
  free : ∀ x ∈ T.free, X.mg x = none
  glob : ∀ p ∈ T.glob, ∃ u v, X.mg p.1 = some u ∧ RelV v u ∧ ∀ Φ, Dp K0 Φ v p.2
  kds : ∀ p ∈ T.kds, ∃ a es n, X.mg p.1 = some (.ref a) ∧ KDict X.K X.w a es n ∧ (∀ z, p.2.lookup z = none → nsIn X.K a z = some none) ∧
    ∀ z d, p.2.lookup z = some d → ∃ u v, nsIn X.K a z = some (some u) ∧ RelV v u ∧ ∀ Φ, Dp K0 Φ v d
  calls : ∀ x, T.knows x = true → ∃ k f fd ps, FnG X.prog X.w X.K X.mg X.base k f fd ps (spI X.mg c x) ∧ Room k X.A ∧ X.mg x = some (.ref f) ∧ keepIn X.K (.ref f) = true ∧ Binds X.K fd ps []
  gd : X.A.guards = some []
  excs : ∀ x ∈ T.excs, ∃ C, X.mg x = some (.ref C) ∧ ExcF X.K C
  tk : Takes X W
  units : X.A.units + 100 < cLine
section
variable {X : Cx} {c : Calls} {W : WX} {T : Tab} {ea eb ed : Ex} {a b d : Expr} {pos : Pos}
/-- the usual start -/
theorem tE_ok {e : Ex} {σh : L2.St} {H : Hp} {Q : VK} {Φ : Hp} {ρ : List Addr} {σ : Sto} {env : Env} (o : Ok Ψ Φ ρ σ H) (v : EnvOk Φ ρ env σh)
    (f : Fin Ψ Φ ρ (evE c e env σ) (fun w s Φ' ρ' H' => Sub Φ Φ' → ρ <+: ρ' → Ok Ψ Φ' ρ' s H' → ∀ v, RelW Φ' ρ' w v → Q v H') (EX X.mg fun cls d H' => W cls d σh H')) : tE X c W e σh H Q :=
  ⟨Ψ, Φ, ρ, σ, env, o, v, f.imp fun _ _ _ _ _ s p o q => q s p o⟩
theorem pE_lit {v : D} (h : ∀ (Q : V → Prop), (∀ u, Dp K0 (fun _ => none) u v → Q u) → ∃ u, PE X a (tC u) ∧ Q u) : PE X a (tE X c W (.lit v)) := by
  obtain ⟨u, hu, q⟩ := h (fun u => ∀ Φ, Dp K0 Φ u v) fun u hu Φ => Dp.sub (fun _ _ e => by cases e) hu
  refine PE.imp hu fun σh H Q ⟨Ψ, Φ, ρ, σ, env, o, ev, f⟩ => ?_
  exact f.ok o u (q Φ)
theorem pE_int {i : Int} {j : Nat} : PE X (.Constant (.int i) j pos) (tE X c W (.lit (.int i))) :=
  PE.imp pe_int fun σh H Q ⟨Ψ, Φ, ρ, σ, env, o, ev, f⟩ => f.ok o _ (.int i)
theorem pE_str {i : Str} {j : Nat} : PE X (.Constant (.str i) j pos) (tE X c W (.lit (.str i))) :=
  PE.imp pe_str fun σh H Q ⟨Ψ, Φ, ρ, σ, env, o, ev, f⟩ => f.ok o _ (.str i)
theorem pE_bool {i : Bool} {j : Nat} : PE X (.Constant (.bool i) j pos) (tE X c W (.lit (.bool i))) :=
  PE.imp pe_bl fun σh H Q ⟨Ψ, Φ, ρ, σ, env, o, ev, f⟩ => f.ok o _ (.bl i)
theorem pE_none {j : Nat} : PE X (.Constant .none j pos) (tE X c W (.lit .none)) :=
  PE.imp pe_non fun σh H Q ⟨Ψ, Φ, ρ, σ, env, o, ev, f⟩ => f.ok o _ .non
theorem pE_var {i : Nat} {x : Str} (hN : X.N[i]? = some x) (hv : Vis X.env.scope x) (hd : (x == ("__debug__" : Str)) = false) (hcd : (x == ("__classdict__" : Str)) = false) : PE X (.Name x pos) (tE X c W (.var i)) := by
  refine PE.imp (pv i hN hv hd hcd) fun σh H Q ⟨Ψ, Φ, ρ, σ, env, o, ev, f⟩ => ?_
  unfold evE at f
  split at f
  · rename_i w e
    obtain ⟨v, h1, h2⟩ := ev.get i w e
    exact ⟨v, h1, f.ok o v h2⟩
  · exact f.elim
theorem pE_glb {x : Str} {v : D} (F : Facts T X c W) (hg : Gl X x) (hm : (x, v) ∈ T.glob) (hd : (x == ("__debug__" : Str)) = false) : PE X (.Name x pos) (tE X c W (.glb x v)) := by
  obtain ⟨u, w, h1, h2, h3⟩ := F.glob _ hm
  exact PE.imp (pe_glob hg h1 h2 hd) fun σh H Q ⟨Ψ, Φ, ρ, σ, env, o, ev, f⟩ => f.ok o _ (h3 Φ)
def opOf : Op2 → Operator
  | .add => .Add | .sub => .Sub | .mul => .Mult | .mod => .Mod | .fdiv => .FloorDiv | .pow => .Pow
/-- a two-place rule of data -/
def r2D (g : D → D → Option D) : R2 := fun x y H Q => ∃ Φ u v r, Sub Φ H ∧ Rp Φ H x u ∧ Rp Φ H y v ∧ g u v = some r ∧ Out Φ H r Q
theorem op_bin (o : Op2) : OpR X (binaryOp (opOf o)) (r2D (bin2 o)) := by
  intro pins s σ H x y v u Q I rx ry h
  obtain ⟨Φ, du, dv, r, hs, hx, hy, e, q⟩ := h
  unfold bin2 at e
  split at e
  · cases hx; cases hy; cases e
    exact op_add pins s σ H _ _ v u Q I rx ry ⟨_, _, rfl, rfl, q.old (.int _)⟩
  · cases hx; cases hy; cases e
    exact op_sub pins s σ H _ _ v u Q I rx ry ⟨_, _, rfl, rfl, q.old (.int _)⟩
  · cases hx; cases hy
    split at e
    · rename_i hb; cases e
      exact op_mulW pins s σ H _ _ v u Q I rx ry ⟨_, _, rfl, rfl, by unfold CMulW; unfold bits at hb; omega, q.old (.int _)⟩
    · cases e
  · cases hx; cases hy
    split at e
    · rename_i hb; cases e
      exact op_mod pins s σ H _ _ v u Q I rx ry ⟨_, _, rfl, rfl, hb, q.old (.int _)⟩
    · cases e
  · cases hx; cases hy
    split at e
    · rename_i hb; cases e
      exact op_fdivW pins s σ H _ _ v u Q I rx ry ⟨_, _, rfl, rfl, ⟨hb.1, by have := hb.2; unfold bits at this; omega⟩, q.old (.int _)⟩
    · cases e
  · cases hx; cases hy
    split at e
    · rename_i hb; cases e
      exact op_pow pins s σ H _ _ v u Q I rx ry ⟨_, _, rfl, rfl, ⟨hb.1, by omega, by have := hb.2.2; omega⟩, q.old (.int _)⟩
    · cases e
  · cases hx; cases hy
    split at e
    · rename_i hb; cases e
      exact op_add_str pins s σ H _ _ v u Q I rx ry ⟨_, _, rfl, rfl, Nat.le_of_lt (line_of hb), q.old (.str _)⟩
    · cases e
  · split at e
    · rename_i hb; cases e
      cases hx with
      | tup h1 h2 =>
        cases hy with
        | tup h3 h4 =>
          have l1 := HB.DpAll.length h2
          have l2 := HB.DpAll.length h4
          refine op_catA pins s σ H _ _ v u Q I rx ry ⟨_, _, _, _, rfl, rfl, SqT.sub hs h1, SqT.sub hs h3, by have := line_of hb; omega, fun e => ?_, fun _ e => ?_, fun _ _ p hp => q.new hs (DpAll.append h2 h4) hp⟩
          · subst e; cases h2; exact q.old (.tup h3 h4)
          · subst e; cases h4; rw [List.append_nil] at q; exact q.old (.tup h1 h2)
    · cases e
  · cases e
/-- a two-place construct, by its rule on data -/
theorem two {g : D → D → Option D} {σh : L2.St} {H : Hp} {Q : VK} {Φ : Hp} {ρ : List Addr} {σ : Sto} {env : Env} {k : Ex} (o : Ok Ψ Φ ρ σ H) (ev : EnvOk Φ ρ env σh)
    (hk : evE c k env σ = (evE c ea env σ).bind fun x s => (evE c eb env s).bind fun y s => rd2 s x y fun u v => R.map1 s (g u v))
    (f : Fin Ψ Φ ρ (evE c k env σ) (fun w _ Φ' ρ' H' => ∀ v, RelW Φ' ρ' w v → Q v H') (EX X.mg fun cls d H' => W cls d σh H')) : tOp (r2D g) (tE X c W ea) (tE X c W eb) σh H Q := by
  rw [hk] at f
  refine tE_ok o ev (f.bind.imp fun w1 s1 Φ1 ρ1 H1 _ _ _ f1 s1' p1 o1 v1 r1 => ?_)
  refine tE_ok o1 (ev.mono s1' p1) (f1.bind.imp fun w2 s2 Φ2 ρ2 H2 _ _ _ f2 s2' p2 o2 v2 r2 => ?_)
  obtain ⟨u, v, e1, e2, f2⟩ := f2.rd2
  obtain ⟨r, e, f2⟩ := f2.map1
  exact ⟨Φ2, u, v, r, o2.sub, peek_rp o2 (r1.mono s2' p2) e1, peek_rp o2 r2 e2, e, Out.of o2 f2⟩
theorem pE_bin {o : Op2} (ha : PE X a (tE X c W ea)) (hb : PE X b (tE X c W eb)) : PE X (.BinOp a (opOf o) b pos) (tE X c W (.bin o ea eb)) :=
  PE.imp (pe_op (op_bin o) ha hb) fun σh H Q ⟨Ψ, Φ, ρ, σ, env, ok, ev, f⟩ => two ok ev (by rw [evE]) f
end
end HB
/-! Comparisons, truth, subscripts, lists of arguments. -/
namespace HB
open PySem PySem.W PySem.Spec PyProof.Rows L2
section
variable {X : Cx} {c : Calls} {W : WX} {T : Tab} {ea eb ed : Ex} {a b d : Expr} {pos : Pos}
theorem reads_of {pins : List (Addr × Obj)} {s : Shared} {σ : L2.St} {H : Hp} (I : Inv X pins σ H s) {v : V} {d : D} {u : Value} (h : Dp X.K H v d) (r : RelV v u) : ∃ as, Reads s.heap u d as := Dp.reads I d v u h r
def copOf : Cmp → CmpOp
  | .eq => .Eq | .ne => .NotEq | .lt => .Lt | .le => .LtE | .gt => .Gt | .ge => .GtE | .isin => .In | .notin => .NotIn
/-- a two-place rule of data that tells a truth -/
def r2B (g : D → D → Option Bool) : R2 := fun x y H Q => ∃ Φ u v r, Sub Φ H ∧ Rp Φ H x u ∧ Rp Φ H y v ∧ g u v = some r ∧ Q (.bl r) H
theorem str1_of {x : Str} (h : x.length = 1) : x = ⟨#[x.cps.toList.getD 0 0]⟩ := by
  obtain ⟨⟨l⟩⟩ := x
  have h : l.length = 1 := h
  match l, h with
  | [z], _ => rfl
theorem plain_and {xs : List D} {a : D} (h : (PyData.plainAll xs && a.plain && decide (min (PyData.depthAll xs) a.depth ≤ 60)) = true) : PyData.plainAll xs = true ∧ a.plain = true ∧ min (PyData.depthAll xs) a.depth ≤ 60 := by
  simp only [Bool.and_eq_true, decide_eq_true_eq] at h
  exact ⟨h.1.1, h.1.2, h.2⟩
theorem op_cmp (hu : X.A.units + 100 < cLine) (o : Cmp) : OpR X (compareOp (copOf o)) (r2B (cmp2 o)) := by
  intro pins s σ H x y v u Q I rx ry h
  obtain ⟨Φ, du, dv, r, hs, hx, hy, e, q⟩ := h
  obtain ⟨as, r1⟩ := reads_of I (hx.dp hs) rx
  obtain ⟨bs, r2⟩ := reads_of I (hy.dp hs) ry
  unfold cmp2 at e
  split at e
  · split at e
    · rename_i hc
      simp only [Bool.and_eq_true, decide_eq_true_eq] at hc
      cases e
      exact SeqAt.eq_plain r1 r2 hc.1.1 hc.1.2 (by omega) ⟨.bl _, H, I, rfl, q⟩
    · cases e
  · split at e
    · rename_i hc
      simp only [Bool.and_eq_true, decide_eq_true_eq] at hc
      cases e
      exact SeqAt.ne_plain r1 r2 hc.1.1 hc.1.2 (by omega) ⟨.bl _, H, I, rfl, q⟩
    · cases e
  · cases hx; cases hy; cases e; exact op_lt pins s σ H _ _ v u Q I rx ry ⟨_, _, rfl, rfl, q⟩
  · cases hx; cases hy; cases e; exact op_le pins s σ H _ _ v u Q I rx ry ⟨_, _, rfl, rfl, q⟩
  · cases hx; cases hy; cases e; exact op_gt pins s σ H _ _ v u Q I rx ry ⟨_, _, rfl, rfl, q⟩
  · cases hx; cases hy; cases e; exact op_ge pins s σ H _ _ v u Q I rx ry ⟨_, _, rfl, rfl, q⟩
  · split at e
    · rename_i hc
      obtain ⟨h1, h2, h3⟩ := plain_and hc
      cases e
      exact SeqAt.in_list_data r2 r1 h1 h2 (by omega) ⟨.bl _, H, I, rfl, q⟩
    · cases e
  · split at e
    · rename_i hc
      obtain ⟨h1, h2, h3⟩ := plain_and hc
      cases e
      exact SeqAt.notIn_list_data r2 r1 h1 h2 (by omega) ⟨.bl _, H, I, rfl, q⟩
    · cases e
  · split at e
    · rename_i hc
      obtain ⟨h1, h2, h3⟩ := plain_and hc
      cases e
      exact SeqAt.in_tuple_data r2 r1 h1 h2 (by omega) ⟨.bl _, H, I, rfl, q⟩
    · cases e
  · split at e
    · rename_i hc
      obtain ⟨h1, h2, h3⟩ := plain_and hc
      cases e
      exact SeqAt.notIn_tuple_data r2 r1 h1 h2 (by omega) ⟨.bl _, H, I, rfl, q⟩
    · cases e
  · rename_i y z
    split at e
    · rename_i hc
      cases hx; cases hy; cases e
      rw [str1_of hc] at rx
      refine op_in_sign pins s σ H _ _ v u Q I rx ry ⟨_, _, rfl, rfl, ?_⟩
      rw [List.contains_eq_mem] at q
      exact q
    · cases e
  · split at e
    · rename_i hc
      cases hx; cases hy; cases e
      rw [str1_of hc] at rx
      refine op_notIn_sign pins s σ H _ _ v u Q I rx ry ⟨_, _, rfl, rfl, ?_⟩
      rw [List.contains_eq_mem] at q
      exact q
    · cases e
  · cases e
theorem two' {g : D → D → Option D} {σh : L2.St} {H : Hp} {Q : VK} {Φ : Hp} {ρ : List Addr} {σ : Sto} {env : Env} (o : Ok Ψ Φ ρ σ H) (ev : EnvOk Φ ρ env σh)
    (f : Fin Ψ Φ ρ ((evE c ea env σ).bind fun x s => (evE c eb env s).bind fun y s => rd2 s x y fun u v => R.map1 s (g u v)) (fun w _ Φ' ρ' H' => ∀ v, RelW Φ' ρ' w v → Q v H') (EX X.mg fun cls d H' => W cls d σh H')) : tOp (r2D g) (tE X c W ea) (tE X c W eb) σh H Q := by
  refine tE_ok o ev (f.bind.imp fun w1 s1 Φ1 ρ1 H1 _ _ _ f1 s1' p1 o1 v1 r1 => ?_)
  refine tE_ok o1 (ev.mono s1' p1) (f1.bind.imp fun w2 s2 Φ2 ρ2 H2 _ _ _ f2 s2' p2 o2 v2 r2 => ?_)
  obtain ⟨u, v, e1, e2, f2⟩ := f2.rd2
  obtain ⟨r, e, f2⟩ := f2.map1
  exact ⟨Φ2, u, v, r, o2.sub, peek_rp o2 (r1.mono s2' p2) e1, peek_rp o2 r2 e2, e, Out.of o2 f2⟩
/-- a test's meaning, out of its value's -/
theorem tTe_val {e : Ex} {σh : L2.St} {H : Hp} {Q : Bool → Hp → Prop} (h : tTe X c W e σh H Q) : tE X c W e σh H fun v H' => ∃ k, TruV X.K v H' k ∧ Q k H' := by
  obtain ⟨Ψ, Φ, ρ, σ, env, o, ev, f⟩ := h
  refine tE_ok o ev (f.bind.imp fun w s Φ1 ρ1 H1 _ _ _ f1 s1 p1 o1 v r => ?_)
  obtain ⟨u, k, e1, e2, f2⟩ := f1.tst
  exact ⟨k, tru_of o1.sub (peek_rp o1 r e1) e2, f2.ok o1⟩
theorem truV_bl {K : PySem.W.Frag} {b k : Bool} {H : Hp} (h : TruV K (.bl b) H k) : k = b := h
theorem two_b {g : D → D → Option Bool} {σh : L2.St} {H : Hp} {Q : VK} {Φ : Hp} {ρ : List Addr} {σ : Sto} {env : Env} (o : Ok Ψ Φ ρ σ H) (ev : EnvOk Φ ρ env σh)
    (f : Fin Ψ Φ ρ ((evE c ea env σ).bind fun x s => (evE c eb env s).bind fun y s => rd2 s x y fun u v => R.map1 s ((g u v).map .bool)) (fun w _ Φ' ρ' H' => ∀ v, RelW Φ' ρ' w v → Q v H') (EX X.mg fun cls d H' => W cls d σh H')) : tOp (r2B g) (tE X c W ea) (tE X c W eb) σh H Q := by
  refine tE_ok o ev (f.bind.imp fun w1 s1 Φ1 ρ1 H1 _ _ _ f1 s1' p1 o1 v1 r1 => ?_)
  refine tE_ok o1 (ev.mono s1' p1) (f1.bind.imp fun w2 s2 Φ2 ρ2 H2 _ _ _ f2 s2' p2 o2 v2 r2 => ?_)
  obtain ⟨u, v, e1, e2, f2⟩ := f2.rd2
  obtain ⟨r, e, f2⟩ := f2.map1
  cases e' : g u v with
  | none => rw [e'] at e; cases e
  | some b =>
    rw [e'] at e
    cases e
    exact ⟨Φ2, u, v, b, o2.sub, peek_rp o2 (r1.mono s2' p2) e1, peek_rp o2 r2 e2, e', f2.ok o2 _ (.bl b)⟩
theorem pE_cmp {o : Cmp} (hu : X.A.units + 100 < cLine) (ha : PE X a (tE X c W ea)) (hb : PE X b (tE X c W eb)) (hm : behindInMarks (copOf o) b = false) : PE X (.Compare a [copOf o] [b] pos) (tE X c W (.cmp o ea eb)) :=
  PE.imp (pe_cmpR (op_cmp hu o) ha hb hm) fun σh H Q ⟨Ψ, Φ, ρ, σ, env, ok, ev, f⟩ => two_b ok ev (by rw [evE] at f; exact f)
theorem bl_of_tru {r : VK} {K : PySem.W.Frag} {Q : Bool → Hp → Prop} {b : Bool} {H : Hp} (h : ∃ k, TruV K (.bl b) H k ∧ Q k H) : ∃ k, V.bl b = .bl k ∧ Q k H := by
  obtain ⟨k, e, q⟩ := h
  exact ⟨b, rfl, by rw [← truV_bl e]; exact q⟩
theorem r2B_imp {g : D → D → Option Bool} {x y : V} {H : Hp} {Q Q' : VK} (h : r2B g x y H Q) (i : ∀ b, Q (.bl b) H → Q' (.bl b) H) : r2B g x y H Q' := by
  obtain ⟨Φ, u, v, r, h1, h2, h3, h4, q⟩ := h
  exact ⟨Φ, u, v, r, h1, h2, h3, h4, i _ q⟩
theorem tE_imp {e : Ex} {σh : L2.St} {H : Hp} {Q Q' : VK} (h : tE X c W e σh H Q) (i : ∀ v H', Q v H' → Q' v H') : tE X c W e σh H Q' := by
  obtain ⟨Ψ, Φ, ρ, σ, env, o, ev, f⟩ := h
  exact ⟨Ψ, Φ, ρ, σ, env, o, ev, f.imp fun _ _ _ _ _ _ _ _ q v r => i _ _ (q v r)⟩
theorem pT_cmp {o : Cmp} (hu : X.A.units + 100 < cLine) (ha : PE X a (tE X c W ea)) (hb : PE X b (tE X c W eb)) (hm : behindInMarks (copOf o) b = false) : PT X (.Compare a [copOf o] [b] pos) (tTe X c W (.cmp o ea eb)) :=
  PT.imp (pt_cmpR (op_cmp hu o) ha hb hm) fun σh H Q h => by
    obtain ⟨Ψ, Φ, ρ, σ, env, ok, ev, f⟩ := tTe_val h
    rw [evE] at f
    exact tE_imp (two_b ok ev f) fun v H1 h1 => tE_imp h1 fun w H2 h2 => r2B_imp h2 fun b q => bl_of_tru (r := fun _ _ => True) q
/-! ### chains -/
theorem chain_go {o o' : Cmp} {σh : L2.St} {H : Hp} {Q : VK} (h : tE X c W (.chain o o' ea eb ed) σh H Q) : tChain (r2B (cmp2 o)) (r2B (cmp2 o')) (tE X c W ea) (tE X c W eb) (tE X c W ed) σh H Q := by
  obtain ⟨Ψ, Φ, ρ, σ, env, ok, ev, f⟩ := h
  rw [evE] at f
  refine tE_ok ok ev (f.bind.imp fun w1 s1 Φ1 ρ1 H1 _ _ _ f1 s1' p1 o1 v1 r1 => ?_)
  refine tE_ok o1 (ev.mono s1' p1) (f1.bind.imp fun w2 s2 Φ2 ρ2 H2 _ _ _ f2 s2' p2 o2 v2 r2 => ?_)
  obtain ⟨u, v, e1, e2, f2⟩ := f2.rd2
  split at f2
  · rename_i e
    refine ⟨Φ2, u, v, true, o2.sub, peek_rp o2 (r1.mono s2' p2) e1, peek_rp o2 r2 e2, e, true, rfl, ?_⟩
    rw [if_pos rfl]
    refine tE_ok o2 ((ev.mono s1' p1).mono s2' p2) (f2.bind.imp fun w3 s3 Φ3 ρ3 H3 _ _ _ f3 s3' p3 o3 v3 r3 => ?_)
    obtain ⟨u', v', e3, e4, f3⟩ := f3.rd2
    obtain ⟨r, e5, f3⟩ := f3.map1
    cases e' : cmp2 o' u' v' with
    | none => rw [e'] at e5; cases e5
    | some b =>
      rw [e'] at e5
      cases e5
      exact ⟨Φ3, u', v', b, o3.sub, peek_rp o3 (r2.mono s3' p3) e3, peek_rp o3 r3 e4, e', f3.ok o3 _ (.bl b)⟩
  · rename_i e
    refine ⟨Φ2, u, v, false, o2.sub, peek_rp o2 (r1.mono s2' p2) e1, peek_rp o2 r2 e2, e, false, rfl, ?_⟩
    exact f2.ok o2 _ (.bl false)
  · exact f2.elim
theorem pE_chain {o o' : Cmp} (hu : X.A.units + 100 < cLine) (ha : PE X a (tE X c W ea)) (hb : PE X b (tE X c W eb)) (hd : PE X d (tE X c W ed)) (hm : behindInMarks (copOf o') d = false) :
    PE X (.Compare a [copOf o, copOf o'] [b, d] pos) (tE X c W (.chain o o' ea eb ed)) :=
  PE.imp (pe_chain (op_cmp hu o) (op_cmp hu o') ha hb hd (by show behindInMarks (copOf o') d = false; exact hm)) fun σh H Q h => chain_go h
theorem pT_chain {o o' : Cmp} (hu : X.A.units + 100 < cLine) (ha : PE X a (tE X c W ea)) (hb : PE X b (tE X c W eb)) (hd : PE X d (tE X c W ed)) (hm : behindInMarks (copOf o') d = false) :
    PT X (.Compare a [copOf o, copOf o'] [b, d] pos) (tTe X c W (.chain o o' ea eb ed)) :=
  PT.imp (pt_chain (op_cmp hu o) (op_cmp hu o') ha hb hd (by show behindInMarks (copOf o') d = false; exact hm)) fun σh H Q h => by
    refine tE_imp (chain_go (tTe_val h)) fun v1 H1 h1 => tE_imp h1 fun v2 H2 h2 => r2B_imp h2 fun b q => ?_
    obtain ⟨k, e, q⟩ := q
    refine ⟨k, e, ?_⟩
    cases k with
    | true =>
      rw [if_pos rfl] at q ⊢
      exact tE_imp q fun v3 H3 h3 => r2B_imp h3 fun b q => bl_of_tru (r := fun _ _ => True) q
    | false => exact bl_of_tru (r := fun _ _ => True) q
/-! ### and, or, not, if -/
theorem and_go {σh : L2.St} {H : Hp} {Q : VK} (h : tE X c W (.and ea eb) σh H Q) : tE X c W ea σh H fun x H1 => ∃ k, TruV X.K x H1 k ∧ if k = true then tE X c W eb σh H1 Q else Q x H1 := by
  obtain ⟨Ψ, Φ, ρ, σ, env, ok, ev, f⟩ := h
  rw [evE] at f
  refine tE_ok ok ev (f.bind.imp fun w1 s1 Φ1 ρ1 H1 _ _ _ f1 s1' p1 o1 v1 r1 => ?_)
  obtain ⟨u, k, e1, e2, f2⟩ := f1.tst
  refine ⟨k, tru_of o1.sub (peek_rp o1 r1 e1) e2, ?_⟩
  cases k with
  | true => rw [if_pos rfl] at f2 ⊢; exact ⟨Ψ, Φ1, ρ1, s1, env, o1, ev.mono s1' p1, f2⟩
  | false => exact f2.ok o1 v1 r1
theorem or_go {σh : L2.St} {H : Hp} {Q : VK} (h : tE X c W (.or ea eb) σh H Q) : tE X c W ea σh H fun x H1 => ∃ k, TruV X.K x H1 k ∧ if k = true then Q x H1 else tE X c W eb σh H1 Q := by
  obtain ⟨Ψ, Φ, ρ, σ, env, ok, ev, f⟩ := h
  rw [evE] at f
  refine tE_ok ok ev (f.bind.imp fun w1 s1 Φ1 ρ1 H1 _ _ _ f1 s1' p1 o1 v1 r1 => ?_)
  obtain ⟨u, k, e1, e2, f2⟩ := f1.tst
  refine ⟨k, tru_of o1.sub (peek_rp o1 r1 e1) e2, ?_⟩
  cases k with
  | true => exact f2.ok o1 v1 r1
  | false => exact ⟨Ψ, Φ1, ρ1, s1, env, o1, ev.mono s1' p1, f2⟩
theorem not_go {σh : L2.St} {H : Hp} {Q : VK} (h : tE X c W (.not ea) σh H Q) : tE X c W ea σh H fun x H1 => ∃ k, TruV X.K x H1 k ∧ Q (.bl (!k)) H1 := by
  obtain ⟨Ψ, Φ, ρ, σ, env, ok, ev, f⟩ := h
  rw [evE] at f
  refine tE_ok ok ev (f.bind.imp fun w1 s1 Φ1 ρ1 H1 _ _ _ f1 s1' p1 o1 v1 r1 => ?_)
  obtain ⟨u, k, e1, e2, f2⟩ := f1.tst
  exact ⟨k, tru_of o1.sub (peek_rp o1 r1 e1) e2, f2.ok o1 _ (.bl _)⟩
theorem pE_and {rest : List Expr} (ha : PE X a (tE X c W ea)) (hb : PE X (.BoolOp .And (b :: rest) pos) (tE X c W eb)) : PE X (.BoolOp .And (a :: b :: rest) pos) (tE X c W (.and ea eb)) :=
  PE.imp (pe_andT ha hb) fun σh H Q h => and_go h
theorem pE_or {rest : List Expr} (ha : PE X a (tE X c W ea)) (hb : PE X (.BoolOp .Or (b :: rest) pos) (tE X c W eb)) : PE X (.BoolOp .Or (a :: b :: rest) pos) (tE X c W (.or ea eb)) :=
  PE.imp (pe_orT ha hb) fun σh H Q h => or_go h
theorem pE_not (ha : PE X a (tE X c W ea)) : PE X (.UnaryOp .Not a pos) (tE X c W (.not ea)) := PE.imp (pe_notT ha) fun σh H Q h => not_go h
/-- a test's meaning, by its value's truth -/
theorem tTe_of {e : Ex} {σh : L2.St} {H : Hp} {Q : Bool → Hp → Prop} {Φ : Hp} {ρ : List Addr} {σ : Sto} {env : Env} (o : Ok Ψ Φ ρ σ H) (ev : EnvOk Φ ρ env σh)
    (f : Fin Ψ Φ ρ (evT c e env σ) (fun b _ _ _ H' => Q b H') (EX X.mg fun cls d H' => W cls d σh H')) : tTe X c W e σh H Q := ⟨Ψ, Φ, ρ, σ, env, o, ev, f⟩
theorem R.bind_assoc {α β γ : Type} (r : R α) (f : α → Sto → R β) (g : β → Sto → R γ) : (r.bind f).bind g = r.bind fun a s => (f a s).bind g := by cases r <;> rfl
theorem tst_bind {α β : Type} (s : Sto) (x : HB.W) (g : Bool → R α) (h : α → Sto → R β) : (tst s x g).bind h = tst s x fun k => (g k).bind h := by
  unfold tst; split <;> rfl
theorem evT_and (t u : Ex) (e : Env) (s : Sto) : evT c (.and t u) e s = (evT c t e s).bind fun k s => if k then evT c u e s else .ok false s := by
  unfold evT
  rw [evE, R.bind_assoc, R.bind_assoc]
  congr 1
  funext x s
  rw [tst_bind, tst_bind]
  unfold tst
  split
  · rename_i b e'
    cases b with
    | true => rfl
    | false => simp only [R.bind_ok, e', Bool.false_eq_true, if_false]
  · rfl
theorem evT_or (t u : Ex) (e : Env) (s : Sto) : evT c (.or t u) e s = (evT c t e s).bind fun k s => if k then .ok true s else evT c u e s := by
  unfold evT
  rw [evE, R.bind_assoc, R.bind_assoc]
  congr 1
  funext x s
  rw [tst_bind, tst_bind]
  unfold tst
  split
  · rename_i b e'
    cases b with
    | true => simp only [R.bind_ok, e', if_true]
    | false => rfl
  · rfl
theorem evT_not (t : Ex) (e : Env) (s : Sto) : evT c (.not t) e s = (evT c t e s).bind fun k s => .ok (!k) s := by
  unfold evT
  rw [evE, R.bind_assoc, R.bind_assoc]
  congr 1
  funext x s
  rw [tst_bind, tst_bind]
  unfold tst
  split
  · rfl
  · rfl
theorem pT_not (ha : PT X a (tTe X c W ea)) : PT X (.UnaryOp .Not a pos) (tTe X c W (.not ea)) :=
  PT.imp (pt_not ha) fun σh H Q ⟨Ψ, Φ, ρ, σ, env, o, ev, f⟩ => by
    rw [evT_not] at f
    exact tTe_of o ev (f.bind.imp fun k s Φ1 ρ1 H1 s1 p1 o1 f1 => f1.ok o1)
theorem pW_and1 (ha : PT X a (tTe X c W ea)) : PW X (.BoolOp .And [a] pos) (tTe X c W ea) := pw_and1 ha
theorem pW_or1 (ha : PT X a (tTe X c W ea)) : PW X (.BoolOp .Or [a] pos) (tTe X c W ea) := pw_or1 ha
theorem PW.imp {X : Cx} {e : Expr} {t t' : TT} (h : PW X e t) (i : ∀ σ H Q, t' σ H Q → t σ H Q) : PW X e t' := ⟨fun wh pins s σ H Q I q => h.run wh pins s σ H Q I (i σ H Q q)⟩
theorem pW_and {rest : List Expr} (ha : PT X a (tTe X c W ea)) (hb : PW X (.BoolOp .And (b :: rest) pos) (tTe X c W eb)) : PW X (.BoolOp .And (a :: b :: rest) pos) (tTe X c W (.and ea eb)) :=
  PW.imp (pw_and ha hb) fun σh H Q ⟨Ψ, Φ, ρ, σ, env, o, ev, f⟩ => by
    rw [evT_and] at f
    refine tTe_of o ev (f.bind.imp fun k s Φ1 ρ1 H1 s1 p1 o1 f1 => ?_)
    cases k with
    | true => rw [if_pos rfl] at f1 ⊢; exact ⟨Ψ, Φ1, ρ1, s, env, o1, ev.mono s1 p1, f1⟩
    | false => exact f1.ok o1
theorem pW_or {rest : List Expr} (ha : PT X a (tTe X c W ea)) (hb : PW X (.BoolOp .Or (b :: rest) pos) (tTe X c W eb)) : PW X (.BoolOp .Or (a :: b :: rest) pos) (tTe X c W (.or ea eb)) :=
  PW.imp (pw_or ha hb) fun σh H Q ⟨Ψ, Φ, ρ, σ, env, o, ev, f⟩ => by
    rw [evT_or] at f
    refine tTe_of o ev (f.bind.imp fun k s Φ1 ρ1 H1 s1 p1 o1 f1 => ?_)
    cases k with
    | true => exact f1.ok o1
    | false => exact ⟨Ψ, Φ1, ρ1, s, env, o1, ev.mono s1 p1, f1⟩
/-- any other expression as a test -/
theorem pT_truth {e : Ex} (ha : PE X a (tE X c W e)) (he : ∀ whole, isTrue a X.env whole = (do let v ← whole; standAt a.pos; holding [v] (truthy v))) : PT X a (tTe X c W e) :=
  PT.imp (pt_truth ha he) fun σh H Q h => tTe_val h
theorem pE_ife (ht : PT X d (tTe X c W ed)) (ha : PE X a (tE X c W ea)) (hb : PE X b (tE X c W eb)) : PE X (.IfExp d a b pos) (tE X c W (.ife ed ea eb)) :=
  PE.imp (pe_ifExp ht ha hb) fun σh H Q ⟨Ψ, Φ, ρ, σ, env, o, ev, f⟩ => by
    have q : evE c (.ife ed ea eb) env σ = (evT c ed env σ).bind fun k s => if k then evE c ea env s else evE c eb env s := by
      unfold evT
      rw [evE, R.bind_assoc]
      congr 1
      funext x s
      rw [tst_bind]
      rfl
    rw [q] at f
    refine tTe_of o ev (f.bind.imp fun k s Φ1 ρ1 H1 s1 p1 o1 f1 => ?_)
    cases k with
    | true => exact ⟨Ψ, Φ1, ρ1, s, env, o1, ev.mono s1 p1, f1⟩
    | false => exact ⟨Ψ, Φ1, ρ1, s, env, o1, ev.mono s1 p1, f1⟩
/-! ### None -/
theorem pE_isN {j : Nat} {pos' : Pos} (ha : PE X a (tE X c W ea)) : PE X (.Compare a [.Is] [.Constant .none j pos'] pos) (tE X c W (.isN false ea)) := by
  refine PE.imp (pe_cmp (pc_isN ha) rfl) fun σh H Q ⟨Ψ, Φ, ρ, σ, env, o, ev, f⟩ => ?_
  rw [evE] at f
  refine tE_ok o ev (f.bind.imp fun w s Φ1 ρ1 H1 _ _ _ f1 s1 p1 o1 v r => ?_)
  have q := f1.ok o1 _ (.bl _)
  cases w with
  | h i => obtain ⟨a, _, rfl⟩ := r; exact q
  | d x => cases x <;> cases r <;> exact q
theorem pE_notN {j : Nat} {pos' : Pos} (ha : PE X a (tE X c W ea)) : PE X (.Compare a [.IsNot] [.Constant .none j pos'] pos) (tE X c W (.isN true ea)) := by
  refine PE.imp (pe_cmp (pc_notN ha) rfl) fun σh H Q ⟨Ψ, Φ, ρ, σ, env, o, ev, f⟩ => ?_
  rw [evE] at f
  refine tE_ok o ev (f.bind.imp fun w s Φ1 ρ1 H1 _ _ _ f1 s1 p1 o1 v r => ?_)
  have q := f1.ok o1 _ (.bl _)
  cases w with
  | h i => obtain ⟨a, _, rfl⟩ := r; exact q
  | d x => cases x <;> cases r <;> exact q
theorem tE_isN_bl {n : Bool} {σh : L2.St} {H : Hp} {Q : Bool → Hp → Prop} (h : tTe X c W (.isN n ea) σh H Q) : tE X c W (.isN n ea) σh H fun v H' => ∃ k, v = .bl k ∧ Q k H' := by
  obtain ⟨Ψ, Φ, ρ, σ, env, o, ev, f⟩ := tTe_val h
  rw [evE] at f
  refine ⟨Ψ, Φ, ρ, σ, env, o, ev, ?_⟩
  rw [evE]
  cases q : evE c ea env σ with
  | bad => rw [q] at f; exact f
  | ex x s => rw [q] at f; exact f
  | ok w s =>
    rw [q] at f
    intro Φ1 ρ1 H1 s1 p1 o1 v r
    have g := f Φ1 ρ1 H1 s1 p1 o1 v r
    cases r
    exact bl_of_tru (r := fun _ _ => True) g
theorem pT_isN {j : Nat} {pos' : Pos} (ha : PE X a (tE X c W ea)) : PT X (.Compare a [.Is] [.Constant .none j pos'] pos) (tTe X c W (.isN false ea)) := by
  refine PT.imp (pt_cmp (pc_isN ha) rfl) fun σh H Q h => ?_
  obtain ⟨Ψ, Φ, ρ, σ, env, o, ev, f⟩ := tE_isN_bl h
  rw [evE] at f
  refine tE_ok o ev (f.bind.imp fun w s Φ1 ρ1 H1 _ _ _ f1 s1 p1 o1 v r => ?_)
  have q := f1.ok o1 _ (.bl _)
  cases w with
  | h i => obtain ⟨a, _, rfl⟩ := r; exact q
  | d x => cases x <;> cases r <;> exact q
theorem pT_notN {j : Nat} {pos' : Pos} (ha : PE X a (tE X c W ea)) : PT X (.Compare a [.IsNot] [.Constant .none j pos'] pos) (tTe X c W (.isN true ea)) := by
  refine PT.imp (pt_cmp (pc_notN ha) rfl) fun σh H Q h => ?_
  obtain ⟨Ψ, Φ, ρ, σ, env, o, ev, f⟩ := tE_isN_bl h
  rw [evE] at f
  refine tE_ok o ev (f.bind.imp fun w s Φ1 ρ1 H1 _ _ _ f1 s1 p1 o1 v r => ?_)
  have q := f1.ok o1 _ (.bl _)
  cases w with
  | h i => obtain ⟨a, _, rfl⟩ := r; exact q
  | d x => cases x <;> cases r <;> exact q
end
end HB
/-! Arguments, displays, subscripts, calls. -/
namespace HB
open PySem PySem.W PySem.Spec PyProof.Rows L2
def noStar : Expr → Bool
  | .Starred _ _ => false
  | _ => true
theorem star_cons {e : Expr} {es : List Expr} {env : PySem.Env} (h : noStar e = true) : starEach (e :: es) env = (false, eval e env) :: starEach es env := by
  cases e <;> first | rfl | cases h
theorem star_all {env : PySem.Env} {pos : Pos} : ∀ {es : List Expr}, es.all noStar = true → (backTo pos (starEach es env)).any (·.1) = false
  | [], _ => rfl
  | e :: es, h => by
    simp only [List.all_cons, Bool.and_eq_true] at h
    rw [star_cons h.1]
    show (false || (backTo pos (starEach es env)).any (·.1)) = false
    rw [star_all h.2]; rfl
section
variable {X : Cx} {c : Calls} {W : WX} {T : Tab} {ea eb ed : Ex} {es : List Ex} {a b d : Expr} {as : List Expr} {pos : Pos}
theorem tEs_ok {e : List Ex} {σh : L2.St} {H : Hp} {Q : List V → Hp → Prop} {Φ : Hp} {ρ : List Addr} {σ : Sto} {env : Env} (o : Ok Ψ Φ ρ σ H) (v : EnvOk Φ ρ env σh)
    (f : Fin Ψ Φ ρ (evs c e env σ) (fun w s Φ' ρ' H' => Sub Φ Φ' → ρ <+: ρ' → Ok Ψ Φ' ρ' s H' → ∀ v, RelWs Φ' ρ' w v → Q v H') (EX X.mg fun cls d H' => W cls d σh H')) : tEs X c W e σh H Q :=
  ⟨Ψ, Φ, ρ, σ, env, o, v, f.imp fun _ _ _ _ _ s p o q => q s p o⟩
theorem tDs_ok {e : List Ex} {σh : L2.St} {H : Hp} {Q : List V → Hp → Prop} {Φ : Hp} {ρ : List Addr} {σ : Sto} {env : Env} (o : Ok Ψ Φ ρ σ H) (v : EnvOk Φ ρ env σh)
    (f : Fin Ψ Φ ρ (evD c e env σ) (fun w s Φ' ρ' H' => Sub Φ Φ' → ρ <+: ρ' → Ok Ψ Φ' ρ' s H' → ∀ v, DpAll K0 Φ' v w → Q v H') (EX X.mg fun cls d H' => W cls d σh H')) : tDs X c W e σh H Q :=
  ⟨Ψ, Φ, ρ, σ, env, o, v, f.imp fun _ _ _ _ _ s p o q => q s p o⟩
theorem pA_nil : PA X [] (tEs X c W []) := PA.imp pa_nil fun σh H Q ⟨Ψ, Φ, ρ, σ, env, o, ev, f⟩ => f.ok o _ .nil
theorem pA_cons (hs : noStar a = true) (ha : PE X a (tE X c W ea)) (hr : PA X as (tEs X c W es)) : PA X (a :: as) (tEs X c W (ea :: es)) :=
  PA.imp (pa_cons ha hr (star_cons hs)) fun σh H Q ⟨Ψ, Φ, ρ, σ, env, o, ev, f⟩ => by
    rw [evs] at f
    refine tE_ok o ev (f.bind.imp fun w1 s1 Φ1 ρ1 H1 _ _ _ f1 s1' p1 o1 v1 r1 => ?_)
    refine tEs_ok o1 (ev.mono s1' p1) (f1.bind.imp fun w2 s2 Φ2 ρ2 H2 _ _ _ f2 s2' p2 o2 v2 r2 => ?_)
    exact f2.ok o2 _ (.cons (r1.mono s2' p2) r2)
theorem pD_nil : PA X [] (tDs X c W []) := PA.imp pa_nil fun σh H Q ⟨Ψ, Φ, ρ, σ, env, o, ev, f⟩ => f.ok o _ .nil
theorem pD_cons (hs : noStar a = true) (ha : PE X a (tE X c W ea)) (hr : PA X as (tDs X c W es)) : PA X (a :: as) (tDs X c W (ea :: es)) :=
  PA.imp (pa_cons ha hr (star_cons hs)) fun σh H Q ⟨Ψ, Φ, ρ, σ, env, o, ev, f⟩ => by
    rw [evD] at f
    refine tE_ok o ev (f.bind.imp fun w1 s1 Φ1 ρ1 H1 _ _ _ f1 s1' p1 o1 v1 r1 => ?_)
    obtain ⟨d, s1a, e, f1⟩ := f1.toD
    obtain ⟨Φ1a, hs1, o1a, hd⟩ := frz_ok o1 r1 e
    have f1 := f1.mono hs1 (List.prefix_refl _)
    refine tDs_ok o1a ((ev.mono s1' p1).mono hs1 (List.prefix_refl _)) (f1.bind.imp fun w2 s2 Φ2 ρ2 H2 _ _ _ f2 s2' p2 o2 v2 r2 => ?_)
    exact f2.ok o2 _ (.cons (Dp.sub s2' hd) r2)
theorem pE_tup {k : Nat} (h : PA X as (tDs X c W es)) : PE X (.Tuple as k pos) (tE X c W (.tup es)) :=
  PE.imp (pe_tup h) fun σh H Q ⟨Ψ, Φ, ρ, σ, env, o, ev, f⟩ => by
    rw [evE] at f
    refine tDs_ok o ev (f.bind.imp fun ds s1 Φ1 ρ1 H1 _ _ _ f1 s1' p1 o1 vs r => ?_)
    split at f1
    · rename_i hl
      have l := HB.DpAll.length r
      exact ⟨by have := line_of hl; omega, fun p hp => (Out.of o1 f1).new o1.sub r hp⟩
    · exact f1.elim
/-! ### new lists -/
theorem tN_ok {n : Nw} {σh : L2.St} {H : Hp} {Q : VK} {Φ : Hp} {ρ : List Addr} {σ : Sto} {env : Env} (o : Ok Ψ Φ ρ σ H) (v : EnvOk Φ ρ env σh)
    (f : Fin Ψ Φ ρ (evN c n env σ) (fun ds s Φ' ρ' H' => Sub Φ Φ' → ρ <+: ρ' → Ok Ψ Φ' ρ' s H' → ∀ p vs, H' p = none → DpAll K0 Φ' vs ds → Q (.ref p) (upd H' p (.lst vs))) (EX X.mg fun cls d H' => W cls d σh H')) : tN X c W n σh H Q :=
  ⟨Ψ, Φ, ρ, σ, env, o, v, f.imp fun _ _ _ _ _ s p o q => q s p o⟩
theorem pE_frs {n : Nw} (h : PE X a (tN X c W n)) : PE X a (tE X c W (.frs n)) :=
  PE.imp h fun σh H Q ⟨Ψ, Φ, ρ, σ, env, o, ev, f⟩ => by
    rw [evE] at f
    refine tN_ok o ev (f.bind.imp fun ds s1 Φ1 ρ1 H1 _ _ _ f1 s1' p1 o1 p vs hp r => ?_)
    have g : Sub Φ1 (upd Φ1 p (.lst vs)) := Sub.grow _ (o1.sub.free hp)
    exact f1 _ _ _ g (List.prefix_refl _) (o1.fresh hp _) _ (.lst (SqL.of upd_same) (DpAll.sub g r))
theorem pE_new {n : Nw} (h : PE X a (tN X c W n)) : PE X a (tE X c W (.new n)) :=
  PE.imp h fun σh H Q ⟨Ψ, Φ, ρ, σ, env, o, ev, f⟩ => by
    rw [evE, alloc] at f
    refine tN_ok o ev (f.bind.imp fun ds s1 Φ1 ρ1 H1 _ _ _ f1 s1' p1 o1 p vs hp r => ?_)
    have o2 := o1.alloc hp r
    refine f1 Φ1 (ρ1 ++ [p]) _ (Sub.refl _) (List.prefix_append _ _) o2 _ ⟨p, ?_, rfl⟩
    rw [← o1.len, List.getElem?_append_right (Nat.le_refl _)]
    simp
theorem pN_lst (h : PA X as (tDs X c W es)) : PE X (.List as pos) (tN X c W (.lst es)) :=
  PE.imp (pe_lst h) fun σh H Q ⟨Ψ, Φ, ρ, σ, env, o, ev, f⟩ => by
    rw [evN] at f
    refine tDs_ok o ev (f.bind.imp fun ds s1 Φ1 ρ1 H1 _ _ _ f1 s1' p1 o1 vs r => ?_)
    split at f1
    · rename_i hl
      have l := HB.DpAll.length r
      exact ⟨by have := line_of hl; omega, fun p hp => f1.ok o1 p vs hp r⟩
    · exact f1.elim
/-! ### subscripts -/
/-- a two-place rule of data, nothing new is made -/
def r2E (g : D → D → Option D) : R2 := fun x y H Q => ∃ Φ u v r, Sub Φ H ∧ Rp Φ H x u ∧ Rp Φ H y v ∧ g u v = some r ∧ ∀ z, Dp K0 Φ z r → Q z H
theorem two_e {g : D → D → Option D} {σh : L2.St} {H : Hp} {Q : VK} {Φ : Hp} {ρ : List Addr} {σ : Sto} {env : Env} (o : Ok Ψ Φ ρ σ H) (ev : EnvOk Φ ρ env σh)
    (f : Fin Ψ Φ ρ ((evE c ea env σ).bind fun x s => (evE c eb env s).bind fun y s => rd2 s x y fun u v => R.map1 s (g u v)) (fun w _ Φ' ρ' H' => ∀ v, RelW Φ' ρ' w v → Q v H') (EX X.mg fun cls d H' => W cls d σh H')) : tOp (r2E g) (tE X c W ea) (tE X c W eb) σh H Q := by
  refine tE_ok o ev (f.bind.imp fun w1 s1 Φ1 ρ1 H1 _ _ _ f1 s1' p1 o1 v1 r1 => ?_)
  refine tE_ok o1 (ev.mono s1' p1) (f1.bind.imp fun w2 s2 Φ2 ρ2 H2 _ _ _ f2 s2' p2 o2 v2 r2 => ?_)
  obtain ⟨u, v, e1, e2, f2⟩ := f2.rd2
  obtain ⟨r, e, f2⟩ := f2.map1
  exact ⟨Φ2, u, v, r, o2.sub, peek_rp o2 (r1.mono s2' p2) e1, peek_rp o2 r2 e2, e, fun z d => f2.ok o2 z d⟩
theorem atI_all {Φ : Hp} {vs : List V} {ds : List D} {i : Int} {r : D} (h : DpAll K0 Φ vs ds) (e : L2.atI ds i = some r) : ∃ v, L2.atI vs i = some v ∧ Dp K0 Φ v r := by
  unfold L2.atI at e ⊢
  rw [HB.DpAll.length h]
  cases q : L2.ixN ds.length i with
  | none => rw [q] at e; cases e
  | some j => rw [q] at e; exact DpAll.get h e
theorem ix_data : IxR X (r2E idx2) := by
  intro value slice pins s σ H x y v u Q I rx ry h hs
  obtain ⟨Φ, du, dv, r, hsub, hx, hy, e, q⟩ := h
  unfold idx2 at e
  split at e
  · rename_i z i
    cases hx; cases hy
    split at e
    · rename_i hl
      cases e' : L2.atI z.cps.toList i with
      | none => rw [e'] at e; cases e
      | some cp =>
        rw [e'] at e; cases e
        exact ix_str value slice pins s σ H _ _ v u Q I rx ry ⟨z, i, cp, rfl, rfl, Nat.le_of_lt (line_of hl), e', q _ (.str _)⟩ hs
    · cases e
  · obtain ⟨a, vs, rfl, h1, h2⟩ := hx
    cases hy
    obtain ⟨w, e1, d1⟩ := atI_all h2 e
    exact ix_list value slice pins s σ H _ _ v u Q I rx ry ⟨a, vs, _, w, rfl, rfl, .inl h1, e1, q _ d1⟩ hs
  · cases hx with
    | tup h1 h2 =>
      cases hy
      obtain ⟨w, e1, d1⟩ := atI_all h2 e
      exact ix_tup value slice pins s σ H _ _ v u Q I rx ry ⟨_, _, _, w, rfl, rfl, SqT.sub hsub h1, e1, q _ d1⟩ hs
  · cases e
def noSlice : Expr → Bool
  | .Slice _ _ _ _ => false
  | _ => true
theorem plainIx_of (h : noSlice b = true) : PlainIx b := fun o i => by cases b <;> first | rfl | cases h
/-- a place of a list of one's own lists -/
def r2W : R2 := fun x y H Q => ∃ a vs j w, x = .ref a ∧ y = .int j ∧ H a = some (.lst vs) ∧ L2.atI vs j = some w ∧ Q w H
theorem paired_at {α β : Type} {r : α → β → Prop} : ∀ {xs : List α} {ys : List β}, Paired r xs ys → ∀ (i : Nat) (x : α), xs[i]? = some x → ∃ y, ys[i]? = some y ∧ r x y
  | _, _, .nil, i, x, e => by simp at e
  | _, _, .cons h t, 0, x, e => by simp at e; subst e; exact ⟨_, rfl, h⟩
  | _, _, .cons h t, i + 1, x, e => by simp at e; simpa using paired_at t i x e
theorem paired_length {α β : Type} {r : α → β → Prop} : ∀ {xs : List α} {ys : List β}, Paired r xs ys → xs.length = ys.length
  | _, _, .nil => rfl
  | _, _, .cons _ h => by simp [paired_length h]
theorem atI_rel {Φ : Hp} {ρ : List Addr} {vs : List V} {ws : List HB.W} {i : Int} {r : HB.W} (h : RelWs Φ ρ ws vs) (e : L2.atI ws i = some r) : ∃ v, L2.atI vs i = some v ∧ RelW Φ ρ r v := by
  unfold L2.atI at e ⊢
  rw [← paired_length h]
  cases q : L2.ixN ws.length i with
  | none => rw [q] at e; cases e
  | some j => rw [q] at e; exact paired_at h j r e
theorem ix_both : IxR X (fun x y H Q => r2E idx2 x y H Q ∨ r2W x y H Q) := by
  intro value slice pins s σ H x y v u Q I rx ry h hs
  rcases h with h | ⟨a, vs, j, w, rfl, rfl, h1, h2, q⟩
  · exact ix_data value slice pins s σ H x y v u Q I rx ry h hs
  · exact ix_list value slice pins s σ H _ _ v u Q I rx ry ⟨a, vs, _, w, rfl, rfl, .inl (.inl h1), h2, q⟩ hs
theorem pE_idx (hn : noSlice b = true) (ha : PE X a (tE X c W ea)) (hb : PE X b (tE X c W eb)) : PE X (.Subscript a b pos) (tE X c W (.idx ea eb)) :=
  PE.imp (pe_ix ix_both ha hb (plainIx_of hn)) fun σh H Q ⟨Ψ, Φ, ρ, σ, env, o, ev, f⟩ => by
    rw [evE] at f
    refine tE_ok o ev (f.bind.imp fun w1 s1 Φ1 ρ1 H1 _ _ _ f1 s1' p1 o1 v1 r1 => ?_)
    refine tE_ok o1 (ev.mono s1' p1) (f1.bind.imp fun w2 s2 Φ2 ρ2 H2 _ _ _ f2 s2' p2 o2 v2 r2 => ?_)
    have r1 := r1.mono s2' p2
    have old : ∀ (f2 : Fin Ψ Φ2 ρ2 (rd2 s2 w1 w2 fun u v => R.map1 s2 (idx2 u v)) (fun w _ Φ' ρ' H' => ∀ v, RelW Φ' ρ' w v → Q v H') (EX X.mg fun cls d H' => W cls d σh H')), r2E idx2 v1 v2 H2 Q ∨ r2W v1 v2 H2 Q := fun f2 => by
      obtain ⟨u, v, e1, e2, f2⟩ := f2.rd2
      obtain ⟨r, e, f2⟩ := f2.map1
      exact .inl ⟨Φ2, u, v, r, o2.sub, peek_rp o2 r1 e1, peek_rp o2 r2 e2, e, fun z d => f2.ok o2 z d⟩
    unfold idxR at f2
    split at f2
    · split at f2
      · rename_i ws q
        split at f2
        · rename_i k e2
          obtain ⟨r, e3, f2⟩ := f2.of
          obtain ⟨a, ea, rfl⟩ := r1
          obtain ⟨_, vs, h1, h2⟩ := o2.cell _ a _ ea q
          obtain ⟨v, h3, h4⟩ := atI_rel h2 e3
          have hr := peek_rp o2 r2 e2
          cases hr
          exact .inr ⟨a, vs, _, v, rfl, rfl, h1, h3, f2.ok o2 _ h4⟩
        · exact f2.elim
      · exact old f2
    · exact old f2
/-! ### slices -/
theorem pP_none : PO X none (tP X c W none) := by
  refine ⟨fun pins s σ H Q I ⟨Ψ, Φ, ρ, st, env, o, ev, f⟩ => ?_⟩
  exact po_none.run pins s σ H Q I (f.ok o)
theorem pP_some (h : PE X a (tE X c W ea)) : PO X (some a) (tP X c W (some ea)) := by
  refine ⟨fun pins s σ H Q I ⟨Ψ, Φ, ρ, st, env, o, ev, f⟩ => ?_⟩
  refine (po_some h).run pins s σ H Q I ?_
  rw [evP] at f
  refine tE_ok o ev (f.bind.imp fun w1 s1 Φ1 ρ1 H1 _ _ _ f1 s1' p1 o1 v1 r1 => ?_)
  obtain ⟨u, e1, f1⟩ := f1.rd1
  obtain ⟨r, e2, f1⟩ := f1.of
  have hr := peek_rp o1 r1 e1
  cases u <;> try cases e2
  cases hr
  exact ⟨_, rfl, f1.ok o1⟩
theorem tP_ok {e : Option Ex} {σh : L2.St} {H : Hp} {Q : Option Int → Hp → Prop} {Φ : Hp} {ρ : List Addr} {σ : Sto} {env : Env} (o : Ok Ψ Φ ρ σ H) (v : EnvOk Φ ρ env σh)
    (f : Fin Ψ Φ ρ (evP c e env σ) (fun w s Φ' ρ' H' => Sub Φ Φ' → ρ <+: ρ' → Ok Ψ Φ' ρ' s H' → Q w H') (EX X.mg fun cls d H' => W cls d σh H')) : tP X c W e σh H Q :=
  ⟨Ψ, Φ, ρ, σ, env, o, v, f.imp fun _ _ _ _ _ s p o q => q s p o⟩
theorem cutD_all {Φ : Hp} {vs : List V} {ds : List D} (lo hi : Option Int) (h : DpAll K0 Φ vs ds) : DpAll K0 Φ (L2.cutV vs lo hi) (cutD ds lo hi) := by
  unfold L2.cutV cutD
  rw [HB.DpAll.length h]
  exact DpAll.take _ (DpAll.drop _ h)
def rSlD : V → Option Int → Option Int → Hp → VK → Prop := fun x lo hi H Q => ∃ Φ u r, Sub Φ H ∧ Rp Φ H x u ∧ slc2 u lo hi = some r ∧ Out Φ H r Q
theorem sl_data : SlR X (rSlD) := by
  intro pins s σ H x v vl vu lo hi sl Q I rx hs pl pu h
  obtain ⟨Φ, u, r, hsub, hx, e, q⟩ := h
  unfold slc2 at e
  split at e
  · rename_i z l h
    cases hx
    split at e
    · rename_i hl; cases e
      exact sl_str pins s σ H _ v vl vu _ _ sl Q I rx hs pl pu ⟨_, rfl, Nat.le_of_lt (line_of hl), q.old (.str _)⟩
    · cases e
  · cases hx with
    | tup h1 h2 =>
      cases e
      have hl := HB.DpAll.length h2
      refine sl_tupA pins s σ H _ v vl vu _ _ sl Q I rx hs pl pu ⟨_, _, rfl, SqT.sub hsub h1, fun hw => ?_, fun hw p hp => q.new hsub (cutD_all _ _ h2) hp⟩
      refine q.old (.tup h1 ?_)
      unfold cutD
      rw [hl] at hw
      rw [hw.1, hw.2, List.drop_zero, Nat.sub_zero, List.take_length]
      exact h2
  · cases e
theorem pE_slc {lo hi : Option Expr} {el eh : Option Ex} {p2 : Pos} (ha : PE X a (tE X c W ea)) (hl : PO X lo (tP X c W el)) (hh : PO X hi (tP X c W eh)) : PE X (.Subscript a (.Slice lo hi none p2) pos) (tE X c W (.slc ea el eh)) :=
  PE.imp (pe_slice sl_data ha hl hh) fun σh H Q ⟨Ψ, Φ, ρ, σ, env, o, ev, f⟩ => by
    rw [evE] at f
    refine tE_ok o ev (f.bind.imp fun w1 s1 Φ1 ρ1 H1 _ _ _ f1 s1' p1 o1 v1 r1 => ?_)
    refine tP_ok o1 (ev.mono s1' p1) (f1.bind.imp fun l s2 Φ2 ρ2 H2 _ _ _ f2 s2' p2 o2 => ?_)
    refine tP_ok o2 ((ev.mono s1' p1).mono s2' p2) (f2.bind.imp fun h s3 Φ3 ρ3 H3 _ _ _ f3 s3' p3 o3 => ?_)
    obtain ⟨u, e1, f3⟩ := f3.rd1
    obtain ⟨r, e2, f3⟩ := f3.map1
    exact ⟨Φ3, u, r, o3.sub, peek_rp o3 ((r1.mono s2' p2).mono s3' p3) e1, e2, Out.of o3 f3⟩
theorem sl_listD : SlR X (fun x lo hi H Q => ∃ Φ u r, Sub Φ H ∧ Rp Φ H x u ∧ cut1 u lo hi = some r ∧ ∀ p vs, H p = none → DpAll K0 Φ vs r → Q (.ref p) (upd H p (.lst vs))) := by
  intro pins s σ H x v vl vu lo hi sl Q I rx hs pl pu h
  obtain ⟨Φ, u, r, hsub, hx, e, q⟩ := h
  cases u <;> try cases e
  obtain ⟨a, vs, rfl, h1, h2⟩ := hx
  exact sl_list pins s σ H _ v vl vu _ _ sl Q I rx hs pl pu ⟨a, vs, rfl, .inl h1, fun p hp => q p _ hp (cutD_all _ _ h2)⟩
theorem pN_slc {lo hi : Option Expr} {el eh : Option Ex} {p2 : Pos} (ha : PE X a (tE X c W ea)) (hl : PO X lo (tP X c W el)) (hh : PO X hi (tP X c W eh)) : PE X (.Subscript a (.Slice lo hi none p2) pos) (tN X c W (.slc ea el eh)) :=
  PE.imp (pe_slice sl_listD ha hl hh) fun σh H Q ⟨Ψ, Φ, ρ, σ, env, o, ev, f⟩ => by
    rw [evN] at f
    refine tE_ok o ev (f.bind.imp fun w1 s1 Φ1 ρ1 H1 _ _ _ f1 s1' p1 o1 v1 r1 => ?_)
    refine tP_ok o1 (ev.mono s1' p1) (f1.bind.imp fun l s2 Φ2 ρ2 H2 _ _ _ f2 s2' p2 o2 => ?_)
    refine tP_ok o2 ((ev.mono s1' p1).mono s2' p2) (f2.bind.imp fun h s3 Φ3 ρ3 H3 _ _ _ f3 s3' p3 o3 => ?_)
    obtain ⟨u, e1, f3⟩ := f3.rd1
    obtain ⟨r, e2, f3⟩ := f3.of
    exact ⟨Φ3, u, r, o3.sub, peek_rp o3 ((r1.mono s2' p2).mono s3' p3) e1, e2, fun p vs hp d => f3.ok o3 p vs hp d⟩
/-! ### calls -/
/-- the lists that are handed in, among all -/
structure Gath (ρ : List Addr) (s : Sto) (is : List Nat) (as : List Addr) : Prop where
  nd : is.Nodup
  at_ : Paired (fun i a => ρ[i]? = some a ∧ ∃ c, s[i]? = some c ∧ plainC c = true) is as
theorem Gath.nil {ρ : List Addr} {s : Sto} : Gath ρ s [] [] := ⟨List.nodup_nil, .nil⟩
theorem paired_snoc {α β : Type} {r : α → β → Prop} {x : α} {y : β} (h : r x y) : ∀ {xs : List α} {ys : List β}, Paired r xs ys → Paired r (xs ++ [x]) (ys ++ [y])
  | _, _, .nil => .cons h .nil
  | _, _, .cons k t => .cons k (paired_snoc h t)
theorem gath_go {Ψ Φ : Hp} {ρ : List Addr} {s : Sto} {H : Hp} (o : Ok Ψ Φ ρ s H) : ∀ {ws : List HB.W} {vs : List V} {is : List Nat} {as : List Addr} {ws' : List HB.W} {is' : List Nat}, RelWs Φ ρ ws vs → Gath ρ s is as → gath ws s is = some (ws', is') →
    ∃ as', Gath ρ s is' as' ∧ as <+: as' ∧ ∀ Φ', Sub Φ Φ' → RelWs Φ' as' ws' vs
  | [], _, is, as, ws', is', .nil, g, e => by
    cases e
    exact ⟨as, g, List.prefix_refl _, fun _ _ => .nil⟩
  | .d v :: ws, _, is, as, ws', is', .cons r t, g, e => by
    simp only [gath, Option.map_eq_some_iff] at e
    obtain ⟨p, e, h⟩ := e
    cases h
    obtain ⟨as', h1, h2, h3⟩ := gath_go o t g e
    exact ⟨as', h1, h2, fun Φ' s' => .cons (Dp.sub s' r) (h3 Φ' s')⟩
  | .h i :: ws, v :: us, is, as, ws', is', .cons r t, g, e => by
    obtain ⟨a, ea, rfl⟩ := r
    simp only [gath] at e
    split at e
    · rename_i hc
      rw [Option.map_eq_some_iff] at e
      obtain ⟨p, e, h⟩ := e
      cases h
      obtain ⟨as', h1, h2, h3⟩ := gath_go o t g e
      refine ⟨as', h1, h2, fun Φ' s' => .cons ?_ (h3 Φ' s')⟩
      have hm : i ∈ is := by simpa using hc
      have hl : is.idxOf i < is.length := List.idxOf_lt_length_iff.mpr hm
      have hg : is[is.idxOf i]? = some i := by rw [List.getElem?_eq_getElem hl, List.getElem_idxOf]
      obtain ⟨a', h4, h5, _⟩ := paired_at g.at_ _ _ hg
      rw [ea] at h5
      cases h5
      exact ⟨a, pre_get h2 h4, rfl⟩
    · rename_i hc
      have hm : i ∉ is := by simpa using hc
      have key : ∀ cl, s[i]? = some cl → plainC cl = true → (gath ws s (is ++ [i])).map (fun p => (HB.W.h is.length :: p.1, p.2)) = some (ws', is') → ∃ as', Gath ρ s is' as' ∧ as <+: as' ∧ ∀ Φ', Sub Φ Φ' → RelWs Φ' as' ws' (V.ref a :: us) := fun cl q hp e5 => by
        clear e
        rw [Option.map_eq_some_iff] at e5
        obtain ⟨p, e5, h⟩ := e5
        cases h
        have g' : Gath ρ s (is ++ [i]) (as ++ [a]) := ⟨List.nodup_append.mpr ⟨g.nd, by simp, fun x hx y hy => by
          rw [List.mem_singleton] at hy; subst hy; exact fun q => hm (q ▸ hx)⟩, paired_snoc ⟨ea, cl, q, hp⟩ g.at_⟩
        obtain ⟨as', h1, h2, h3⟩ := gath_go o t g' e5
        refine ⟨as', h1, (List.prefix_append _ _).trans h2, fun Φ' s' => .cons ⟨a, pre_get h2 ?_, rfl⟩ (h3 Φ' s')⟩
        rw [paired_length g.at_, List.getElem?_append_right (Nat.le_refl _)]
        simp
      split at e
      · cases e
      · cases e
      · rename_i n1 n2
        cases q : s[i]? with
        | none => exact (n2 q).elim
        | some cl =>
          refine key cl q ?_ e
          cases cl with
          | lsw ws => exact (n1 ws q).elim
          | lst _ => rfl
          | frz _ => rfl
theorem cellsAt_length (s : Sto) : ∀ is : List Nat, (cellsAt s is).length = is.length
  | [] => rfl
  | i :: is => by simp [cellsAt, cellsAt_length s is]
theorem cellsAt_get (s : Sto) : ∀ (is : List Nat) (k i : Nat), is[k]? = some i → ∀ c, s[i]? = some c → (cellsAt s is)[k]? = some c
  | i :: is, 0, j, e, c, q => by simp at e; subst e; simp [cellsAt, q]
  | i :: is, k + 1, j, e, c, q => by simp at e; simpa [cellsAt] using cellsAt_get s is k j e c q
  | [], _, _, e, _, _ => by simp at e
/-- the lists that are not handed in are followed by the proof alone -/
def hide (Ψ Φ H : Hp) (ρ as : List Addr) : Hp := fun a => match Ψ a with
  | some u => some u
  | none => if a ∈ ρ ∧ a ∉ as ∧ Φ a = none then H a else none
theorem ok_hide {Ψ Φ : Hp} {ρ : List Addr} {s : Sto} {H : Hp} {is : List Nat} {as : List Addr} (o : Ok Ψ Φ ρ s H) (g : Gath ρ s is as) : Ok (hide Ψ Φ H ρ as) Φ as (cellsAt s is) H := by
  have mem : ∀ a ∈ as, a ∈ ρ := fun a ha => by
    obtain ⟨k, hk, e⟩ := List.mem_iff_getElem.mp ha
    have l := paired_length g.at_
    obtain ⟨a', h1, h2, _⟩ := paired_at g.at_ k (is[k]'(by omega)) (List.getElem?_eq_getElem _)
    rw [List.getElem?_eq_getElem hk, e] at h1
    cases h1
    exact List.mem_of_getElem? h2
  refine ⟨fun a u e => ?_, o.sub, ?_, by rw [cellsAt_length, paired_length g.at_], fun k a c e1 e2 => ?_⟩
  · unfold hide at e
    split at e
    · rename_i u' q
      cases e
      obtain ⟨h1, h2, h3⟩ := o.pin a _ q
      exact ⟨h1, h2, fun h => h3 (mem a h)⟩
    · split at e
      · rename_i h
        exact ⟨e, h.2.2, h.2.1⟩
      · cases e
  · rw [List.Nodup, List.pairwise_iff_getElem]
    intro i j hi hj hij e
    have l := paired_length g.at_
    obtain ⟨a1, h1, h2, _⟩ := paired_at g.at_ i (is[i]'(by omega)) (List.getElem?_eq_getElem _)
    obtain ⟨a2, h3, h4, _⟩ := paired_at g.at_ j (is[j]'(by omega)) (List.getElem?_eq_getElem _)
    rw [List.getElem?_eq_getElem hi] at h1
    rw [List.getElem?_eq_getElem hj] at h3
    cases h1; cases h3
    rw [e] at h2
    have q := nodup_at o.nd h2 h4
    have := (List.getElem_inj (h₀ := by omega) (h₁ := by omega) g.nd).mp q
    omega
  · have hk : k < is.length := by
      have := (List.getElem?_eq_some_iff.mp e1).1
      rw [paired_length g.at_]; exact this
    obtain ⟨a1, h1, h2, c', h3, h4⟩ := paired_at g.at_ k (is[k]'hk) (List.getElem?_eq_getElem _)
    rw [e1] at h1
    cases h1
    have := cellsAt_get s is k _ (List.getElem?_eq_getElem hk) c' h3
    rw [e2] at this
    cases this
    exact (o.cell _ a c h2 h3).plain h4
theorem scat_len : ∀ {is : List Nat} {s' s s2 : Sto}, scat is s' s = some s2 → s2.length = s.length
  | [], s', s, s2, e => by cases s' <;> (cases e; rfl)
  | i :: is, [], s, s2, e => by cases e
  | i :: is, c :: cs, s, s2, e => by
    simp only [scat] at e
    split at e
    · cases e
    · rw [scat_len e, List.length_set]
theorem scat_get : ∀ {is : List Nat} {s' s s2 : Sto}, is.Nodup → scat is s' s = some s2 → ∀ j, j < s.length → (j ∉ is ∧ s2[j]? = s[j]?) ∨ ∃ (k : Nat) (c : Cell), is[k]? = some j ∧ s'[k]? = some c ∧ s2[j]? = some c ∧ plainC c = true
  | [], s', s, s2, _, e, j, hj => by cases s' <;> (cases e; exact .inl ⟨by simp, rfl⟩)
  | i :: is, [], s, s2, _, e, j, hj => by cases e
  | i :: is, c :: cs, s, s2, nd, e, j, hj => by
    rw [List.nodup_cons] at nd
    simp only [scat] at e
    split at e
    · cases e
    · rename_i hn
      have pc : plainC c = true := by
        cases c with
        | lsw ws => exact (hn ws rfl).elim
        | lst _ => rfl
        | frz _ => rfl
      rcases scat_get nd.2 e j (by simpa using hj) with ⟨h1, h2⟩ | ⟨k, c', h1, h2, h3, h4⟩
      · by_cases q : i = j
        · subst q
          refine .inr ⟨0, c, rfl, rfl, ?_, pc⟩
          rw [h2, List.getElem?_set_self hj]
        · refine .inl ⟨by simp [h1]; omega, ?_⟩
          rw [h2, List.getElem?_set_ne q]
      · exact .inr ⟨k + 1, c', by simpa using h1, by simpa using h2, h3, h4⟩
theorem ok_back {Ψ Φ Φ' : Hp} {ρ ρ' : List Addr} {s s' s2 : Sto} {H H' : Hp} {is : List Nat} {as : List Addr} (o : Ok Ψ Φ ρ s H) (g : Gath ρ s is as) (sb : Sub Φ Φ') (p : as <+: ρ') (o' : Ok (hide Ψ Φ H ρ as) Φ' ρ' s' H') (e : scat is s' s = some s2) : Ok Ψ Φ' ρ s2 H' := by
  have as_of : ∀ {k : Nat} {j : Nat}, is[k]? = some j → ∃ a, as[k]? = some a ∧ ρ[j]? = some a := fun {k j} h => by
    obtain ⟨a, h1, h2, _⟩ := paired_at g.at_ k j h
    exact ⟨a, h1, h2⟩
  refine ⟨fun a u h => ?_, o'.sub, o.nd, by rw [scat_len e]; exact o.len, fun j a c e1 e2 => ?_⟩
  · have hq : hide Ψ Φ H ρ as a = some u := by unfold hide; rw [h]
    obtain ⟨h1, h2, h3⟩ := o'.pin a u hq
    exact ⟨h1, h2, (o.pin a u h).2.2⟩
  · have hj : j < s.length := by
      have := (List.getElem?_eq_some_iff.mp e1).1
      rw [← o.len]; exact this
    rcases scat_get g.nd e j hj with ⟨h1, h2⟩ | ⟨k, c', h1, h2, h3, h4⟩
    · rw [h2] at e2
      have hc := o.cell j a c e1 e2
      have hna : a ∉ as := fun ha => by
        obtain ⟨k, hk, q⟩ := List.mem_iff_getElem.mp ha
        have l := paired_length g.at_
        obtain ⟨a', h3, h4, _⟩ := paired_at g.at_ k (is[k]'(by omega)) (List.getElem?_eq_getElem _)
        rw [List.getElem?_eq_getElem hk, q] at h3
        cases h3
        have := nodup_at o.nd e1 h4
        exact h1 (by rw [this]; exact List.getElem_mem _)
      have hΨ : Ψ a = none := by
        cases q : Ψ a with
        | none => rfl
        | some u => exact ((o.pin a u q).2.2 (List.mem_of_getElem? e1)).elim
      have pin : Φ a = none → ∀ u, H a = some u → H' a = some u ∧ Φ' a = none := fun n u hu => by
        have hq : hide Ψ Φ H ρ as a = some u := by
          unfold hide; rw [hΨ]
          simp only
          rw [if_pos ⟨List.mem_of_getElem? e1, hna, n⟩, hu]
        obtain ⟨h1, h2, _⟩ := o'.pin a u hq
        exact ⟨h1, h2⟩
      cases c with
      | lst xs =>
        obtain ⟨n, vs, h3, h4⟩ := hc
        exact ⟨(pin n _ h3).2, vs, (pin n _ h3).1, DpAll.sub sb h4⟩
      | frz xs =>
        obtain ⟨vs, h3, h4⟩ := hc
        exact ⟨vs, sb _ _ h3, DpAll.sub sb h4⟩
      | lsw ws =>
        obtain ⟨n, vs, h3, h4⟩ := hc
        exact ⟨(pin n _ h3).2, vs, (pin n _ h3).1, RelWs.mono sb (List.prefix_refl _) h4⟩
    · rw [h3] at e2
      cases e2
      obtain ⟨a', h5, h6⟩ := as_of h1
      rw [e1] at h6
      cases h6
      exact (o'.cell k a _ (pre_get p h5) h2).plain h4
theorem call_in {f : Str} {ws : List HB.W} {vs : List V} {s : Sto} {Ψ Φ : Hp} {ρ : List Addr} {H : Hp} {Q : VK} {E : XK} (o : Ok Ψ Φ ρ s H) (r : RelWs Φ ρ ws vs)
    (g : Fin Ψ Φ ρ (callIn c f ws s) (fun w _ Φ' ρ' H' => ∀ v, RelW Φ' ρ' w v → Q v H') (EX X.mg E)) : spI X.mg c f vs H Q E := by
  unfold callIn at g
  split at g
  · rename_i ws' is e1
    obtain ⟨as, h1, h2, h3⟩ := gath_go o r Gath.nil e1
    have oh := ok_hide o h1
    refine ⟨_, Φ, as, cellsAt s is, ws', oh, h3 Φ (Sub.refl _), ?_⟩
    cases q : c f ws' (cellsAt s is) with
    | bad => rw [q] at g; exact g.elim
    | ex x s' =>
      rw [q] at g
      simp only at g
      split at g
      · rename_i s2 e2
        intro Φ' ρ' H' sb p o'
        exact g Φ' ρ H' sb (List.prefix_refl _) (ok_back o h1 sb p o' e2)
      · exact g.elim
    | ok w s' =>
      rw [q] at g
      simp only at g
      split at g
      · rename_i s2 e2
        intro Φ' ρ' H' sb p o' v rv
        have ob := ok_back o h1 sb p o' e2
        cases w with
        | d x => exact g Φ' ρ H' sb (List.prefix_refl _) ob v rv
        | h i =>
          simp only at g
          split at g
          · rename_i hi
            split at g
            · rename_i xs e3
              obtain ⟨a, ea, rfl⟩ := rv
              obtain ⟨hn, us, hu, hd⟩ := o'.cell i a _ ea e3
              have hal : ρ'.length = s'.length := o'.len
              -- the new list is none of the caller's
              have hna : a ∉ ρ := fun ha => by
                by_cases has : a ∈ as
                · obtain ⟨k, hk, e⟩ := List.mem_iff_getElem.mp has
                  have h5 : ρ'[k]? = some a := pre_get p (by rw [List.getElem?_eq_getElem hk, e])
                  have := nodup_at o'.nd h5 ea
                  have l := paired_length h1.at_
                  omega
                · have hΨ : Ψ a = none := by
                    cases q : Ψ a with
                    | none => rfl
                    | some u => exact ((o.pin a u q).2.2 ha).elim
                  have hΦ : Φ a = none := by
                    cases q : Φ a with
                    | none => rfl
                    | some u => have := sb _ _ q; rw [hn] at this; cases this
                  obtain ⟨j, hj, e⟩ := List.mem_iff_getElem.mp ha
                  obtain ⟨u, hu'⟩ := o.there (i := j) (a := a) (by rw [List.getElem?_eq_getElem hj, e])
                  have hq : hide Ψ Φ H ρ as a = some u := by
                    unfold hide; rw [hΨ]
                    simp only
                    rw [if_pos ⟨ha, has, hΦ⟩, hu']
                  exact (o'.pin a u hq).2.2 (List.mem_of_getElem? ea)
              have hΨn : ∀ b u, Ψ b = some u → b ≠ a := fun b u hb q => by
                subst q
                have hq : hide Ψ Φ H ρ as b = some u := by unfold hide; rw [hb]
                exact (o'.pin b u hq).2.2 (List.mem_of_getElem? ea)
              have ob2 : Ok Ψ Φ' (ρ ++ [a]) (s2 ++ [.lst xs]) H' := by
                refine ⟨fun b u hb => ?_, ob.sub, ?_, by simp [ob.len], fun j b c e4 e5 => ?_⟩
                · obtain ⟨k1, k2, k3⟩ := ob.pin b u hb
                  exact ⟨k1, k2, by simp [k3, hΨn b u hb]⟩
                · rw [List.nodup_append]
                  refine ⟨ob.nd, by simp, fun x hx y hy => ?_⟩
                  rw [List.mem_singleton] at hy
                  subst hy
                  exact fun q => hna (q ▸ hx)
                · by_cases hj : j < ρ.length
                  · rw [List.getElem?_append_left hj] at e4
                    rw [List.getElem?_append_left (by rw [← ob.len]; exact hj)] at e5
                    exact (ob.cell j b c e4 e5).grow (Sub.refl _) (fun h => h) (fun _ h => h) (List.prefix_append _ _)
                  · have hl := ob.len
                    rw [List.getElem?_append_right (by omega)] at e4 e5
                    have : j - ρ.length = 0 := by
                      rcases Nat.eq_zero_or_pos (j - ρ.length) with h | h
                      · exact h
                      · rw [List.getElem?_eq_none (by simp; omega)] at e4; cases e4
                    rw [← hl, this] at e5
                    rw [this] at e4
                    simp at e4 e5
                    subst e4 e5
                    exact ⟨hn, us, hu, hd⟩
              refine g Φ' (ρ ++ [a]) H' sb (List.prefix_append _ _) ob2 _ ⟨a, ?_, rfl⟩
              rw [← ob.len, List.getElem?_append_right (Nat.le_refl _)]
              simp
            · exact g.elim
          · exact g.elim
      · exact g.elim
  · exact g.elim
theorem call_go {f : Str} {σh : L2.St} {H : Hp} {Q : VK} (h : tE X c W (.call f es) σh H Q) : tEs X c W es σh H fun vs H1 => spI X.mg c f vs H1 Q fun cls d H' => W cls d σh H' := by
  obtain ⟨Ψ, Φ, ρ, σ, env, o, ev, g⟩ := h
  rw [evE] at g
  exact tEs_ok o ev (g.bind.imp fun ws s1 Φ1 ρ1 H1 _ _ _ f1 s1' p1 o1 vs r => call_in o1 r f1)
theorem pE_call {f : Str} {p : Pos} (F : Facts T X c W) (hf : T.knows f = true) (hg : Gl X f) (hdb : (f == ("__debug__" : Str)) = false) (hs : (a :: as).all noStar = true) (ha : PA X (a :: as) (tEs X c W es)) :
    PE X (.Call (.Name f p) (a :: as) [] pos) (tE X c W (.call f es)) := by
  obtain ⟨k, fa, fdd, ps, G, hr, hm, hk, hb⟩ := F.calls f hf
  simp only [List.all_cons, Bool.and_eq_true] at hs
  exact PE.imp (go_name (E := fun σ cls d H => W cls d σ H) G F.gd hr hg hm hk hb (fun σ => passAt F.tk σ) ha hdb (star_cons hs.1) (star_all hs.2)) fun σh H Q h => call_go h
theorem pE_call0 {f : Str} {p : Pos} (F : Facts T X c W) (hf : T.knows f = true) (hg : Gl X f) (hdb : (f == ("__debug__" : Str)) = false) :
    PE X (.Call (.Name f p) [] [] pos) (tE X c W (.call f [])) := by
  obtain ⟨k, fa, fdd, ps, G, hr, hm, hk, hb⟩ := F.calls f hf
  refine PE.imp (go_name0 (E := fun σ cls d H => W cls d σ H) G F.gd hr hg hm hk hb (fun σ => passAt F.tk σ) hdb) fun σh H Q h => ?_
  obtain ⟨Ψ, Φ, ρ, st, env, o, ev, g⟩ := call_go h
  exact g.ok o [] .nil
end
end HB
/-! Built-in functions, methods, dicts of texts. -/
namespace HB
open PySem PySem.W PySem.Spec PyProof.Rows L2
section
variable {K : PySem.W.Frag} {Φ H : Hp}
theorem ints_all : ∀ {vs : List V} {ds : List D} {ns : List Int}, DpAll K0 Φ vs ds → intsOf ds = some ns → vs = ns.map V.int
  | _, _, _, .nil, e => by cases e; rfl
  | _, _, _, .cons h t, e => by
    cases h with
    | int i =>
      simp only [intsOf] at e
      split at e
      · rename_i l e'; cases e; rw [ints_all t e']; rfl
      · cases e
    | _ => cases e
theorem strs_all : ∀ {vs : List V} {ds : List D} {ns : List Str}, DpAll K0 Φ vs ds → strsOf ds = some ns → vs = ns.map V.str
  | _, _, _, .nil, e => by cases e; rfl
  | _, _, _, .cons h t, e => by
    cases h with
    | str i =>
      simp only [strsOf] at e
      split at e
      · rename_i l e'; cases e; rw [strs_all t e']; rfl
      · cases e
    | _ => cases e
theorem bools_all : ∀ {ds : List D} {bs : List Bool}, boolsOf ds = some bs → ds = bs.map PyData.bool
  | [], _, e => by cases e; rfl
  | d :: ds, _, e => by
    cases d with
    | bool b =>
      simp only [boolsOf] at e
      split at e
      · rename_i l e'; cases e; rw [bools_all e']; rfl
      · cases e
    | _ => cases e
theorem plain_bools : ∀ bs : List Bool, PyData.plainAll (bs.map PyData.bool) = true
  | [] => rfl
  | b :: bs => by simp [PyData.plainAll, PyData.plain, plain_bools bs]
theorem alike_all {xs : List D} (h : alikeAllB xs = true) : AlikeAll xs := by
  unfold alikeAllB at h
  rw [List.all_eq_true] at h
  refine ⟨fun x hx y hy => ?_, fun x hx e => ?_⟩
  · have := h x hx
    simp only [Bool.and_eq_true] at this
    exact List.all_eq_true.mp this.2 y hy
  · have := h x hx
    subst e
    simp at this
end
section
variable {X : Cx} {c : Calls} {W : WX} {T : Tab} {ea eb ed : Ex} {es : List Ex} {a b d : Expr} {as : List Expr} {pos : Pos}
def rPr (p : Prim) : List V → Hp → VK → Prop := fun vs H Q => ∃ Φ ds r, Sub Φ H ∧ RpAll Φ H vs ds ∧ prim p ds = some r ∧ Out Φ H r Q
theorem vals_idx {vs : List V} {us : List Value} (r : Vals vs us) {i : Nat} {u : Value} (e : us[i]? = some u) : ∃ v, vs[i]? = some v ∧ RelV v u := by
  induction r generalizing i with
  | nil => simp at e
  | cons h t ih =>
    cases i with
    | zero => simp at e; subst e; exact ⟨_, rfl, h⟩
    | succ i => obtain ⟨v, h1, h2⟩ := ih (i := i) (by simpa using e); exact ⟨v, by simpa using h1, h2⟩
/-- the item that was found is data for ever -/
theorem item_dp {pins : List (Addr × Obj)} {s : Shared} {σ : L2.St} {H Φ : Hp} (I : Inv X pins σ H s) (hs : Sub Φ H) {vs : List V} {ds : List D} {us : List Value} (r : Vals vs us) (hd : DpAll K0 Φ vs ds) {i : Nat} {u : Value} (e : us[i]? = some u) {m : D} {bs : List Addr} {h' : Heap}
    (rm : Reads h' u m bs) (hm : m.plain = true) (k : ∀ b o, s.heap.get? b = some o → h'.get? b = some o) : ∃ v, RelV v u ∧ Dp K0 Φ v m := by
  obtain ⟨v, e1, r1⟩ := vals_idx r e
  obtain ⟨d, e2, d1⟩ := DpAll.getV hd e1
  obtain ⟨as, r2⟩ := reads_of I (Dp.sub hs d1) r1
  have := SeqAt.plain_unique d m u as bs (Dp.plain d1) (reads_keeps k r2) rm
  subst this
  exact ⟨v, r1, d1⟩
theorem minD_mem (x : D) (xs : List D) : minD x xs ∈ x :: xs := by
  unfold minD
  induction xs generalizing x with
  | nil => simp
  | cons y ys ih =>
    rw [List.foldl_cons]
    have := ih (if dataLt y x then y else x)
    rcases List.mem_cons.mp this with h | h
    · rw [h]; split <;> simp
    · simp [h]
theorem maxD_mem (x : D) (xs : List D) : maxD x xs ∈ x :: xs := by
  unfold maxD
  induction xs generalizing x with
  | nil => simp
  | cons y ys ih =>
    rw [List.foldl_cons]
    have := ih (if dataLt x y then y else x)
    rcases List.mem_cons.mp this with h | h
    · rw [h]; split <;> simp
    · simp [h]
theorem plain_mem : ∀ {xs : List D} {x : D}, PyData.plainAll xs = true → x ∈ xs → x.plain = true
  | y :: ys, x, h, hx => by
    simp only [PyData.plainAll, Bool.and_eq_true] at h
    rcases List.mem_cons.mp hx with e | e
    · rw [e]; exact h.1
    · exact plain_mem h.2 e
theorem readsAll_of {pins : List (Addr × Obj)} {s : Shared} {σ : L2.St} {H : Hp} (I : Inv X pins σ H s) {vs : List V} {ds : List D} {us : List Value} (h : DpAll X.K H vs ds) (r : Vals vs us) : ∃ as, ReadsAll s.heap us ds as := Dp.readsAll I ds vs us h r
theorem call_len_ : CallR X (.builtin "len") (rPr .len) := by
  intro pins s σ H vs us Q I rv ⟨Φ, ds, r, hs, hv, e, q⟩
  unfold prim at e
  cases hv with
  | nil => cases e
  | cons h1 h2 =>
    rename_i d ds' 
    cases h2 with
    | cons _ _ => cases d <;> cases e
    | nil =>
      cases d <;> try cases e
      · rename_i x
        cases h1
        simp only at e
        split at e
        · rename_i hl; cases e
          exact call_len_str pins s σ H _ us Q I rv ⟨_, rfl, Nat.le_of_lt (line_of hl), q.old (.int _)⟩
        · cases e
      · obtain ⟨a, ws, rfl, h3, h4⟩ := h1
        have q := q.old (.int _)
        rw [← HB.DpAll.length h4] at q
        exact call_len_seq pins s σ H _ us Q I rv ⟨a, ws, rfl, .inl (.inl h3), q⟩
      · cases h1 with
        | tup h3 h4 =>
          have q := q.old (.int _)
          rw [← HB.DpAll.length h4] at q
          exact call_len_seq pins s σ H _ us Q I rv ⟨_, _, rfl, .inr (SqT.sub hs h3), q⟩
theorem one_of {vs : List V} {d : D} {Φ H : Hp} (h : RpAll Φ H vs [d]) : ∃ v, vs = [v] ∧ Rp Φ H v d := by
  cases h with | cons h t => cases t; exact ⟨_, rfl, h⟩
theorem two_of {vs : List V} {d e : D} {Φ H : Hp} (h : RpAll Φ H vs [d, e]) : ∃ v w, vs = [v, w] ∧ Rp Φ H v d ∧ Rp Φ H w e := by
  cases h with | cons h t => obtain ⟨w, rfl, r⟩ := one_of t; exact ⟨_, w, rfl, h, r⟩
theorem call_max1 (hc : X.calm = true) (hu : X.A.units + 100 < cLine) : CallR X (.builtin "max") (rPr .max1) := by
  intro pins s σ H vs us Q I rv ⟨Φ, ds, r, hs, hv, e, q⟩
  unfold prim at e
  split at e <;> try cases e
  all_goals try (rename_i heq; cases heq)
  · rename_i x xs heq
    split at e
    · rename_i hal; cases e
      simp only [Bool.and_eq_true, depthOk, decide_eq_true_eq] at hal
      obtain ⟨v, rfl, a, ws, rfl, h3, h4⟩ := one_of hv
      obtain ⟨u, rfl, ru⟩ := vals1 rv
      cases ru
      obtain ⟨its, rr, pl, hz⟩ := I.list (.inl h3)
      obtain ⟨as, ra⟩ := readsAll_of I (DpAll.sub hs h4) rr
      refine max_list_data (I.ok.hd hc) pl.isList (by simpa using ra) (alike_all hal.1) (by omega) fun i u h' tk bs e1 e2 k => ?_
      obtain ⟨v, r1, d1⟩ := item_dp I hs rr h4 (i := i) (by simpa using e1) e2 (plain_mem (DpAll.plain h4) (maxD_mem _ _)) k
      exact ⟨v, H, I.kept k, r1, q.old d1⟩
    · cases e
  · rename_i x xs heq
    split at e
    · rename_i hal; cases e
      simp only [Bool.and_eq_true, depthOk, decide_eq_true_eq] at hal
      obtain ⟨v, rfl, hx⟩ := one_of hv
      cases hx with
      | tup h3 h4 =>
      obtain ⟨u, rfl, ru⟩ := vals1 rv
      cases ru
      obtain ⟨its, rr, pl, hz⟩ := I.tuple (SqT.sub hs h3)
      obtain ⟨as, ra⟩ := readsAll_of I (DpAll.sub hs h4) rr
      refine max_tuple_data (I.ok.hd hc) pl (by simpa using ra) (alike_all hal.1) (by omega) fun i u h' tk bs e1 e2 k => ?_
      obtain ⟨v, r1, d1⟩ := item_dp I hs rr h4 (i := i) (by simpa using e1) e2 (plain_mem (DpAll.plain h4) (maxD_mem _ _)) k
      exact ⟨v, H, I.kept k, r1, q.old d1⟩
    · cases e
theorem call_min1 (hc : X.calm = true) (hu : X.A.units + 100 < cLine) : CallR X (.builtin "min") (rPr .min1) := by
  intro pins s σ H vs us Q I rv ⟨Φ, ds, r, hs, hv, e, q⟩
  unfold prim at e
  split at e <;> try cases e
  all_goals try (rename_i heq; cases heq)
  · rename_i x xs heq
    split at e
    · rename_i hal; cases e
      simp only [Bool.and_eq_true, depthOk, decide_eq_true_eq] at hal
      obtain ⟨v, rfl, a, ws, rfl, h3, h4⟩ := one_of hv
      obtain ⟨u, rfl, ru⟩ := vals1 rv
      cases ru
      obtain ⟨its, rr, pl, hz⟩ := I.list (.inl h3)
      obtain ⟨as, ra⟩ := readsAll_of I (DpAll.sub hs h4) rr
      refine min_list_data (I.ok.hd hc) pl.isList (by simpa using ra) (alike_all hal.1) (by omega) fun i u h' tk bs e1 e2 k => ?_
      obtain ⟨v, r1, d1⟩ := item_dp I hs rr h4 (i := i) (by simpa using e1) e2 (plain_mem (DpAll.plain h4) (minD_mem _ _)) k
      exact ⟨v, H, I.kept k, r1, q.old d1⟩
    · cases e
  · rename_i x xs heq
    split at e
    · rename_i hal; cases e
      simp only [Bool.and_eq_true, depthOk, decide_eq_true_eq] at hal
      obtain ⟨v, rfl, hx⟩ := one_of hv
      cases hx with
      | tup h3 h4 =>
      obtain ⟨u, rfl, ru⟩ := vals1 rv
      cases ru
      obtain ⟨its, rr, pl, hz⟩ := I.tuple (SqT.sub hs h3)
      obtain ⟨as, ra⟩ := readsAll_of I (DpAll.sub hs h4) rr
      refine min_tuple_data (I.ok.hd hc) pl (by simpa using ra) (alike_all hal.1) (by omega) fun i u h' tk bs e1 e2 k => ?_
      obtain ⟨v, r1, d1⟩ := item_dp I hs rr h4 (i := i) (by simpa using e1) e2 (plain_mem (DpAll.plain h4) (minD_mem _ _)) k
      exact ⟨v, H, I.kept k, r1, q.old d1⟩
    · cases e
theorem call_max2_ (hc : X.calm = true) : CallR X (.builtin "max") (rPr .max2) := by
  intro pins s σ H vs us Q I rv ⟨Φ, ds, r, hs, hv, e, q⟩
  unfold prim at e
  split at e <;> try cases e
  all_goals try (rename_i heq; cases heq)
  obtain ⟨v, w, rfl, h1, h2⟩ := two_of hv
  cases h1; cases h2
  exact call_max2 hc pins s σ H _ us Q I rv ⟨_, _, rfl, q.old (.int _)⟩
theorem call_min2_ (hc : X.calm = true) : CallR X (.builtin "min") (rPr .min2) := by
  intro pins s σ H vs us Q I rv ⟨Φ, ds, r, hs, hv, e, q⟩
  unfold prim at e
  split at e <;> try cases e
  all_goals try (rename_i heq; cases heq)
  obtain ⟨v, w, rfl, h1, h2⟩ := two_of hv
  cases h1; cases h2
  exact call_min2 hc pins s σ H _ us Q I rv ⟨_, _, rfl, q.old (.int _)⟩
theorem call_abs_ : CallR X (.builtin "abs") (rPr .abs) := by
  intro pins s σ H vs us Q I rv ⟨Φ, ds, r, hs, hv, e, q⟩
  unfold prim at e
  split at e <;> try cases e
  all_goals try (rename_i heq; cases heq)
  obtain ⟨v, rfl, h1⟩ := one_of hv
  cases h1
  exact call_abs pins s σ H _ us Q I rv ⟨_, rfl, q.old (.int _)⟩
theorem call_int_ : CallR X (.type "int") (rPr .int) := by
  intro pins s σ H vs us Q I rv ⟨Φ, ds, r, hs, hv, e, q⟩
  unfold prim at e
  split at e <;> try cases e
  all_goals try (rename_i heq; cases heq)
  · obtain ⟨v, rfl, h1⟩ := one_of hv
    cases h1
    exact call_int1 pins s σ H _ us Q I rv (.inr ⟨_, rfl, q.old (.int _)⟩)
  · obtain ⟨v, rfl, h1⟩ := one_of hv
    cases h1
    exact call_int1 pins s σ H _ us Q I rv (.inl ⟨_, rfl, q.old (.int _)⟩)
theorem call_tuple_ : CallR X (.type "tuple") (rPr .tuple) := by
  intro pins s σ H vs us Q I rv ⟨Φ, ds, r, hs, hv, e, q⟩
  unfold prim at e
  split at e <;> try cases e
  all_goals try (rename_i heq; cases heq)
  · obtain ⟨v, rfl, a, ws, rfl, h3, h4⟩ := one_of hv
    exact call_tuple_of pins s σ H _ us Q I rv ⟨a, ws, rfl, .inl ⟨.inl h3, fun p hp => q.new hs h4 hp⟩⟩
  · obtain ⟨v, rfl, h1⟩ := one_of hv
    cases h1 with
    | tup h3 h4 => exact call_tuple_of pins s σ H _ us Q I rv ⟨_, _, rfl, .inr ⟨SqT.sub hs h3, q.old (.tup h3 h4)⟩⟩
theorem call_any_ (hc : X.calm = true) : CallR X (.builtin "any") (rPr .any) := by
  intro pins s σ H vs us Q I rv ⟨Φ, ds, r, hs, hv, e, q⟩
  unfold prim at e
  split at e <;> try cases e
  all_goals try (rename_i heq; cases heq)
  rename_i xs
  split at e
  · rename_i bs hb
    cases e
    obtain ⟨v, rfl, a, ws, rfl, h3, h4⟩ := one_of hv
    obtain ⟨u, rfl, ru⟩ := vals1 rv
    cases ru
    obtain ⟨its, rr, pl, hz⟩ := I.list (.inl h3)
    obtain ⟨as, ra⟩ := readsAll_of I (DpAll.sub hs h4) rr
    refine any_list_data (I.ok.hd hc) pl.isList (by simpa using ra) (DpAll.plain h4) (fun x hx => ?_) fun h' tk k => ?_
    · rw [bools_all hb] at hx
      obtain ⟨b, _, rfl⟩ := List.mem_map.mp hx
      trivial
    · refine ⟨.bl _, H, I.kept k, rfl, ?_⟩
      have e : xs.any PyData.truthy = bs.any id := by rw [bools_all hb, List.any_map]; rfl
      rw [e]
      exact q.old (.bl _)
  · cases e
theorem call_all_ (hc : X.calm = true) : CallR X (.builtin "all") (rPr .all) := by
  intro pins s σ H vs us Q I rv ⟨Φ, ds, r, hs, hv, e, q⟩
  unfold prim at e
  split at e <;> try cases e
  all_goals try (rename_i heq; cases heq)
  rename_i xs
  split at e
  · rename_i bs hb
    cases e
    obtain ⟨v, rfl, a, ws, rfl, h3, h4⟩ := one_of hv
    obtain ⟨u, rfl, ru⟩ := vals1 rv
    cases ru
    obtain ⟨its, rr, pl, hz⟩ := I.list (.inl h3)
    obtain ⟨as, ra⟩ := readsAll_of I (DpAll.sub hs h4) rr
    refine all_list_data (I.ok.hd hc) pl.isList (by simpa using ra) (DpAll.plain h4) (fun x hx => ?_) fun h' tk k => ?_
    · rw [bools_all hb] at hx
      obtain ⟨b, _, rfl⟩ := List.mem_map.mp hx
      trivial
    · refine ⟨.bl _, H, I.kept k, rfl, ?_⟩
      have e : xs.all PyData.truthy = bs.all id := by rw [bools_all hb, List.all_map]; rfl
      rw [e]
      exact q.old (.bl _)
  · cases e

theorem call_sum_ (hc : X.calm = true) : CallR X (.builtin "sum") (rPr .sum) := by
  intro pins s σ H vs us Q I rv ⟨Φ, ds, r, hs, hv, e, q⟩
  unfold prim at e
  split at e <;> try cases e
  all_goals try (rename_i heq; cases heq)
  split at e
  · rename_i ns hb
    cases e
    obtain ⟨v, rfl, a, ws, rfl, h3, h4⟩ := one_of hv
    rw [ints_all h4 hb] at h3
    exact cr_sum hc pins s σ H _ us Q I rv ⟨a, ns, rfl, .inl h3, q.old (.int _)⟩
  · cases e
/-! ### a built-in by its name -/
theorem prim_go {p : Prim} {σh : L2.St} {H : Hp} {Q : VK} (h : tE X c W (.prim p es) σh H Q) : tEs X c W es σh H fun vs H1 => rPr p vs H1 Q := by
  obtain ⟨Ψ, Φ, ρ, σ, env, o, ev, g⟩ := h
  rw [evE] at g
  refine tEs_ok o ev (g.bind.imp fun ws s1 Φ1 ρ1 H1 _ _ _ f1 s1' p1 o1 vs r => ?_)
  obtain ⟨ds, e1, f1⟩ := f1.rds
  obtain ⟨r', e2, f1⟩ := f1.map1
  exact ⟨Φ1, ds, r', o1.sub, peeks_rp o1 r e1, e2, Out.of o1 f1⟩
theorem pE_primB {p : Prim} {x : Str} {id : String} {np : Pos} (hc : CallR X (.builtin id) (rPr p)) (hg : Gl X x) (hm : X.mg x = none) (hv : bootBuiltins x = some (.builtin id)) (hn : x ≠ "__name__") (hdb : (x == ("__debug__" : Str)) = false)
    (hs : (a :: as).all noStar = true) (ha : PA X (a :: as) (tEs X c W es)) : PE X (.Call (.Name x np) (a :: as) [] pos) (tE X c W (.prim p es)) := by
  simp only [List.all_cons, Bool.and_eq_true] at hs
  exact PE.imp (pe_callB hc hg hm hv ha hn hdb (star_cons hs.1) (star_all hs.2)) fun σh H Q h => prim_go h
theorem pE_primT {p : Prim} {x : Str} {id : String} {np : Pos} (hc : CallR X (.type id) (rPr p)) (hg : Gl X x) (hm : X.mg x = none) (hv : bootBuiltins x = some (.type id)) (hn : x ≠ "__name__") (hdb : (x == ("__debug__" : Str)) = false)
    (hs : (a :: as).all noStar = true) (ha : PA X (a :: as) (tEs X c W es)) : PE X (.Call (.Name x np) (a :: as) [] pos) (tE X c W (.prim p es)) := by
  simp only [List.all_cons, Bool.and_eq_true] at hs
  exact PE.imp (pe_callTy hc hg hm hv ha hn hdb (star_cons hs.1) (star_all hs.2)) fun σh H Q h => prim_go h
/-! ### isinstance -/
/-- the built-in types that are asked for -/
def tyNames : List String := ["int", "str", "bool", "list", "tuple"]
theorem tyX_of {v : V} {d : D} {Φ H : Hp} (hs : Sub Φ H) (h : Rp Φ H v d) : ∃ t, TyX X.K H v (.type t) ∧ ∀ n ∈ tyNames, L2.kitB t n = some (isTy d n) := by
  have lst : ∀ {a : Addr} {xs : List V}, SqL X.K H a xs → TyX X.K H (.ref a) (.type "list") := fun h => by
    rcases h with (h | ⟨o, h⟩) | ⟨o, _, _, h, h2, _⟩
    · exact .base (.lst h)
    · exact .base (.frz h)
    · exact .kList h h2
  have tup : ∀ {a : Addr} {xs : List V}, SqT X.K H a xs → TyX X.K H (.ref a) (.type "tuple") := fun h => by
    rcases h with (h | ⟨o, h⟩) | ⟨o, _, _, h, h2, _⟩
    · exact .base (.tup h)
    · exact .fTuple h
    · exact .kTuple h h2
  cases d with
  | none => cases h; exact ⟨_, .base .non, by decide +kernel⟩
  | bool b => cases h; exact ⟨_, .base (.bl _), by simp only [isTy]; decide +kernel⟩
  | int b => cases h; exact ⟨_, .base (.int _), by simp only [isTy]; decide +kernel⟩
  | str b => cases h; exact ⟨_, .base (.str _), by simp only [isTy]; decide +kernel⟩
  | list b => obtain ⟨a, vs, rfl, h1, h2⟩ := h; exact ⟨_, lst (xs := vs) (.inl h1), by simp only [isTy]; decide +kernel⟩
  | tuple b => cases h with | tup h1 h2 => exact ⟨_, tup (SqT.sub hs h1), by simp only [isTy]; decide +kernel⟩
  | dict b => cases h
theorem pE_isinst {t : String} {x tn : Str} {np tp : Pos} (ht : t ∈ tyNames) (hx : x = "isinstance") (hg : Gl X x) (hm : X.mg x = none) (htn : bootBuiltins tn = some (.type t)) (hgt : Gl X tn) (hmt : X.mg tn = none) (hn : tn ≠ "__name__") (hdb : (tn == ("__debug__" : Str)) = false)
    (hs : noStar a = true) (ha : PE X a (tE X c W ea)) : PE X (.Call (.Name x np) [a, .Name tn tp] [] pos) (tE X c W (.prim (.isinst [t]) [ea])) := by
  subst hx
  have pt : PE X (.Name tn tp) (tC (.ty t)) := pe_bltn hgt hmt htn rfl hn hdb
  refine PE.imp (pe_callB call_isi hg hm (by decide +kernel) (pa_cons ha (pa_cons pt pa_nil rfl) (star_cons hs)) (by decide) (by decide) (star_cons hs) rfl) fun σh H Q h => ?_
  obtain ⟨Ψ, Φ, ρ, σ, env, o, ev, g⟩ := h
  rw [evE, evs] at g
  rw [R.bind_assoc] at g
  refine tE_ok o ev (g.bind.imp fun w s1 Φ1 ρ1 H1 _ _ _ f1 s1' p1 o1 v r => ?_)
  rw [evs, R.bind_ok, R.bind_ok] at f1
  obtain ⟨ds, e1, f1⟩ := f1.rds
  obtain ⟨r', e2, f1⟩ := f1.map1
  obtain ⟨v', hv, rr⟩ : ∃ d, ds = [d] ∧ Rp Φ1 H1 v d := by
    have := peeks_rp o1 (Paired.cons r .nil) e1
    cases this with
    | cons h t => cases t; exact ⟨_, rfl, h⟩
  subst hv
  cases e2
  obtain ⟨t', ty, hk⟩ := tyX_of o1.sub rr
  refine ⟨v, .ty t, .type t', .type t, _, rfl, .ty t, ty, kit_ty (hk t ht), ?_⟩
  have q := f1.ok o1 _ (.bl _)
  simpa using q
/-! ### methods -/
theorem rds_any {α : Type} {Φ H : Hp} {ρ : List Addr} {s : Sto} {ws : List HB.W} {g : List D → R α} {P : α → Sto → Hp → List Addr → Hp → Prop} {E : Xn → Hp → Prop} (f : Fin Ψ Φ ρ (rds s ws g) P E) : ∃ ds, peeks s ws = some ds ∧ Fin Ψ Φ ρ (g ds) P E := f.rds
theorem tyV_of {v : V} {u : D} {ty : String} {Φ H : Hp} (hs : Sub Φ H) (h : Rp Φ H v u) (e : hasTy u ty = true) : tyV X.K ty v H := by
  cases u <;> try cases e
  · cases h
    have : ty = "str" := by simpa [hasTy] using e
    exact this
  · obtain ⟨a, vs, rfl, h1, h2⟩ := h
    have : ty = "list" := by simpa [hasTy] using e
    exact .inl ⟨this, vs, .inl h1⟩
theorem fin_ok' {α : Type} {Φ : Hp} {ρ : List Addr} {a : α} {s : Sto} {P : α → Sto → Hp → List Addr → Hp → Prop} {E : Xn → Hp → Prop} (h : ∀ Φ' ρ' H', Sub Φ Φ' → ρ <+: ρ' → Ok Ψ Φ' ρ' s H' → P a s Φ' ρ' H') : Fin Ψ Φ ρ (.ok a s) P E := h
/-- a method that changes its list -/
def rMw (m : Mth) : V → List V → Hp → VK → Prop := fun x vs H Q => ∃ Ψ Φ ρ s w ds, Ok Ψ Φ ρ s H ∧ RelW Φ ρ w x ∧ DpAll K0 Φ vs ds ∧
  ∃ E, Fin Ψ Φ ρ (mthW s m w ds) (fun d _ Φ' _ H' => ∀ v, Dp K0 Φ' v d → Q v H') E
theorem mw_go {m : Mth} {ty : String} {eo : Ex} {σh : L2.St} {H : Hp} {Q : VK} (hm : m.writes = true) (h : tE X c W (.mth m ty eo es) σh H Q) :
    tE X c W eo σh H fun x H1 => tyV X.K ty x H1 ∧ tDs X c W es σh H1 fun vs H2 => rMw m x vs H2 Q := by
  obtain ⟨Ψ, Φ, ρ, σ, env, o, ev, g⟩ := h
  rw [evE] at g
  refine tE_ok o ev (g.bind.imp fun w s1 Φ1 ρ1 H1 _ _ _ f1 s1' p1 o1 x r => ?_)
  obtain ⟨u, e1, f1⟩ := f1.rd1
  split at f1
  · rename_i ht
    try rw [if_pos hm] at f1
    refine ⟨tyV_of o1.sub (peek_rp o1 r e1) ht, ?_⟩
    refine tDs_ok o1 (ev.mono s1' p1) (f1.bind.imp fun ds s2 Φ2 ρ2 H2 _ _ _ f2 s2' p2 o2 vs r2 => ?_)
    exact ⟨Ψ, Φ2, ρ2, s2, w, ds, o2, r.mono s2' p2, r2, _, f2.bind.imp fun d s3 Φ3 ρ3 H3 s3' p3 o3 f3 v dv => f3.ok o3 v dv⟩
  · exact f1.elim
theorem put_go {Φ H : Hp} {ρ : List Addr} {s : Sto} {w : HB.W} {x : V} {g : List D → Option (List D × D)} {Q : VK} {E : Xn → Hp → Prop} (o : Ok Ψ Φ ρ s H) (r : RelW Φ ρ w x)
    (f : Fin Ψ Φ ρ (put s w g) (fun d _ Φ' _ H' => ∀ v, Dp K0 Φ' v d → Q v H') E) : ∃ (i : Nat) (a : Addr) (xs ys : List D) (d : D) (vs : List V), w = .h i ∧ x = .ref a ∧ H a = some (.lst vs) ∧ DpAll K0 Φ vs xs ∧ g xs = some (ys, d) ∧ ys.length ≤ maxLen ∧
      ∀ ws v, DpAll K0 Φ ws ys → Dp K0 Φ v d → Q v (upd H a (.lst ws)) := by
  unfold put at f
  split at f
  · rename_i i
    split at f
    · rename_i xs e1
      split at f
      · rename_i ys d e2
        split at f
        · rename_i hl
          obtain ⟨a, e3, rfl⟩ := r
          obtain ⟨h0, vs, h1, h2⟩ := o.cell i a _ e3 e1
          refine ⟨i, a, xs, ys, d, vs, rfl, rfl, h1, h2, e2, hl, fun ws v hw hv => ?_⟩
          exact f Φ ρ _ (Sub.refl _) (List.prefix_refl _) (o.write e3 e1 hw) v hv
        · exact f.elim
      · exact f.elim
    · exact f.elim
  · exact f.elim
theorem lst_obj {pins : List (Addr × Obj)} {s : Shared} {σ : L2.St} {H : Hp} (I : Inv X pins σ H s) {a : Addr} {xs : List V} (h : Rd H a (.lst xs)) : ∃ (its : List Value) (n : Nat), Vals xs its ∧ s.heap.get? a = some { cls := .type "list", data := .seq its.toArray n } := by
  obtain ⟨_, its, n, r, e⟩ := h.ok I.hok
  exact ⟨its, n, r, e⟩
theorem mw_append : MtR X "list.append" (rMw .append) := by
  intro pins s σ H x vs v us Q I rx rv ⟨Ψ, Φ, ρ, st, w, ds, o, r, hd, E, f⟩
  obtain ⟨i, a, xs, ys, d', ws, rfl, rfl, h1, h2, e, hl, k⟩ := put_go o r f
  cases hd with
  | nil => cases e
  | cons hd ht =>
    cases ht with
    | cons _ _ => cases e
    | nil =>
      cases e
      have l := HB.DpAll.length h2
      rw [List.length_append] at hl
      exact mt_append pins s σ H _ _ v us Q I rx rv ⟨a, ws, _, rfl, rfl, h1, by have := line_of hl; simp at this; omega, k _ _ (DpAll.append h2 (.cons hd .nil)) .non⟩
theorem mw_extend : MtR X "list.extend" (rMw .extend) := by
  intro pins s σ H x vs v us Q I rx rv ⟨Ψ, Φ, ρ, st, w, ds, o, r, hd, E, f⟩
  obtain ⟨i, a, xs, ys, d', ws, rfl, rfl, h1, h2, e, hl, k⟩ := put_go o r f
  cases hd with
  | nil => cases e
  | cons hd ht =>
    cases ht with
    | cons _ _ => simp [mthF] at e
    | nil =>
      rename_i d
      cases rx
      obtain ⟨u, rfl, ru⟩ := rv.one
      obtain ⟨z, its, n, rr, hl1, e1⟩ := I.lstM h1
      have l := HB.DpAll.length h2
      cases d <;> first | (simp [mthF] at e; done) | skip
      · cases e
        cases hd with
        | lst h3 h4 =>
        cases ru
        have l2 := HB.DpAll.length h4
        rw [List.length_append] at hl
        have hl := line_of hl
        obtain ⟨its2, n2, r2, e2⟩ := lst_obj I (Rd.sub o.sub (sqL0 h3))
        have l3 := r2.length
        have hsz : its.toArray.size + its2.toArray.size ≤ sizeLine := by rw [List.size_toArray, List.size_toArray]; omega
        have hlong : ¬ (!its.toArray.isEmpty && Builtin.List.listTooLong (its.toArray.size + its2.toArray.size)) = true := by
          rw [notLongL hsz, Bool.and_false]
          exact Bool.false_ne_true
        refine call_meets PySem.F.slot_list_extend ⟨_, e1, rfl⟩ PySem.F.entry_list_extend (PySem.F.args_list_extend_2 _ _)
          (AutoSeq1.list_extend_list_list_0 a its.toArray n _ its2.toArray n2 hlong (by rw [List.size_toArray]; omega) (by omega)) ⟨e1, e2, ?_⟩
        refine ⟨.non, _, I.lset (its' := its ++ its2) h1 e1 (by simp) (rr.append r2) ?_, rfl, k _ _ (DpAll.append h2 h4) .non⟩
        rw [List.length_append]
        omega
theorem mw_pop : MtR X "list.pop" (rMw .pop) := by
  intro pins s σ H x vs v us Q I rx rv ⟨Ψ, Φ, ρ, st, w, ds, o, r, hd, E, f⟩
  obtain ⟨i, a, xs, ys, d', ws, rfl, rfl, h1, h2, e, hl, k⟩ := put_go o r f
  cases hd with
  | cons _ _ => cases e
  | nil =>
    simp only [mthF] at e
    split at e
    · rename_i x' e'
      cases e
      have l := HB.DpAll.length h2
      rw [List.getLast?_eq_getElem?] at e'
      obtain ⟨y, h3, h4⟩ := DpAll.get h2 e'
      rw [← l] at h3
      refine mt_pop pins s σ H _ _ v us Q I rx rv ⟨a, ws, y, rfl, rfl, h1, h3, k _ _ ?_ h4⟩
      rw [List.dropLast_eq_take, List.dropLast_eq_take, l]
      exact DpAll.take _ h2
    · cases e
theorem mw_reverse : MtR X "list.reverse" (rMw .reverse) := by
  intro pins s σ H x vs v us Q I rx rv ⟨Ψ, Φ, ρ, st, w, ds, o, r, hd, E, f⟩
  obtain ⟨i, a, xs, ys, d', ws, rfl, rfl, h1, h2, e, hl, k⟩ := put_go o r f
  cases hd with
  | cons _ _ => cases e
  | nil =>
    cases e
    exact mt_reverse pins s σ H _ _ v us Q I rx rv ⟨a, ws, rfl, rfl, h1, k _ _ (DpAll.reverse h2) .non⟩
/-- methods that tell -/
def rMd (m : Mth) : V → List V → Hp → VK → Prop := fun x vs H Q => ∃ Φ u ds r, Sub Φ H ∧ Rp Φ H x u ∧ RpAll Φ H vs ds ∧ mthD m u ds = some r ∧ Out Φ H r Q
theorem md_go {m : Mth} {ty : String} {eo : Ex} {σh : L2.St} {H : Hp} {Q : VK} (hm : m.writes = false) (h : tE X c W (.mth m ty eo es) σh H Q) :
    tE X c W eo σh H fun x H1 => tyV X.K ty x H1 ∧ tEs X c W es σh H1 fun vs H2 => rMd m x vs H2 Q := by
  obtain ⟨Ψ, Φ, ρ, σ, env, o, ev, g⟩ := h
  rw [evE] at g
  refine tE_ok o ev (g.bind.imp fun w s1 Φ1 ρ1 H1 _ _ _ f1 s1' p1 o1 x r => ?_)
  obtain ⟨u, e1, f1⟩ := f1.rd1
  split at f1
  · rename_i ht
    rw [hm, if_neg Bool.false_ne_true] at f1
    refine ⟨tyV_of o1.sub (peek_rp o1 r e1) ht, ?_⟩
    refine tEs_ok o1 (ev.mono s1' p1) (f1.bind.imp fun ws s2 Φ2 ρ2 H2 _ _ _ f2 s2' p2 o2 vs r2 => ?_)
    obtain ⟨u', e3, f2⟩ := f2.rd1
    obtain ⟨ds, e4, f2⟩ := f2.rds
    obtain ⟨r', e5, f2⟩ := f2.map1
    exact ⟨Φ2, u', ds, r', o2.sub, peek_rp o2 (r.mono s2' p2) e3, peeks_rp o2 r2 e4, e5, Out.of o2 f2⟩
  · exact f1.elim
theorem md_join : MtR X "str.join" (rMd .join) := by
  intro pins s σ H x vs v us Q I rx rv ⟨Φ, u, ds, r, hs, hx, hv, e, q⟩
  cases hv with
  | nil => cases u <;> cases e
  | cons h1 h2 =>
    rename_i d ds
    cases h2 with
    | cons _ _ => cases u <;> simp [mthD] at e
    | nil =>
      cases u <;> try (simp [mthD] at e; done)
      rename_i z
      cases hx
      cases d <;> try (simp [mthD] at e; done)
      · simp only [mthD] at e
        split at e
        · rename_i ys hy
          split at e
          · rename_i hb
            cases e
            obtain ⟨a, ws, rfl, h3, h4⟩ := h1
            have hw := strs_all h4 hy
            subst hw
            refine mt_join pins s σ H _ _ v us Q I rx rv ⟨z, a, ys, rfl, rfl, .inl (.inl h3), ?_, q.old (.str _)⟩
            have e1 : ys.length * z.length ≤ 1000 * 1000 := Nat.mul_le_mul hb.1 hb.2.1
            have e2 : (ys.map fun x => x.length).sum ≤ 10000 := hb.2.2
            omega
          · cases e
        · cases e
      · simp only [mthD] at e
        split at e
        · rename_i ys hy
          split at e
          · rename_i hb
            cases e
            cases h1 with
            | tup h3 h4 =>
            have hw := strs_all h4 hy
            subst hw
            refine mt_join pins s σ H _ _ v us Q I rx rv ⟨z, _, ys, rfl, rfl, .inr (SqT.sub hs h3), ?_, q.old (.str _)⟩
            have e1 : ys.length * z.length ≤ 1000 * 1000 := Nat.mul_le_mul hb.1 hb.2.1
            have e2 : (ys.map fun x => x.length).sum ≤ 10000 := hb.2.2
            omega
          · cases e
        · cases e
/-- what an attribute's base is not -/
def noSuper : Expr → Bool
  | .Call (.Name _ _) [] [] _ => false
  | _ => true
theorem base_of {o : Expr} {m : Str} {env : PySem.Env} (h : noSuper o = true) : attributeBase o m env (eval o env) = eval o env := by
  unfold attributeBase
  split
  · cases h
  · rfl
theorem few_of {es : List Expr} {env : PySem.Env} {pos : Pos} (h : es.all noStar = true) (hl : es.length < 30) :
    ((backTo pos (starEach es env)).all (fun x => !x.1) && (backToKw pos (keywordEach [] env)).all (fun x => x.1.isSome) && decide (es.length + ([] : List Keyword).length + (if ([] : List Keyword).isEmpty then 0 else 1) < 30)) = true := by
  have e : (backTo pos (starEach es env)).all (fun x => !x.1) = true := by
    have := star_all (pos := pos) (env := env) h
    rw [List.any_eq_false] at this
    rw [List.all_eq_true]
    intro x hx
    have := this x hx
    simpa using this
  rw [e]
  simp [keywordEach, backToKw, hl]
/-- the built-in methods that are served: their type, their writing -/
theorem pE_mw {m : Mth} {T id : String} {o : Expr} {eo : Ex} {name : Str} {apos : Pos} (hm : m.writes = true) (pa : PlainAttrs T) (slot : Slot T name id) (hty : typeOf (.builtin id) = pure (.type "method_descriptor")) (hr : MtR X id (rMw m))
    (ho : PE X o (tE X c W eo)) (hs : (a :: as).all noStar = true) (hl : (a :: as).length < 30) (hb : noSuper o = true) (hline : (apos.endLine == pos.line) = true) (ha : PA X (a :: as) (tDs X c W es)) :
    PE X (.Call (.Attribute o name apos) (a :: as) [] pos) (tE X c W (.mth m T eo es)) := by
  have hs' := hs
  simp only [List.all_cons, Bool.and_eq_true] at hs'
  exact PE.imp (pe_bm pa slot hty hr ho ha (base_of hb) (few_of hs hl) hline (star_cons hs'.1) (star_all hs'.2)) fun σh H Q h => mw_go hm h
theorem pE_mw0 {m : Mth} {T id : String} {o : Expr} {eo : Ex} {name : Str} {apos : Pos} (hm : m.writes = true) (pa : PlainAttrs T) (slot : Slot T name id) (hty : typeOf (.builtin id) = pure (.type "method_descriptor")) (hr : MtR X id (rMw m))
    (ho : PE X o (tE X c W eo)) (hb : noSuper o = true) (hline : (apos.endLine == pos.line) = true) :
    PE X (.Call (.Attribute o name apos) [] [] pos) (tE X c W (.mth m T eo [])) := by
  refine PE.imp (pe_bm0 pa slot hty hr ho (base_of hb) hline) fun σh H Q h => ?_
  refine tE_imp (mw_go hm h) fun x H1 ⟨h1, Ψ, Φ, ρ, σ, env, o, ev, f⟩ => ⟨h1, f.ok o [] .nil⟩
theorem pE_md {m : Mth} {T id : String} {o : Expr} {eo : Ex} {name : Str} {apos : Pos} (hm : m.writes = false) (pa : PlainAttrs T) (slot : Slot T name id) (hty : typeOf (.builtin id) = pure (.type "method_descriptor")) (hr : MtR X id (rMd m))
    (ho : PE X o (tE X c W eo)) (hs : (a :: as).all noStar = true) (hl : (a :: as).length < 30) (hb : noSuper o = true) (hline : (apos.endLine == pos.line) = true) (ha : PA X (a :: as) (tEs X c W es)) :
    PE X (.Call (.Attribute o name apos) (a :: as) [] pos) (tE X c W (.mth m T eo es)) := by
  have hs' := hs
  simp only [List.all_cons, Bool.and_eq_true] at hs'
  exact PE.imp (pe_bm pa slot hty hr ho ha (base_of hb) (few_of hs hl) hline (star_cons hs'.1) (star_all hs'.2)) fun σh H Q h => md_go hm h
/-! ### lists of one's own lists -/
theorem hnd_list {Ψ Φ H : Hp} {ρ : List Addr} {s : Sto} (o : Ok Ψ Φ ρ s H) {i : Nat} {x : V} (r : RelW Φ ρ (.h i) x) : ∃ a vs, x = .ref a ∧ ρ[i]? = some a ∧ H a = some (.lst vs) := by
  obtain ⟨a, ea, rfl⟩ := r
  have hl : i < s.length := by
    have := (List.getElem?_eq_some_iff.mp ea).1
    rw [← o.len]; exact this
  have hc := o.cell i a _ ea (List.getElem?_eq_getElem hl)
  cases q : s[i] with
  | lst xs => rw [q] at hc; obtain ⟨_, vs, h, _⟩ := hc; exact ⟨a, vs, rfl, ea, h⟩
  | frz xs => rw [q] at hc; obtain ⟨vs, h, _⟩ := hc; exact ⟨a, vs, rfl, ea, o.sub _ _ h⟩
  | lsw ws => rw [q] at hc; obtain ⟨_, vs, h, _⟩ := hc; exact ⟨a, vs, rfl, ea, h⟩
theorem pE_newW (h : PA X as (tEs X c W es)) : PE X (.List as pos) (tE X c W (.newW es)) :=
  PE.imp (pe_lst h) fun σh H Q ⟨Ψ, Φ, ρ, σ, env, o, ev, f⟩ => by
    rw [evE] at f
    refine tEs_ok o ev (f.bind.imp fun ws s1 Φ1 ρ1 H1 _ _ _ f1 s1' p1 o1 vs r => ?_)
    split at f1
    · rename_i hl
      have l := paired_length r
      refine ⟨by have := line_of hl; omega, fun p hp => ?_⟩
      refine f1 Φ1 (ρ1 ++ [p]) _ (Sub.refl _) (List.prefix_append _ _) (o1.allocW hp r) _ ⟨p, ?_, rfl⟩
      rw [← o1.len, List.getElem?_append_right (Nat.le_refl _)]
      simp
    · exact f1.elim
theorem pE_appW {o : Expr} {eo : Ex} {apos : Pos} (ho : PE X o (tE X c W eo)) (hs : noStar a = true) (hb : noSuper o = true) (hline : (apos.endLine == pos.line) = true) (ha : PE X a (tE X c W ea)) :
    PE X (.Call (.Attribute o "append" apos) [a] [] pos) (tE X c W (.appW eo ea)) := by
  have hs' : [a].all noStar = true := by simp [hs]
  refine PE.imp (pe_bm PySem.F.plainAttrs_list PySem.F.slot_list_append PySem.F.type_list_append mt_append ho (pA_cons hs ha pA_nil) (base_of hb) (few_of hs' (by show 1 < 30; omega)) hline (star_cons hs) (star_all (es := []) rfl)) fun σh H Q ⟨Ψ, Φ, ρ, σ, env, o, ev, f⟩ => ?_
  rw [evE] at f
  refine tE_ok o ev (f.bind.imp fun x s1 Φ1 ρ1 H1 _ _ _ f1 s1' p1 o1 v r => ?_)
  cases x with
  | d _ => exact f1.elim
  | h i =>
    obtain ⟨a', vs, rfl, ea', h1⟩ := hnd_list o1 r
    refine ⟨.inl ⟨rfl, vs, SqL.of h1⟩, ?_⟩
    refine ⟨Ψ, Φ1, ρ1, s1, env, o1, ev.mono s1' p1, ?_⟩
    rw [evs]
    have f1 : Fin Ψ Φ1 ρ1 ((evE c ea env s1).bind fun y s => appR s (.h i) y) (fun w _ Φ' ρ' H' => ∀ v, RelW Φ' ρ' w v → Q v H') (EX X.mg fun cls d H' => W cls d σh H') := f1
    cases q : evE c ea env s1 with
    | bad => rw [q] at f1; exact f1.elim
    | ex x s => rw [q] at f1; exact f1
    | ok y s2 =>
      rw [q] at f1
      refine fin_ok' fun Φ2 ρ2 H2 s2' p2 o2 vs2 r2 => ?_
      obtain ⟨u, rfl, ru⟩ : ∃ u, vs2 = [u] ∧ RelW Φ2 ρ2 y u := by
        cases r2 with | cons h t => cases t; exact ⟨_, rfl, h⟩
      have f1 : Fin Ψ Φ1 ρ1 (appR s2 (.h i) y) _ _ := f1
      have ea2 := pre_get p2 ea'
      unfold appR at f1
      simp only at f1
      split at f1
      · rename_i ws e2
        split at f1
        · rename_i hl
          obtain ⟨_, us, h2, h3⟩ := o2.cell i a' _ ea2 e2
          have l := paired_length h3
          refine ⟨a', us, u, rfl, rfl, h2, by have := line_of hl; omega, ?_⟩
          exact f1 Φ2 ρ2 _ s2' p2 (o2.writeW ea2 e2 (paired_snoc ru h3)) _ .non
        · exact f1.elim
      · exact f1.elim
theorem paired_drop {α β : Type} {r : α → β → Prop} : ∀ {xs : List α} {ys : List β}, Paired r xs ys → Paired r xs.dropLast ys.dropLast
  | _, _, .nil => .nil
  | [_], [_], .cons h .nil => .nil
  | _ :: _ :: _, _ :: _ :: _, .cons h (.cons h2 t) => .cons h (paired_drop (.cons h2 t))
theorem pE_popW {o : Expr} {eo : Ex} {apos : Pos} (ho : PE X o (tE X c W eo)) (hb : noSuper o = true) (hline : (apos.endLine == pos.line) = true) :
    PE X (.Call (.Attribute o "pop" apos) [] [] pos) (tE X c W (.popW eo)) := by
  refine PE.imp (pe_bm0 PySem.F.plainAttrs_list PySem.F.slot_list_pop PySem.F.type_list_pop mt_pop ho (base_of hb) hline) fun σh H Q ⟨Ψ, Φ, ρ, σ, env, o, ev, f⟩ => ?_
  rw [evE] at f
  refine tE_ok o ev (f.bind.imp fun x s1 Φ1 ρ1 H1 _ _ _ f1 s1' p1 o1 v r => ?_)
  unfold popR at f1
  split at f1
  · rename_i i
    split at f1
    · rename_i ws e2
      split at f1
      · rename_i y e3
        obtain ⟨a', ea, rfl⟩ := r
        obtain ⟨_, us, h2, h3⟩ := o1.cell i a' _ ea e2
        have l := paired_length h3
        rw [List.getLast?_eq_getElem?] at e3
        obtain ⟨u, e4, ru⟩ := paired_at h3 _ _ e3
        rw [l] at e4
        refine ⟨.inl ⟨rfl, us, SqL.of h2⟩, a', us, u, rfl, rfl, h2, e4, ?_⟩
        exact f1 Φ1 ρ1 _ (Sub.refl _) (List.prefix_refl _) (o1.writeW ea e2 (paired_drop h3)) _ ru
      · exact f1.elim
    · exact f1.elim
  · exact f1.elim
/-! ### dicts of texts: of the module, written -/
theorem pE_gin {n : Bool} {x : Str} {kvs : List (Str × D)} {p : Pos} (F : Facts T X c W) (hk : (x, kvs) ∈ T.kds) (hg : Gl X x) (hd : (x == ("__debug__" : Str)) = false) (ha : PE X a (tE X c W ea)) :
    PE X (.Compare a [if n then .NotIn else .In] [.Name x p] pos) (tE X c W (.gin n x (kvs.map (·.1)) ea)) ∧ PT X (.Compare a [if n then .NotIn else .In] [.Name x p] pos) (tTe X c W (.gin n x (kvs.map (·.1)) ea)) := by
  obtain ⟨d, es', m, hm, KD, h0, h1⟩ := F.kds _ hk
  have pg : PE X (.Name x p) (tC (.ref d)) := pe_glob hg hm rfl hd
  have key : ∀ z : Str, ∃ r, nsIn X.K d z = some r ∧ r.isSome = (kvs.map (·.1)).contains z := fun z => by
    cases q : kvs.lookup z with
    | none =>
      refine ⟨none, h0 z q, ?_⟩
      show false = _
      rw [List.lookup_eq_none_iff] at q
      symm
      rw [← Bool.not_eq_true, List.contains_eq_mem]
      simp only [decide_eq_true_eq, List.mem_map, not_exists, not_and]
      intro y hy e
      have := q y hy
      simp [e] at this
    | some v =>
      obtain ⟨u, w, h2, _⟩ := h1 z v q
      refine ⟨some u, h2, ?_⟩
      show true = _
      symm
      rw [List.contains_eq_mem]
      simp only [decide_eq_true_eq, List.mem_map]
      obtain ⟨l1, l2, e, _⟩ := List.lookup_eq_some_iff.mp q
      exact ⟨(z, v), by rw [e]; simp, rfl⟩
  have go : ∀ {σh : L2.St} {H : Hp} {Q : VK}, tE X c W (.gin n x (kvs.map (·.1)) ea) σh H Q → tE X c W ea σh H fun v H1 => ∃ z, v = .str z ∧ Q (.bl (if n then !(kvs.map (·.1)).contains z else (kvs.map (·.1)).contains z)) H1 := fun h => by
    obtain ⟨Ψ, Φ, ρ, σ, env, o, ev, g⟩ := h
    rw [evE] at g
    refine tE_ok o ev (g.bind.imp fun w s1 Φ1 ρ1 H1 _ _ _ f1 s1' p1 o1 x r => ?_)
    obtain ⟨u, e1, f1⟩ := f1.rd1
    obtain ⟨r', e2, f1⟩ := f1.map1
    have hr := peek_rp o1 r e1
    cases u <;> try cases e2
    cases hr
    exact ⟨_, rfl, f1.ok o1 _ (.bl _)⟩
  cases n with
  | false =>
    refine ⟨PE.imp (pe_cmpR (op_in_kd KD) ha pg rfl) fun σh H Q h => tE_imp (go h) ?_, PT.imp (pt_cmpR (op_in_kd KD) ha pg rfl) fun σh H Q h => tE_imp (go (tTe_val h)) ?_⟩
    · rintro v H1 ⟨z, rfl, q⟩
      obtain ⟨r, e, k⟩ := key z
      exact ⟨z, r, rfl, rfl, e, by rw [k]; exact q⟩
    · rintro v H1 ⟨z, rfl, q⟩
      obtain ⟨r, e, k⟩ := key z
      exact ⟨z, r, rfl, rfl, e, by rw [k]; exact bl_of_tru (r := fun _ _ => True) q⟩
  | true =>
    refine ⟨PE.imp (pe_cmpR (op_notIn_kd KD) ha pg rfl) fun σh H Q h => tE_imp (go h) ?_, PT.imp (pt_cmpR (op_notIn_kd KD) ha pg rfl) fun σh H Q h => tE_imp (go (tTe_val h)) ?_⟩
    · rintro v H1 ⟨z, rfl, q⟩
      obtain ⟨r, e, k⟩ := key z
      exact ⟨z, r, rfl, rfl, e, by rw [k]; exact q⟩
    · rintro v H1 ⟨z, rfl, q⟩
      obtain ⟨r, e, k⟩ := key z
      exact ⟨z, r, rfl, rfl, e, by rw [k]; exact bl_of_tru (r := fun _ _ => True) q⟩
theorem pE_git {x : Str} {kvs : List (Str × D)} {p : Pos} (F : Facts T X c W) (hk : (x, kvs) ∈ T.kds) (hg : Gl X x) (hd : (x == ("__debug__" : Str)) = false) (hn : noSlice a = true) (ha : PE X a (tE X c W ea)) :
    PE X (.Subscript (.Name x p) a pos) (tE X c W (.git x kvs ea)) := by
  obtain ⟨d, es', m, hm, KD, h0, h1⟩ := F.kds _ hk
  have pg : PE X (.Name x p) (tC (.ref d)) := pe_glob hg hm rfl hd
  refine ⟨fun pins s σ H Q I h => ?_⟩
  have go : tC (.ref d) σ H fun x H0 => x = .ref d ∧ tE X c W ea σ H0 fun v H1 => ∃ z w, v = .str z ∧ (∃ u, nsIn X.K d z = some (some u) ∧ RelV w u) ∧ Q w H1 := by
    refine ⟨rfl, ?_⟩
    obtain ⟨Ψ, Φ, ρ, σ, env, o, ev, g⟩ := h
    rw [evE] at g
    refine tE_ok o ev (g.bind.imp fun w s1 Φ1 ρ1 H1 _ _ _ f1 s1' p1 o1 x r => ?_)
    obtain ⟨u, e1, f1⟩ := f1.rd1
    obtain ⟨r', e2, f2⟩ := f1.map1
    have hr := peek_rp o1 r e1
    cases u <;> try cases e2
    cases hr
    obtain ⟨u, w, h2, h3, h4⟩ := h1 _ _ e2
    exact ⟨_, w, rfl, ⟨u, h2, h3⟩, f2.ok o1 _ (h4 _)⟩
  refine subD_of PySem.F.slot_dict_getitem.lookup (plainIx_of hn) (thn (pg.run pins s σ H _ I go) fun u s1 ⟨x', H1, I1, rx, ex, q1⟩ => thn (ha.run pins s1 σ H1 _ I1 q1) fun iv s2 ⟨y, H2, I2, ry, z, w, ez, ⟨u0, e0, r0⟩, q2⟩ => ?_)
  subst ex ez
  cases rx
  exact ⟨kd_type KD I2, op_item_kd KD pins s2 σ H2 (.ref d) _ _ iv Q I2 rfl ry ⟨z, u0, w, rfl, rfl, e0, r0, q2⟩⟩
end
end HB
/-! What is walked, targets. -/
namespace HB
open PySem PySem.W PySem.Spec PyProof.Rows L2
/-- how a walk goes while the lists that it leans on stay -/
structure WalkD (J : L2.It) (Φ : Hp) (ρ : List Addr) (keep : List (Nat × List D)) (items : List D) : Prop where
  goes : ∀ (i : Nat) (d : D) Ψ Φ2 ρ2 s2 H2, items[i]? = some d → Sub Φ Φ2 → ρ <+: ρ2 → Ok Ψ Φ2 ρ2 s2 H2 → Src.ok s2 keep = true → J.go i H2 ∧ ∀ x H3, J.yld i H2 x H3 → ∃ Φ3, Sub Φ2 Φ3 ∧ Ok Ψ Φ3 ρ2 s2 H3 ∧ Dp K0 Φ3 x d
  stops : ∀ Ψ Φ2 ρ2 s2 H2, Sub Φ Φ2 → ρ <+: ρ2 → Ok Ψ Φ2 ρ2 s2 H2 → Src.ok s2 keep = true → J.stop items.length H2
section
variable {K : PySem.W.Frag} {Φ : Hp} {ρ : List Addr}
/-- a list's items, where they are told of every later heap -/
theorem walkD_seqL {a : Addr} {keep : List (Nat × List D)} {ds : List D} (h : ∀ Ψ Φ2 ρ2 s2 H2, Sub Φ Φ2 → ρ <+: ρ2 → Ok Ψ Φ2 ρ2 s2 H2 → Src.ok s2 keep = true → ∃ vs, SqL K H2 a vs ∧ DpAll K0 Φ2 vs ds) : WalkD (Itl K a) Φ ρ keep ds where
  goes := fun i d Ψ Φ2 ρ2 s2 H2 hi s p o k => by
    obtain ⟨vs, h1, h3⟩ := h Ψ Φ2 ρ2 s2 H2 s p o k
    obtain ⟨v, e, dv⟩ := DpAll.get h3 hi
    refine ⟨⟨vs, v, h1, e⟩, fun x H3 ⟨e1, e2⟩ => ⟨Φ2, Sub.refl _, ?_, ?_⟩⟩
    · subst e1; exact o
    · have := e2 vs h1; rw [e] at this; cases this; exact dv
  stops := fun Ψ Φ2 ρ2 s2 H2 s p o k => by
    obtain ⟨vs, h1, h3⟩ := h Ψ Φ2 ρ2 s2 H2 s p o k
    exact ⟨vs, h1, by rw [HB.DpAll.length h3]; exact Nat.le_refl _⟩
theorem walkD_tup {a : Addr} {vs : List V} {ds : List D} (h1 : SqT K0 Φ a vs) (h2 : DpAll K0 Φ vs ds) : WalkD (Itt K a) Φ ρ [] ds where
  goes := fun i d Ψ Φ2 ρ2 s2 H2 hi s p o k => by
    have q : SqT K H2 a vs := SqT.sub o.sub (.inl (Rd.sub s (sqT0 h1)))
    obtain ⟨v, e, dv⟩ := DpAll.get h2 hi
    refine ⟨⟨vs, v, q, e⟩, fun x H3 ⟨e1, e2⟩ => ⟨Φ2, Sub.refl _, ?_, ?_⟩⟩
    · subst e1; exact o
    · have := e2 vs q; rw [e] at this; cases this; exact Dp.sub s dv
  stops := fun Ψ Φ2 ρ2 s2 H2 s p o k => ⟨vs, SqT.sub o.sub (.inl (Rd.sub s (sqT0 h1))), by rw [HB.DpAll.length h2]; exact Nat.le_refl _⟩
theorem walkD_str {x : Str} : WalkD (Its x) Φ ρ [] (x.cps.toList.map fun c => .str ⟨#[c]⟩) where
  goes := fun i d Ψ Φ2 ρ2 s2 H2 hi s p o k => by
    rw [List.getElem?_map] at hi
    cases e : x.cps.toList[i]? with
    | none => rw [e] at hi; cases hi
    | some cp =>
      rw [e] at hi; cases hi
      have hl : i < x.cps.toList.length := by
        rcases Nat.lt_or_ge i x.cps.toList.length with h | h
        · exact h
        · rw [List.getElem?_eq_none h] at e; cases e
      refine ⟨(show i < x.cps.size by simpa using hl), fun v H3 ⟨e1, cp', e2, e3⟩ => ⟨Φ2, Sub.refl _, ?_, ?_⟩⟩
      · subst e1; exact o
      · rw [← Array.getElem?_toList, e] at e2
        cases e2
        subst e3
        exact .str _
  stops := fun Ψ Φ2 ρ2 s2 H2 s p o k => by
    show x.cps.size ≤ _
    rw [List.length_map, Array.length_toList]
    exact Nat.le_refl _
theorem rangeL_get {lo hi : Int} {i : Nat} {d : D} (h : (rangeL lo hi)[i]? = some d) : i < (hi - lo).toNat ∧ d = .int (lo + (i : Nat)) := by
  unfold rangeL at h
  rw [List.getElem?_map] at h
  by_cases hl : i < (hi - lo).toNat
  · rw [List.getElem?_range hl] at h
    cases h
    exact ⟨hl, rfl⟩
  · rw [List.getElem?_eq_none (by simp; omega)] at h
    cases h
theorem rangeL_length (lo hi : Int) : (rangeL lo hi).length = (hi - lo).toNat := by unfold rangeL; simp
theorem walkD_range {lo hi : Int} : WalkD (Itr lo (hi - lo).toNat) Φ ρ [] (rangeL lo hi) where
  goes := fun i d Ψ Φ2 ρ2 s2 H2 hi' s p o k => by
    obtain ⟨hl, rfl⟩ := rangeL_get hi'
    refine ⟨hl, fun v H3 ⟨e1, e2⟩ => ⟨Φ2, Sub.refl _, ?_, ?_⟩⟩
    · subst e1; exact o
    · subst e2; exact .int _
  stops := fun Ψ Φ2 ρ2 s2 H2 s p o k => by
    show (hi - lo).toNat ≤ (rangeL lo hi).length
    rw [rangeL_length]
    exact Nat.le_refl _
/-- what stands in a list of one's own that stayed -/
theorem walkD_own {i : Nat} {a : Addr} {xs : List D} (e : ρ[i]? = some a) : WalkD (Itl K a) Φ ρ [(i, xs)] xs := walkD_seqL fun Ψ Φ2 ρ2 s2 H2 s p o k => by
  have e2 := pre_get p e
  simp only [Src.ok, List.all_cons, List.all_nil, Bool.and_true] at k
  split at k
  · rename_i ys q
    have := beqDs_eq k
    subst this
    obtain ⟨_, vs, h1, h2⟩ := o.cell i a _ e2 q
    exact ⟨vs, SqL.of h1, h2⟩
  · rename_i ys q
    have := beqDs_eq k
    subst this
    obtain ⟨vs, h1, h2⟩ := o.cell i a _ e2 q
    exact ⟨vs, SqL.of (o.sub _ _ h1), h2⟩
  · cases k
end
mutual
/-- the slots that a target writes -/
def tgSl : Tg → List Nat
  | .name i => [i]
  | .tup ts => tgSls ts
  | .ix _ _ => []
  | .sl _ _ _ => []
def tgSls : List Tg → List Nat
  | [] => []
  | t :: ts => tgSl t ++ tgSls ts
end
/-- the slots stay but these -/
def Agree (l : List Nat) (σ' σ : L2.St) : Prop := ∀ i, i ∉ l → σ'[i]? = σ[i]?
section
variable (X : Cx) (c : Calls) (W : WX)
def tIt (it : It) : TI := fun σh H R => ∃ Ψ Φ ρ σ env, Ok Ψ Φ ρ σ H ∧ EnvOk Φ ρ env σh ∧
  Fin Ψ Φ ρ (evI c it env σ) (fun src _ Φ' ρ' H' => ∀ J, WalkD J Φ' ρ' src.keep src.items → R J H') (EX X.mg fun cls d H' => W cls d σh H')
def tG (t : Tg) : TG := fun v σh H Q => ∃ Ψ Φ ρ σ env w, Ok Ψ Φ ρ σ H ∧ EnvOk Φ ρ env σh ∧ RelW Φ ρ w v ∧
  Fin Ψ Φ ρ (noEx (asT c t w env σ)) (fun env' _ Φ' ρ' H' => ∀ σ', EnvOk Φ' ρ' env' σ' → Agree (tgSl t) σ' σh → Q σ' H') (EX X.mg fun cls d H' => W cls d σh H')
def tGs (ts : List Tg) : TGs := fun vs σh H Q => ∃ Ψ Φ ρ σ env ws, Ok Ψ Φ ρ σ H ∧ EnvOk Φ ρ env σh ∧ RelWs Φ ρ ws vs ∧
  Fin Ψ Φ ρ (noEx (asTs c ts ws env σ)) (fun env' _ Φ' ρ' H' => ∀ σ', EnvOk Φ' ρ' env' σ' → Agree (tgSls ts) σ' σh → Q σ' H') (EX X.mg fun cls d H' => W cls d σh H')
end
section
variable {X : Cx} {c : Calls} {W : WX} {T : Tab} {ea eb ed : Ex} {es : List Ex} {a b d tg : Expr} {as : List Expr} {pos : Pos}
theorem tIt_ok {it : It} {σh : L2.St} {H : Hp} {R : L2.It → Hp → Prop} {Φ : Hp} {ρ : List Addr} {σ : Sto} {env : Env} (o : Ok Ψ Φ ρ σ H) (v : EnvOk Φ ρ env σh)
    (f : Fin Ψ Φ ρ (evI c it env σ) (fun src s Φ' ρ' H' => Sub Φ Φ' → ρ <+: ρ' → Ok Ψ Φ' ρ' s H' → ∀ J, WalkD J Φ' ρ' src.keep src.items → R J H') (EX X.mg fun cls d H' => W cls d σh H')) : tIt X c W it σh H R :=
  ⟨Ψ, Φ, ρ, σ, env, o, v, f.imp fun _ _ _ _ _ s p o q => q s p o⟩
theorem PI.or {X : Cx} {tg x : Expr} {w1 w2 : TI} (h1 : PI X tg x w1) (h2 : PI X tg x w2) : PI X tg x fun σ H R => w1 σ H R ∨ w2 σ H R :=
  ⟨fun pins s σ H R I h => h.elim (fun h => h1.run pins s σ H R I h) fun h => h2.run pins s σ H R I h⟩
theorem PI.imp {X : Cx} {tg x : Expr} {w1 w2 : TI} (h1 : PI X tg x w1) (i : ∀ σ H R, w2 σ H R → w1 σ H R) : PI X tg x w2 :=
  ⟨fun pins s σ H R I h => h1.run pins s σ H R I (i σ H R h)⟩
theorem fin_of_ok {α : Type} {Φ : Hp} {ρ : List Addr} {a : α} {s : Sto} {P : α → Sto → Hp → List Addr → Hp → Prop} {E : Xn → Hp → Prop} (h : ∀ Φ' ρ' H', Sub Φ Φ' → ρ <+: ρ' → Ok Ψ Φ' ρ' s H' → P a s Φ' ρ' H') : Fin Ψ Φ ρ (.ok a s) P E := h
theorem pI_each (ha : PE X a (tE X c W ea)) : PI X tg a (tIt X c W (.each ea)) := by
  refine PI.imp (PI.or (pi_list ha) (PI.or (pi_tup ha) (pi_str ha))) fun σh H R ⟨Ψ, Φ, ρ, σ, env, o, ev, f⟩ => ?_
  rw [evI] at f
  cases q : evE c ea env σ with
  | bad => rw [q] at f; exact f.elim
  | ex x s => rw [q] at f; exact .inl ⟨Ψ, Φ, ρ, σ, env, o, ev, by rw [q]; exact f⟩
  | ok w s =>
    rw [q, HB.R.bind_ok] at f
    obtain ⟨src, e, f⟩ := f.of
    cases w with
    | h i =>
      simp only [srcS, srcOf] at e
      split at e
      · rename_i xs e1
        cases e
        refine .inl ⟨Ψ, Φ, ρ, σ, env, o, ev, ?_⟩
        rw [q]
        refine fin_of_ok fun Φ1 ρ1 H1 s1 p1 o1 v hv => ?_
        obtain ⟨a, ea, rfl⟩ := hv
        obtain ⟨_, vs, h1, h2⟩ := o1.cell i a _ ea e1
        exact ⟨a, rfl, ⟨vs, SqL.of h1⟩, f Φ1 ρ1 H1 s1 p1 o1 _ (walkD_own ea)⟩
      · rename_i xs e1
        cases e
        refine .inl ⟨Ψ, Φ, ρ, σ, env, o, ev, ?_⟩
        rw [q]
        refine fin_of_ok fun Φ1 ρ1 H1 s1 p1 o1 v hv => ?_
        obtain ⟨a, ea, rfl⟩ := hv
        obtain ⟨vs, h1, h2⟩ := o1.cell i a _ ea e1
        exact ⟨a, rfl, ⟨vs, SqL.of (o1.sub _ _ h1)⟩, f Φ1 ρ1 H1 s1 p1 o1 _ (walkD_seqL fun Ψ Φ2 ρ2 s2 H2 s3 p3 o3 k => ⟨vs, SqL.of (o3.sub _ _ (s3 _ _ h1)), DpAll.sub s3 h2⟩)⟩
      · cases e
    | d x =>
      cases x <;> simp only [srcS, srcOf] at e <;> try cases e
      · -- a text
        refine .inr (.inr ⟨Ψ, Φ, ρ, σ, env, o, ev, ?_⟩)
        rw [q]
        refine fin_of_ok fun Φ1 ρ1 H1 s1 p1 o1 v hv => ?_
        cases hv
        exact ⟨_, rfl, f Φ1 ρ1 H1 s1 p1 o1 _ walkD_str⟩
      · refine .inl ⟨Ψ, Φ, ρ, σ, env, o, ev, ?_⟩
        rw [q]
        refine fin_of_ok fun Φ1 ρ1 H1 s1 p1 o1 v hv => ?_
        cases hv with
        | lst h1 h2 =>
          exact ⟨_, rfl, ⟨_, SqL.sub o1.sub h1⟩, f Φ1 ρ1 H1 s1 p1 o1 _ (walkD_seqL fun Ψ Φ2 ρ2 s2 H2 s3 p3 o3 k => ⟨_, SqL.sub o3.sub (.inl (Rd.sub s3 (sqL0 h1))), DpAll.sub s3 h2⟩)⟩
      · refine .inr (.inl ⟨Ψ, Φ, ρ, σ, env, o, ev, ?_⟩)
        rw [q]
        refine fin_of_ok fun Φ1 ρ1 H1 s1 p1 o1 v hv => ?_
        cases hv with
        | tup h1 h2 => exact ⟨_, rfl, ⟨_, SqT.sub o1.sub h1⟩, f Φ1 ρ1 H1 s1 p1 o1 _ (walkD_tup h1 h2)⟩
theorem pI_range1 {x : Str} {p : Pos} (hx : x = "range") (hg : Gl X x) (hm : X.mg x = none) (hs : noStar a = true) (ha : PE X a (tE X c W ea)) : PI X tg (.Call (.Name x p) [a] [] pos) (tIt X c W (.range1 ea)) := by
  subst hx
  refine PI.imp (L2.pi_range1 hg hm (pa_cons ha pa_nil (star_cons hs)) (star_cons hs)) fun σh H R ⟨Ψ, Φ, ρ, σ, env, o, ev, f⟩ => ?_
  rw [evI] at f
  refine tE_ok o ev (f.bind.imp fun ws s1 Φ1 ρ1 H1 _ _ _ f1 s1' p1 o1 v r => ?_)
  obtain ⟨u, e1, f1⟩ := f1.rd1
  obtain ⟨src, e2, f2⟩ := f1.of
  have hr := peek_rp o1 r e1
  cases u <;> try cases e2
  cases hr
  simp only [range1] at e2
  split at e2
  · rename_i n hb
    cases e2
    refine ⟨_, rfl, by omega, by omega, ?_⟩
    have := f2.ok o1 (Itr 0 (n - 0).toNat) walkD_range
    rw [show n - 0 = n by omega] at this
    exact this
  · cases e2
theorem pI_range2 {x : Str} {p : Pos} (hx : x = "range") (hg : Gl X x) (hm : X.mg x = none) (hs : noStar a = true) (hs2 : noStar b = true) (ha : PE X a (tE X c W ea)) (hb : PE X b (tE X c W eb)) : PI X tg (.Call (.Name x p) [a, b] [] pos) (tIt X c W (.range2 ea eb)) := by
  subst hx
  refine PI.imp (L2.pi_range2 hg hm (pa_cons ha (pa_cons hb pa_nil (star_cons hs2)) (star_cons hs)) (by rw [star_cons hs, star_cons hs2]; rfl) (star_cons hs2)) fun σh H R ⟨Ψ, Φ, ρ, σ, env, o, ev, f⟩ => ?_
  rw [evI] at f
  refine tE_ok o ev (f.bind.imp fun w1 s1 Φ1 ρ1 H1 _ _ _ f1 s1' p1 o1 v1 r1 => ?_)
  refine tE_ok o1 (ev.mono s1' p1) (f1.bind.imp fun w2 s2 Φ2 ρ2 H2 _ _ _ f2 s2' p2 o2 v2 r2 => ?_)
  obtain ⟨u, v, e1, e2, f3⟩ := f2.rd2
  obtain ⟨src, e3, f4⟩ := f3.of
  have hr := peek_rp o2 (r1.mono s2' p2) e1
  have hr2 := peek_rp o2 r2 e2
  cases u <;> try cases e3
  cases v <;> try cases e3
  cases hr; cases hr2
  simp only [range2] at e3
  split at e3
  · rename_i n m hb
    cases e3
    exact ⟨_, _, rfl, ⟨by omega, by omega, by omega, by omega⟩, f4.ok o2 _ walkD_range⟩
  · cases e3
/-! ### targets -/
theorem pG_name {i : Nat} {x : Str} (hN : X.N.Nodup) (hi : X.N[i]? = some x) (hx : Loc X.env.scope x) (hf : X.fn x = true ∨ X.env.scope.names.lookup x = some .local) : PG X (.Name x pos) (tG X c W (.name i)) :=
  ⟨fun pins s σ H v u Q I r ⟨Ψ, Φ, ρ, st, env, w, o, ev, rw_, f⟩ => (pg_name hN hi hx hf).run pins s σ H v u Q I r (by
    simp only [asT] at f
    split at f
    · exact Fin.ok (s := st) f o _ (ev.set i rw_) fun j hj => by
        rw [List.getElem?_set]
        have : i ≠ j := fun q => hj (by subst q; simp [tgSl])
        rw [if_neg this]
    · exact f.elim)⟩
theorem noEx_bind {α β : Type} (r : R α) (f : α → Sto → R β) : noEx (r.bind f) = (noEx r).bind fun a s => noEx (f a s) := by cases r <;> rfl
theorem pGs_nil : PGs X [] (tGs X c W []) :=
  ⟨fun pins s σ H vs us Q I r ⟨Ψ, Φ, ρ, st, env, ws, o, ev, rw_, f⟩ => pgs_nil.run pins s σ H vs us Q I r (by
    cases ws with
    | nil => cases rw_; exact ⟨rfl, Fin.ok (s := st) (show Fin _ _ _ (.ok env st) _ _ from f) o _ ev fun _ _ => rfl⟩
    | cons _ _ => exact f.elim)⟩
def noStarT : Expr → Bool := noStar
theorem each_cons {e : Expr} {es : List Expr} {env : PySem.Env} (h : noStar e = true) : assignEach (e :: es) env = (false, assign e env) :: assignEach es env := by
  cases e <;> first | rfl | cases h
theorem each_len {env : PySem.Env} : ∀ {es : List Expr}, es.all noStar = true → (assignEach es env).length = es.length ∧ (assignEach es env).findIdx? (·.1) = none
  | [], _ => ⟨rfl, rfl⟩
  | e :: es, h => by
    simp only [List.all_cons, Bool.and_eq_true] at h
    obtain ⟨h1, h2⟩ := each_len (env := env) h.2
    rw [each_cons h.1]
    refine ⟨by simp [h1], ?_⟩
    rw [List.findIdx?_cons]
    simp [h2]
theorem pGs_cons {t : Tg} {ts : List Tg} (hs : noStar a = true) (h1 : PG X a (tG X c W t)) (h2 : PGs X as (tGs X c W ts)) : PGs X (a :: as) (tGs X c W (t :: ts)) :=
  ⟨fun pins s σ H vs us Q I r ⟨Ψ, Φ, ρ, st, env, ws, o, ev, rr, f⟩ => (pgs_cons h1 h2 (by rw [each_cons hs]; rfl)).run pins s σ H vs us Q I r (by
    cases ws with
    | nil => exact f.elim
    | cons w ws =>
      cases rr with
      | cons r1 r2 =>
        rw [asTs, noEx_bind] at f
        refine ⟨_, _, rfl, Ψ, Φ, ρ, st, env, w, o, ev, r1, f.bind.imp fun e' s1 Φ1 ρ1 H1 s1' p1 o1 f1 σ' ev' ag => ?_⟩
        refine ⟨Ψ, Φ1, ρ1, s1, e', ws, o1, ev', RelWs.mono s1' p1 r2, ?_⟩
        cases q : asTs c ts ws e' s1 with
        | bad => rw [q] at f1; exact f1.elim
        | ex x s => rw [q] at f1; exact f1.elim
        | ok a s =>
          rw [q] at f1
          refine fin_of_ok fun Φ2 ρ2 H2 s2' p2 o2 σ2 ev2 ag2 => f1 Φ2 ρ2 H2 s2' p2 o2 σ2 ev2 fun j hj => ?_
          rw [tgSls, List.mem_append, not_or] at hj
          rw [ag2 j hj.2, ag j hj.1])⟩
theorem rel_ds {Φ : Hp} {ρ : List Addr} : ∀ {vs : List V} {ds : List D}, DpAll K0 Φ vs ds → RelWs Φ ρ (ds.map HB.W.d) vs
  | _, _, .nil => .nil
  | _, _, .cons h t => .cons h (rel_ds t)
theorem pG_tup {ts : List Tg} {k : Nat} (hc : X.calm = true) (hs : as.all noStar = true) (hl : as.length = ts.length) (h : PGs X as (tGs X c W ts)) : PG X (.Tuple as k pos) (tG X c W (.tup ts)) :=
  ⟨fun pins s σ H v u Q I r ⟨Ψ, Φ, ρ, st, env, w, o, ev, rr, f⟩ => (pg_tup hc h (each_len hs).1 (each_len hs).2).run pins s σ H v u Q I r (by
    simp only [asT] at f
    split at f
    · rename_i ds
      split at f
      · rename_i hl2
        cases rr with
        | tup h1 h2 =>
          exact ⟨_, _, rfl, SqT.sub o.sub h1, by rw [HB.DpAll.length h2, hl2, hl], Ψ, Φ, ρ, st, env, ds.map HB.W.d, o, ev, rel_ds h2, f⟩
      · exact f.elim
    · exact f.elim)⟩
/-- o[i] = x, x as it is for ever -/
def rSetD : TSet := fun o i v H Q => ∃ Ψ Φ ρ s wo wi x, Ok Ψ Φ ρ s H ∧ RelW Φ ρ wo o ∧ RelW Φ ρ wi i ∧ Dp K0 Φ v x ∧ ∃ E, Fin Ψ Φ ρ (setIx s wo wi x) (fun _ _ _ _ H' => Q H') E
theorem set_data : PSet X rSetD := by
  intro pins s σ H o i v ov iv u Q I ro ri rv ⟨Ψ, Φ, ρ, st, wo, wi, x, ok, hwo, hwi, hx, E, f⟩
  unfold setIx at f
  split at f
  · rename_i k e
    have f := f.bind
    have f' : Fin Ψ Φ ρ (put st wo fun xs => (L2.ixN xs.length k).map fun j => (xs.set j x, PyData.none)) (fun d _ Φ' _ H' => ∀ v, Dp K0 Φ' v d → (fun (_ : V) H' => Q H') v H') E := f.imp fun d s1 Φ1 ρ1 H1 s1' p1 o1 f1 v _ => Fin.ok (s := s1) f1 o1
    obtain ⟨j, a, xs, ys, d, vs, rfl, rfl, h1, h2, e2, hl, q⟩ := put_go (Q := fun _ H' => Q H') ok hwo f'
    have hr := peek_rp ok hwi e
    cases hr
    cases e3 : L2.ixN xs.length k with
    | none => rw [e3] at e2; cases e2
    | some j =>
      rw [e3] at e2; cases e2
      rw [← HB.DpAll.length h2] at e3
      exact set_list pins s σ H _ _ v ov iv u Q I ro ri rv ⟨a, vs, k, j, rfl, rfl, h1, e3, q _ .non (DpAll.set hx j h2) .non⟩
  · exact f.elim
theorem asgIx_of {o i : Expr} {env : PySem.Env} (h : noSlice i = true) : ∀ v, assign (.Subscript o i pos) env v = (do let ov ← holding [v] (eval o env); let iv ← holding [v, ov] (eval i env); standAt pos; holding [v, ov, iv] (setItem ov iv v); release [v, ov, iv] []) := fun v => by
  cases i <;> first | rfl | cases h
theorem pG_ix {o i : Expr} {eo ei : Ex} (hn : noSlice i = true) (ho : PE X o (tE X c (fun _ _ _ _ => False) eo)) (hi : PE X i (tE X c (fun _ _ _ _ => False) ei)) : PG X (.Subscript o i pos) (tG X c W (.ix eo ei)) :=
  ⟨fun pins s σ H v u Q I r ⟨Ψ, Φ, ρ, st, env, w, ok, ev, rr, f⟩ => (pg_sub ho hi set_data (asgIx_of hn)).run pins s σ H v u Q I r (by
    have f : Fin Ψ Φ ρ (asT c (.ix eo ei) w env st) (fun env' _ Φ' ρ' H' => ∀ σ', EnvOk Φ' ρ' env' σ' → Agree [] σ' σ → Q σ' H') (EX X.mg fun _ _ _ => False) := by
      cases q : asT c (.ix eo ei) w env st with
      | bad => rw [q] at f; exact f
      | ex x s => rw [q] at f; exact f.elim
      | ok a s => rw [q] at f; exact f
    rw [asT] at f
    obtain ⟨x, st', e, f⟩ := f.toD
    obtain ⟨Φa, sa, oa, dx⟩ := frz_ok ok rr e
    have f := f.mono sa (List.prefix_refl _)
    have eva := ev.mono sa (List.prefix_refl _)
    refine tE_ok oa eva (f.bind.imp fun w1 s1 Φ1 ρ1 H1 _ _ _ f1 s1' p1 o1 v1 r1 => ?_)
    refine tE_ok o1 (eva.mono s1' p1) (f1.bind.imp fun w2 s2 Φ2 ρ2 H2 _ _ _ f2 s2' p2 o2 v2 r2 => ?_)
    refine ⟨Ψ, Φ2, ρ2, s2, w1, w2, x, o2, r1.mono s2' p2, r2, Dp.sub s2' (Dp.sub s1' dx), _, f2.bind.imp fun _ s3 Φ3 ρ3 H3 s3' p3 o3 f3 => ?_⟩
    exact Fin.ok (s := s3) f3 o3 σ (((eva.mono s1' p1).mono s2' p2).mono s3' p3) fun _ _ => rfl)⟩
/-- a part of a list -/
theorem pG_sl {o : Expr} {lo hi : Option Expr} {eo : Ex} {el eh : Option Ex} {p2 : Pos} (ho : PE X o (tE X c (fun _ _ _ _ => False) eo)) (hl : PO X lo (tP X c (fun _ _ _ _ => False) el)) (hh : PO X hi (tP X c (fun _ _ _ _ => False) eh)) : PG X (.Subscript o (.Slice lo hi none p2) pos) (tG X c W (.sl eo el eh)) :=
  ⟨fun pins s σ H v u Q I r ⟨Ψ, Φ, ρ, st, env, w, ok, ev, rr, f⟩ => by
    have f : Fin Ψ Φ ρ (asT c (.sl eo el eh) w env st) (fun env' _ Φ' ρ' H' => ∀ σ', EnvOk Φ' ρ' env' σ' → Agree [] σ' σ → Q σ' H') (EX X.mg fun _ _ _ => False) := by
      cases q : asT c (.sl eo el eh) w env st with
      | bad => rw [q] at f; exact f
      | ex x s => rw [q] at f; exact f.elim
      | ok a s => rw [q] at f; exact f
    rw [asT] at f
    have ha : assign (.Subscript o (.Slice lo hi none p2) pos) X.env u = (do
      let ov ← holding [u] (eval o X.env)
      let iv ← holding [u, ov] (eval (.Slice lo hi none p2) X.env)
      standAt pos
      holding [u, ov, iv] (setItem ov iv u)
      release [iv, u, ov] []) := rfl
    rw [ha]
    have h1 : tE X c (fun _ _ _ _ => False) eo σ H fun x H1 => tP X c (fun _ _ _ _ => False) el σ H1 fun l H2 => tP X c (fun _ _ _ _ => False) eh σ H2 fun h H3 => ∃ Ψ Φ3 ρ3 s3 w1, Ok Ψ Φ3 ρ3 s3 H3 ∧ RelW Φ3 ρ3 w1 x ∧ RelW Φ3 ρ3 w v ∧ EnvOk Φ3 ρ3 env σ ∧
        Fin Ψ Φ3 ρ3 ((setSl s3 w1 l h w).bind fun _ s => .ok env s) (fun env' _ Φ' ρ' H' => ∀ σ', EnvOk Φ' ρ' env' σ' → Agree [] σ' σ → Q σ' H') (EX X.mg fun _ _ _ => False) := by
      refine tE_ok ok ev (f.bind.imp fun w1 s1 Φ1 ρ1 H1 _ _ _ f1 s1' p1 o1 v1 r1 => ?_)
      refine tP_ok o1 (ev.mono s1' p1) (f1.bind.imp fun l s2 Φ2 ρ2 H2 _ _ _ f2 s2' p2 o2 => ?_)
      refine tP_ok o2 ((ev.mono s1' p1).mono s2' p2) (f2.bind.imp fun h s3 Φ3 ρ3 H3 _ _ _ f3 s3' p3 o3 => ?_)
      exact ⟨Ψ, Φ3, ρ3, s3, w1, o3, (r1.mono s2' p2).mono s3' p3, ((rr.mono s1' p1).mono s2' p2).mono s3' p3, ((ev.mono s1' p1).mono s2' p2).mono s3' p3, f3⟩
    refine wpAny_bind (wpAny_holding (thn (ho.run pins s σ H _ I h1) fun ov s1 ⟨x, H1, I1, r1, q1⟩ => ?_))
    refine wpAny_bind (wpAny_holding (wpAny_Slice (thn (hl.run pins s1 σ H1 _ I1 q1) fun vl s2 ⟨l, H2, I2, pl, q2⟩ => thn (hh.run pins s2 σ H2 _ I2 q2) fun vu s3 ⟨h, H3, I3, pu, q3⟩ => ?_)))
    rw [evalPart_none]
    refine wpAny_pure ?_
    have I4 : Inv X pins σ H3 { s3 with heap := s3.heap.push { cls := .type "slice", data := .fields #[vl, vu, .none] } } := I3.kept (t' := s3.toks) fun b ob q => Heap.get?_push_of_some _ q
    obtain ⟨Ψ', Φ3, ρ3, st3, w1, o3, rx, rv, ev3, f3⟩ := q3
    have hsl : ({ s3 with heap := s3.heap.push { cls := .type "slice", data := .fields #[vl, vu, .none] } } : Shared).heap.IsSliceOf s3.heap.objs.size vl vu .none := Heap.IsSliceOf.new ..
    generalize hs4 : ({ s3 with heap := s3.heap.push { cls := .type "slice", data := .fields #[vl, vu, .none] } } : Shared) = s4 at I4 hsl
    refine wpAny_bind (wpAny_standAt (wpAny_bind (wpAny_holding ?_)))
    unfold setSl at f3
    cases l with
    | none => exact f3.elim
    | some a =>
    cases h with
    | none => exact f3.elim
    | some c' =>
    cases w with
    | d _ => exact f3.elim
    | h j =>
      simp only at f3
      split at f3
      · rename_i ys ey
        split at f3
        · exact f3.elim
        · rename_i hne
          rw [R.bind_assoc] at f3
          have f3 := f3.bind
          obtain ⟨b, eb, rfl⟩ := rv
          obtain ⟨_, ws, hB, hws⟩ := o3.cell j b _ eb ey
          obtain ⟨i, a1, xs, zs, d, vs, rfl, rfl, hH, hvs, e2, hz, q⟩ := put_go (Q := fun _ H' => ∀ σ', σ' = σ → Q σ' H') o3 rx (f3.imp fun d s5 Φ5 ρ5 H5 s5' p5 o5 f5 v5 dv σ' e => by
            subst e
            exact Fin.ok (s := s5) f5 o5 σ' (ev3.mono s5' p5) fun _ _ => rfl)
          split at e2
          · rename_i hc
            cases e2
            obtain ⟨h0, hac, hcl, hsz⟩ := hc
            cases r1
            cases r
            cases pl with
            | int _ tl =>
            cases pu with
            | int _ tu =>
            have hne' : a1 ≠ b := fun z => by
              obtain ⟨ai, ea, ez⟩ := rx
              cases ez
              subst z
              exact hne (beq_iff_eq.mpr (by
                have := o3.nd
                exact (List.getElem?_inj (by
                  rcases Nat.lt_or_ge i ρ3.length with g | g
                  · exact g
                  · rw [List.getElem?_eq_none g] at ea; cases ea) this).mp (ea.trans eb.symm)))
            have l1 := HB.DpAll.length hvs
            have l2 := HB.DpAll.length hws
            refine thn (set_slice (Q := fun _ s' => ∃ H', Inv X pins σ H' s' ∧ Q σ H') I4 hH hB hne' hsl ⟨_, rfl⟩ ⟨_, rfl⟩ h0 hac (by rw [l1]; exact hcl) (by rw [l1, l2]; exact Nat.le_of_lt (line_of hsz)) fun s' I' => ⟨_, I', ?_⟩) fun _ s5 ⟨H5, I5, q5⟩ => wpAny_release ⟨σ, H5, I5, q5⟩
            exact q _ .non (DpAll.append (DpAll.append (DpAll.take _ hvs) hws) (DpAll.drop _ hvs)) .non σ rfl
          · cases e2
      · exact f3.elim⟩
/-! ### comprehensions -/
theorem wipe_in {σ : L2.St} {i : Nat} : ∀ {vs : List Nat}, i ∈ vs → (L2.wipe σ vs)[i]? = if i < σ.length then some none else none
  | v :: vs, h => by
    show ((L2.wipe σ vs).set v none)[i]? = _
    rw [List.getElem?_set, L2.wipe_length]
    by_cases e : v = i
    · rw [if_pos e]; subst e; rfl
    · rw [if_neg e]
      rcases List.mem_cons.mp h with h | h
      · exact absurd h.symm e
      · exact wipe_in h
theorem wipe_agree {σ σ2 : L2.St} {l vs : List Nat} (h : Agree l σ2 (L2.wipe σ vs)) (hl : σ2.length = σ.length) (hs : ∀ i ∈ l, i ∈ vs) : L2.wipe σ2 vs = L2.wipe σ vs := by
  apply List.ext_getElem?
  intro i
  by_cases hi : i ∈ vs
  · rw [wipe_in hi, wipe_in hi, hl]
  · rw [L2.wipe_out hi]
    exact h i fun q => hi (hs i q)
def tC (X : Cx) (c : Calls) (cond : Option Ex) : TT := fun σh H Q => ∃ Ψ Φ ρ σ env, Ok Ψ Φ ρ σ H ∧ EnvOk Φ ρ env σh ∧
  Fin Ψ Φ ρ (evC c cond env σ) (fun b _ _ _ H' => Q b H') (EX X.mg fun _ _ _ => False)
theorem pC_none : PTs X [] (tC X c none) :=
  ⟨fun pins s σ H Q I ⟨Ψ, Φ, ρ, st, env, o, ev, f⟩ => pts_nil.run pins s σ H Q I (Fin.ok (s := st) (show Fin _ _ _ (.ok true st) _ _ from f) o)⟩
theorem pC_some (h : PT X a (tTe X c (fun _ _ _ _ => False) ea)) : PTs X [a] (tC X c (some ea)) :=
  ⟨fun pins s σ H Q I ⟨Ψ, Φ, ρ, st, env, o, ev, f⟩ => (pts_one h).run pins s σ H Q I ⟨Ψ, Φ, ρ, st, env, o, ev, by rw [evC] at f; exact f⟩⟩
/-- an item's way through a comprehension's turn -/
def lcTurn (c : Calls) (own : List Nat) (elt : Ex) (tg : Tg) (cond : Option Ex) (env : Env) (x : D) (s : Sto) : R (Option D) :=
  noEx ((asT c tg (.d x) (wipeE env own) s).bind fun e' s => (evC c cond e' s).bind fun b s =>
      if b then (evE c elt e' s).bind fun w s => toD s w fun d s => .ok (some d) s else .ok none s)
theorem noEx_ok {α : Type} {r : R α} (h : ∀ x s, r ≠ .ex x s) : noEx r = r := by
  cases r with
  | ex x s => exact absurd rfl (h x s)
  | _ => rfl
theorem lcTurn_ok {own : List Nat} {elt : Ex} {cond : Option Ex} {t : Tg} {env : Env} {x : D} {s s' : Sto} {r : Option D} (h : lcTurn c own elt t cond env x s = .ok r s') :
    ∃ e' s1 b s2, asT c t (.d x) (wipeE env own) s = .ok e' s1 ∧ evC c cond e' s1 = .ok b s2 ∧ ((b = false ∧ r = none ∧ s' = s2) ∨ (b = true ∧ ∃ w s3 d, evE c elt e' s2 = .ok w s3 ∧ frz s3 w = some (d, s') ∧ r = some d)) := by
  unfold lcTurn at h
  cases q1 : asT c t (.d x) (wipeE env own) s with
  | bad => rw [q1] at h; cases h
  | ex _ _ => rw [q1] at h; cases h
  | ok e' s1 =>
    rw [q1] at h
    have h : noEx ((evC c cond e' s1).bind fun b s => if b then (evE c elt e' s).bind fun w s => toD s w fun d s => .ok (some d) s else .ok none s) = .ok r s' := h
    cases q2 : evC c cond e' s1 with
    | bad => rw [q2] at h; cases h
    | ex _ _ => rw [q2] at h; cases h
    | ok b s2 =>
      rw [q2] at h
      cases b with
      | false => cases h; exact ⟨e', s1, false, _, rfl, q2, .inl ⟨rfl, rfl, rfl⟩⟩
      | true =>
        have h : noEx ((evE c elt e' s2).bind fun w s => toD s w fun d s => .ok (some d) s) = .ok r s' := h
        cases q3 : evE c elt e' s2 with
        | bad => rw [q3] at h; cases h
        | ex _ _ => rw [q3] at h; cases h
        | ok w s3 =>
          rw [q3] at h
          have h : noEx (toD s3 w fun d s => .ok (some d) s) = .ok r s' := h
          unfold toD at h
          split at h
          · rename_i d s4 e; cases h; exact ⟨e', s1, true, s2, rfl, q2, .inr ⟨rfl, w, s3, d, q3, e, rfl⟩⟩
          · cases h
theorem noEx_not {α : Type} (r : R α) (x : Xn) (s : Sto) : noEx r ≠ .ex x s := by cases r <;> simp [noEx]
theorem lcL_not {keep : Sto → Bool} {f : D → Sto → R (Option D)} (hf : ∀ x s y t, f x s ≠ .ex y t) : ∀ (xs : List D) (s : Sto) (x : Xn) (t : Sto), lcL keep f xs s ≠ .ex x t
  | [], s, x, t => by unfold lcL; split <;> simp
  | y :: ys, s, x, t => by
    unfold lcL
    split
    · cases q : f y s with
      | bad => simp [R.bind]
      | ex a b => exact absurd q (hf y s a b)
      | ok o s1 =>
        have := lcL_not (keep := keep) hf ys s1
        cases q2 : lcL keep f ys s1 with
        | bad => simp [R.bind, q2]
        | ex a b => exact absurd q2 (this a b)
        | ok o s1 => simp [R.bind, q2]
    · simp
/-- the loop's end is known: what is left gives ys, none of it too long -/
theorem lc_end {keep : Sto → Bool} {own : List Nat} {elt : Ex} {cond : Option Ex} {t : Tg} {env : Env} {Ψ Φ : Hp} {ρ : List Addr} {acc xs : List D} {s : Sto} {P : List D → Sto → Hp → List Addr → Hp → Prop} {E : Xn → Hp → Prop}
    (f : Fin Ψ Φ ρ ((lcL keep (lcTurn c own elt t cond env) xs s).bind fun ys s => if (acc ++ ys).length ≤ maxLen then .ok (acc ++ ys) s else .bad) P E) : acc.length ≤ maxLen := by
  cases q : lcL keep (lcTurn c own elt t cond env) xs s with
  | bad => rw [q] at f; exact f.elim
  | ex a b => exact absurd q (lcL_not (fun x s y t => noEx_not _ y t) xs s a b)
  | ok ys s1 =>
    rw [q] at f
    have f : Fin Ψ Φ ρ (if (acc ++ ys).length ≤ maxLen then .ok (acc ++ ys) s1 else .bad) P E := f
    split at f
    · rename_i h; rw [List.length_append] at h; omega
    · exact f.elim
mutual
theorem asT_len : ∀ (t : Tg) (w : HB.W) (e : Env) (s : Sto) (e' : Env) (s' : Sto), asT c t w e s = .ok e' s' → e'.length = e.length
  | .name i, w, e, s, e', s', h => by
    simp only [asT] at h
    split at h
    · cases h; simp
    · cases h
  | .tup ts, w, e, s, e', s', h => by
    simp only [asT] at h
    split at h
    · split at h
      · exact asTs_len ts _ e s e' s' h
      · cases h
    · cases h
  | .ix o i, w, e, s, e', s', h => by
    simp only [asT, toD] at h
    split at h
    · rename_i d s1 _
      cases q1 : evE c o e s1 with
      | bad => rw [q1] at h; cases h
      | ex _ _ => rw [q1] at h; cases h
      | ok w1 s2 =>
        rw [q1] at h
        simp only [HB.R.bind_ok] at h
        cases q2 : evE c i e s2 with
        | bad => rw [q2] at h; cases h
        | ex _ _ => rw [q2] at h; cases h
        | ok w2 s3 =>
          rw [q2] at h
          simp only [HB.R.bind_ok] at h
          cases q3 : setIx s3 w1 w2 d with
          | bad => rw [q3] at h; cases h
          | ex _ _ => rw [q3] at h; cases h
          | ok w3 s4 => rw [q3] at h; cases h; rfl
    · cases h
  | .sl o lo hi, w, e, s, e', s', h => by
    simp only [asT] at h
    cases q1 : evE c o e s with
    | bad => rw [q1] at h; cases h
    | ex _ _ => rw [q1] at h; cases h
    | ok w1 s2 =>
      rw [q1] at h
      simp only [HB.R.bind_ok] at h
      cases q2 : evP c lo e s2 with
      | bad => rw [q2] at h; cases h
      | ex _ _ => rw [q2] at h; cases h
      | ok w2 s3 =>
        rw [q2] at h
        simp only [HB.R.bind_ok] at h
        cases q3 : evP c hi e s3 with
        | bad => rw [q3] at h; cases h
        | ex _ _ => rw [q3] at h; cases h
        | ok w3 s4 =>
          rw [q3] at h
          simp only [HB.R.bind_ok] at h
          cases q4 : setSl s4 w1 w2 w3 w with
          | bad => rw [q4] at h; cases h
          | ex _ _ => rw [q4] at h; cases h
          | ok w5 s5 => rw [q4] at h; cases h; rfl
theorem asTs_len : ∀ (t : List Tg) (w : List HB.W) (e : Env) (s : Sto) (e' : Env) (s' : Sto), asTs c t w e s = .ok e' s' → e'.length = e.length
  | [], [], e, s, e', s', h => by cases h; rfl
  | [], _ :: _, e, s, e', s', h => by cases h
  | _ :: _, [], e, s, e', s', h => by cases h
  | t :: ts, w :: ws, e, s, e', s', h => by
    rw [asTs] at h
    cases q1 : asT c t w e s with
    | bad => rw [q1] at h; cases h
    | ex _ _ => rw [q1] at h; cases h
    | ok e1 s1 =>
      rw [q1] at h
      rw [asTs_len ts ws e1 s1 e' s' h, asT_len t w e s e1 s1 q1]
end
theorem wipeE_length (e : Env) : ∀ vs : List Nat, (wipeE e vs).length = e.length
  | [] => rfl
  | v :: vs => by rw [wipeE, List.length_set, wipeE_length e vs]
theorem lc_go {own : List Nat} {it : It} {eelt : Ex} {t : Tg} {cond : Option Ex} {σh : L2.St} {H : Hp} {Q : VK} (hsl : ∀ i ∈ tgSl t, i ∈ own) (h : tN X c W (.lc own eelt t it cond) σh H Q) :
    tLc (tIt X c W it) (tG X c (fun _ _ _ _ => False) t) (tC X c cond) (tE X c (fun _ _ _ _ => False) eelt) own σh H Q := by
  obtain ⟨Ψ, Φ, ρ, σ, env, o, ev, f⟩ := h
  rw [evN] at f
  refine tIt_ok o ev (f.bind.imp fun src s1 Φ1 ρ1 H1 _ _ _ f1 s1' p1 o1 J hJ D hD => ?_)
  have ev1 := ev.mono s1' p1
  have hΨ := o1.unpinned hD
  obtain ⟨LI, hLI⟩ : ∃ LI : Nat → Nat → Hp → Prop, LI = fun i m H => m = src.items.length - i ∧ i ≤ src.items.length ∧ ∃ Φ2 ρ2 s2 acc accV, Sub Φ1 Φ2 ∧ ρ1 <+: ρ2 ∧ Ok (upd Ψ D (.lst accV)) Φ2 ρ2 s2 H ∧ DpAll K0 Φ2 accV acc ∧
    Fin Ψ Φ2 ρ2 ((lcL (fun s => Src.ok s src.keep) (lcTurn c own eelt t cond env) (src.items.drop i) s2).bind fun ys s => if (acc ++ ys).length ≤ maxLen then .ok (acc ++ ys) s else .bad)
      (fun ds _ Φ' _ H' => ∀ p vs, H' p = none → DpAll K0 Φ' vs ds → Q (.ref p) (upd H' p (.lst vs))) (EX X.mg fun cls d H' => W cls d σh H') := ⟨_, rfl⟩
  refine ⟨LI, ?_, ?_⟩
  · rw [hLI]; exact ⟨_, rfl, Nat.zero_le _, Φ1, ρ1, s1, [], [], Sub.refl _, List.prefix_refl _, o1.pinNew hD _, .nil, by simp only [List.nil_append]; exact f1⟩
  intro i m H2 hw
  rw [hLI] at hw
  obtain ⟨rfl, hi, Φ2, ρ2, s2, acc, accV, s2', p2, o2, hacc, f2⟩ := hw
  have hend := lc_end f2
  rcases Nat.lt_or_ge i src.items.length with hlt | hge
  · -- a turn
    right
    have hdrop : src.items.drop i = src.items[i] :: src.items.drop (i + 1) := List.drop_eq_getElem_cons hlt
    rw [hdrop, lcL] at f2
    split at f2
    · rename_i hk
      cases q : lcTurn c own eelt t cond env src.items[i] s2 with
      | bad => rw [q] at f2; exact f2.elim
      | ex _ _ => exact absurd q (noEx_not _ _ _)
      | ok r s5 =>
        rw [q] at f2
        obtain ⟨g1, g2⟩ := hJ.goes i _ _ Φ2 ρ2 s2 H2 (List.getElem?_eq_getElem hlt) s2' p2 o2 hk
        refine ⟨g1, LI (i + 1) (src.items.length - (i + 1)), fun H' h => ⟨_, by omega, h⟩, fun x H3 hy => ?_⟩
        obtain ⟨Φ3, s3', o3, dx⟩ := g2 x H3 hy
        obtain ⟨e', t1, b, t2, q1, q2, q3⟩ := lcTurn_ok q
        have ev3 := ((ev1.mono s2' p2).mono s3' (List.prefix_refl _)).wipe own
        refine ⟨_, Φ3, ρ2, s2, _, .d src.items[i], o3, ev3, dx, ?_⟩
        rw [q1]
        refine fin_of_ok fun Φ4 ρ4 H4 s4' p4 o4 σ4 ev4 ag => ⟨wipe_agree ag ?_ hsl, ?_⟩
        · have h1 := ev4.len
          have h2 := ev1.len
          have h3 := asT_len _ _ _ _ _ _ q1
          rw [wipeE_length] at h3
          omega
        refine ⟨_, Φ4, ρ4, t1, e', o4, ev4, ?_⟩
        rw [q2]
        refine fin_of_ok fun Φ5 ρ5 H5 s5' p5 o5 => ?_
        rw [HB.R.bind_ok, R.bind_assoc] at f2
        have sub25 : Sub Φ2 Φ5 := s3'.trans (s4'.trans s5')
        have pre25 : ρ2 <+: ρ5 := p4.trans p5
        rcases q3 with ⟨rfl, rfl, rfl⟩ | ⟨rfl, w, t3, d, q4, q5, rfl⟩
        · rw [if_neg Bool.false_ne_true]
          rw [hLI]
          exact ⟨rfl, hlt, Φ5, ρ5, _, acc, accV, s2'.trans sub25, p2.trans pre25, o5, DpAll.sub sub25 hacc, f2.mono sub25 pre25⟩
        · rw [if_pos rfl]
          refine ⟨_, Φ5, ρ5, t2, e', o5, (ev4.mono s5' p5), ?_⟩
          rw [q4]
          refine fin_of_ok fun Φ6 ρ6 H6 s6' p6 o6 y hy => ?_
          obtain ⟨Φ7, s7', o7, dy⟩ := frz_ok o6 hy q5
          refine ⟨accV, (o6.pin D _ upd_same).1, by rw [HB.DpAll.length hacc]; exact line_of hend, ?_⟩
          have sub27 : Sub Φ2 Φ7 := sub25.trans (s6'.trans s7')
          have pre26 : ρ2 <+: ρ6 := pre25.trans p6
          rw [hLI]
          refine ⟨rfl, hlt, Φ7, ρ6, s5, acc ++ [d], accV ++ [y], s2'.trans sub27, p2.trans pre26, o7.pinSet, DpAll.append (DpAll.sub sub27 hacc) (.cons dy .nil), ?_⟩
          refine Fin.mono ?_ sub27 pre26
          simp only [List.append_assoc, List.singleton_append]
          exact f2
    · exact f2.elim
  · left
    have hi' : i = src.items.length := by omega
    subst hi'
    rw [List.drop_length, lcL] at f2
    split at f2
    · rename_i hk
      refine ⟨hJ.stops _ Φ2 ρ2 s2 H2 s2' p2 o2 hk, ?_⟩
      have f2 : Fin Ψ Φ2 ρ2 (if (acc ++ []).length ≤ maxLen then R.ok (acc ++ []) s2 else .bad) _ _ := f2
      rw [List.append_nil, if_pos hend] at f2
      have := f2 Φ2 ρ2 _ (Sub.refl _) (List.prefix_refl _) (o2.unpin hΨ) D accV less_same hacc
      rw [upd_less (o2.pin D _ upd_same).1] at this
      exact this
    · exact f2.elim
theorem pN_lc {elt iter : Expr} {ifs : List Expr} {scope : Scope} {own : List (Str × Nat)} {it : It} {eelt : Ex} {t : Tg} {cond : Option Ex} (hc : X.calm = true) (hN : X.N.Nodup) (hi : PI X tg iter (tIt X c W it)) (ok : BlkOk X.N X.env.scope scope own)
    (hsl : ∀ i ∈ tgSl t, i ∈ own.map (·.2))
    (hg : ∀ (s : Shared) (H : Hp) (C : Addr) (cl : List (Str × Addr)) (fp : List Addr), PG (X.blk s H scope (compEnvC scope cl C X.env) fp) tg (tG X c (fun _ _ _ _ => False) t))
    (ht : ∀ (s : Shared) (H : Hp) (C : Addr) (cl : List (Str × Addr)) (fp : List Addr), PTs (X.blk s H scope (compEnvC scope cl C X.env) fp) ifs (tC X c cond))
    (he : ∀ (s : Shared) (H : Hp) (C : Addr) (cl : List (Str × Addr)) (fp : List Addr), PE (X.blk s H scope (compEnvC scope cl C X.env) fp) elt (tE X c (fun _ _ _ _ => False) eelt))
    (hs : ∀ x, foldedSetIterable iter X.env x = pure x) : PE X (.ListComp elt [⟨tg, iter, ifs, 0⟩] scope pos) (tN X c W (.lc (own.map (·.2)) eelt t it cond)) := by
  exact PE.imp (pe_lc hc hN hi ok hg ht he hs) fun σh H Q h => lc_go hsl h
end
end HB
/-! Statements. -/
namespace HB
open PySem PySem.W PySem.Spec PyProof.Rows L2
def FinO (X : Cx) (W : WX) (Ψ Φ : Hp) (ρ : List Addr) (o : O) (D : Ends) : Prop :=
  match o with
  | .nx e s => ∀ Φ' ρ' H' σ', Sub Φ Φ' → ρ <+: ρ' → Ok Ψ Φ' ρ' s H' → EnvOk Φ' ρ' e σ' → D.nx σ' H'
  | .brk e s => ∀ Φ' ρ' H' σ', Sub Φ Φ' → ρ <+: ρ' → Ok Ψ Φ' ρ' s H' → EnvOk Φ' ρ' e σ' → D.bk σ' H'
  | .cnt e s => ∀ Φ' ρ' H' σ', Sub Φ Φ' → ρ <+: ρ' → Ok Ψ Φ' ρ' s H' → EnvOk Φ' ρ' e σ' → D.ct σ' H'
  | .ret w s => ∀ Φ' ρ' H', Sub Φ Φ' → ρ <+: ρ' → Ok Ψ Φ' ρ' s H' → ∀ v, RelW Φ' ρ' w v → D.rt v H'
  | .ex x e s => ∀ Φ' ρ' H' σ', Sub Φ Φ' → ρ <+: ρ' → Ok Ψ Φ' ρ' s H' → EnvOk Φ' ρ' e σ' → EX X.mg (fun cls d H' => W cls d σ' H') x H'
  | .bad => False
section
variable {X : Cx} {c : Calls} {W : WX} {T : Tab} {ea eb ed : Ex} {es : List Ex} {a b d tg : Expr} {as : List Expr} {pos : Pos}
theorem FinO.mono {Ψ Φ Φ1 : Hp} {ρ ρ1 : List Addr} {o : O} {D : Ends} (h : FinO X W Ψ Φ ρ o D) (s : Sub Φ Φ1) (p : ρ <+: ρ1) : FinO X W Ψ Φ1 ρ1 o D := by
  cases o with
  | nx e t => exact fun Φ2 ρ2 H2 σ2 s2 p2 o2 => h Φ2 ρ2 H2 σ2 (s.trans s2) (p.trans p2) o2
  | brk e t => exact fun Φ2 ρ2 H2 σ2 s2 p2 o2 => h Φ2 ρ2 H2 σ2 (s.trans s2) (p.trans p2) o2
  | cnt e t => exact fun Φ2 ρ2 H2 σ2 s2 p2 o2 => h Φ2 ρ2 H2 σ2 (s.trans s2) (p.trans p2) o2
  | ret e t => exact fun Φ2 ρ2 H2 s2 p2 o2 => h Φ2 ρ2 H2 (s.trans s2) (p.trans p2) o2
  | ex x e t => exact fun Φ2 ρ2 H2 σ2 s2 p2 o2 => h Φ2 ρ2 H2 σ2 (s.trans s2) (p.trans p2) o2
  | bad => exact h
/-- an expression first -/
theorem FinO.toO {α : Type} {Ψ Φ : Hp} {ρ : List Addr} {r : R α} {f : α → Sto → O} {env : Env} {σh : L2.St} {D : Ends} (h : FinO X W Ψ Φ ρ (r.toO env f) D) (ev : EnvOk Φ ρ env σh) :
    Fin Ψ Φ ρ r (fun a s Φ1 ρ1 _ => FinO X W Ψ Φ1 ρ1 (f a s) D) (EX X.mg fun cls d H' => W cls d σh H') := by
  cases r with
  | ok a s => exact fun Φ1 ρ1 H1 s1 p1 o1 => FinO.mono (o := f a s) h s1 p1
  | ex x s => exact fun Φ1 ρ1 H1 s1 p1 o1 => h Φ1 ρ1 H1 σh s1 p1 o1 (ev.mono s1 p1)
  | bad => exact h
theorem FinO.bind {Ψ Φ : Hp} {ρ : List Addr} {o : O} {f : Env → Sto → O} {D : Ends} (h : FinO X W Ψ Φ ρ (o.bind f) D) : FinO X W Ψ Φ ρ o { D with nx := fun σ' H' => ∃ Φ' ρ' s e, Ok Ψ Φ' ρ' s H' ∧ EnvOk Φ' ρ' e σ' ∧ FinO X W Ψ Φ' ρ' (f e s) D } := by
  cases o with
  | nx e s => exact fun Φ1 ρ1 H1 σ1 s1 p1 o1 ev => ⟨Φ1, ρ1, s, e, o1, ev, FinO.mono (o := f e s) h s1 p1⟩
  | brk e t => exact h
  | cnt e t => exact h
  | ret e t => exact h
  | ex x e t => exact h
  | bad => exact h
variable (X c W) in
def tS (st : St) : TS := fun D σh H => ∃ Ψ Φ ρ σ env, Ok Ψ Φ ρ σ H ∧ EnvOk Φ ρ env σh ∧ FinO X W Ψ Φ ρ (exS c st env σ) D
variable (X c W) in
def tB (b : List St) : TS := fun D σh H => ∃ Ψ Φ ρ σ env, Ok Ψ Φ ρ σ H ∧ EnvOk Φ ρ env σh ∧ FinO X W Ψ Φ ρ (exB c b env σ) D
theorem PS.imp {X : Cx} {x : Stmt} {t t' : TS} (h : PS X x t) (i : ∀ D σ H, t' D σ H → t D σ H) : PS X x t' := ⟨fun pins s σ H D I q => h.run pins s σ H D I (i D σ H q)⟩
theorem PSs.imp {X : Cx} {x : List Stmt} {t t' : TS} (h : PSs X x t) (i : ∀ D σ H, t' D σ H → t D σ H) : PSs X x t' := ⟨fun pins s σ H D I q => h.run pins s σ H D I (i D σ H q)⟩
theorem FinO.nxt {Ψ Φ : Hp} {ρ : List Addr} {e : Env} {s : Sto} {D : Ends} {H : Hp} {σ : L2.St} (h : FinO X W Ψ Φ ρ (.nx e s) D) (o : Ok Ψ Φ ρ s H) (ev : EnvOk Φ ρ e σ) : D.nx σ H := h Φ ρ H σ (Sub.refl _) (List.prefix_refl _) o ev
theorem pB_nil : PSs X [] (tB X c W []) := PSs.imp pss_nil fun D σh H ⟨Ψ, Φ, ρ, σ, env, o, ev, f⟩ => FinO.nxt (s := σ) (e := env) f o ev
theorem pB_cons {x : Stmt} {xs : List Stmt} {t : St} {b : List St} (h1 : PS X x (tS X c W t)) (h2 : PSs X xs (tB X c W b)) : PSs X (x :: xs) (tB X c W (t :: b)) :=
  PSs.imp (pss_cons h1 h2) fun D σh H ⟨Ψ, Φ, ρ, σ, env, o, ev, f⟩ => by
    rw [exB] at f
    refine ⟨Ψ, Φ, ρ, σ, env, o, ev, ?_⟩
    have g := f.bind
    cases q : exS c t env σ with
    | nx e s =>
      rw [q] at g
      exact fun Φ1 ρ1 H1 σ1 s1 p1 o1 ev1 => by
        obtain ⟨Φ2, ρ2, s2, e2, o2, ev2, f2⟩ := g Φ1 ρ1 H1 σ1 s1 p1 o1 ev1
        exact ⟨Ψ, Φ2, ρ2, s2, e2, o2, ev2, f2⟩
    | brk e s => rw [q] at g; exact g
    | cnt e s => rw [q] at g; exact g
    | ret e s => rw [q] at g; exact g
    | ex x e s => rw [q] at g; exact g
    | bad => rw [q] at g; exact g
/-! ### stores -/
theorem asg_go {t : Tg} {w : HB.W} {Ψ Φ : Hp} {ρ : List Addr} {s : Sto} {env : Env} {σh : L2.St} {H : Hp} {D : Ends} {v : V} (o : Ok Ψ Φ ρ s H) (ev : EnvOk Φ ρ env σh) (r : RelW Φ ρ w v)
    (f : FinO X W Ψ Φ ρ ((noEx (asT c t w env s)).toO env .nx) D) : tG X c (fun _ _ _ _ => False) t v σh H D.nx := by
  refine ⟨Ψ, Φ, ρ, s, env, w, o, ev, r, ?_⟩
  have g := f.toO ev
  cases q : asT c t w env s with
  | bad => rw [q] at g; exact g
  | ex _ _ => rw [q] at g; exact g.elim
  | ok e' s' =>
    rw [q] at g
    exact fun Φ1 ρ1 H1 s1 p1 o1 σ' ev' _ => (g Φ1 ρ1 H1 s1 p1 o1).nxt o1 ev'
/-- no comprehension -/
def noComp : Expr → Bool
  | .ListComp _ _ _ _ | .SetComp _ _ _ _ | .DictComp _ _ _ _ _ => false
  | _ => true
theorem sw_false {e : Expr} {t : Option Expr} {l : Nat} {env : PySem.Env} (h : noComp e = true) : swapsWith e t l env = pure false := by
  cases e <;> first | rfl | cases h
/-- one target, no tuple of names against a written tuple -/
def noPar : Expr → Expr → Bool
  | .Tuple _ _ _, .Tuple _ _ _ => false
  | .List _ _, _ => false
  | _, _ => true
theorem st_none {t e : Expr} {env : PySem.Env} (h : noPar t e = true) : swappedStores [t] e env = pure none := by
  cases t <;> cases e <;> first | rfl | cases h
theorem pS_asg {t : Tg} (hp : noPar tg a = true) (hn : noComp a = true) (hs : noStar tg = true) (ha : PE X a (tE X c W ea)) (hg : PG X tg (tG X c (fun _ _ _ _ => False) t)) : PS X (.Assign [tg] a pos) (tS X c W (.asg t ea)) :=
  PS.imp (ps_asg ha hg (sw_false hn) (st_none hp) (by rw [each_cons hs]; rfl)) fun D σh H ⟨Ψ, Φ, ρ, σ, env, o, ev, f⟩ => by
    rw [exS] at f
    exact tE_ok o ev ((f.toO ev).imp fun w s1 Φ1 ρ1 H1 _ _ _ f1 s1' p1 o1 v r => asg_go o1 (ev.mono s1' p1) r f1)
/-- a comprehension whose value is data -/
theorem pS_lc {i : Nat} {y : Str} {py : Pos} {elt iter : Expr} {ifs : List Expr} {scope : Scope} {own : List (Str × Nat)} {lpos : Pos} {it : It} {eelt : Ex} {t : Tg} {cond : Option Ex} {fr : Bool} (hc : X.calm = true) (hN : X.N.Nodup) (hy : X.N[i]? = some y) (hyl : X.env.scope.names.lookup y = some .local) (hk : X.env.scope.kind = .function)
    (hl : (py.line == lpos.line) = true) (hna : (scope.names.any fun (n, k) => n == y && (k == .local || k == .cell)) = false)
    (hi : PI X tg iter (tIt X c W it)) (ok : BlkOk X.N X.env.scope scope own) (hsl : ∀ i ∈ tgSl t, i ∈ own.map (·.2))
    (hg : ∀ (s : Shared) (H : Hp) (C : Addr) (cl : List (Str × Addr)) (fp : List Addr), PG (X.blk s H scope (compEnvC scope cl C X.env) fp) tg (tG X c (fun _ _ _ _ => False) t))
    (ht : ∀ (s : Shared) (H : Hp) (C : Addr) (cl : List (Str × Addr)) (fp : List Addr), PTs (X.blk s H scope (compEnvC scope cl C X.env) fp) ifs (tC X c cond))
    (he : ∀ (s : Shared) (H : Hp) (C : Addr) (cl : List (Str × Addr)) (fp : List Addr), PE (X.blk s H scope (compEnvC scope cl C X.env) fp) elt (tE X c (fun _ _ _ _ => False) eelt))
    (hs : ∀ x, foldedSetIterable iter X.env x = pure x) : PS X (.Assign [.Name y py] (.ListComp elt [⟨tg, iter, ifs, 0⟩] scope lpos) pos) (tS X c W (.asg (.name i) (if fr then .frs (.lc (own.map (·.2)) eelt t it cond) else .new (.lc (own.map (·.2)) eelt t it cond)))) := by
  refine PS.imp (ps_setLc hc hN hy hyl (sw_true hk hyl hl hna) hi ok hg ht he hs) fun D σh H ⟨Ψ, Φ, ρ, σ, env, o, ev, f⟩ => ?_
  rw [exS] at f
  refine lc_go hsl ?_
  have key : ∀ {w : HB.W} {v : V} {Φ1 : Hp} {ρ1 : List Addr} {s1 : Sto} {H1 : Hp}, Sub Φ Φ1 → ρ <+: ρ1 → Ok Ψ Φ1 ρ1 s1 H1 → RelW Φ1 ρ1 w v → FinO X W Ψ Φ1 ρ1 ((noEx (asT c (.name i) w env s1)).toO env .nx) D → gName i v σh H1 D.nx := fun {w v Φ1 ρ1 s1 H1} s p o1 r g => by
    have ev1 := ev.mono s p
    have g := g.toO ev1
    simp only [asT] at g
    split at g
    · exact (g Φ1 ρ1 H1 (Sub.refl _) (List.prefix_refl _) o1).nxt o1 (ev1.set i r)
    · exact g.elim
  cases fr with
  | true =>
    rw [if_pos rfl, evE] at f
    have f := f.toO ev
    refine tN_ok o ev (f.bind.imp fun ds s1 Φ1 ρ1 H1 _ _ _ f1 s1' p1 o1 p vs hp r => ?_)
    have g : Sub Φ1 (upd Φ1 p (.lst vs)) := Sub.grow _ (o1.sub.free hp)
    exact key (w := .d (.list ds)) (s1'.trans g) p1 (o1.fresh hp _) (Dp.lst (SqL.of upd_same) (DpAll.sub g r)) (f1 _ _ _ g (List.prefix_refl _) (o1.fresh hp _))
  | false =>
    rw [if_neg Bool.false_ne_true, evE, alloc] at f
    have f := f.toO ev
    refine tN_ok o ev (f.bind.imp fun ds s1 Φ1 ρ1 H1 _ _ _ f1 s1' p1 o1 p vs hp r => ?_)
    have o2 := o1.alloc hp r
    refine key (w := .h s1.length) s1' (p1.trans (List.prefix_append _ [p])) o2 ⟨p, ?_, rfl⟩ (f1 Φ1 (ρ1 ++ [p]) _ (Sub.refl _) (List.prefix_append _ _) o2)
    rw [← o1.len, List.getElem?_append_right (Nat.le_refl _)]
    simp
/-! ### small ones -/
theorem pS_exp (hn : noComp a = true) (ha : PE X a (tE X c W ea)) : PS X (.Expr a pos) (tS X c W (.exp ea)) :=
  PS.imp (ps_expr ha (sw_false hn)) fun D σh H ⟨Ψ, Φ, ρ, σ, env, o, ev, f⟩ => by
    rw [exS] at f
    exact tE_ok o ev ((f.toO ev).imp fun w s1 Φ1 ρ1 H1 _ _ _ f1 s1' p1 o1 v r => f1.nxt o1 (ev.mono s1' p1))
theorem pS_ret (ha : PE X a (tE X c W ea)) : PS X (.Return (some a) pos) (tS X c W (.ret ea)) :=
  PS.imp (ps_ret ha) fun D σh H ⟨Ψ, Φ, ρ, σ, env, o, ev, f⟩ => by
    rw [exS] at f
    exact tE_ok o ev ((f.toO ev).imp fun w s1 Φ1 ρ1 H1 _ _ _ f1 s1' p1 o1 v r => f1 Φ1 ρ1 H1 (Sub.refl _) (List.prefix_refl _) o1 v r)
theorem pS_retN : PS X (.Return none pos) (tS X c W .retN) :=
  PS.imp ps_retN fun D σh H ⟨Ψ, Φ, ρ, σ, env, o, ev, f⟩ => by
    rw [exS] at f
    exact f Φ ρ H (Sub.refl _) (List.prefix_refl _) o _ .non
theorem pS_pass : PS X (.Pass pos) (tS X c W .pass) := PS.imp ps_pass fun D σh H ⟨Ψ, Φ, ρ, σ, env, o, ev, f⟩ => by rw [exS] at f; exact f.nxt o ev
theorem pS_brk : PS X (.Break pos) (tS X c W .brk) := PS.imp ps_break fun D σh H ⟨Ψ, Φ, ρ, σ, env, o, ev, f⟩ => by rw [exS] at f; exact f Φ ρ H σh (Sub.refl _) (List.prefix_refl _) o ev
theorem pS_cnt : PS X (.Continue pos) (tS X c W .cnt) := PS.imp ps_continue fun D σh H ⟨Ψ, Φ, ρ, σ, env, o, ev, f⟩ => by rw [exS] at f; exact f Φ ρ H σh (Sub.refl _) (List.prefix_refl _) o ev
theorem pS_if {xs ys : List Stmt} {bx by' : List St} (ht : PT X a (tTe X c W ea)) (hx : PSs X xs (tB X c W bx)) (hy : PSs X ys (tB X c W by')) : PS X (.If a xs ys pos) (tS X c W (.ite ea bx by')) :=
  PS.imp (ps_if ht hx hy) fun D σh H ⟨Ψ, Φ, ρ, σ, env, o, ev, f⟩ => by
    rw [exS] at f
    refine tTe_of o ev ((f.toO ev).imp fun k s1 Φ1 ρ1 H1 s1' p1 o1 f1 => ?_)
    cases k with
    | true => exact ⟨Ψ, Φ1, ρ1, s1, env, o1, ev.mono s1' p1, f1⟩
    | false => exact ⟨Ψ, Φ1, ρ1, s1, env, o1, ev.mono s1' p1, f1⟩
/-! ### loops -/
/-- a for's turn -/
def forTurn (c : Calls) (t : Tg) (b : List St) (x : D) (e : Env) (s : Sto) : O := (noEx (asT c t (.d x) e s)).toO e fun e s => exB c b e s
theorem pS_for {xs : List Stmt} {t : Tg} {it : It} {b : List St} (hp : PassesOwn (model X.prog X.w) X.A X.env X.xe) (hc : X.calm = true) (hi : PI X tg a (tIt X c W it)) (hg : PG X tg (tG X c (fun _ _ _ _ => False) t)) (hb : PSs X xs (tB X c W b))
    (hs : ∀ x, foldedSetIterable a X.env x = pure x) : PS X (.For tg a xs [] pos) (tS X c W (.for_ t it b)) := by
  refine PS.imp (ps_for hp hc hi hg hb hs) fun D σh H ⟨Ψ, Φ, ρ, σ, env, o, ev, f⟩ => ?_
  rw [exS] at f
  refine tIt_ok o ev ((f.toO ev).imp fun src s1 Φ1 ρ1 H1 _ _ _ f1 s1' p1 o1 J hJ => ?_)
  have ev1 := ev.mono s1' p1
  obtain ⟨LI, hLI⟩ : ∃ LI : Nat → Nat → L2.St → Hp → Prop, LI = fun i m σ H => m = src.items.length - i ∧ i ≤ src.items.length ∧ ∃ Φ2 ρ2 s2 env2, Sub Φ1 Φ2 ∧ ρ1 <+: ρ2 ∧ Ok Ψ Φ2 ρ2 s2 H ∧ EnvOk Φ2 ρ2 env2 σ ∧
    FinO X W Ψ Φ2 ρ2 (forL (fun s => Src.ok s src.keep) (forTurn c t b) (src.items.drop i) env2 s2) D := ⟨_, rfl⟩
  refine ⟨LI, ?_, ?_⟩
  · rw [hLI]; exact ⟨_, rfl, Nat.zero_le _, Φ1, ρ1, s1, env, Sub.refl _, List.prefix_refl _, o1, ev1, f1⟩
  intro i m σ2 H2 hw
  rw [hLI] at hw
  obtain ⟨rfl, hi, Φ2, ρ2, s2, env2, s2', p2, o2, ev2, f2⟩ := hw
  rcases Nat.lt_or_ge i src.items.length with hlt | hge
  · right
    have hdrop : src.items.drop i = src.items[i] :: src.items.drop (i + 1) := List.drop_eq_getElem_cons hlt
    rw [hdrop, forL] at f2
    split at f2
    · rename_i hk
      obtain ⟨g1, g2⟩ := hJ.goes i _ _ Φ2 ρ2 s2 H2 (List.getElem?_eq_getElem hlt) s2' p2 o2 hk
      refine ⟨g1, LI (i + 1) (src.items.length - (i + 1)), fun σ' H' h => ⟨_, by omega, h⟩, fun x H3 hy => ?_⟩
      obtain ⟨Φ3, s3', o3, dx⟩ := g2 x H3 hy
      unfold forTurn at f2
      refine ⟨Ψ, Φ3, ρ2, s2, env2, .d src.items[i], o3, ev2.mono s3' (List.prefix_refl _), dx, ?_⟩
      cases q : asT c t (.d src.items[i]) env2 s2 with
      | bad => rw [q] at f2; exact f2.elim
      | ex _ _ => rw [q] at f2; exact f2.elim
      | ok e' s' =>
        rw [q] at f2
        refine fin_of_ok fun Φ4 ρ4 H4 s4' p4 o4 σ4 ev4 _ => ⟨Ψ, Φ4, ρ4, s', e', o4, ev4, ?_⟩
        have f2 : FinO X W Ψ Φ2 ρ2 (match exB c b e' s' with
          | .nx e s => forL (fun s => Src.ok s src.keep) (forTurn c t b) (src.items.drop (i + 1)) e s
          | .cnt e s => forL (fun s => Src.ok s src.keep) (forTurn c t b) (src.items.drop (i + 1)) e s
          | .brk e s => .nx e s
          | o => o) D := f2
        have sub24 := s3'.trans s4'
        cases q2 : exB c b e' s' with
        | nx e2 t2 =>
          rw [q2] at f2
          exact fun Φ5 ρ5 H5 σ5 s5' p5 o5 ev5 => by
            rw [hLI]
            exact ⟨rfl, hlt, Φ5, ρ5, t2, e2, s2'.trans (sub24.trans s5'), p2.trans (p4.trans p5), o5, ev5, FinO.mono f2 (sub24.trans s5') (p4.trans p5)⟩
        | cnt e2 t2 =>
          rw [q2] at f2
          exact fun Φ5 ρ5 H5 σ5 s5' p5 o5 ev5 => by
            rw [hLI]
            exact ⟨rfl, hlt, Φ5, ρ5, t2, e2, s2'.trans (sub24.trans s5'), p2.trans (p4.trans p5), o5, ev5, FinO.mono f2 (sub24.trans s5') (p4.trans p5)⟩
        | brk e2 t2 =>
          rw [q2] at f2
          exact fun Φ5 ρ5 H5 σ5 s5' p5 o5 ev5 => f2 Φ5 ρ5 H5 σ5 (sub24.trans s5') (p4.trans p5) o5 ev5
        | ret w t2 =>
          rw [q2] at f2
          exact fun Φ5 ρ5 H5 s5' p5 o5 v hv => f2 Φ5 ρ5 H5 (sub24.trans s5') (p4.trans p5) o5 v hv
        | ex x e2 t2 =>
          rw [q2] at f2
          exact fun Φ5 ρ5 H5 σ5 s5' p5 o5 ev5 => f2 Φ5 ρ5 H5 σ5 (sub24.trans s5') (p4.trans p5) o5 ev5
        | bad => rw [q2] at f2; exact f2.elim
    · exact f2.elim
  · left
    have hi' : i = src.items.length := by omega
    subst hi'
    rw [List.drop_length, forL] at f2
    split at f2
    · rename_i hk
      exact ⟨hJ.stops _ Φ2 ρ2 s2 H2 s2' p2 o2 hk, f2.nxt o2 ev2⟩
    · exact f2.elim
theorem pS_while {xs : List Stmt} {b : List St} (hp : PassesOwn (model X.prog X.w) X.A X.env X.xe) (ht : PT X a (tTe X c W ea)) (hb : PSs X xs (tB X c W b)) : PS X (.While a xs [] pos) (tS X c W (.while_ ea b)) := by
  refine PS.imp (ps_while hp ht hb) fun D σh H ⟨Ψ, Φ, ρ, σ, env, o, ev, f⟩ => ?_
  rw [exS] at f
  obtain ⟨LI, hLI⟩ : ∃ LI : Nat → L2.St → Hp → Prop, LI = fun m σ H => ∃ Φ2 ρ2 s2 env2, Ok Ψ Φ2 ρ2 s2 H ∧ EnvOk Φ2 ρ2 env2 σ ∧ FinO X W Ψ Φ2 ρ2 (whileL (evT c ea) (exB c b) m env2 s2) D := ⟨_, rfl⟩
  refine ⟨LI, ⟨turnsMost, by rw [hLI]; exact ⟨Φ, ρ, σ, env, o, ev, f⟩⟩, ?_⟩
  intro m σ2 H2 hw
  rw [hLI] at hw
  obtain ⟨Φ2, ρ2, s2, env2, o2, ev2, f2⟩ := hw
  cases m with
  | zero => exact f2.elim
  | succ m =>
    rw [whileL] at f2
    refine ⟨Ψ, Φ2, ρ2, s2, env2, o2, ev2, ?_⟩
    cases q : evT c ea env2 s2 with
    | bad => rw [q] at f2; exact f2.elim
    | ex x s => rw [q] at f2; exact fun Φ3 ρ3 H3 s3' p3 o3 => f2 Φ3 ρ3 H3 σ2 s3' p3 o3 (ev2.mono s3' p3)
    | ok k s3 =>
      rw [q] at f2
      refine fin_of_ok fun Φ3 ρ3 H3 s3' p3 o3 => ?_
      have ev3 := ev2.mono s3' p3
      cases k with
      | false => exact f2 Φ3 ρ3 H3 σ2 s3' p3 o3 ev3
      | true =>
        refine L2.iteT ⟨LI m, fun σ' H' h => ⟨m, Nat.lt_succ_self m, h⟩, Ψ, Φ3, ρ3, s3, env2, o3, ev3, ?_⟩
        have f2 : FinO X W Ψ Φ2 ρ2 (match exB c b env2 s3 with
          | .nx e s => whileL (evT c ea) (exB c b) m e s
          | .cnt e s => whileL (evT c ea) (exB c b) m e s
          | .brk e s => .nx e s
          | o => o) D := f2
        cases q2 : exB c b env2 s3 with
        | nx e2 t2 =>
          rw [q2] at f2
          exact fun Φ5 ρ5 H5 σ5 s5' p5 o5 ev5 => by
            rw [hLI]
            exact ⟨Φ5, ρ5, t2, e2, o5, ev5, FinO.mono f2 (s3'.trans s5') (p3.trans p5)⟩
        | cnt e2 t2 =>
          rw [q2] at f2
          exact fun Φ5 ρ5 H5 σ5 s5' p5 o5 ev5 => by
            rw [hLI]
            exact ⟨Φ5, ρ5, t2, e2, o5, ev5, FinO.mono f2 (s3'.trans s5') (p3.trans p5)⟩
        | brk e2 t2 =>
          rw [q2] at f2
          exact fun Φ5 ρ5 H5 σ5 s5' p5 o5 ev5 => f2 Φ5 ρ5 H5 σ5 (s3'.trans s5') (p3.trans p5) o5 ev5
        | ret w t2 =>
          rw [q2] at f2
          exact fun Φ5 ρ5 H5 s5' p5 o5 v hv => f2 Φ5 ρ5 H5 (s3'.trans s5') (p3.trans p5) o5 v hv
        | ex x e2 t2 =>
          rw [q2] at f2
          exact fun Φ5 ρ5 H5 σ5 s5' p5 o5 ev5 => f2 Φ5 ρ5 H5 σ5 (s3'.trans s5') (p3.trans p5) o5 ev5
        | bad => rw [q2] at f2; exact f2.elim
/-! ### raise -/
theorem pS_raise {x m : Str} {j : Nat} {p p2 p3 : Pos} (F : Facts T X c W) (hx : x ∈ T.excs) (hg : Gl X x) (hdb : (x == ("__debug__" : Str)) = false) :
    PS X (.Raise (some (.Call (.Name x p) [.Constant (.str m) j p2] [] p3)) none pos) (tS X c W (.raise_ x [])) := by
  obtain ⟨C, gC, E⟩ := F.excs x hx
  refine PS.imp (ps_raise F.calm F.tk (pmk_own PySem.F.excBase_ValueError E.is gC E.kp (raises_own E.sub E.ty) hg hdb)) fun D σh H ⟨Ψ, Φ, ρ, σ, env, o, ev, f⟩ => ?_
  rw [exS, evD] at f
  exact f Φ ρ H σh (Sub.refl _) (List.prefix_refl _) o ev _ _ ⟨C, gC, rfl, rfl, rfl⟩
end
end HB
/-! Several targets; in place. -/
namespace HB
open PySem PySem.W PySem.Spec PyProof.Rows L2
section
variable {X : Cx} {c : Calls} {W : WX} {T : Tab} {ea eb ed : Ex} {es : List Ex} {a b d tg : Expr} {as : List Expr} {pos : Pos}
/-- the plain local names of one line among targets -/
def parNames (sc : Scope) (ts : List Expr) : List Str := ts.filterMap fun
    | .Name id pos => if sc.names.lookup id == some .local && pos.line == (ts.head?.map (·.pos.line)).getD 0 then some id else none
    | _ => none
/-- the stores are not exchanged -/
def parNone (sc : Scope) (ts vs : List Expr) : Bool :=
  !(ts.length == 2 || ts.length == 3) || vs.length != ts.length || ((parNames sc ts).length != ts.length) || vs.all (foldedForSure 8)
theorem any_star : ∀ {vs : List Expr}, vs.all noStar = true → (vs.any fun | .Starred .. => true | _ => false) = false
  | [], _ => rfl
  | v :: vs, h => by
    simp only [List.all_cons, Bool.and_eq_true] at h
    rw [List.any_cons, any_star h.2]
    cases v <;> first | rfl | cases h.1
theorem sw_chain {sc : Scope} {ts vs : List Expr} {k k2 : Nat} {p p2 : Pos} {env : PySem.Env} (he : env.scope = sc) (hs : vs.all noStar = true) (h1 : (!(ts.length == 2 || ts.length == 3) || vs.length != ts.length || env.blockKind != ScopeKind.function) = false) :
    swappedStores [.Tuple ts k p] (.Tuple vs k2 p2) env = (if ((parNames sc ts).length != ts.length || (parNames sc ts).eraseDups.length != (parNames sc ts).length) = true then pure none else if vs.all (foldedForSure 8) = true then pure none
      else if vs.all (constantsAlone 8) = true then (do unsupported "assign.tuple-of-constant-expressions:order-of-the-stores"; pure (some (parNames sc ts))) else pure (some (parNames sc ts))) := by
  subst he
  unfold swappedStores
  simp only [h1]
  rw [if_neg Bool.false_ne_true]
  refine Eq.trans (if_neg (fun q => ?_)) rfl
  have e := any_star hs
  rw [show (vs.any fun | .Starred .. => true | _ => false) = true from q] at e
  cases e
theorem sw_none {sc : Scope} {ts vs : List Expr} {k k2 : Nat} {p p2 : Pos} {env : PySem.Env} (he : env.scope = sc) (h : parNone sc ts vs = true) (hs : vs.all noStar = true) : swappedStores [.Tuple ts k p] (.Tuple vs k2 p2) env = pure none := by
  cases h1 : (!(ts.length == 2 || ts.length == 3) || vs.length != ts.length || env.blockKind != ScopeKind.function) with
  | true =>
    unfold swappedStores
    simp only [h1]
    rfl
  | false =>
    rw [sw_chain he hs h1]
    split
    · rfl
    · split
      · rfl
      · rename_i h2 h3
        exfalso
        unfold parNone at h
        simp only [Bool.or_eq_true] at h h2
        rw [not_or] at h2
        rcases h with ((h | h) | h) | h
        · simp only [Bool.or_eq_false_iff] at h1
          rw [h1.1.1] at h; cases h
        · simp only [Bool.or_eq_false_iff] at h1
          rw [h1.1.2] at h; cases h
        · exact h2.1 h
        · exact h3 h
/-- the stores are exchanged: two, three plain names -/
def parSome (sc : Scope) (ts vs : List Expr) (xs : List Str) : Bool :=
  decide (parNames sc ts = xs) && decide (xs.eraseDups.length = xs.length) && decide (xs.length = ts.length) && !vs.all (foldedForSure 8) && !vs.all (constantsAlone 8)
theorem sw_some {sc : Scope} {ts vs : List Expr} {xs : List Str} {k k2 : Nat} {p p2 : Pos} {env : PySem.Env} (he : env.scope = sc) (hk : sc.kind = .function) (hl : ts.length = 2 ∨ ts.length = 3) (hl2 : vs.length = ts.length) (h : parSome sc ts vs xs = true) (hs : vs.all noStar = true) :
    swappedStores [.Tuple ts k p] (.Tuple vs k2 p2) env = pure (some xs) := by
  have h1 : (!(ts.length == 2 || ts.length == 3) || vs.length != ts.length || env.blockKind != ScopeKind.function) = false := by
    have e1 : env.blockKind = .function := by
      subst he
      unfold Env.blockKind
      rw [hk]; rfl
    rw [e1, hl2]
    rcases hl with h | h <;> rw [h] <;> simp
  rw [sw_chain he hs h1]
  unfold parSome at h
  simp only [Bool.and_eq_true, decide_eq_true_eq, Bool.not_eq_true'] at h
  obtain ⟨⟨⟨⟨e1, e2⟩, e3⟩, e4⟩, e5⟩ := h
  rw [e1, e2, e3, e4, e5]
  simp
/-! ### several values to several targets -/
theorem pars_go {ts : List Tg} {ws : List HB.W} {Ψ Φ : Hp} {ρ : List Addr} {s : Sto} {env : Env} {σh : L2.St} {H : Hp} {D : Ends} {vs : List V} (o : Ok Ψ Φ ρ s H) (ev : EnvOk Φ ρ env σh) (r : RelWs Φ ρ ws vs)
    (f : FinO X W Ψ Φ ρ ((noEx (asTs c ts ws env s)).toO env .nx) D) : tGs X c (fun _ _ _ _ => False) ts vs σh H D.nx := by
  refine ⟨Ψ, Φ, ρ, s, env, ws, o, ev, r, ?_⟩
  have g := f.toO ev
  cases q : asTs c ts ws env s with
  | bad => rw [q] at g; exact g
  | ex _ _ => rw [q] at g; exact g.elim
  | ok e' s' =>
    rw [q] at g
    exact fun Φ1 ρ1 H1 s1 p1 o1 σ' ev' _ => (g Φ1 ρ1 H1 s1 p1 o1).nxt o1 ev'
theorem asTs_two {ts : List Tg} : ∀ {ws : List HB.W} {e e' : Env} {s s' : Sto}, asTs c ts ws e s = .ok e' s' → ws.length = ts.length := by
  induction ts with
  | nil => intro ws e e' s s' h; cases ws with
    | nil => rfl
    | cons _ _ => cases h
  | cons t ts ih =>
    intro ws e e' s s' h
    cases ws with
    | nil => cases h
    | cons w ws =>
      rw [asTs] at h
      cases q : asT c t w e s with
      | bad => rw [q] at h; cases h
      | ex _ _ => rw [q] at h; cases h
      | ok e1 s1 => rw [q] at h; exact congrArg (· + 1) (ih h)
theorem pS_par {ts : List Expr} {vs : List Expr} {gs : List Tg} {k k2 : Nat} {p p2 : Pos} (hc : X.calm = true) (hn : parNone X.env.scope ts vs = true) (hs : vs.all noStar = true) (hst : ts.all noStar = true) (hl : ts.length = gs.length) (ha : PA X vs (tEs X c W es)) (hg : PGs X ts (tGs X c (fun _ _ _ _ => False) gs)) (hle : ts.length ≤ maxLen) :
    PS X (.Assign [.Tuple ts k p] (.Tuple vs k2 p2) pos) (tS X c W (.par gs es)) := by
  refine PS.imp (ps_asg (pe_tup ha) (pg_tup hc hg (each_len hst).1 (each_len hst).2) rfl (sw_none rfl hn hs) rfl) fun D σh H ⟨Ψ, Φ, ρ, σ, env, o, ev, f⟩ => ?_
  rw [exS] at f
  refine tEs_ok o ev ((f.toO ev).imp fun ws s1 Φ1 ρ1 H1 _ _ _ f1 s1' p1 o1 xs r => ?_)
  have ev1 := ev.mono s1' p1
  have hlw : ws.length = gs.length := by
    cases q : asTs c gs ws env s1 with
    | bad => rw [q] at f1; exact f1.elim
    | ex _ _ => rw [q] at f1; exact f1.elim
    | ok e' s' => exact asTs_two q
  have hlx : xs.length = ws.length := (Paired.length r).symm
  refine ⟨by have := line_of hle; omega, fun q hq => ⟨q, xs, rfl, SqT.of upd_same, by omega, ?_⟩⟩
  exact pars_go (o1.other hq _) ev1 r f1
theorem two_set {σ : L2.St} {i j : Nat} {v w : V} {Ψ Φ : Hp} {ρ : List Addr} {s : Sto} {env : Env} {H : Hp} {D : Ends} {x y : HB.W} (o : Ok Ψ Φ ρ s H) (ev : EnvOk Φ ρ env σ) (r1 : RelW Φ ρ x v) (r2 : RelW Φ ρ y w)
    (f : FinO X W Ψ Φ ρ ((noEx (asTs c [.name i, .name j] [x, y] env s)).toO env .nx) D) : D.nx ((σ.set i (some v)).set j (some w)) H := by
  have g := f.toO ev
  simp only [asTs, asT] at g
  split at g
  · simp only [HB.R.bind_ok] at g
    split at g
    · exact (g Φ ρ H (Sub.refl _) (List.prefix_refl _) o).nxt o ((ev.set i r1).set j r2)
    · exact g.elim
  · exact g.elim
theorem three_set {σ : L2.St} {i j l : Nat} {v w u : V} {Ψ Φ : Hp} {ρ : List Addr} {s : Sto} {env : Env} {H : Hp} {D : Ends} {x y z : HB.W} (o : Ok Ψ Φ ρ s H) (ev : EnvOk Φ ρ env σ) (r1 : RelW Φ ρ x v) (r2 : RelW Φ ρ y w) (r3 : RelW Φ ρ z u)
    (f : FinO X W Ψ Φ ρ ((noEx (asTs c [.name i, .name j, .name l] [x, y, z] env s)).toO env .nx) D) : D.nx (((σ.set i (some v)).set j (some w)).set l (some u)) H := by
  have g := f.toO ev
  simp only [asTs, asT] at g
  split at g
  · simp only [HB.R.bind_ok] at g
    split at g
    · simp only [HB.R.bind_ok] at g
      split at g
      · exact (g Φ ρ H (Sub.refl _) (List.prefix_refl _) o).nxt o (((ev.set i r1).set j r2).set l r3)
      · exact g.elim
    · exact g.elim
  · exact g.elim
theorem pS_par2 {i j : Nat} {x y : Str} {px py : Pos} {k k2 : Nat} {p p2 : Pos} (hc : X.calm = true) (hN : X.N.Nodup) (hk : X.env.scope.kind = .function) (hi : X.N[i]? = some x) (hj : X.N[j]? = some y) (hij : i ≠ j) (hx : X.env.scope.names.lookup x = some .local) (hy : X.env.scope.names.lookup y = some .local)
    (h : parSome X.env.scope [.Name x px, .Name y py] [a, b] [x, y] = true) (hs : [a, b].all noStar = true) (ha : PA X [a, b] (tEs X c W [ea, eb])) :
    PS X (.Assign [.Tuple [.Name x px, .Name y py] k p] (.Tuple [a, b] k2 p2) pos) (tS X c W (.par [.name i, .name j] [ea, eb])) := by
  refine PS.imp (ps_par hc hN hi hj hij hx hy ha (sw_some rfl hk (.inl rfl) rfl h hs) rfl) fun D σh H ⟨Ψ, Φ, ρ, σ, env, o, ev, f⟩ => ?_
  rw [exS] at f
  refine tEs_ok o ev ((f.toO ev).imp fun ws s1 Φ1 ρ1 H1 _ _ _ f1 s1' p1 o1 xs r => ?_)
  match ws, xs, r with
  | [w1, w2], [v1, v2], .cons r1 (.cons r2 .nil) => exact ⟨v1, v2, rfl, two_set o1 (ev.mono s1' p1) r1 r2 f1⟩
  | [], _, _ => exact f1.elim
  | [w1], _, _ => 
    exfalso
    cases q : asT c (.name i) w1 env s1 with
    | bad => simp [asTs, q, noEx, R.bind, R.toO] at f1; exact f1
    | ex _ _ => simp [asTs, q, noEx, R.bind, R.toO] at f1; exact f1
    | ok _ _ => simp [asTs, q, noEx, R.bind, R.toO] at f1; exact f1
  | w1 :: w2 :: w3 :: ws, _, _ =>
    exfalso
    cases q : asTs c [.name i, .name j] (w1 :: w2 :: w3 :: ws) env s1 with
    | bad => rw [q] at f1; exact f1
    | ex _ _ => rw [q] at f1; exact f1
    | ok _ _ => have := asTs_two q; simp at this
theorem pS_par3 {i j l : Nat} {x y z : Str} {px py pz : Pos} {k k2 : Nat} {p p2 : Pos} (hc : X.calm = true) (hN : X.N.Nodup) (hk : X.env.scope.kind = .function) (hi : X.N[i]? = some x) (hj : X.N[j]? = some y) (hl : X.N[l]? = some z) (hij : i ≠ j) (hil : i ≠ l) (hjl : j ≠ l)
    (hx : X.env.scope.names.lookup x = some .local) (hy : X.env.scope.names.lookup y = some .local) (hz : X.env.scope.names.lookup z = some .local)
    (h : parSome X.env.scope [.Name x px, .Name y py, .Name z pz] [a, b, d] [x, y, z] = true) (hs : [a, b, d].all noStar = true) (ha : PA X [a, b, d] (tEs X c W [ea, eb, ed])) :
    PS X (.Assign [.Tuple [.Name x px, .Name y py, .Name z pz] k p] (.Tuple [a, b, d] k2 p2) pos) (tS X c W (.par [.name i, .name j, .name l] [ea, eb, ed])) := by
  refine PS.imp (ps_par3 hc hN hi hj hl hij hil hjl hx hy hz ha (sw_some rfl hk (.inr rfl) rfl h hs) rfl) fun D σh H ⟨Ψ, Φ, ρ, σ, env, o, ev, f⟩ => ?_
  rw [exS] at f
  refine tEs_ok o ev ((f.toO ev).imp fun ws s1 Φ1 ρ1 H1 _ _ _ f1 s1' p1 o1 xs r => ?_)
  have hlw : ws.length = 3 := by
    cases q : asTs c [.name i, .name j, .name l] ws env s1 with
    | bad => rw [q] at f1; exact f1.elim
    | ex _ _ => rw [q] at f1; exact f1.elim
    | ok e' s' => exact asTs_two q
  match ws, hlw, xs, r with
  | [w1, w2, w3], _, [v1, v2, v3], .cons r1 (.cons r2 (.cons r3 .nil)) => exact ⟨v1, v2, v3, rfl, three_set o1 (ev.mono s1' p1) r1 r2 r3 f1⟩
/-! ### in place -/
theorem op_ibin (o : Op2) : OpR X (inplaceOp (opOf o)) (r2D (ibin2 o)) := by
  intro pins s σ H x y v u Q I rx ry h
  obtain ⟨Φ, du, dv, r, hs, hx, hy, e, q⟩ := h
  unfold ibin2 at e
  split at e
  · cases hx; cases hy; cases e
    exact iop_add pins s σ H _ _ v u Q I rx ry ⟨_, _, rfl, rfl, q.old (.int _)⟩
  · cases hx; cases hy; cases e
    exact iop_sub pins s σ H _ _ v u Q I rx ry ⟨_, _, rfl, rfl, q.old (.int _)⟩
  · cases hx; cases hy
    split at e
    · rename_i hb; cases e
      exact iop_mod pins s σ H _ _ v u Q I rx ry ⟨_, _, rfl, rfl, hb, q.old (.int _)⟩
    · cases e
  · cases hx; cases hy
    split at e
    · rename_i hb; cases e
      exact iop_fdivW pins s σ H _ _ v u Q I rx ry ⟨_, _, rfl, rfl, ⟨hb.1, by have := hb.2; unfold bits at this; omega⟩, q.old (.int _)⟩
    · cases e
  · cases hx; cases hy
    split at e
    · rename_i hb; cases e
      exact iop_add_str pins s σ H _ _ v u Q I rx ry ⟨_, _, rfl, rfl, Nat.le_of_lt (line_of hb), q.old (.str _)⟩
    · cases e
  · cases e
theorem pS_aug {i : Nat} {x : Str} {o : Op2} {p : Pos} (hN : X.N.Nodup) (hi : X.N[i]? = some x) (hx : Loc X.env.scope x) (hf : X.fn x = true ∨ X.env.scope.names.lookup x = some .local) (ha : PE X a (tE X c W ea)) :
    PS X (.AugAssign (.Name x p) (opOf o) a pos) (tS X c W (.aug i o ea)) := by
  refine PS.imp (ps_aug hN hi hx ha (fun pins s σ H x y v u Q I rx ry h => op_ibin o pins s σ H x y v u Q I rx ry h) hf) fun D σh H ⟨Ψ, Φ, ρ, σ, env, ok, ev, f⟩ => ?_
  rw [exS] at f
  split at f
  · rename_i w e
    obtain ⟨v, h1, r1⟩ := ev.get i w e
    refine ⟨v, h1, ?_⟩
    refine tE_ok ok ev ((f.toO ev).bind.imp fun w2 s1 Φ1 ρ1 H1 _ _ _ f1 s1' p1 o1 y r2 => ?_)
    obtain ⟨u1, u2, e1, e2, f2⟩ := f1.rd2
    obtain ⟨r, e3, f3⟩ := f2.map1
    refine ⟨Φ1, u1, u2, r, o1.sub, peek_rp o1 (r1.mono s1' p1) e1, peek_rp o1 r2 e2, e3, fun z Φ2 H2 s2' o2 dz => ?_⟩
    have g := f3 Φ2 ρ1 H2 s2' (List.prefix_refl _) (o2 _ _ _ o1)
    exact g.nxt (o2 _ _ _ o1) (((ev.mono s1' p1).mono s2' (List.prefix_refl _)).set i dz)
  · exact f.elim
theorem get_data : PGet X (fun o i H Q => ∃ Φ u v r, Sub Φ H ∧ Rp Φ H o u ∧ Rp Φ H i v ∧ idxL u v = some r ∧ ∀ z, Dp K0 Φ z r → Q z H) := by
  intro pins s σ H o i ov iv Q I ro ri ⟨Φ, u, v, r, hs, hx, hy, e, q⟩
  unfold idxL at e
  split at e
  · rename_i xs k
    obtain ⟨a, vs, rfl, h1, h2⟩ := hx
    cases hy
    obtain ⟨w, e1, d1⟩ := atI_all h2 e
    cases ro
    obtain ⟨t, rfl⟩ := ri
    obtain ⟨its, rr, pl, hz⟩ := I.list (.inl h1)
    obtain ⟨j, h1, h2, h3, h4, h5⟩ := atI_get e1
    obtain ⟨u, ew, rw'⟩ := rr.get h2
    have hl := rr.length
    have hn := line63
    have fin : EP X pins σ Q u s := ⟨w, H, I, rw', q _ d1⟩
    by_cases h0 : 0 ≤ k
    · have hj : k.toNat = j := by
        rw [seqIndex_of h0 h5] at h1
        exact Option.some.inj h1
      exact wpAny_getItem_list pl.isList h0 (by omega) (by rw [hj]; simpa using ew) fin
    · have hj : (k + (its.toArray.size : Int)).toNat = j := by
        rw [seqIndex_neg (by omega) h4] at h1
        rw [List.size_toArray, ← hl]
        exact Option.some.inj h1
      exact wpAny_getItem_list_neg pl.isList (by omega) (by rw [List.size_toArray] <;> omega) (by omega) (by rw [hj]; simpa using ew) fin
  · cases e
theorem augSt_of {o i : Expr} (h : noSlice i = true) : ∀ ov iv new, augStore i ov iv new = (do holding [new, ov, iv] (setItem ov iv new); release [new, ov, iv] []; pure .next) := fun ov iv new => by
  cases i <;> first | rfl | cases h
theorem pS_augIx {o : Op2} {p : Pos} (hn : noSlice b = true) (ho : PE X a (tE X c W ea)) (hi : PE X b (tE X c W eb)) (hd : PE X d (tE X c W ed)) :
    PS X (.AugAssign (.Subscript a b p) (opOf o) d pos) (tS X c W (.augIx ea eb o ed)) := by
  refine PS.imp (ps_augS ho hi get_data hd (fun pins s σ H x y v u Q I rx ry h => op_ibin o pins s σ H x y v u Q I rx ry h) set_data (augSt_of (o := a) hn)) fun D σh H ⟨Ψ, Φ, ρ, σ, env, ok, ev, f⟩ => ?_
  rw [exS] at f
  have f := f.toO ev
  refine tE_ok ok ev (f.bind.imp fun w1 s1 Φ1 ρ1 H1 _ _ _ f1 s1' p1 o1 v1 r1 => ?_)
  have ev1 := ev.mono s1' p1
  refine tE_ok o1 ev1 (f1.bind.imp fun w2 s2 Φ2 ρ2 H2 _ _ _ f2 s2' p2 o2 v2 r2 => ?_)
  have ev2 := ev1.mono s2' p2
  have g1 := f2.bind
  obtain ⟨u1, u2, e1, e2, g2⟩ := g1.rd2
  obtain ⟨it, e3, g3⟩ := g2.of
  have f3 := g3.ok o2
  refine ⟨Φ2, u1, u2, it, o2.sub, peek_rp o2 (r1.mono s2' p2) e1, peek_rp o2 r2 e2, e3, fun z dz => ?_⟩
  refine tE_ok o2 ev2 (f3.bind.imp fun w3 s3 Φ3 ρ3 H3 _ _ _ f4 s3' p3 o3 v3 r3 => ?_)
  have ev3 := ev2.mono s3' p3
  have g4 := f4.bind
  obtain ⟨u3, e4, g5⟩ := g4.rd1
  obtain ⟨r, e5, g6⟩ := g5.of
  have f5 := g6.ok o3
  refine ⟨Φ3, it, u3, r, o3.sub, Rp.of_dp o3.sub (Dp.sub s3' dz), peek_rp o3 r3 e4, e5, fun q Φ4 H4 s4' o4 dq => ?_⟩
  have o4 := o4 _ _ _ o3
  refine ⟨Ψ, Φ4, ρ3, s3, w1, w2, r, o4, ((r1.mono s2' p2).mono s3' p3).mono s4' (List.prefix_refl _), (r2.mono s3' p3).mono s4' (List.prefix_refl _), dq, _, (f5.mono s4' (List.prefix_refl _)).imp fun _ s5 Φ5 ρ5 H5 s5' p5 o5 f6 => ?_⟩
  exact f6.nxt o5 ((ev3.mono s4' (List.prefix_refl _)).mono s5' p5)
end
end HB
/-! Seen from behind, repr, index, a written dict asked at once. -/
namespace HB
open PySem PySem.W PySem.Spec PyProof.Rows L2
section
variable {prog : Program} {w : World} {A : Around} {E : Value → Shared → Prop} {s : Shared}
theorem cut_back {sl : Addr} {vu vl : Value} {t : Tok} {n : Nat} {Q : Int × Int × Nat → Shared → Prop} (hs : s.heap.IsSliceOf sl vl vu (.int (-1) t)) (pl : IsPart vl none) (pu : IsPart vu none)
    (h : Q ((n : Int) - 1, -1, n) s) : wpAny (model prog w) A (Builtin.Slice.sliceApplied (.ref sl) (pure (n : Int))) Q E s := by
  obtain ⟨o, ho, hc, hd⟩ := hs
  unfold Builtin.Slice.sliceApplied Builtin.Slice.sliceFields
  refine wpAny_bind (wpAny_bind ?_)
  refine wpAny_field ho hd (x := vl) rfl ?_
  refine wpAny_bind (wpAny_field ho hd (x := vu) rfl ?_)
  refine wpAny_bind (wpAny_field ho hd (x := .int (-1) t) rfl (wpAny_pure ?_))
  refine wpAny_bind (HT.slicePart_ (.int (-1) t) ?_)
  show wpAny _ _ (if (((-1 : Int)) == 0) = true then _ else _) _ _ s
  rw [if_neg (by decide)]
  refine wpAny_bind (HT.slicePart_ pl ?_)
  refine wpAny_bind (HT.slicePart_ pu ?_)
  refine wpAny_bind (wpAny_pure ?_)
  have e : Builtin.Slice.sliceAdjust none none (-1) (n : Int) = ((n : Int) - 1, -1) := rfl
  show wpAny _ _ (match Builtin.Slice.sliceAdjust none none (-1) (n : Int) with | (lo, hi) => pure (lo, (-1 : Int), Builtin.Slice.slicePlaces lo hi (-1))) _ _ s
  rw [e]
  show wpAny _ _ (pure ((n : Int) - 1, (-1 : Int), Builtin.Slice.slicePlaces ((n : Int) - 1) (-1) (-1))) _ _ s
  have e2 : Builtin.Slice.slicePlaces ((n : Int) - 1) (-1) (-1) = n := by
    unfold Builtin.Slice.slicePlaces
    rw [if_neg (by decide)]
    split
    · have : ((n : Int) - 1 - -1 - 1) / (- -1) = (n : Int) - 1 := by
        have : (- -1 : Int) = 1 := rfl
        rw [this, Int.ediv_one]; omega
      rw [this]; omega
    · omega
  rw [e2]
  exact wpAny_pure h
theorem fm_congr {α β : Type} {f g : α → Option β} : ∀ {l : List α}, (∀ x ∈ l, f x = g x) → l.filterMap f = l.filterMap g
  | [], _ => rfl
  | x :: l, h => by
    rw [List.filterMap_cons, List.filterMap_cons, h x (by simp), fm_congr fun y hy => h y (by simp [hy])]
theorem pick_back (xs : Array Value) : ((List.range xs.size).filterMap fun (k : Nat) => xs[(((xs.size : Int) - 1) + (k : Int) * (-1)).toNat]?) = xs.toList.reverse := by
  apply List.ext_getElem?
  intro i
  have e : ((List.range xs.size).filterMap fun (k : Nat) => xs[(((xs.size : Int) - 1) + (k : Int) * (-1)).toNat]?) = (List.range xs.size).map fun k => xs.getD (xs.size - 1 - k) .none := by
    rw [← List.filterMap_eq_map (f := fun k => xs.getD (xs.size - 1 - k) .none)]
    refine fm_congr fun k hk => ?_
    have hk := List.mem_range.mp hk
    have e : (((xs.size : Int) - 1) + (k : Int) * (-1)).toNat = xs.size - 1 - k := by omega
    rw [e]
    have hl : xs.size - 1 - k < xs.size := by omega
    simp [hl]
  rw [e, List.getElem?_map]
  by_cases h : i < xs.size
  · have hl : xs.size - 1 - i < xs.size := by omega
    rw [List.getElem?_reverse (by simpa using h)]
    simp [h, hl]
  · rw [List.getElem?_eq_none (l := xs.toList.reverse) (by simpa using h)]
    simp [h]
theorem tup_back {t sl : Addr} {items : Array Value} {vl vu : Value} {k : Tok} {Q : Value → Shared → Prop} (ht : PyProof.Rows.IsTup s.heap t items) (hs : s.heap.IsSliceOf sl vl vu (.int (-1) k)) (pl : IsPart vl none) (pu : IsPart vu none)
    (h : Q (.ref s.heap.objs.size) { s with heap := s.heap.push { cls := .type "tuple", data := .seq items.toList.reverse.toArray } }) (hz : items.size ≤ sizeLine) : wpAny (model prog w) A (getItem (.ref t) (.ref sl)) Q E s := by
  have small : sizeOk (.seq items.toList.reverse.toArray) := by
    show items.toList.reverse.toArray.size ≤ sizeLine
    simpa using hz
  have ty : s.TypeIs (.ref sl) "slice" := by
    obtain ⟨o, ho, hc, _⟩ := hs
    exact ⟨o, ho, hc⟩
  unfold getItem
  try with_reducible refine wpAny_holding ?_
  first | refine wpAny_bind (wpAny_pure ?_) | skip
  refine wpAny_bind ?_
  refine wpAny_sequenceKey ht.typeIs (by decide) ?_
  refine wpAny_bind (wpAny_callSpecial?_slot (name := Str.ofString "__getitem__") ht.typeIs PyProof.Rows.slot_tuple_getitem ?_)
  refine wpAny_call_entry PyProof.Rows.slot_tuple_getitem ht.typeIs PyProof.Rows.entry_tuple_getitem ?_ (PyProof.Rows.args_tuple_getitem _ _)
  show wpAny _ _ (Builtin.Tuple.tupleItemsOf (.ref t) >>= _) _ _ s
  refine wpAny_bind ?_
  refine PyProof.Rows.tupleItemsOf_ ht ?_
  refine wpAny_bind ?_
  refine wpAny_typeOf ty ?_
  rw [if_pos (by decide)]
  refine wpAny_bind ?_
  refine cut_back hs pl pu ?_
  have no : ¬ ((((items.size : Int) - 1 == 0) && ((-1 : Int) == 1) && (items.size == items.size)) = true) := by simp
  show wpAny _ _ (if (((items.size : Int) - 1 == 0) && ((-1 : Int) == 1) && (items.size == items.size)) = true then _ else _) _ _ s
  rw [if_neg no, pick_back]
  first
    | exact wpAny_bind (m := Builtin.Tuple.tupleExact _) (wpAny_newObj_type (wpAny_pure ⟨_, rfl, wpAny_pure h⟩) small)
    | exact wpAny_bind (m := Builtin.Tuple.tupleExact _) (wpAny_newObj_type (wpAny_bind (wpAny_pure (wpAny_pure ⟨_, rfl, wpAny_pure h⟩))) small)
    | exact wpAny_bind (wpAny_bind (m := Builtin.Tuple.tupleExact _) (wpAny_newObj_type (wpAny_pure (wpAny_pure ⟨_, rfl, wpAny_pure h⟩)) small))
    | exact wpAny_bind (wpAny_bind (m := Builtin.Tuple.tupleExact _) (wpAny_newObj_type (wpAny_pure ⟨_, rfl, wpAny_pure h⟩) small))
end
end HB
/-! .. the rules. -/
namespace HB
open PySem PySem.W PySem.Spec PyProof.Rows L2
theorem run_back {α : Type} (xs : Array α) : (sliceRange ((xs.size : Int) - 1) (-1) (-1)).filterMap (xs[·]?) = xs.toList.reverse := by
  rw [krv_sliceRange, krv_range, List.filterMap_reverse, krv_all]
section
variable {X : Cx} {c : Calls} {W : WX} {T : Tab} {ea eb ed : Ex} {es : List Ex} {a b d : Expr} {as : List Expr} {pos : Pos}
theorem Out.lst {Φ H : Hp} {xs : List D} {Q : VK} (h : Out Φ H (.list xs) Q) (s : Sub Φ H) {vs : List V} (e : DpAll K0 Φ vs xs) {p : Addr} (hp : H p = none) : Q (.ref p) (upd H p (.lst vs)) := by
  have g : Sub Φ (upd Φ p (.lst vs)) := Sub.grow _ (s.free hp)
  exact h _ _ _ g (fun _ _ _ o => o.fresh hp _) (.lst (SqL.of upd_same) (DpAll.sub g e))
/-- x[::-1] -/
theorem pE_rev {k : Nat} {p1 p2 p3 : Pos} (ha : PE X a (tE X c W ea)) : PE X (.Subscript a (.Slice none none (some (.UnaryOp .USub (.Constant (.int 1) k p1) p2)) p3) pos) (tE X c W (.rev ea)) := by
  constructor
  intro pins s σ H Q I h
  have h' : tE X c W ea σ H fun x H1 => ∃ Φ u r, Sub Φ H1 ∧ Rp Φ H1 x u ∧ rev2 u = some r ∧ Out Φ H1 r Q := by
    obtain ⟨Ψ, Φ, ρ, st, env, o, ev, f⟩ := h
    rw [evE] at f
    refine tE_ok o ev (f.bind.imp fun w1 s1 Φ1 ρ1 H1 _ _ _ f1 s1' p1 o1 v1 r1 => ?_)
    obtain ⟨u, e1, f1⟩ := f1.rd1
    obtain ⟨r, e2, f1⟩ := f1.map1
    exact ⟨Φ1, u, r, o1.sub, peek_rp o1 r1 e1, e2, Out.of o1 f1⟩
  refine Subscript_ (thn (ha.run pins s σ H _ I h') fun v s1 ⟨x, H1, I1, r1, Φ, u, r, hs, hx, e, q⟩ => ?_)
  have hst : PO X (some (.UnaryOp .USub (.Constant (.int 1) k p1) p2)) (tPart (tUn (L2.rU fun (i : Int) => V.int (-i)) (L2.tC (.int 1)))) := po_some (pe_un un_neg pe_int)
  refine wpAny_Slice (thn (po_none.run pins s1 σ H1 (fun o H2 => o = none ∧ H2 = H1) I1 ⟨rfl, rfl⟩) fun vl s2 ⟨l, H2, I2, pl, el, e2⟩ => ?_)
  subst el e2
  refine thn (po_none.run pins s2 σ _ (fun o H3 => o = none ∧ H3 = H2) I2 ⟨rfl, rfl⟩) fun vu s3 ⟨u', H3, I3, pu, eu, e3⟩ => ?_
  subst eu e3
  refine thn (hst.run pins s3 σ _ (fun o H4 => o = some (-1) ∧ H4 = H3) I3 ⟨1, rfl, -1, rfl, rfl, rfl⟩) fun vs s4 ⟨o, H4, I4, ps, eo, e4⟩ => ?_
  subst eo e4
  have I5 : Inv X pins σ H4 { s4 with heap := s4.heap.push { cls := .type "slice", data := .fields #[vl, vu, vs] } } := I4.kept (t' := s4.toks) fun b ob q => Heap.get?_push_of_some _ q
  cases u <;> try (cases e; done)
  · rename_i y
    cases hx
    obtain ⟨tk, rfl⟩ := r1
    simp only [rev2] at e
    split at e
    · rename_i hz
      cases e
      show wpAny (model X.prog X.w) X.A (subscriptTail a (.Slice none none (some (.UnaryOp .USub (.Constant (.int 1) k p1) p2)) p3) (.str y tk) (.ref s4.heap.objs.size)) (EP X pins σ Q) X.xe { s4 with heap := s4.heap.push { cls := .type "slice", data := .fields #[vl, vu, vs] } }
      refine tail_any (ops := [.str y tk, .ref s4.heap.objs.size]) (typeIs_str _ _ _) (PySem.F.slot_str_getitem.lookup) ?_ (by with_unfolding_all rfl)
      cases pl
      cases pu
      obtain ⟨kt, rfl⟩ : ∃ kt, vs = Value.int (-1) kt := by cases ps; exact ⟨_, rfl⟩
      refine wpAny_getItem_str_slice (l := none) (u := none) (st := some (-1, kt)) ⟨_, Heap.get?_push_size _ rfl, rfl, rfl⟩ rfl ?_
      unfold sliceMade
      rw [if_neg (by simp)]
      have e3 : (slicePicked y none none (some (-1, kt))).filterMap (y.cps[·]?) = y.cps.toList.reverse := run_back y.cps
      rw [e3]
      refine ⟨?_, .str _, _, I5.tok _, ⟨_, rfl⟩, q.old (.str _)⟩
      have : y.length ≤ 1000000 := hz
      have e4 : Str.length ⟨y.cps.toList.reverse.toArray⟩ = y.length := by simp [Str.length]
      rw [e4]
      exact Nat.le_trans this (by decide)
    · cases e
  · rename_i xs
    obtain ⟨l, ws, rfl, h3, h4⟩ := hx
    cases r1
    cases e
    obtain ⟨its, r, ht, hz⟩ := I5.list (.inl h3)
    have hlen := r.length
    show wpAny (model X.prog X.w) X.A (subscriptTail a (.Slice none none (some (.UnaryOp .USub (.Constant (.int 1) k p1) p2)) p3) (.ref l) (.ref s4.heap.objs.size)) (EP X pins σ Q) X.xe { s4 with heap := s4.heap.push { cls := .type "slice", data := .fields #[vl, vu, vs] } }
    refine tail_any (ops := [.ref l, .ref s4.heap.objs.size]) ht.isList.typeIs (PySem.slot_list_getitem.lookup) ?_ (by with_unfolding_all rfl)
    refine wpAny_getItem_list_slice ht.isList (Heap.IsSliceOf.new _ vl vu vs) pl pu ps (by decide) ?_ (by rw [List.size_toArray]; omega)
    rw [krv_pick]
    refine ⟨.ref _, _, I5.laid (t' := s4.toks) (o := .lst ws.reverse) (fun b ob q => Heap.get?_push_of_some _ q) (Nat.le_refl _) ?_, rfl, Out.lst q hs (DpAll.reverse h4) (I5.hok.fresh (Nat.le_refl _))⟩
    exact ⟨by rw [List.length_reverse]; exact hz, _, 0, r.reverse, Heap.get?_push_size _ rfl⟩
  · rename_i xs
    cases hx with
    | tup h3 h4 =>
    rename_i t ws
    cases r1
    cases e
    obtain ⟨its, r, ht, hz⟩ := I5.tuple (SqT.sub hs h3)
    have hlen := r.length
    show wpAny (model X.prog X.w) X.A (subscriptTail a (.Slice none none (some (.UnaryOp .USub (.Constant (.int 1) k p1) p2)) p3) (.ref t) (.ref s4.heap.objs.size)) (EP X pins σ Q) X.xe { s4 with heap := s4.heap.push { cls := .type "slice", data := .fields #[vl, vu, vs] } }
    refine tail_any (ops := [.ref t, .ref s4.heap.objs.size]) ht.typeIs (PyProof.Rows.slot_tuple_getitem.lookup) ?_ (by with_unfolding_all rfl)
    cases ps
    refine tup_back ht (Heap.IsSliceOf.new _ vl vu _) pl pu ?_ (by rw [List.size_toArray]; omega)
    refine ⟨.ref _, _, I5.laid (t' := s4.toks) (o := .tup ws.reverse) (fun b ob q => Heap.get?_push_of_some _ q) (Nat.le_refl _) ?_, rfl, Out.new q hs (DpAll.reverse h4) (I5.hok.fresh (Nat.le_refl _))⟩
    exact ⟨by rw [List.length_reverse]; omega, _, r.reverse, IsTup.new _ _⟩
mutual
theorem nd_plain : ∀ {d : D}, d.plain = true → d.hasDict = false
  | .none, _ => rfl
  | .bool _, _ => rfl
  | .int _, _ => rfl
  | .str _, _ => rfl
  | .list xs, h => by simpa [PyData.hasDict] using nd_plains (ds := xs) (by simpa [PyData.plain] using h)
  | .tuple xs, h => by simpa [PyData.hasDict] using nd_plains (ds := xs) (by simpa [PyData.plain] using h)
  | .dict _, h => by cases h
theorem nd_plains : ∀ {ds : List D}, PyData.plainAll ds = true → PyData.hasDictAll ds = false
  | [], _ => rfl
  | d :: ds, h => by
    simp only [PyData.plainAll, Bool.and_eq_true] at h
    simp [PyData.hasDictAll, nd_plain h.1, nd_plains h.2]
end
/-- repr(x) -/
theorem call_repr_ (gd : X.A.guards = some []) (hu : X.A.units + 100 < cLine) : CallR X (.builtin "repr") (rPr .repr) := by
  intro pins s σ H vs us Q I rv ⟨Φ, ds, r, hs, hv, e, q⟩
  cases hv with
  | nil => cases e
  | cons h1 h2 =>
    rename_i d ds'
    cases h2 with
    | cons _ _ => simp [prim] at e
    | nil =>
      simp only [prim] at e
      split at e
      · rename_i hc
        simp only [Bool.and_eq_true, decide_eq_true_eq] at hc
        obtain ⟨⟨⟨hp, hsh⟩, hd⟩, hz⟩ := hc
        cases e
        have q := q.old (.str _)
        have hz' : d.shown.length ≤ sizeLine := Nat.le_trans hz (by decide)
        cases rv with
        | cons r1 r2 =>
        cases r2
        have dp := Rp.dp (K := X.K) hs h1
        have road : ∀ a, d.hasDict = false → ∀ as, Reads s.heap (.ref a) d as → wpAny (model X.prog X.w) X.A (call (.builtin "repr") [.ref a]) (EP X pins σ Q) X.xe s := fun a hn as rd =>
          repr_of_reads' rd hsh (fun z => by rw [hn] at z; cases z) gd (by omega) (fun _ _ z => z) (fun h' u tk hk => ⟨.str _, H, I.kept (t' := tk) hk, ⟨_, rfl⟩, q⟩) hz'
        cases d with
        | none => cases h1; cases r1; exact PySem.P.repr_of_none ⟨.str _, H, I.tok _, ⟨_, rfl⟩, q⟩
        | bool b => cases h1; cases r1; exact PySem.P.repr_of_bool ⟨.str _, H, I.tok _, ⟨_, rfl⟩, q⟩
        | int i => cases h1; obtain ⟨t, rfl⟩ := r1; exact PySem.P.repr_of_int (of_decide_eq_true hsh) ⟨.str _, H, I.tok _, ⟨_, rfl⟩, q⟩
        | str x => cases h1; obtain ⟨t, rfl⟩ := r1; exact PySem.P.repr_of_str ⟨.str _, H, I.tok _, ⟨_, rfl⟩, q⟩ hz'
        | list xs =>
          obtain ⟨a, ws, rfl, _, _⟩ := id h1
          cases r1
          obtain ⟨as, rd⟩ := reads_of I dp rfl
          exact road a (nd_plain hp) as rd
        | tuple xs =>
          cases h1 with
          | tup h3 h4 =>
          cases r1
          obtain ⟨as, rd⟩ := reads_of I dp rfl
          exact road _ (nd_plain hp) as rd
        | dict _ => cases hp
      · cases e
/-- s.index(t), found -/
theorem md_index : MtR X "str.index" (rMd .index) := by
  intro pins s σ H x vs v us Q I rx rv ⟨Φ, u, ds, r, hs, hx, hv, e, q⟩
  cases hv with
  | nil => cases u <;> cases e
  | cons h1 h2 =>
    rename_i d ds
    cases h2 with
    | cons _ _ => cases u <;> simp [mthD] at e
    | nil =>
      cases u <;> try (simp [mthD] at e; done)
      cases d <;> try (simp [mthD] at e; done)
      rename_i y z
      cases hx
      cases h1
      obtain ⟨t1, rfl⟩ := rx
      cases rv with
      | cons r1 r2 =>
      cases r2
      obtain ⟨t2, rfl⟩ := r1
      simp only [mthD, Txt.index0] at e
      cases q2 : Builtin.Str.occurrences y z 0 y.length 1 with
      | nil => rw [q2] at e; simp at e
      | cons k rest =>
        rw [q2] at e
        simp at e
        subst e
        exact PySem.SC.index q2 ⟨.int (k : Nat), H, I.tok _, ⟨_, rfl⟩, q.old (.int _)⟩
end
end HB
/-! {..}[x]: a written dict of texts, asked at once. -/
namespace HB
open PySem PySem.W PySem.Spec PyProof.Rows L2
def kvD (kvs : List (Str × Str)) : List (Key × V) := kvs.map fun p => (Sum.inr p.1, V.str p.2)
def kvTr (kvs : List (Str × Str)) : List (TE × TE) := kvs.map fun p => (L2.tC (.str p.1), L2.tC (.str p.2))
def kvLook (kvs : List (Str × Str)) : Bool := kvs.all fun p => decide (kvs.lookup p.1 = some p.2) && decide (valV (mergeK [] (kvD kvs)) (Sum.inr p.1) = some (V.str p.2))
def chkKv : List (Str × Str) → List (Option Expr) → List Expr → Bool
  | [], [], [] => true
  | (a, b) :: r, some (.Constant (.str x) _ _) :: ks, .Constant (.str y) _ _ :: vs => decide (a = x) && decide (b = y) && chkKv r ks vs
  | _, _, _ => false
section
variable {X : Cx} {c : Calls} {W : WX} {T : Tab} {ea eb ed : Ex} {es : List Ex} {a b d : Expr} {as : List Expr} {pos : Pos}
theorem kv_pairs : ∀ {kvs : List (Str × Str)} {ks : List (Option Expr)} {vs : List Expr}, chkKv kvs ks vs = true → PPs X pos ks vs (kvTr kvs) ∧ ks.all (·.isSome) = true ∧ ks.length = vs.length ∧ ks.length = kvs.length
  | [], ks, vs, h => by
    cases ks with
    | nil => cases vs with
      | nil => exact ⟨pps_nil, rfl, rfl, rfl⟩
      | cons _ _ => simp [chkKv] at h
    | cons _ _ => simp [chkKv] at h
  | p :: r, ks, vs, h => by
    obtain ⟨x, y⟩ := p
    unfold chkKv at h
    split at h
    · rename_i e; cases e
    · rename_i e; cases e
      simp only [Bool.and_eq_true, decide_eq_true_eq] at h
      obtain ⟨⟨rfl, rfl⟩, h⟩ := h
      obtain ⟨k1, k2, k3, k4⟩ := kv_pairs h
      exact ⟨pps_cons pe_str pe_str k1, by simp [k2], by simp [k3], by simp [k4]⟩
    · cases h
theorem kv_run {σ : L2.St} {H : Hp} {Q : List (V × V) → Hp → Prop} : ∀ {kvs : List (Str × Str)} {Q : List (V × V) → Hp → Prop}, Q ((kvD kvs).map fun kv => (kV kv.1, kv.2)) H → tPairs (kvTr kvs) σ H Q
  | [], _, q => q
  | p :: r, Q, q => by
    show tPairs (kvTr r) σ H fun ps H3 => Q ((V.str p.1, V.str p.2) :: ps) H3
    exact kv_run (Q := fun ps H3 => Q ((V.str p.1, V.str p.2) :: ps) H3) q
/-- one object more is watched -/
theorem Fin.watch {α : Type} {Ψ Φ : Hp} {ρ : List Addr} {r : R α} {P : α → Sto → Hp → List Addr → Hp → Prop} {E : Xn → Hp → Prop} {p : Addr} {u : HO} (n : Ψ p = none) (f : Fin Ψ Φ ρ r P E) :
    Fin (upd Ψ p u) Φ ρ r (fun a s Φ' ρ' H' => H' p = some u ∧ Ok Ψ Φ' ρ' s H' ∧ P a s Φ' ρ' H') E := by
  have less : ∀ {Φ' : Hp} {ρ' : List Addr} {s : Sto} {H' : Hp}, Ok (upd Ψ p u) Φ' ρ' s H' → Ok Ψ Φ' ρ' s H' := fun o =>
    ⟨fun a v e => o.pin a v (by rw [upd_ne (ne_of_none e n)]; exact e), o.sub, o.nd, o.len, o.cell⟩
  cases r with
  | ok a s => exact fun Φ' ρ' H' s1 p1 o => ⟨(o.pin p u upd_same).1, less o, f Φ' ρ' H' s1 p1 (less o)⟩
  | ex x s => exact fun Φ' ρ' H' s1 p1 o => f Φ' ρ' H' s1 p1 (less o)
  | bad => exact f
theorem look_mem {key v : Str} : ∀ {kvs : List (Str × Str)}, kvs.lookup key = some v → ∃ p ∈ kvs, p.1 = key
  | [], h => by cases h
  | q :: qs, h => by
    obtain ⟨a, b⟩ := q
    by_cases e : key = a
    · exact ⟨(a, b), by simp, e.symm⟩
    · have : (key == a) = false := by simpa using e
      rw [List.lookup_cons, this] at h
      obtain ⟨p, hp, he⟩ := look_mem h
      exact ⟨p, by simp [hp], he⟩
theorem pE_dlk {kvs : List (Str × Str)} {ks : List (Option Expr)} {vs : List Expr} {p2 : Pos} (hu : X.A.units + 100 < cLine) (hk : chkKv kvs ks vs = true) (hl : kvLook kvs = true) (h0 : kvs ≠ []) (h15 : kvs.length ≤ 15) (hn : noSlice a = true) (ha : PE X a (tE X c W ea)) :
    PE X (.Subscript (.Dict ks vs p2) a pos) (tE X c W (.dlk kvs ea)) := by
  obtain ⟨k1, k2, k3, k4⟩ := kv_pairs (X := X) (pos := p2) hk
  have hd := pe_disp k1 k2 k3 (fun z => h0 (by rw [z] at k4; exact List.length_eq_zero_iff.mp k4.symm)) (by omega)
  refine PE.imp (pe_dget (by omega) hd ha (fun o i => by cases a <;> first | rfl | cases hn)) fun σh H Q ⟨Ψ, Φ, ρ, σ, env, o, ev, f⟩ => ?_
  intro p hp
  refine kv_run (σ := σh) (H := upd H p (.dK [])) (Q := fun _ _ => True) ?_
  refine ⟨upd_same, kvD kvs, rfl, by unfold kvD; simpa using h15, ?_⟩
  rw [upd_upd]
  rw [evE] at f
  have np := o.unpinned hp
  have o1 := o.pinNew hp (HO.dK (mergeK [] (kvD kvs)))
  refine ⟨upd Ψ p (.dK (mergeK [] (kvD kvs))), Φ, ρ, σ, env, o1, ev, (Fin.watch np f.bind).imp fun w s1 Φ1 ρ1 H1 s1' p1 o2 ⟨hp1, o3, f1⟩ v r => ?_⟩
  obtain ⟨u, e1, f2⟩ := f1.rd1
  obtain ⟨r', e2, f3⟩ := f2.map1
  have hr := peek_rp o3 r e1
  cases u <;> try (cases e2; done)
  rename_i key
  cases hr
  simp only [look, Option.map_eq_some_iff] at e2
  obtain ⟨val, e3, e4⟩ := e2
  subst e4
  have hm := look_mem e3
  obtain ⟨q, hq, rfl⟩ := hm
  have := List.all_eq_true.mp hl q hq
  simp only [Bool.and_eq_true, decide_eq_true_eq] at this
  rw [this.1] at e3
  cases e3
  refine ⟨p, V.str q.2, rfl, ?_, f3.ok o3 _ (.str _)⟩
  have g := DGet.k (k := Sum.inr q.1) hp1
  rw [this.2] at g
  exact g
end
end HB
/-! enumerate and zip over lists, tuples, texts of any kind. -/
namespace HB
open PySem PySem.W PySem.Spec PyProof.Rows L2
/-- what is gone through: a list, a tuple, a text -/
inductive Sk where
  | l (a : Addr) | t (a : Addr) | s (x : Str)
def Sk.st (k : Sk) (it : Addr) (i : Nat) (h : Heap) : Prop := match k with
  | .l a => h.IsListIter it a i
  | .t a => h.IsTupleIter it a i
  | .s x => ∃ t, h.IsStrIter it (strIterType x) x t i
def Sk.len (K : PySem.W.Frag) (k : Sk) (n : Nat) (H : Hp) : Prop := match k with
  | .l a => ∃ xs, SqL K H a xs ∧ xs.length = n
  | .t a => ∃ xs, SqT K H a xs ∧ xs.length = n
  | .s x => x.cps.size = n
def Sk.item (K : PySem.W.Frag) (k : Sk) (i : Nat) (H : Hp) (y : V) : Prop := match k with
  | .l a => ∀ xs, SqL K H a xs → xs[i]? = some y
  | .t a => ∀ xs, SqT K H a xs → xs[i]? = some y
  | .s x => ∃ c, x.cps[i]? = some c ∧ y = .str ⟨#[c]⟩
def Sk.aux : Sk → List Addr
  | .l a => [a]
  | .t a => [a]
  | .s _ => []
theorem Sk.keep {k : Sk} {it : Addr} {i : Nat} {h h' : Heap} (x : k.st it i h) (e : ∀ o, h.get? it = some o → h'.get? it = some o) : k.st it i h' := by
  cases k with
  | l a => obtain ⟨o, ho, r⟩ := x; exact ⟨o, e o ho, r⟩
  | t a => obtain ⟨o, ho, r⟩ := x; exact ⟨o, e o ho, r⟩
  | s y => obtain ⟨t, o, ho, r⟩ := x; exact ⟨t, o, e o ho, r⟩
theorem Sk.live {k : Sk} {it : Addr} {i : Nat} {h : Heap} (x : k.st it i h) : ∃ o, h.get? it = some o ∧ ∀ v, o.data ≠ .cell v := by
  cases k with
  | l a => obtain ⟨o, ho, _, hd⟩ := x; exact ⟨o, ho, fun v q => by rw [hd] at q; cases q⟩
  | t a => obtain ⟨o, ho, _, hd⟩ := x; exact ⟨o, ho, fun v q => by rw [hd] at q; cases q⟩
  | s y => obtain ⟨t, o, ho, _, hd⟩ := x; exact ⟨o, ho, fun v q => by rw [hd] at q; cases q⟩


section
variable {X : Cx} {pins : List (Addr × Obj)} {σ : L2.St} {H : Hp} {s : Shared}
theorem it_ne_of_cls {h : Heap} {a b : Addr} {o1 o2 : Obj} {n1 n2 : String} (e1 : h.get? a = some o1) (c1 : o1.cls = .type n1) (e2 : h.get? b = some o2) (c2 : o2.cls = .type n2) (hn : n1 ≠ n2) : a ≠ b := fun q => by
  subst q
  rw [e1] at e2; cases e2
  rw [c1] at c2
  exact hn (by injection c2)
/-- the items of a source, drawn -/
theorem Sk.draws (I : Inv X pins σ H s) (hc : X.calm = true) {k : Sk} {it : Addr} {i n : Nat} (x : k.st it i s.heap) (hn : k.len X.K n H) : ∃ (P : Nat → Value → Prop) (St : Nat → Heap → Prop), Draws X.prog X.w X.A.in1 it (it :: k.aux) n P St ∧ St i s.heap ∧ (∀ j h, St j h → k.st it j h) ∧
    (∀ j u, P j u → ∃ y, RelV y u ∧ k.item X.K j H y) ∧ ∀ a ∈ k.aux, ∃ o xs m, s.heap.get? a = some o ∧ o.data = .seq xs m := by
  have hh : X.A.in1.handled = none := I.ok.hd hc
  cases k with
  | l a =>
    obtain ⟨xs, hq, hl⟩ := hn
    obtain ⟨its, rv, p, hz⟩ := I.list hq
    have hne : a ≠ it := by
      obtain ⟨o, e, hcl, hd⟩ := id x
      obtain ⟨o2, e2, hc2, _⟩ := p.isList
      exact it_ne_of_cls e2 hc2 e hcl (by decide)
    have hsz : its.toArray.size = n := by rw [List.size_toArray, ← rv.length, hl]
    refine ⟨_, _, hsz ▸ Draws.list hh it a hne its.toArray, ⟨x, p.isList⟩, fun j h q => q.1, fun j u hu => ?_, fun b hb => ?_⟩
    · obtain ⟨y, h1, h2⟩ := vals_idx rv (i := j) (by simpa using hu)
      exact ⟨y, h2, fun ys hy => by rw [I.list_inj hy hq]; exact h1⟩
    · have : b = a := by simpa [Sk.aux] using hb
      subst this
      obtain ⟨o2, e2, _, m, d2⟩ := p.isList
      exact ⟨o2, _, m, e2, d2⟩
  | t a =>
    obtain ⟨xs, hq, hl⟩ := hn
    obtain ⟨its, rv, p, hz⟩ := I.tuple hq
    have hne : a ≠ it := by
      obtain ⟨o, e, hcl, hd⟩ := id x
      obtain ⟨o2, e2, hc2, _⟩ := id p
      exact it_ne_of_cls e2 hc2 e hcl (by decide)
    have hsz : its.toArray.size = n := by rw [List.size_toArray, ← rv.length, hl]
    refine ⟨_, _, hsz ▸ Draws.tuple hh it a hne its.toArray, ⟨x, p⟩, fun j h q => q.1, fun j u hu => ?_, fun b hb => ?_⟩
    · obtain ⟨y, h1, h2⟩ := vals_idx rv (i := j) (by simpa using hu)
      exact ⟨y, h2, fun ys hy => by rw [I.tuple_inj hy hq]; exact h1⟩
    · have : b = a := by simpa [Sk.aux] using hb
      subst this
      obtain ⟨o2, e2, _, m, d2⟩ := id p
      exact ⟨o2, _, m, e2, d2⟩
  | s y =>
    obtain ⟨t, x⟩ := x
    have hsz : y.cps.size = n := hn
    refine ⟨_, _, hsz ▸ Draws.text hh it y t, x, fun j h q => ⟨t, q⟩, fun j u hu => ?_, fun b hb => by simp [Sk.aux] at hb⟩
    obtain ⟨c, u', hc', rfl⟩ := hu
    exact ⟨.str ⟨#[c]⟩, ⟨u', rfl⟩, c, hc', rfl⟩
theorem Sk.lt {k : Sk} {it : Addr} {i : Nat} {h : Heap} (x : k.st it i h) : it < h.objs.size := by
  obtain ⟨o, e, _⟩ := Sk.live x; exact Heap.lt_size e
end
/-- enumerate over a source -/
def IteG (K : PySem.W.Frag) (k : Sk) : L2.It :=
  ⟨fun i H => ∃ n, k.len K n H ∧ i < n, fun i H v H' => ∃ T x, v = .ref T ∧ H T = none ∧ H' = upd H T (.tup [.int (i : Nat), x]) ∧ k.item K i H x, fun i H => k.len K i H⟩
theorem turn_enumG {P : Program} {w : World} {K : PySem.W.Frag} {elts : List Expr} {kk : Nat} {tpos : Pos} (k : Sk) (e it : Addr) :
    Turn P w K (.Tuple elts kk tpos) (IteG K k) [e, it] e (fun i h => (∃ old, IsEnum h e it ((i : Nat) : Int) old) ∧ k.st it i h ∧ e ≠ it) where
  mem := by simp
  obj := fun i h st b hb => by
    obtain ⟨⟨old, he⟩, hs, _⟩ := st
    have e' : b = e ∨ b = it := by simpa using hb
    rcases e' with z | z
    · rw [z]; exact ⟨_, he, fun v q => nomatch q⟩
    · rw [z]; exact Sk.live hs
  keep := fun i h h' st k => let ⟨⟨old, he⟩, hi, hne⟩ := st; ⟨⟨old, k e (by simp) _ he⟩, Sk.keep hi fun o q => k it (by simp) o q, hne⟩
  item := by
    intro X hP hw hK hc i pins s σ H E I hf st hg
    subst hP hw hK
    obtain ⟨⟨old, he⟩, hit, hne⟩ := st
    obtain ⟨n, hn, hx⟩ := hg
    obtain ⟨P, St, D, st0, toSt, toIt, ax⟩ := Sk.draws I hc hit hn
    have hel : e < s.heap.objs.size := Heap.lt_size he
    have hil : it < s.heap.objs.size := Sk.lt hit
    have hef : e ∉ it :: k.aux := fun q => by
      rcases List.mem_cons.mp q with q | q
      · exact hne q
      · obtain ⟨o, xs, m, e1, d1⟩ := ax _ q
        have he' := he
        unfold IsEnum at he'
        rw [e1] at he'; cases he'; cases d1
    refine wpAny_pyNext_enum_itemC (c := ((i : Nat) : Int)) D he st0 hx hne hef fun u h' tk hP ho st' hT hsz hk => ?_
    obtain ⟨y, ry, iy⟩ := toIt _ _ hP
    refine ⟨_, rfl, wpAny_letOwnedTupleGo_enum (s := { s with heap := h', toks := tk + 1 }) ho fun h'' he' sb => ?_⟩
    have hT2 : h''.get? s.heap.objs.size = some { cls := .type "tuple", data := .seq #[.int i tk, u] } := (sb.2 _ (Nat.ne_of_gt hel)).trans hT
    have new : ObjOk X.prog X.w (upd H s.heap.objs.size (.tup [.int (i : Nat), y])) h'' s.heap.objs.size (.tup [.int (i : Nat), y]) :=
      ⟨by show 2 ≤ sizeLine; decide, [.int i tk, u], .cons ⟨_, rfl⟩ (.cons ry .nil), ⟨_, hT2, rfl, _, rfl⟩⟩
    have I1 : Inv X pins σ (upd H s.heap.objs.size (.tup [.int (i : Nat), y])) { s with heap := h'', toks := tk + 1 } :=
      I.turnedNew (ch := [e, it]) (fun b ob hb q => (sb.2 b (fun z => hb (by simp [z]))).trans (hk b ob (fun z => hb (by simp [z])) (fun z => hb (by simp [z])) q)) hf (Nat.le_refl _) new
    refine ⟨.ref s.heap.objs.size, _, I1, rfl, ⟨_, y, rfl, I.hok.fresh (Nat.le_refl _), rfl, iy⟩, ⟨⟨u, ?_⟩, Sk.keep (toSt _ _ st') fun o q => (sb.2 it (Ne.symm hne)).trans q, hne⟩, fun b hb => ?_⟩
    · have e1 : ((i + 1 : Nat) : Int) = (i : Int) + 1 := by omega
      rw [e1]; exact he'
    · have hb' : b < s.heap.objs.size := by
        have e' : b = e ∨ b = it := by simpa using hb
        rcases e' with z | z
        · rw [z]; exact hel
        · rw [z]; exact hil
      rw [upd_ne (Nat.ne_of_lt hb')]
      exact (hf b hb).1
  done := by
    intro X hP hw hK hc i pins s σ H E I hf st hg
    subst hP hw hK
    obtain ⟨⟨old, he⟩, hit, hne⟩ := st
    obtain ⟨P, St, D, st0, toSt, toIt, ax⟩ := Sk.draws I hc hit hg
    obtain ⟨f0, f1, f2, f3, f4, f5⟩ := hf it (by simp)
    exact wpAny_pyNext_enum_endD D he st0 fun h' eb => ⟨rfl, I.turned (t' := s.toks) (fun b o hb q => eb b o hb q) f0 f1 f3 f4 f5⟩
  self := fun A i s Q E st h => let ⟨⟨_, he⟩, _⟩ := st; wpAny_pyIter_enum he h
set_option maxHeartbeats 4000000 in
theorem meets_enumerate_new1 {v : Value} {o : Obj} {H : Heap → Prop} (B : Begins v o H) :
    Meets (Builtin.«enumerate.__new__» ⟨[.type "enumerate", v], []⟩) (fun _ R s => H s.heap ∧
      R (.ok (.ret (.ref (s.heap.push o).objs.size))) { s with heap := (s.heap.push o).push { cls := .type "enumerate", data := .fields #[.none, .bool false, .ref s.heap.objs.size, rawInt 0, .none, .none] } }) :=
  .of_wp fun prog w A R s h => by
    obtain ⟨hp, g, d, tk, os⟩ := s; obtain ⟨h1, h⟩ := h
    have hsub := sub_enumerate
    have q1 : ∀ {A' : Around} {E : Value → Shared → Prop} {Q : Value → Shared → Prop}, Q (.ref hp.objs.size) ⟨hp.push o, g, d, tk, os⟩ → wpAny (model prog w) A' (pyIter v) Q E ⟨hp, g, d, tk, os⟩ :=
      fun q => B.iter prog w _ _ ⟨hp, g, d, tk, os⟩ _ h1 q
    wp_walk using q1
    refine wpAny_stack_any fun st => wpAny_pure ?_
    split
    · rename_i c _ _ _ _ _
      cases (c == Value.type "enumerate")
      · wp_walk using q1
        exact ⟨_, rfl, h⟩
      · wp_walk using q1
        exact ⟨_, rfl, h⟩
    · wp_walk using q1
      exact ⟨_, rfl, h⟩
theorem enum_begins1 {prog : Program} {w : World} {A : Around} {E : Value → Shared → Prop} {s : Shared} {v : Value} {o : Obj} {H : Heap → Prop} {Q : Value → Shared → Prop} (B : Begins v o H) (h1 : H s.heap)
    (h : ∀ h', IsEnum h' (s.heap.objs.size + 1) s.heap.objs.size 0 .none → h'.get? s.heap.objs.size = some o → h'.objs.size = s.heap.objs.size + 2 →
      (∀ b o, s.heap.get? b = some o → h'.get? b = some o) → Q (.ref (s.heap.objs.size + 1)) { s with heap := h' }) :
    wpAny (model prog w) A (call (.type "enumerate") [v]) Q E s := by
  refine callType_new F.called_enumerate (by decide) (F.typeCall_enumerate_1 _) (F.newCall_enumerate_1 _) (fun obj => F.args_object_init_2 obj _) F.entry_enumerate_new
    (meets_enumerate_new1 B) ⟨h1, ?_⟩
  have hz : (s.heap.push o).objs.size = s.heap.objs.size + 1 := Heap.size_push ..
  show _ ∧ _
  rw [hz]
  have he : IsEnum ((s.heap.push o).push { cls := .type "enumerate", data := .fields #[.none, .bool false, .ref s.heap.objs.size, rawInt 0, .none, .none] }) (s.heap.objs.size + 1) s.heap.objs.size 0 .none := by
    have := Heap.get?_push_size (s.heap.push o) (o := { cls := .type "enumerate", data := .fields #[.none, .bool false, .ref s.heap.objs.size, rawInt 0, .none, .none] }) rfl
    rw [hz] at this; exact this
  refine ⟨⟨_, he, rfl⟩, h _ he (Heap.get?_push_of_some _ (Heap.get?_push_size _ B.free)) (by rw [Heap.size_push, hz]) fun b o x => Heap.get?_push_of_some _ (Heap.get?_push_of_some _ x)⟩
/-- what a source's value is -/
def Sk.val : Sk → V → Prop
  | .l a, v => v = .ref a
  | .t a, v => v = .ref a
  | .s x, v => v = .str x
/-- a source begins -/
theorem Sk.begins {X : Cx} {pins : List (Addr × Obj)} {σ : L2.St} {H : Hp} {s : Shared} (I : Inv X pins σ H s) {k : Sk} {v : V} {u : Value} (e : k.val v) (r : RelV v u) {n : Nat} (hn : k.len X.K n H) :
    ∃ o HH, Begins u o HH ∧ HH s.heap ∧ ∀ it h', h'.get? it = some o → k.st it 0 h' := by
  cases k with
  | l a =>
    cases e
    obtain rfl : u = Value.ref a := r
    obtain ⟨xs, hq, hl⟩ := hn
    obtain ⟨its, rv, p, hz⟩ := I.list hq
    exact ⟨_, _, begins_list a its.toArray, p.isList, fun it h' q => ⟨_, q, rfl, rfl⟩⟩
  | t a =>
    cases e
    obtain rfl : u = Value.ref a := r
    obtain ⟨xs, hq, hl⟩ := hn
    obtain ⟨its, rv, p, hz⟩ := I.tuple hq
    exact ⟨_, _, begins_tuple a its.toArray, p, fun it h' q => ⟨_, q, rfl, rfl⟩⟩
  | s x =>
    cases e
    obtain ⟨t, rfl⟩ := r
    exact ⟨_, _, begins_text x t, trivial, fun it h' q => ⟨t, _, q, rfl, rfl⟩⟩
def iEnumG (K : PySem.W.Frag) (ta : TA) : TI := fun σ H R => ta σ H fun vs H1 => ∃ k n v, vs = [v] ∧ Sk.val k v ∧ Sk.len K k n H1 ∧ R (IteG K k) H1
theorem pi_enumG {X : Cx} {e : Expr} {ta : TA} {p pos tpos : Pos} {elts : List Expr} {kk : Nat} (hg : Gl X "enumerate") (hm : X.mg "enumerate" = none) (ha : PA X [e] ta) (hs : starEach [e] X.env = [(false, eval e X.env)] := by rfl) :
    PI X (.Tuple elts kk tpos) (.Call (.Name "enumerate" p) [e] [] pos) (iEnumG X.K ta) := by
  refine ⟨fun pins s σ H R I h => ?_⟩
  refine Call_ (ld_blt I hg hm boot_enumerate (PyProof.Rows.callWith_type1 (thn (ha.run pos pins s σ H _ I h) fun us s1 ⟨vs, H1, I1, r1, q1⟩ => ?_) hs rfl))
  obtain ⟨k, n, v, ex, hv, hn, q⟩ := q1
  subst ex
  cases r1 with
  | cons r rr =>
    cases rr
    obtain ⟨o, HH, B, hB, hst⟩ := Sk.begins I1 hv r hn
    refine enum_begins1 B hB fun h' he hit hsz hk => wpAny_pyIter_enum he ?_
    have I2 : Inv X pins σ H1 { s1 with heap := h' } := I1.kept (t' := s1.toks) hk
    refine ⟨s1.heap.objs.size + 1, [s1.heap.objs.size + 1, s1.heap.objs.size], _, _, H1, rfl, I2, turn_enumG k (s1.heap.objs.size + 1) s1.heap.objs.size, ⟨⟨.none, he⟩, hst _ _ hit, Nat.succ_ne_self _⟩, fun b hb => ?_, q⟩
    have e' : b = s1.heap.objs.size + 1 ∨ b = s1.heap.objs.size := by simpa using hb
    have hle : s1.heap.objs.size ≤ b := by
      rcases e' with z | z
      · rw [z]; exact Nat.le_add_right _ _
      · rw [z]; exact Nat.le_refl _
    exact I1.fpOk hle (I1.hok.fresh hle)
end HB
/-! zip over lists, tuples, texts; enumerate and zip of the run. -/
namespace HB
open PySem PySem.W PySem.Spec PyProof.Rows L2
def ItzG (K : PySem.W.Frag) (k1 k2 : Sk) : L2.It :=
  ⟨fun i H => ∃ n1 n2, k1.len K n1 H ∧ k2.len K n2 H ∧ i < n1 ∧ i < n2, fun i H v H' => ∃ T x y, v = .ref T ∧ H T = none ∧ H' = upd H T (.tup [x, y]) ∧ k1.item K i H x ∧ k2.item K i H y,
    fun i H => ∃ n1 n2, k1.len K n1 H ∧ k2.len K n2 H ∧ i ≤ n1 ∧ i ≤ n2 ∧ (i = n1 ∨ i = n2)⟩
theorem turn_zipG {P : Program} {w : World} {K : PySem.W.Frag} {elts : List Expr} {kk : Nat} {tpos : Pos} {k1 k2 : Sk} {z TI TO i1 i2 : Addr} (S : ZipSep2 z TI TO i1 i2 (i1 :: k1.aux) (i2 :: k2.aux)) :
    Turn P w K (.Tuple elts kk tpos) (ItzG K k1 k2) [z, TI, TO, i1, i2] z (fun i h => IsZip h z TI TO .none ∧ IsTupOf2 h TI (.ref i1) (.ref i2) ∧ (∃ x y, IsTupOf2 h TO x y) ∧ k1.st i1 i h ∧ k2.st i2 i h) where
  mem := by simp
  obj := fun i h st c hc => by
    obtain ⟨hz, hTI, ⟨x, y, hTO⟩, h1, h2⟩ := st
    have e' : c = z ∨ c = TI ∨ c = TO ∨ c = i1 ∨ c = i2 := by simpa using hc
    rcases e' with q | q | q | q | q
    · rw [q]; exact ⟨_, hz, fun v q => nomatch q⟩
    · rw [q]; exact ⟨_, hTI, fun v q => nomatch q⟩
    · rw [q]; exact ⟨_, hTO, fun v q => nomatch q⟩
    · rw [q]; exact Sk.live h1
    · rw [q]; exact Sk.live h2
  keep := fun i h h' st k => by
    obtain ⟨hz, hTI, ⟨x, y, hTO⟩, h1, h2⟩ := st
    exact ⟨k z (by simp) _ hz, k TI (by simp) _ hTI, ⟨x, y, k TO (by simp) _ hTO⟩, Sk.keep h1 fun o q => k i1 (by simp) o q, Sk.keep h2 fun o q => k i2 (by simp) o q⟩
  item := by
    intro X hP hw hK hc i pins s σ H E I hf st hg
    subst hP hw hK
    obtain ⟨hz, hTI, ⟨x0, y0, hTO⟩, h1, h2⟩ := st
    obtain ⟨n1, n2, hn1, hn2, l1, l2⟩ := hg
    obtain ⟨P1, St1, D1, st1, to1, it1, ax1⟩ := Sk.draws I hc h1 hn1
    obtain ⟨P2, St2, D2, st2, to2, it2, ax2⟩ := Sk.draws I hc h2 hn2
    have hzl : z < s.heap.objs.size := Heap.lt_size hz
    refine wpAny_pyNext_zipD2_item S D1 D2 hz hTI hTO st1 st2 l1 l2 fun u u2 h' tk p1 p2 z' TO' h1' h2' hT hsz hk => ?_
    obtain ⟨x, ru, ix⟩ := it1 _ _ p1
    obtain ⟨y, ru2, iy⟩ := it2 _ _ p2
    refine ⟨_, rfl, wpAny_letOwnedTupleGo_zip (s := { s with heap := h', toks := tk }) z' fun h'' z'' sb => ?_⟩
    have hT2 : h''.get? s.heap.objs.size = some { cls := .type "tuple", data := .seq #[u, u2] } := (sb.2 _ (Nat.ne_of_gt hzl)).trans hT
    have new : ObjOk X.prog X.w (upd H s.heap.objs.size (.tup [x, y])) h'' s.heap.objs.size (.tup [x, y]) :=
      ⟨by show 2 ≤ sizeLine; decide, [u, u2], .cons ru (.cons ru2 .nil), ⟨_, hT2, rfl, _, rfl⟩⟩
    have I1 : Inv X pins σ (upd H s.heap.objs.size (.tup [x, y])) { s with heap := h'', toks := tk } :=
      I.turnedNew (t' := tk) (ch := [z, TI, TO, i1, i2]) (fun c o hb q => (sb.2 c (fun q' => hb (by simp [q']))).trans (hk c o (fun q' => hb (by simp [q'])) (fun q' => hb (by simp [q'])) (fun q' => hb (by simp [q'])) (fun q' => hb (by simp [q'])) q)) hf (Nat.le_refl _) new
    refine ⟨.ref s.heap.objs.size, _, I1, rfl, ⟨_, x, y, rfl, I.hok.fresh (Nat.le_refl _), rfl, ix, iy⟩, ⟨z'', ?_, ⟨u, u2, ?_⟩, ?_, ?_⟩, fun c hcm => ?_⟩
    · exact (sb.2 _ S.TIz).trans (hk _ _ S.TIz S.TITO S.TIi1 S.TIi2 hTI)
    · exact (sb.2 _ S.TOz).trans TO'
    · exact Sk.keep (to1 _ _ h1') fun o q => (sb.2 _ (Ne.symm S.zi1)).trans q
    · exact Sk.keep (to2 _ _ h2') fun o q => (sb.2 _ (Ne.symm S.zi2)).trans q
    · have hlt : c < s.heap.objs.size := by
        have e' : c = z ∨ c = TI ∨ c = TO ∨ c = i1 ∨ c = i2 := by simpa using hcm
        rcases e' with q | q | q | q | q
        · rw [q]; exact hzl
        · rw [q]; exact Heap.lt_size hTI
        · rw [q]; exact Heap.lt_size hTO
        · rw [q]; exact Sk.lt h1
        · rw [q]; exact Sk.lt h2
      rw [upd_ne (Nat.ne_of_lt hlt)]
      exact (hf c hcm).1
  done := by
    intro X hP hw hK hc i pins s σ H E I hf st hg
    subst hP hw hK
    obtain ⟨hz, hTI, ⟨x0, y0, hTO⟩, h1, h2⟩ := st
    obtain ⟨n1, n2, hn1, hn2, l1, l2, he⟩ := hg
    obtain ⟨P1, St1, D1, st1, to1, it1, ax1⟩ := Sk.draws I hc h1 hn1
    obtain ⟨P2, St2, D2, st2, to2, it2, ax2⟩ := Sk.draws I hc h2 hn2
    exact wpAny_pyNext_zipD2_end S D1 D2 hz hTI hTO st1 st2 l1 l2 he fun h' tk hk => ⟨rfl, I.turnedL (t' := tk) (ch := [z, TI, TO, i1, i2]) (fun c o hb q =>
      hk c o (fun q' => hb (by simp [q'])) (fun q' => hb (by simp [q'])) (fun q' => hb (by simp [q'])) (fun q' => hb (by simp [q'])) q) hf⟩
  self := fun A i s Q E st h => wpAny_pyIter_zip st.1 h
theorem Sk.aux_lt {X : Cx} {pins : List (Addr × Obj)} {σ : L2.St} {H : Hp} {s : Shared} (I : Inv X pins σ H s) {k : Sk} {n : Nat} (hn : k.len X.K n H) : ∀ b ∈ k.aux, b < s.heap.objs.size := fun b hb => by
  cases k with
  | l a =>
    obtain ⟨xs, hq, _⟩ := hn
    obtain ⟨its, rv, p, hz⟩ := I.list hq
    have : b = a := by simpa [Sk.aux] using hb
    subst this; exact p.lt
  | t a =>
    obtain ⟨xs, hq, _⟩ := hn
    obtain ⟨its, rv, p, hz⟩ := I.tuple hq
    have : b = a := by simpa [Sk.aux] using hb
    subst this
    obtain ⟨o, e, _⟩ := p
    exact Heap.lt_size e
  | s x => simp [Sk.aux] at hb
def iZipG (K : PySem.W.Frag) (ta : TA) : TI := fun σ H R => ta σ H fun vs H1 => ∃ k1 k2 n1 n2 v1 v2, vs = [v1, v2] ∧ Sk.val k1 v1 ∧ Sk.val k2 v2 ∧ Sk.len K k1 n1 H1 ∧ Sk.len K k2 n2 H1 ∧ R (ItzG K k1 k2) H1
theorem pi_zipG {X : Cx} {e e2 : Expr} {ta : TA} {p pos tpos : Pos} {elts : List Expr} {kk : Nat} (hg : Gl X "zip") (hm : X.mg "zip" = none) (ha : PA X [e, e2] ta)
    (hs : starEach [e, e2] X.env = (false, eval e X.env) :: starEach [e2] X.env := by rfl) (hpl : (backTo pos (starEach [e2] X.env)).any (·.1) = false := by rfl) :
    PI X (.Tuple elts kk tpos) (.Call (.Name "zip" p) [e, e2] [] pos) (iZipG X.K ta) := by
  refine ⟨fun pins s σ H R I h => ?_⟩
  refine Call_ (ld_blt I hg hm PyProof.Rows.boot_zip (PyProof.Rows.callWith_type1 (thn (ha.run pos pins s σ H _ I h) fun us s1 ⟨vs, H1, I1, r1, q1⟩ => ?_) hs hpl))
  obtain ⟨k1, k2, n1, n2, v1, v2, ex, e1, e2, hn1, hn2, q⟩ := q1
  subst ex
  cases r1 with
  | cons r rr =>
    cases rr with
    | cons r' rr =>
      cases rr
      obtain ⟨o1, HH1, B1, hB1, hst1⟩ := Sk.begins I1 e1 r hn1
      obtain ⟨o2, HH2, B2, hB2, hst2⟩ := Sk.begins I1 e2 r' hn2
      refine zip_begins2 B1 B2 hB1 hB2 fun h' hz hTI hTO h1 h2 hsz hk => wpAny_pyIter_zip hz ?_
      have I2 : Inv X pins σ H1 { s1 with heap := h' } := I1.kept (t' := s1.toks) hk
      refine ⟨s1.heap.objs.size + 4, [s1.heap.objs.size + 4, s1.heap.objs.size + 2, s1.heap.objs.size + 3, s1.heap.objs.size, s1.heap.objs.size + 1], _, _, H1, rfl, I2, turn_zipG (zip_sep2 (Sk.aux_lt I1 hn1) (Sk.aux_lt I1 hn2)), ⟨hz, hTI, ⟨_, _, hTO⟩, hst1 _ _ h1, hst2 _ _ h2⟩, fun c hcm => ?_, q⟩
      have e' : c = s1.heap.objs.size + 4 ∨ c = s1.heap.objs.size + 2 ∨ c = s1.heap.objs.size + 3 ∨ c = s1.heap.objs.size ∨ c = s1.heap.objs.size + 1 := by simpa using hcm
      have hle : s1.heap.objs.size ≤ c := by
        rcases e' with z | z | z | z | z
        · rw [z]; exact Nat.le_add_right _ _
        · rw [z]; exact Nat.le_add_right _ _
        · rw [z]; exact Nat.le_add_right _ _
        · rw [z]; exact Nat.le_refl _
        · rw [z]; exact Nat.le_add_right _ _
      exact I1.fpOk hle (I1.hok.fresh hle)
/-- what a source holds while its lists stay -/
structure SrcD (K : PySem.W.Frag) (k : Sk) (Φ : Hp) (ρ : List Addr) (keep : List (Nat × List D)) (ds : List D) : Prop where
  all : ∀ Ψ Φ2 ρ2 s2 H2, Sub Φ Φ2 → ρ <+: ρ2 → Ok Ψ Φ2 ρ2 s2 H2 → Src.ok s2 keep = true → k.len K ds.length H2 ∧ ∀ i d, ds[i]? = some d → ∀ y, k.item K i H2 y → Dp K0 Φ2 y d
section
variable {K : PySem.W.Frag} {Φ : Hp} {ρ : List Addr}
theorem srcD_l {a : Addr} {keep : List (Nat × List D)} {ds : List D} (h : ∀ Ψ Φ2 ρ2 s2 H2, Sub Φ Φ2 → ρ <+: ρ2 → Ok Ψ Φ2 ρ2 s2 H2 → Src.ok s2 keep = true → ∃ vs, SqL K H2 a vs ∧ DpAll K0 Φ2 vs ds) : SrcD K (.l a) Φ ρ keep ds := ⟨fun Ψ Φ2 ρ2 s2 H2 s p o k => by
  obtain ⟨vs, h1, h3⟩ := h Ψ Φ2 ρ2 s2 H2 s p o k
  refine ⟨⟨vs, h1, HB.DpAll.length h3⟩, fun i d hi y hy => ?_⟩
  obtain ⟨v, e, dv⟩ := DpAll.get h3 hi
  have := hy vs h1
  rw [e] at this; cases this; exact dv⟩
theorem srcD_t {a : Addr} {vs : List V} {ds : List D} (h1 : SqT K0 Φ a vs) (h2 : DpAll K0 Φ vs ds) : SrcD K (.t a) Φ ρ [] ds := ⟨fun Ψ Φ2 ρ2 s2 H2 s p o k => by
  have q : SqT K H2 a vs := SqT.sub o.sub (.inl (Rd.sub s (sqT0 h1)))
  refine ⟨⟨vs, q, HB.DpAll.length h2⟩, fun i d hi y hy => ?_⟩
  obtain ⟨v, e, dv⟩ := DpAll.get h2 hi
  have := hy vs q
  rw [e] at this; cases this; exact Dp.sub s dv⟩
theorem srcD_s {x : Str} : SrcD K (.s x) Φ ρ [] (x.cps.toList.map fun c => .str ⟨#[c]⟩) := ⟨fun Ψ Φ2 ρ2 s2 H2 s p o k => by
  refine ⟨by show x.cps.size = _; rw [List.length_map, Array.length_toList], fun i d hi y hy => ?_⟩
  obtain ⟨c, hc, rfl⟩ := hy
  rw [List.getElem?_map, Array.getElem?_toList, hc] at hi
  cases hi
  exact .str _⟩
theorem src_of {Ψ : Hp} {s : Sto} {H : Hp} {w : W} {v : V} {src : Src} (o : Ok Ψ Φ ρ s H) (r : RelW Φ ρ w v) (e : srcS s w = some src) : ∃ k, Sk.val k v ∧ (∃ n, k.len K n H) ∧ SrcD K k Φ ρ src.keep src.items := by
  cases w with
  | h i =>
    obtain ⟨a, ea, rfl⟩ := r
    simp only [srcS, srcOf] at e
    split at e
    · rename_i xs e1
      cases e
      obtain ⟨_, vs, h1, h2⟩ := o.cell i a _ ea e1
      refine ⟨.l a, rfl, ⟨_, vs, SqL.of h1, rfl⟩, srcD_l fun Ψ2 Φ2 ρ2 s2 H2 s3 p3 o3 k => ?_⟩
      have e2 := pre_get p3 ea
      simp only [Src.ok, List.all_cons, List.all_nil, Bool.and_true] at k
      split at k
      · rename_i ys q
        have := beqDs_eq k
        subst this
        obtain ⟨_, vs, h1, h2⟩ := o3.cell i a _ e2 q
        exact ⟨vs, SqL.of h1, h2⟩
      · rename_i ys q
        have := beqDs_eq k
        subst this
        obtain ⟨vs, h1, h2⟩ := o3.cell i a _ e2 q
        exact ⟨vs, SqL.of (o3.sub _ _ h1), h2⟩
      · cases k
    · rename_i xs e1
      cases e
      obtain ⟨vs, h1, h2⟩ := o.cell i a _ ea e1
      exact ⟨.l a, rfl, ⟨_, vs, SqL.of (o.sub _ _ h1), rfl⟩, srcD_l fun Ψ2 Φ2 ρ2 s2 H2 s3 p3 o3 k => ⟨vs, SqL.of (o3.sub _ _ (s3 _ _ h1)), DpAll.sub s3 h2⟩⟩
    · cases e
  | d x =>
    cases x <;> simp only [srcS, srcOf] at e <;> try cases e
    · cases r
      exact ⟨.s _, rfl, ⟨_, rfl⟩, srcD_s⟩
    · cases r with
      | lst h1 h2 => exact ⟨.l _, rfl, ⟨_, _, SqL.sub o.sub h1, rfl⟩, srcD_l fun Ψ2 Φ2 ρ2 s2 H2 s3 p3 o3 k => ⟨_, SqL.sub o3.sub (.inl (Rd.sub s3 (sqL0 h1))), DpAll.sub s3 h2⟩⟩
    · cases r with
      | tup h1 h2 => exact ⟨.t _, rfl, ⟨_, _, SqT.sub o.sub h1, rfl⟩, srcD_t h1 h2⟩
theorem enumL_get : ∀ {ds : List D} {k i : Nat} {d : D}, (enumL k ds)[i]? = some d → ∃ x, ds[i]? = some x ∧ d = .tuple [.int ((k + i : Nat) : Int), x]
  | [], _, _, _, h => by simp [enumL] at h
  | x :: xs, k, 0, d, h => by
    simp only [enumL, List.getElem?_cons_zero] at h
    exact ⟨x, rfl, by cases h; rfl⟩
  | x :: xs, k, i + 1, d, h => by
    simp only [enumL, List.getElem?_cons_succ] at h
    obtain ⟨y, e, r⟩ := enumL_get h
    exact ⟨y, by simpa using e, by rw [r, show k + 1 + i = k + (i + 1) by omega]⟩
theorem enumL_length : ∀ (ds : List D) (k : Nat), (enumL k ds).length = ds.length
  | [], _ => rfl
  | _ :: xs, k => by simp [enumL, enumL_length xs]
theorem zipL_get : ∀ {xs ys : List D} {i : Nat} {d : D}, (zipL xs ys)[i]? = some d → ∃ x y, xs[i]? = some x ∧ ys[i]? = some y ∧ d = .tuple [x, y]
  | [], _, _, _, h => by simp [zipL] at h
  | _ :: _, [], _, _, h => by simp [zipL] at h
  | x :: xs, y :: ys, 0, d, h => by
    simp only [zipL, List.getElem?_cons_zero] at h
    exact ⟨x, y, rfl, rfl, by cases h; rfl⟩
  | x :: xs, y :: ys, i + 1, d, h => by
    simp only [zipL, List.getElem?_cons_succ] at h
    obtain ⟨a, b, e1, e2, r⟩ := zipL_get h
    exact ⟨a, b, by simpa using e1, by simpa using e2, r⟩
theorem zipL_length : ∀ (xs ys : List D), (zipL xs ys).length = min xs.length ys.length
  | [], _ => by simp [zipL]
  | _ :: _, [] => by simp [zipL]
  | _ :: xs, _ :: ys => by simp only [zipL, List.length_cons, zipL_length xs ys]; omega
theorem ok_keep {s : Sto} {a b : List (Nat × List D)} (h : Src.ok s (a ++ b) = true) : Src.ok s a = true ∧ Src.ok s b = true := by
  unfold Src.ok at *
  rw [List.all_append, Bool.and_eq_true] at h
  exact h
/-- a new tuple each turn -/
theorem ok_pair {Ψ Φ2 : Hp} {ρ2 : List Addr} {s2 : Sto} {H2 : Hp} (o : Ok Ψ Φ2 ρ2 s2 H2) {T : Addr} (hT : H2 T = none) {vs : List V} {ds : List D} (r : DpAll K0 Φ2 vs ds) : ∃ Φ3, Sub Φ2 Φ3 ∧ Ok Ψ Φ3 ρ2 s2 (upd H2 T (.tup vs)) ∧ Dp K0 Φ3 (.ref T) (.tuple ds) := by
  have g : Sub Φ2 (upd Φ2 T (.tup vs)) := Sub.grow _ (o.sub.free hT)
  exact ⟨_, g, o.fresh hT _, .tup (SqT.of upd_same) (DpAll.sub g r)⟩
theorem walkD_enum {k : Sk} {keep : List (Nat × List D)} {ds : List D} (h : SrcD K k Φ ρ keep ds) : WalkD (IteG K k) Φ ρ keep (enumL 0 ds) where
  goes := fun i d Ψ Φ2 ρ2 s2 H2 hi s p o kk => by
    obtain ⟨hn, hit⟩ := h.all Ψ Φ2 ρ2 s2 H2 s p o kk
    obtain ⟨x, hx, rfl⟩ := enumL_get hi
    have hl : i < ds.length := by
      rcases Nat.lt_or_ge i ds.length with q | q
      · exact q
      · rw [List.getElem?_eq_none q] at hx; cases hx
    refine ⟨⟨_, hn, hl⟩, fun v H3 hy => ?_⟩
    obtain ⟨T, y, rfl, hT, rfl, iy⟩ := hy
    have e1 : ((0 + i : Nat) : Int) = (i : Int) := by omega
    rw [e1]
    exact ok_pair o hT (.cons (.int _) (.cons (hit _ _ hx _ iy) .nil))
  stops := fun Ψ Φ2 ρ2 s2 H2 s p o kk => by
    rw [enumL_length]
    exact (h.all Ψ Φ2 ρ2 s2 H2 s p o kk).1
theorem walkD_zip {k1 k2 : Sk} {keep1 keep2 : List (Nat × List D)} {xs ys : List D} (h1 : SrcD K k1 Φ ρ keep1 xs) (h2 : SrcD K k2 Φ ρ keep2 ys) : WalkD (ItzG K k1 k2) Φ ρ (keep1 ++ keep2) (zipL xs ys) where
  goes := fun i d Ψ Φ2 ρ2 s2 H2 hi s p o kk => by
    obtain ⟨q1, q2⟩ := ok_keep kk
    obtain ⟨hn1, hit1⟩ := h1.all Ψ Φ2 ρ2 s2 H2 s p o q1
    obtain ⟨hn2, hit2⟩ := h2.all Ψ Φ2 ρ2 s2 H2 s p o q2
    obtain ⟨x, y, hx, hy, rfl⟩ := zipL_get hi
    have hl1 : i < xs.length := by
      rcases Nat.lt_or_ge i xs.length with q | q
      · exact q
      · rw [List.getElem?_eq_none q] at hx; cases hx
    have hl2 : i < ys.length := by
      rcases Nat.lt_or_ge i ys.length with q | q
      · exact q
      · rw [List.getElem?_eq_none q] at hy; cases hy
    refine ⟨⟨_, _, hn1, hn2, hl1, hl2⟩, fun v H3 hyl => ?_⟩
    obtain ⟨T, u, u2, rfl, hT, rfl, ix, iy⟩ := hyl
    exact ok_pair o hT (.cons (hit1 _ _ hx _ ix) (.cons (hit2 _ _ hy _ iy) .nil))
  stops := fun Ψ Φ2 ρ2 s2 H2 s p o kk => by
    obtain ⟨q1, q2⟩ := ok_keep kk
    refine ⟨_, _, (h1.all Ψ Φ2 ρ2 s2 H2 s p o q1).1, (h2.all Ψ Φ2 ρ2 s2 H2 s p o q2).1, ?_, ?_, ?_⟩
    · rw [zipL_length]; omega
    · rw [zipL_length]; omega
    · rw [zipL_length]; omega
end
section
variable {X : Cx} {c : Calls} {W : WX} {T : Tab} {ea eb : Ex} {a b : Expr} {pos : Pos}
theorem pI_enum {x : Str} {p tpos : Pos} {elts : List Expr} {kk : Nat} (hx : x = "enumerate") (hg : Gl X x) (hm : X.mg x = none) (hs : noStar a = true) (ha : PE X a (tE X c W ea)) : PI X (.Tuple elts kk tpos) (.Call (.Name x p) [a] [] pos) (tIt X c W (.enum ea)) := by
  subst hx
  refine PI.imp (pi_enumG hg hm (pa_cons ha pa_nil (star_cons hs)) (star_cons hs)) fun σh H R ⟨Ψ, Φ, ρ, σ, env, o, ev, f⟩ => ?_
  rw [evI] at f
  refine tE_ok o ev (f.bind.imp fun ws s1 Φ1 ρ1 H1 _ _ _ f1 s1' p1 o1 v r => ?_)
  obtain ⟨src, e, f2⟩ := f1.of
  cases q : srcS s1 ws with
  | none => rw [q] at e; cases e
  | some sr =>
    rw [q] at e; cases e
    obtain ⟨k, hv, ⟨n, hn⟩, sd⟩ := src_of (K := X.K) o1 r q
    exact ⟨k, n, v, rfl, hv, hn, f2.ok o1 _ (walkD_enum sd)⟩
theorem pI_zip {x : Str} {p tpos : Pos} {elts : List Expr} {kk : Nat} (hx : x = "zip") (hg : Gl X x) (hm : X.mg x = none) (hs : noStar a = true) (hs2 : noStar b = true) (ha : PE X a (tE X c W ea)) (hb : PE X b (tE X c W eb)) : PI X (.Tuple elts kk tpos) (.Call (.Name x p) [a, b] [] pos) (tIt X c W (.zip ea eb)) := by
  subst hx
  refine PI.imp (pi_zipG hg hm (pa_cons ha (pa_cons hb pa_nil (star_cons hs2)) (star_cons hs)) (star_cons hs) (by rw [star_cons hs2]; rfl)) fun σh H R ⟨Ψ, Φ, ρ, σ, env, o, ev, f⟩ => ?_
  rw [evI] at f
  refine tE_ok o ev (f.bind.imp fun w1 s1 Φ1 ρ1 H1 _ _ _ f1 s1' p1 o1 v1 r1 => ?_)
  refine tE_ok o1 (ev.mono s1' p1) (f1.bind.imp fun w2 s2 Φ2 ρ2 H2 _ _ _ f2 s2' p2 o2 v2 r2 => ?_)
  obtain ⟨src, e, f3⟩ := f2.of
  cases q : srcS s2 w1 with
  | none => rw [q] at e; cases e
  | some sr =>
    rw [q] at e
    cases q2 : srcS s2 w2 with
    | none => rw [q2] at e; cases e
    | some sr2 =>
      rw [q2] at e; cases e
      obtain ⟨k1, hv1, ⟨n1, hn1⟩, sd1⟩ := src_of (K := X.K) o2 (r1.mono s2' p2) q
      obtain ⟨k2, hv2, ⟨n2, hn2⟩, sd2⟩ := src_of (K := X.K) o2 r2 q2
      exact ⟨k1, k2, n1, n2, v1, v2, rfl, hv1, hv2, hn1, hn2, f3.ok o2 _ (walkD_zip sd1 sd2)⟩
end
end HB
/-! list(..), sorted(..): new lists. -/
namespace HB
open PySem PySem.W PySem.Spec PyProof.Rows L2
def rPrN (p : PrimN) : List V → Hp → VK → Prop := fun vs H Q => ∃ Φ ds zs, Sub Φ H ∧ RpAll Φ H vs ds ∧ primN p ds = some zs ∧ zs.length ≤ maxLen ∧ ∀ q zvs, H q = none → DpAll K0 Φ zvs zs → Q (.ref q) (upd H q (.lst zvs))
section
variable {X : Cx} {c : Calls} {W : WX} {es : List Ex} {a : Expr} {as : List Expr} {pos : Pos}
theorem call_list_N : CallR X (.type "list") (rPrN .list) := by
  intro pins s σ H vs us Q I rv ⟨Φ, ds, zs, hs, hv, e, hz, q⟩
  unfold primN at e
  split at e <;> try cases e
  · rename_i xs h1
    cases h1
  · obtain ⟨v, rfl, a, ws, rfl, h3, h4⟩ := one_of hv
    exact call_list_of pins s σ H _ us Q I rv ⟨a, ws, rfl, .inl (.inl h3), fun l hl => q l ws hl h4⟩
  · obtain ⟨v, rfl, hx⟩ := one_of hv
    cases hx with
    | tup h3 h4 => exact call_list_of pins s σ H _ us Q I rv ⟨_, _, rfl, .inr (SqT.sub hs h3), fun l hl => q l _ hl h4⟩
theorem each_is {pins : List (Addr × Obj)} {s : Shared} {σ : L2.St} {H Φ : Hp} (I : Inv X pins σ H s) (hs : Sub Φ H) : ∀ {vs : List V} {ds : List D} {us : List Value}, Vals vs us → DpAll K0 Φ vs ds →
    EachIs (fun u d => ∃ v, RelV v u ∧ Dp K0 Φ v d) us ds ∧ EachIs (fun u d => ∃ as, Reads s.heap u (id d) as) us ds
  | _, _, _, .nil, .nil => ⟨.nil, .nil⟩
  | _, _, _, .cons r rr, .cons d dd => by
    obtain ⟨h1, h2⟩ := each_is I hs rr dd
    exact ⟨.cons ⟨_, r, d⟩ h1, .cons (reads_of I (Dp.sub hs d) r) h2⟩
theorem is_each {Φ : Hp} : ∀ {us : List Value} {ds : List D}, EachIs (fun u d => ∃ v, RelV v u ∧ Dp K0 Φ v d) us ds → ∃ vs, Vals vs us ∧ DpAll K0 Φ vs ds
  | _, _, .nil => ⟨[], .nil, .nil⟩
  | _, _, .cons ⟨v, r, d⟩ t => by
    obtain ⟨vs, h1, h2⟩ := is_each t
    exact ⟨v :: vs, .cons r h1, .cons d h2⟩
theorem depth_mem : ∀ {xs : List D} {d : D}, d ∈ xs → d.depth ≤ PyData.depthAll xs
  | x :: xs, d, h => by
    rw [PyData.depthAll]
    rcases List.mem_cons.mp h with rfl | h
    · exact Nat.le_max_left _ _
    · exact Nat.le_trans (depth_mem h) (Nat.le_max_right _ _)
theorem sortOk_of {xs : List D} (h : sortOk xs = true) : AllAlike (xs.map id) ∧ Sortable (xs.map id) ∧ PyData.depthAll xs ≤ 60 := by
  unfold sortOk at h
  simp only [Bool.and_eq_true, Bool.or_eq_true] at h
  obtain ⟨⟨h1, h2⟩, h3⟩ := h
  have ha := alike_all h1
  rw [List.map_id]
  refine ⟨fun d hd d' hd' => ha.1 d hd d' hd', ?_, of_decide_eq_true h2⟩
  rcases h3 with h3 | h3
  · refine .inl fun d hd => ?_
    have := List.all_eq_true.mp h3 d hd
    cases d <;> try cases this
    rename_i ys
    cases ys with
    | nil => cases this
    | cons x r => exact ⟨x, r, rfl⟩
  · refine .inr fun d hd => ⟨ha.2 d hd, fun ys e => ?_⟩
    have := List.all_eq_true.mp h3 d hd
    subst e
    cases this
theorem call_sorted_N (hu : X.A.units + 100 < cLine) : CallR X (.builtin "sorted") (rPrN .sorted) := by
  intro pins s σ H vs us Q I rv ⟨Φ, ds, zs, hs, hv, e, hz, q⟩
  unfold primN at e
  split at e <;> try cases e
  all_goals try (rename_i heq; cases heq; done)
  · rename_i xs heq
    split at e
    · rename_i hok
      simp only [Bool.and_eq_true, decide_eq_true_eq] at hok
      obtain ⟨hok, hl⟩ := hok
      cases e
      obtain ⟨hal, hk, hd⟩ := sortOk_of hok
      obtain ⟨v, rfl, a, ws, rfl, h3, h4⟩ := one_of hv
      obtain ⟨u, rfl, ru⟩ := vals1 rv
      cases ru
      obtain ⟨its, rr, pl, hzz⟩ := I.list (.inl h3)
      obtain ⟨e1, e2⟩ := each_is I hs rr h4
      refine sorted_data (enc := id) pl.isList e1 e2 hal hk (Nat.le_of_lt (line_of hl)) (fun b hb => ?_) fun out ho eo => ?_
      · have := depth_mem hb
        show X.A.units + 2 + b.depth < _
        omega
      · obtain ⟨zvs, r2, d2⟩ := is_each eo
        obtain ⟨cc, hc⟩ := sortedAll_at s.heap its out.toArray
        have hlen : zvs.length = xs.length := by rw [r2.length, ho]
        refine ⟨.ref (s.heap.objs.size + 1), _, I.laid (t' := s.toks) (fun _ _ => sortedAll_old) (Nat.le_succ _) (show ObjOk X.prog X.w _ _ _ (.lst zvs) from ⟨?_, out, cc, r2, hc⟩), rfl, q _ zvs (I.hok.fresh (Nat.le_succ _)) d2⟩
        rw [hlen]; exact Nat.le_of_lt (line_of hl)
    · cases e
theorem prmN_go {p : PrimN} {σh : L2.St} {H : Hp} {Q : VK} (h : tN X c W (.prm p es) σh H Q) : tEs X c W es σh H fun vs H1 => rPrN p vs H1 Q := by
  obtain ⟨Ψ, Φ, ρ, σ, env, o, ev, g⟩ := h
  rw [evN] at g
  refine tEs_ok o ev (g.bind.imp fun ws s1 Φ1 ρ1 H1 _ _ _ f1 s1' p1 o1 vs r => ?_)
  obtain ⟨ds, e1, f1⟩ := f1.rds
  obtain ⟨zs, e2, f1⟩ := f1.of
  cases e3 : primN p ds with
  | none => rw [e3] at e2; cases e2
  | some ys =>
    rw [e3] at e2
    simp only [small] at e2
    split at e2
    · rename_i hl
      cases e2
      exact ⟨Φ1, ds, zs, o1.sub, peeks_rp o1 r e1, e3, hl, fun q zvs hq hd => f1.ok o1 q zvs hq hd⟩
    · cases e2
theorem pN_list {x : Str} {np : Pos} (hx : x = "list") (hg : Gl X x) (hm : X.mg x = none) (hs : (a :: as).all noStar = true) (ha : PA X (a :: as) (tEs X c W es)) : PE X (.Call (.Name x np) (a :: as) [] pos) (tN X c W (.prm .list es)) := by
  simp only [List.all_cons, Bool.and_eq_true] at hs
  subst hx
  exact PE.imp (pe_callTy call_list_N hg hm (by decide +kernel) ha (by decide) (by decide) (star_cons hs.1) (star_all hs.2)) fun σh H Q h => prmN_go h
theorem pN_sorted {x : Str} {np : Pos} (hu : X.A.units + 100 < cLine) (hx : x = "sorted") (hg : Gl X x) (hm : X.mg x = none) (hs : (a :: as).all noStar = true) (ha : PA X (a :: as) (tEs X c W es)) : PE X (.Call (.Name x np) (a :: as) [] pos) (tN X c W (.prm .sorted es)) := by
  simp only [List.all_cons, Bool.and_eq_true] at hs
  subst hx
  exact PE.imp (pe_callB (call_sorted_N hu) hg hm (by decide +kernel) ha (by decide) (by decide) (star_cons hs.1) (star_all hs.2)) fun σh H Q h => prmN_go h
end
end HB
/-! The text and the language's term: a checker, and that what it lets pass is sound. -/
namespace HB
open PySem PySem.W PySem.Spec PyProof.Rows L2
def visB (sc : Scope) (x : Str) : Bool := match sc.names.lookup x with
  | some .local => true
  | some .cell => true
  | some .free => true
  | _ => false
def locB (sc : Scope) (x : Str) : Bool := match sc.names.lookup x with
  | some .local => true
  | some .cell => true
  | _ => false
def glB (sc : Scope) (x : Str) : Bool := decide (sc.names.lookup x = some .globalImplicit) && decide (x ≠ "__debug__")
theorem vis_of {sc : Scope} {x : Str} (h : visB sc x = true) : Vis sc x := by
  unfold visB at h
  unfold Vis
  split at h <;> simp_all
theorem loc_of {sc : Scope} {x : Str} (h : locB sc x = true) : L2.Loc sc x := by
  unfold locB at h
  unfold L2.Loc
  split at h <;> simp_all
def okN (x : Str) : Bool := decide (x ≠ "__debug__") && decide (x ≠ "__classdict__")
theorem ne_b {x y : Str} (h : x ≠ y) : (x == y) = false := by simpa using h
/-- a built-in function by its name -/
def primName : Prim → Option (Bool × String)
  | .len => some (false, "len") | .max1 => some (false, "max") | .max2 => some (false, "max") | .min1 => some (false, "min") | .min2 => some (false, "min")
  | .abs => some (false, "abs") | .int => some (true, "int") | .tuple => some (true, "tuple") | .any => some (false, "any") | .all => some (false, "all") | .sum => some (false, "sum") | .repr => some (false, "repr")
  | _ => none
def primNName : PrimN → Str
  | .list => "list"
  | .sorted => "sorted"
def mthName : Mth → Option (String × String × Str)
  | .append => some ("list", "list.append", "append") | .extend => some ("list", "list.extend", "extend") | .pop => some ("list", "list.pop", "pop") | .reverse => some ("list", "list.reverse", "reverse")
  | .join => some ("str", "str.join", "join") | .index => some ("str", "str.index", "index")
  | _ => none
def plainTest : Expr → Bool
  | .BoolOp _ _ _ | .UnaryOp .Not _ _ | .IfExp _ _ _ _ | .Compare _ _ _ _ => false
  | _ => true
def noSet : Expr → Bool
  | .Set _ _ _ => false
  | _ => true
theorem fold_of {e : Expr} {env : PySem.Env} (h : noSet e = true) : ∀ x, foldedSetIterable e env x = pure x := fun x => by
  cases e <;> first | rfl | cases h
theorem test_of {e : Expr} {env : PySem.Env} (h : plainTest e = true) : ∀ whole, isTrue e env whole = (do let v ← whole; standAt e.pos; holding [v] (truthy v)) := fun whole => by
  cases e <;> try rfl
  all_goals try cases h
  rename_i op _ _
  cases op <;> first | rfl | cases h
/-- own: in a comprehension the names of its block -/
structure Cst where
  N : List Str
  T : Tab
  own : Option (List (Str × NameKind)) := none
def fnB (q : Cst) (sc : Scope) (x : Str) : Bool := decide (sc.names.lookup x = some .local) || (match q.own with
  | none => true
  | some l => l.lookup x == some .cell)
def beqKv : List (Str × D) → List (Str × D) → Bool
  | [], [] => true
  | (a, x) :: as, (b, y) :: bs => decide (a = b) && beqD x y && beqKv as bs
  | _, _ => false
theorem beqKv_eq : ∀ {a b : List (Str × D)}, beqKv a b = true → a = b
  | [], [], _ => rfl
  | [], _ :: _, h => by cases h
  | _ :: _, [], h => by cases h
  | (a, x) :: as, (b, y) :: bs, h => by
    simp only [beqKv, Bool.and_eq_true, decide_eq_true_eq] at h
    rw [h.1.1, beqD_eq h.1.2, beqKv_eq h.2]
def globB (T : Tab) (x : Str) (v : D) : Bool := T.glob.any fun p => decide (p.1 = x) && beqD p.2 v
theorem glob_of {T : Tab} {x : Str} {v : D} (h : globB T x v = true) : (x, v) ∈ T.glob := by
  unfold globB at h
  rw [List.any_eq_true] at h
  obtain ⟨p, hp, e⟩ := h
  simp only [Bool.and_eq_true, decide_eq_true_eq] at e
  have : p = (x, v) := by rw [← e.1, ← beqD_eq e.2]
  rw [← this]; exact hp
def kdsB (T : Tab) (x : Str) (kvs : List (Str × D)) : Bool := T.kds.any fun p => decide (p.1 = x) && beqKv p.2 kvs
theorem kds_of {T : Tab} {x : Str} {kvs : List (Str × D)} (h : kdsB T x kvs = true) : (x, kvs) ∈ T.kds := by
  unfold kdsB at h
  rw [List.any_eq_true] at h
  obtain ⟨p, hp, e⟩ := h
  simp only [Bool.and_eq_true, decide_eq_true_eq] at e
  have : p = (x, kvs) := by rw [← e.1, ← beqKv_eq e.2]
  rw [← this]; exact hp
def kdKeys (T : Tab) (x : Str) (ks : List Str) : Option (List (Str × D)) := match T.kds.find? fun p => decide (p.1 = x) with
  | some p => if p.2.map (·.1) = ks then some p.2 else none
  | none => none
theorem kdKeys_of {T : Tab} {x : Str} {ks : List Str} {kvs : List (Str × D)} (h : kdKeys T x ks = some kvs) : (x, kvs) ∈ T.kds ∧ kvs.map (·.1) = ks := by
  unfold kdKeys at h
  split at h
  · rename_i p e
    split at h
    · rename_i e2
      cases h
      have := List.find?_some e
      simp only [decide_eq_true_eq] at this
      refine ⟨?_, e2⟩
      rw [← this]; exact List.mem_of_find?_eq_some e
    · cases h
  · cases h
mutual
def chkE (q : Cst) (sc : Scope) : Ex → Expr → Bool
  | .lit v, x => match v, x with
    | .int i, .Constant (.int j) _ _ => decide (i = j)
    | .str i, .Constant (.str j) _ _ => decide (i = j)
    | .bool i, .Constant (.bool j) _ _ => decide (i = j)
    | .none, .Constant .none _ _ => true
    | _, _ => false
  | .glb y v, x => match x with
    | .Name z _ => decide (y = z) && glB sc z && globB q.T z v
    | _ => false
  | .var i, x => match x with
    | .Name z _ => decide (q.N[i]? = some z) && visB sc z && okN z
    | _ => false
  | .bin o a b, x => match x with
    | .BinOp l op r _ => decide (op = opOf o) && chkE q sc a l && chkE q sc b r
    | _ => false
  | .neg a, x => match x with
    | .UnaryOp .USub l _ => chkE q sc a l
    | _ => false
  | .cmp o a b, x => match x with
    | .Compare l [op] [r] _ => decide (op = copOf o) && !behindInMarks op r && chkE q sc a l && chkE q sc b r
    | _ => false
  | .isN n a, x => match x with
    | .Compare l [op] [.Constant .none _ _] _ => decide (op = if n then .IsNot else .Is) && chkE q sc a l
    | _ => false
  | .chain o o' a b d, x => match x with
    | .Compare l [op, op'] [r, r'] _ => decide (op = copOf o) && decide (op' = copOf o') && !behindInMarks op' r' && chkE q sc a l && chkE q sc b r && chkE q sc d r'
    | _ => false
  | .and a b, x => match x with
    | .BoolOp .And [l, r] _ => chkE q sc a l && chkE q sc b r
    | .BoolOp .And (l :: r :: r' :: rest) p => chkE q sc a l && chkE q sc b (.BoolOp .And (r :: r' :: rest) p)
    | _ => false
  | .or a b, x => match x with
    | .BoolOp .Or [l, r] _ => chkE q sc a l && chkE q sc b r
    | .BoolOp .Or (l :: r :: r' :: rest) p => chkE q sc a l && chkE q sc b (.BoolOp .Or (r :: r' :: rest) p)
    | _ => false
  | .not a, x => match x with
    | .UnaryOp .Not l _ => chkE q sc a l
    | _ => false
  | .ife t a b, x => match x with
    | .IfExp u l r _ => chkT q sc t u && chkE q sc a l && chkE q sc b r
    | _ => false
  | .tup es, x => match x with
    | .Tuple xs _ _ => chkEs q sc es xs
    | _ => false
  | .idx a i, x => match x with
    | .Subscript l r _ => noSlice r && chkE q sc a l && chkE q sc i r
    | _ => false
  | .slc a lo hi, x => match x with
    | .Subscript l (.Slice u v none _) _ => chkE q sc a l && chkP q sc lo u && chkP q sc hi v
    | _ => false
  | .rev a, x => match x with
    | .Subscript l (.Slice none none (some (.UnaryOp .USub (.Constant (.int 1) _ _) _)) _) _ => chkE q sc a l
    | _ => false
  | .call f es, x => match x with
    | .Call (.Name z _) xs [] _ => decide (z = f) && glB sc z && q.T.knows f && chkEs q sc es xs
    | _ => false
  | .prim (.isinst ts) es, x => match x, ts, es with
    | .Call (.Name z _) [l, .Name t _] [] _, [ty], [a] => decide (z = "isinstance") && decide (z ∈ q.T.free) && glB sc z && decide (t = Str.ofString ty) && decide (ty ∈ tyNames) && glB sc t && decide (t ∈ q.T.free) && noStar l && chkE q sc a l
    | _, _, _ => false
  | .prim p es, x => match x, primName p with
    | .Call (.Name z _) xs [] _, some (_, n) => decide (z = Str.ofString n) && glB sc z && decide (z ∈ q.T.free) && !xs.isEmpty && chkEs q sc es xs
    | _, _ => false
  | .mth m ty o es, x => match x, mthName m with
    | .Call (.Attribute l n ap) xs [] cp, some (ty', _, n') => decide (n = n') && decide (ty = ty') && noSuper l && (ap.endLine == cp.line) && decide (xs.length < 30) && chkE q sc o l && chkEs q sc es xs && (m.writes || !xs.isEmpty)
    | _, _ => false
  | .dlk kvs a, x => match x with
    | .Subscript (.Dict ks vs _) r _ => chkKv kvs ks vs && kvLook kvs && !kvs.isEmpty && decide (kvs.length ≤ 15) && noSlice r && chkE q sc a r
    | _ => false
  | .gin n y ks a, x => match x with
    | .Compare l [op] [.Name z _] _ => decide (op = if n then .NotIn else .In) && decide (y = z) && glB sc z && (kdKeys q.T z ks).isSome && chkE q sc a l
    | _ => false
  | .git y kvs a, x => match x with
    | .Subscript (.Name z _) r _ => decide (y = z) && glB sc z && kdsB q.T z kvs && noSlice r && chkE q sc a r
    | _ => false
  | .newW es, x => match x with
    | .List xs _ => chkEs q sc es xs
    | _ => false
  | .appW o a, x => match x with
    | .Call (.Attribute l n ap) [r] [] cp => decide (n = "append") && noStar r && noSuper l && (ap.endLine == cp.line) && chkE q sc o l && chkE q sc a r
    | _ => false
  | .popW o, x => match x with
    | .Call (.Attribute l n ap) [] [] cp => decide (n = "pop") && noSuper l && (ap.endLine == cp.line) && chkE q sc o l
    | _ => false
  | .frs n, x => chkN q sc n x
  | .new n, x => chkN q sc n x
def chkEs (q : Cst) (sc : Scope) : List Ex → List Expr → Bool
  | [], [] => true
  | e :: es, x :: xs => noStar x && chkE q sc e x && chkEs q sc es xs
  | _, _ => false
def chkP (q : Cst) (sc : Scope) : Option Ex → Option Expr → Bool
  | none, none => true
  | some e, some x => chkE q sc e x
  | _, _ => false
def chkN (q : Cst) (sc : Scope) : Nw → Expr → Bool
  | .lst es, x => match x with
    | .List xs _ => chkEs q sc es xs
    | _ => false
  | .lc own elt tg it cond, x => match x with
    | .ListComp y [⟨t, i, ifs, 0⟩] scope _ => own.all (fun i => decide (i < q.N.length)) && blkC q.N sc scope (own.map fun i => (q.N.getD i "", i)) && decide ((own.map fun i => (q.N.getD i "", i)).map (·.2) = own) && (tgSl tg).all (fun i => decide (i ∈ own)) && noSet i &&
      chkI q sc it t i && chkG { q with own := some scope.names } (relS scope sc) tg t && chkE { q with own := some scope.names } (relS scope sc) elt y && (match ifs, cond with
        | [], none => true
        | [u], some e => chkT { q with own := some scope.names } (relS scope sc) e u
        | _, _ => false)
    | _ => false
  | .prm p es, x => match x with
    | .Call (.Name z _) xs [] _ => decide (z = primNName p) && glB sc z && decide (z ∈ q.T.free) && !xs.isEmpty && chkEs q sc es xs
    | _ => false
  | .slc a lo hi, x => match x with
    | .Subscript l (.Slice u v none _) _ => chkE q sc a l && chkP q sc lo u && chkP q sc hi v
    | _ => false
  | .cat _ _, _ => false
  | .rep _ _, _ => false
def chkI (q : Cst) (sc : Scope) : It → Expr → Expr → Bool
  | .each a, _, x => chkE q sc a x
  | .range1 a, _, x => match x with
    | .Call (.Name z _) [l] [] _ => decide (z = "range") && glB sc z && decide (z ∈ q.T.free) && noStar l && chkE q sc a l
    | _ => false
  | .range2 a b, _, x => match x with
    | .Call (.Name z _) [l, r] [] _ => decide (z = "range") && glB sc z && decide (z ∈ q.T.free) && noStar l && noStar r && chkE q sc a l && chkE q sc b r
    | _ => false
  | .enum a, g, x => match g, x with
    | .Tuple _ _ _, .Call (.Name z _) [l] [] _ => decide (z = "enumerate") && glB sc z && decide (z ∈ q.T.free) && noStar l && chkE q sc a l
    | _, _ => false
  | .zip a b, g, x => match g, x with
    | .Tuple _ _ _, .Call (.Name z _) [l, r] [] _ => decide (z = "zip") && glB sc z && decide (z ∈ q.T.free) && noStar l && noStar r && chkE q sc a l && chkE q sc b r
    | _, _ => false
def chkG (q : Cst) (sc : Scope) : Tg → Expr → Bool
  | .name i, x => match x with
    | .Name z _ => decide (q.N[i]? = some z) && locB sc z && fnB q sc z
    | _ => false
  | .tup ts, x => match x with
    | .Tuple xs _ _ => decide (xs.length = ts.length) && chkGs q sc ts xs
    | _ => false
  | .ix o i, x => match x with
    | .Subscript l r _ => noSlice r && chkE q sc o l && chkE q sc i r
    | _ => false
  | .sl o lo hi, x => match x with
    | .Subscript l (.Slice u v none _) _ => chkE q sc o l && chkP q sc lo u && chkP q sc hi v
    | _ => false
def chkGs (q : Cst) (sc : Scope) : List Tg → List Expr → Bool
  | [], [] => true
  | t :: ts, x :: xs => noStar x && chkG q sc t x && chkGs q sc ts xs
  | _, _ => false
def chkT (q : Cst) (sc : Scope) : Ex → Expr → Bool
  | .and a b, x => match x with
    | .BoolOp .And [l, r] _ => chkT q sc a l && chkT q sc b r
    | .BoolOp .And (l :: r :: r' :: rest) p => chkT q sc a l && chkT q sc b (.BoolOp .And (r :: r' :: rest) p)
    | _ => false
  | .or a b, x => match x with
    | .BoolOp .Or [l, r] _ => chkT q sc a l && chkT q sc b r
    | .BoolOp .Or (l :: r :: r' :: rest) p => chkT q sc a l && chkT q sc b (.BoolOp .Or (r :: r' :: rest) p)
    | _ => false
  | .not a, x => match x with
    | .UnaryOp .Not l _ => chkT q sc a l
    | _ => false
  | .cmp o a b, x => match x with
    | .Compare l [op] [r] _ => decide (op = copOf o) && !behindInMarks op r && chkE q sc a l && chkE q sc b r
    | _ => false
  | .isN n a, x => match x with
    | .Compare l [op] [.Constant .none _ _] _ => decide (op = if n then .IsNot else .Is) && chkE q sc a l
    | _ => false
  | .chain o o' a b d, x => match x with
    | .Compare l [op, op'] [r, r'] _ => decide (op = copOf o) && decide (op' = copOf o') && !behindInMarks op' r' && chkE q sc a l && chkE q sc b r && chkE q sc d r'
    | _ => false
  | .gin n y ks a, x => match x with
    | .Compare l [op] [.Name z _] _ => decide (op = if n then .NotIn else .In) && decide (y = z) && glB sc z && (kdKeys q.T z ks).isSome && chkE q sc a l
    | _ => false
  | .call f es, x => match x with
    | .Call (.Name z _) xs [] _ => decide (z = f) && glB sc z && q.T.knows f && chkEs q sc es xs
    | _ => false
  | .prim (.isinst ts) es, x => match x, ts, es with
    | .Call (.Name z _) [l, .Name t _] [] _, [ty], [a] => decide (z = "isinstance") && decide (z ∈ q.T.free) && glB sc z && decide (t = Str.ofString ty) && decide (ty ∈ tyNames) && glB sc t && decide (t ∈ q.T.free) && noStar l && chkE q sc a l
    | _, _, _ => false
  | .prim p es, x => match x, primName p with
    | .Call (.Name z _) xs [] _, some (_, n) => decide (z = Str.ofString n) && glB sc z && decide (z ∈ q.T.free) && !xs.isEmpty && chkEs q sc es xs
    | _, _ => false
  | .var i, x => match x with
    | .Name z _ => decide (q.N[i]? = some z) && visB sc z && okN z
    | _ => false
  | .idx a i, x => match x with
    | .Subscript l r _ => noSlice r && chkE q sc a l && chkE q sc i r
    | _ => false
  | _, _ => false
end
structure GoodX (q : Cst) (sc : Scope) (X : Cx) (c : Calls) (W : WX) : Prop where
  facts : Facts q.T X c W
  N : X.N = q.N
  scp : X.env.scope = sc
  kind : sc.kind = .function
  fn : X.fn = match q.own with
    | none => fun _ => true
    | some l => fun x => l.lookup x == some .cell
theorem facts_blk {T : Tab} {X : Cx} {c : Calls} {W : WX} (F : Facts T X c W) (s : Shared) (H : Hp) (scope : Scope) (C : Addr) (cl : List (Str × Addr)) (fp : List Addr) : Facts T (X.blk s H scope (compEnvC scope cl C X.env) fp) c (fun _ _ _ _ => False) :=
  { calm := F.calm, nd := F.nd, free := F.free, glob := F.glob, kds := F.kds, calls := F.calls, excs := F.excs, tk := takes0, units := F.units, gd := F.gd }
theorem good_blk {q : Cst} {sc : Scope} {X : Cx} {c : Calls} {W : WX} (G : GoodX q sc X c W) (s : Shared) (H : Hp) (scope : Scope) (C : Addr) (cl : List (Str × Addr)) (fp : List Addr) (hk : scope.kind = .function) : GoodX { q with own := some scope.names } (relS scope sc) (X.blk s H scope (compEnvC scope cl C X.env) fp) c (fun _ _ _ _ => False) where
  facts := facts_blk G.facts s H scope C cl fp
  N := G.N
  scp := by
    have := G.scp
    subst this
    rfl
  kind := hk
  fn := rfl
theorem gl_of {q : Cst} {sc : Scope} {X : Cx} {c : Calls} {W : WX} (G : GoodX q sc X c W) {x : Str} (h : glB sc x = true) : Gl X x ∧ (x == ("__debug__" : Str)) = false := by
  unfold glB at h
  simp only [Bool.and_eq_true, decide_eq_true_eq] at h
  refine ⟨?_, ne_b h.2⟩
  have := G.scp
  subst this
  exact h.1
theorem fn_of' {q : Cst} {sc : Scope} {X : Cx} {c : Calls} {W : WX} (G : GoodX q sc X c W) {x : Str} (h : fnB q sc x = true) : X.fn x = true ∨ X.env.scope.names.lookup x = some .local := by
  unfold fnB at h
  rw [G.scp]
  rcases Bool.or_eq_true_iff.mp h with h | h
  · exact .inr (of_decide_eq_true h)
  · left
    rw [G.fn]
    split at h <;> rename_i e <;> rw [e] <;> first | rfl | exact h
theorem tE_nox {X : Cx} {c : Calls} {W : WX} {e : Ex} {x : Expr} (h : PE X x (tE X c W e)) : PE X x (tE X c (fun _ _ _ _ => False) e) :=
  PE.imp h fun σh H Q ⟨Ψ, Φ, ρ, σ, env, o, ev, f⟩ => ⟨Ψ, Φ, ρ, σ, env, o, ev, f.impE fun _ _ g cls d h => (g cls d h).elim⟩
theorem PO_imp {X : Cx} {x : Option Expr} {w1 w2 : TO} (h1 : PO X x w1) (i : ∀ σ H Q, w2 σ H Q → w1 σ H Q) : PO X x w2 :=
  ⟨fun pins s σ H Q I h => h1.run pins s σ H Q I (i σ H Q h)⟩
theorem tP_nox {X : Cx} {c : Calls} {W : WX} {e : Option Ex} {x : Option Expr} (h : PO X x (tP X c W e)) : PO X x (tP X c (fun _ _ _ _ => False) e) :=
  PO_imp h fun σh H Q ⟨Ψ, Φ, ρ, σ, env, o, ev, f⟩ => ⟨Ψ, Φ, ρ, σ, env, o, ev, f.impE fun _ _ g cls d h => (g cls d h).elim⟩
theorem builtin_of {p : Prim} {n : String} {X : Cx} (hc : X.calm = true) (hu : X.A.units + 100 < cLine) (gd : X.A.guards = some []) {t : Bool} (h : primName p = some (t, n)) :
    (t = false ∧ CallR X (.builtin n) (rPr p) ∧ bootBuiltins (Str.ofString n) = some (.builtin n) ∧ Str.ofString n ≠ "__name__") ∨ (t = true ∧ CallR X (.type n) (rPr p) ∧ bootBuiltins (Str.ofString n) = some (.type n) ∧ Str.ofString n ≠ "__name__") := by
  cases p <;> try cases h
  · exact .inl ⟨rfl, call_len_, by decide +kernel, by decide⟩
  · exact .inl ⟨rfl, call_max1 hc hu, by decide +kernel, by decide⟩
  · exact .inl ⟨rfl, call_min1 hc hu, by decide +kernel, by decide⟩
  · exact .inl ⟨rfl, call_max2_ hc, by decide +kernel, by decide⟩
  · exact .inl ⟨rfl, call_min2_ hc, by decide +kernel, by decide⟩
  · exact .inr ⟨rfl, call_int_, by decide +kernel, by decide⟩
  · exact .inl ⟨rfl, call_repr_ gd hu, by decide +kernel, by decide⟩
  · exact .inr ⟨rfl, call_tuple_, by decide +kernel, by decide⟩
  · exact .inl ⟨rfl, call_sum_ hc, by decide +kernel, by decide⟩
  · exact .inl ⟨rfl, call_any_ hc, by decide +kernel, by decide⟩
  · exact .inl ⟨rfl, call_all_ hc, by decide +kernel, by decide⟩
  · exact .inl ⟨rfl, call_abs_, by decide +kernel, by decide⟩
theorem tyBoot {t : String} (h : t ∈ tyNames) : bootBuiltins (Str.ofString t) = some (.type t) ∧ Str.ofString t ≠ "__name__" := by
  simp only [tyNames, List.mem_cons, List.not_mem_nil, or_false] at h
  rcases h with rfl | rfl | rfl | rfl | rfl <;> exact ⟨by decide +kernel, by decide⟩
end HB
/-! What the checker lets pass keeps to the model: expressions. -/
namespace HB
open PySem PySem.W PySem.Spec PyProof.Rows L2
theorem of_or_eq {a b : Bool} (h : (a || b) = true) : a = true ∨ b = true := by simpa using h
theorem split_of {xs : List Expr} {es : List Ex} (h : xs.length = es.length) : (xs = [] ∧ es = []) ∨ ∃ a as, xs = a :: as := by
  cases xs with
  | nil =>
    cases es with
    | nil => exact .inl ⟨rfl, rfl⟩
    | cons _ _ => cases h
  | cons a as => exact .inr ⟨a, as, rfl⟩
theorem nonempty_of {α : Type} {xs : List α} (h : (!xs.isEmpty) = true) : ∃ a as, xs = a :: as := by
  cases xs with
  | nil => cases h
  | cons a as => exact ⟨a, as, rfl⟩
section
variable {c : Calls}
mutual
theorem soundE : ∀ (e : Ex) (q : Cst) (sc : Scope) (X : Cx) (W : WX) (x : Expr), GoodX q sc X c W → chkE q sc e x = true → PE X x (tE X c W e)
  | .lit v, q, sc, X, W, x, G, h => by
    unfold chkE at h
    split at h
    · have := of_decide_eq_true h; subst this; exact pE_int
    · have := of_decide_eq_true h; subst this; exact pE_str
    · have := of_decide_eq_true h; subst this; exact pE_bool
    · exact pE_none
    · cases h
  | .glb y v, q, sc, X, W, x, G, h => by
    unfold chkE at h
    split at h
    · simp only [Bool.and_eq_true, decide_eq_true_eq] at h
      obtain ⟨⟨rfl, h1⟩, h2⟩ := h
      exact pE_glb G.facts (gl_of G h1).1 (glob_of h2) (gl_of G h1).2
    · cases h
  | .var i, q, sc, X, W, x, G, h => by
    unfold chkE at h
    split at h
    · simp only [Bool.and_eq_true, decide_eq_true_eq, okN] at h
      obtain ⟨⟨h1, h2⟩, h3, h4⟩ := h
      exact pE_var (by rw [G.N]; exact h1) (by rw [G.scp]; exact vis_of h2) (ne_b h3) (ne_b h4)
    · cases h
  | .bin o a b, q, sc, X, W, x, G, h => by
    unfold chkE at h
    split at h
    · simp only [Bool.and_eq_true, decide_eq_true_eq] at h
      obtain ⟨⟨rfl, h1⟩, h2⟩ := h
      exact pE_bin (soundE a q sc X W _ G h1) (soundE b q sc X W _ G h2)
    · cases h
  | .neg a, q, sc, X, W, x, G, h => by
    unfold chkE at h
    split at h
    · refine PE.imp (pe_un un_neg (soundE a q sc X W _ G h)) fun σh H Q ⟨Ψ, Φ, ρ, σ, env, o, ev, f⟩ => ?_
      rw [evE] at f
      refine tE_ok o ev (f.bind.imp fun w s1 Φ1 ρ1 H1 _ _ _ f1 s1' p1 o1 v r => ?_)
      obtain ⟨u, e1, f2⟩ := f1.rd1
      obtain ⟨r', e2, f3⟩ := f2.map1
      have hr := peek_rp o1 r e1
      cases u <;> try cases e2
      cases hr
      exact ⟨_, rfl, f3.ok o1 _ (.int _)⟩
    · cases h
  | .cmp o a b, q, sc, X, W, x, G, h => by
    unfold chkE at h
    split at h
    · simp only [Bool.and_eq_true, decide_eq_true_eq, Bool.not_eq_true'] at h
      obtain ⟨⟨⟨rfl, h0⟩, h1⟩, h2⟩ := h
      exact pE_cmp G.facts.units (soundE a q sc X W _ G h1) (soundE b q sc X W _ G h2) h0
    · cases h
  | .isN n a, q, sc, X, W, x, G, h => by
    unfold chkE at h
    split at h
    · simp only [Bool.and_eq_true, decide_eq_true_eq] at h
      obtain ⟨rfl, h1⟩ := h
      cases n with
      | true => exact pE_notN (soundE a q sc X W _ G h1)
      | false => exact pE_isN (soundE a q sc X W _ G h1)
    · cases h
  | .chain o o' a b d, q, sc, X, W, x, G, h => by
    unfold chkE at h
    split at h
    · simp only [Bool.and_eq_true, decide_eq_true_eq, Bool.not_eq_true'] at h
      obtain ⟨⟨⟨⟨⟨rfl, rfl⟩, h0⟩, h1⟩, h2⟩, h3⟩ := h
      exact pE_chain G.facts.units (soundE a q sc X W _ G h1) (soundE b q sc X W _ G h2) (soundE d q sc X W _ G h3) h0
    · cases h
  | .and a b, q, sc, X, W, x, G, h => by
    unfold chkE at h
    split at h
    · simp only [Bool.and_eq_true] at h
      exact pE_and (soundE a q sc X W _ G h.1) (pe_one (soundE b q sc X W _ G h.2))
    · simp only [Bool.and_eq_true] at h
      exact pE_and (soundE a q sc X W _ G h.1) (soundE b q sc X W _ G h.2)
    · cases h
  | .or a b, q, sc, X, W, x, G, h => by
    unfold chkE at h
    split at h
    · simp only [Bool.and_eq_true] at h
      exact pE_or (soundE a q sc X W _ G h.1) (pe_one (soundE b q sc X W _ G h.2))
    · simp only [Bool.and_eq_true] at h
      exact pE_or (soundE a q sc X W _ G h.1) (soundE b q sc X W _ G h.2)
    · cases h
  | .not a, q, sc, X, W, x, G, h => by
    unfold chkE at h
    split at h
    · exact pE_not (soundE a q sc X W _ G h)
    · cases h
  | .ife t a b, q, sc, X, W, x, G, h => by
    unfold chkE at h
    split at h
    · simp only [Bool.and_eq_true] at h
      exact pE_ife (soundT t q sc X W _ G h.1.1).1 (soundE a q sc X W _ G h.1.2) (soundE b q sc X W _ G h.2)
    · cases h
  | .tup es, q, sc, X, W, x, G, h => by
    unfold chkE at h
    split at h
    · exact pE_tup (soundEs es q sc X W _ G h).2.1
    · cases h
  | .idx a i, q, sc, X, W, x, G, h => by
    unfold chkE at h
    split at h
    · simp only [Bool.and_eq_true] at h
      exact pE_idx h.1.1 (soundE a q sc X W _ G h.1.2) (soundE i q sc X W _ G h.2)
    · cases h
  | .slc a lo hi, q, sc, X, W, x, G, h => by
    unfold chkE at h
    split at h
    · simp only [Bool.and_eq_true] at h
      exact pE_slc (soundE a q sc X W _ G h.1.1) (soundP lo q sc X W _ G h.1.2) (soundP hi q sc X W _ G h.2)
    · cases h
  | .rev a, q, sc, X, W, x, G, h => by
    unfold chkE at h
    split at h
    · exact pE_rev (soundE a q sc X W _ G h)
    · cases h
  | .call f es, q, sc, X, W, x, G, h => by
    unfold chkE at h
    split at h
    · simp only [Bool.and_eq_true, decide_eq_true_eq] at h
      obtain ⟨⟨⟨rfl, h1⟩, hn⟩, h3⟩ := h
      obtain ⟨k1, _, k3, k4⟩ := soundEs es q sc X W _ G h3
      rename_i xs _ _
      cases xs with
      | nil =>
        have : es = [] := by cases es with
          | nil => rfl
          | cons _ _ => simp at k4
        subst this
        exact pE_call0 G.facts hn (gl_of G h1).1 (gl_of G h1).2
      | cons a as => exact pE_call G.facts hn (gl_of G h1).1 (gl_of G h1).2 k3 k1
    · cases h
  | .prim p es, q, sc, X, W, x, G, h => by
    cases p with
    | isinst ts =>
      unfold chkE at h
      split at h
      · simp only [Bool.and_eq_true, decide_eq_true_eq] at h
        obtain ⟨⟨⟨⟨⟨⟨⟨⟨hz, h1⟩, h2⟩, ht⟩, h3⟩, h4⟩, h5⟩, h6⟩, h7⟩ := h
        subst ht
        obtain ⟨b1, b2⟩ := tyBoot h3
        exact pE_isinst h3 hz (gl_of G h2).1 (G.facts.free _ h1) b1 (gl_of G h4).1 (G.facts.free _ h5) b2 (gl_of G h4).2 h6 (soundE _ q sc X W _ G h7)
      · cases h
    | _ =>
      unfold chkE at h
      split at h
      · rename_i hp
        simp only [Bool.and_eq_true, decide_eq_true_eq] at h
        obtain ⟨⟨⟨⟨rfl, h1⟩, h2⟩, h3⟩, h4⟩ := h
        obtain ⟨k1, _, k3, k4⟩ := soundEs es q sc X W _ G h4
        obtain ⟨a, as, rfl⟩ := nonempty_of h3
        rcases builtin_of G.facts.calm G.facts.units G.facts.gd hp with ⟨_, b1, b2, b3⟩ | ⟨_, b1, b2, b3⟩
        · exact pE_primB b1 (gl_of G h1).1 (G.facts.free _ h2) b2 b3 (gl_of G h1).2 k3 k1
        · exact pE_primT b1 (gl_of G h1).1 (G.facts.free _ h2) b2 b3 (gl_of G h1).2 k3 k1
      · cases h
  | .mth m ty o es, q, sc, X, W, x, G, h => by
    unfold chkE at h
    split at h
    · rename_i hp
      simp only [Bool.and_eq_true, decide_eq_true_eq] at h
      obtain ⟨⟨⟨⟨⟨⟨⟨rfl, rfl⟩, h1⟩, h2⟩, h3⟩, h4⟩, h5⟩, h6⟩ := h
      have ho := soundE o q sc X W _ G h4
      obtain ⟨k1, k2, k3, k4⟩ := soundEs es q sc X W _ G h5
      cases m with
      | append =>
        cases hp
        rcases split_of k4 with ⟨rfl, rfl⟩ | ⟨a, as, rfl⟩
        · exact pE_mw0 rfl PySem.F.plainAttrs_list PySem.F.slot_list_append PySem.F.type_list_append mw_append ho h1 h2
        · exact pE_mw rfl PySem.F.plainAttrs_list PySem.F.slot_list_append PySem.F.type_list_append mw_append ho k3 h3 h1 h2 k2
      | extend =>
        cases hp
        rcases split_of k4 with ⟨rfl, rfl⟩ | ⟨a, as, rfl⟩
        · exact pE_mw0 rfl PySem.F.plainAttrs_list PySem.F.slot_list_extend PySem.F.type_list_extend mw_extend ho h1 h2
        · exact pE_mw rfl PySem.F.plainAttrs_list PySem.F.slot_list_extend PySem.F.type_list_extend mw_extend ho k3 h3 h1 h2 k2
      | pop =>
        cases hp
        rcases split_of k4 with ⟨rfl, rfl⟩ | ⟨a, as, rfl⟩
        · exact pE_mw0 rfl PySem.F.plainAttrs_list PySem.F.slot_list_pop PySem.F.type_list_pop mw_pop ho h1 h2
        · exact pE_mw rfl PySem.F.plainAttrs_list PySem.F.slot_list_pop PySem.F.type_list_pop mw_pop ho k3 h3 h1 h2 k2
      | reverse =>
        cases hp
        rcases split_of k4 with ⟨rfl, rfl⟩ | ⟨a, as, rfl⟩
        · exact pE_mw0 rfl PySem.F.plainAttrs_list PySem.F.slot_list_reverse PySem.F.type_list_reverse mw_reverse ho h1 h2
        · exact pE_mw rfl PySem.F.plainAttrs_list PySem.F.slot_list_reverse PySem.F.type_list_reverse mw_reverse ho k3 h3 h1 h2 k2
      | join =>
        cases hp
        obtain ⟨a, as, rfl⟩ := nonempty_of (by simpa [Mth.writes] using h6)
        exact pE_md rfl PySem.F.plainAttrs_str PySem.F.slot_str_join PySem.F.type_str_join md_join ho k3 h3 h1 h2 k1
      | index =>
        cases hp
        obtain ⟨a, as, rfl⟩ := nonempty_of (by simpa [Mth.writes] using h6)
        exact pE_md rfl PySem.F.plainAttrs_str PySem.F.slot_str_index PySem.F.type_str_index md_index ho k3 h3 h1 h2 k1
      | _ => cases hp
    · cases h
  | .dlk kvs a, q, sc, X, W, x, G, h => by
    unfold chkE at h
    split at h
    · simp only [Bool.and_eq_true, decide_eq_true_eq] at h
      obtain ⟨⟨⟨⟨⟨h1, h2⟩, h3⟩, h4⟩, h5⟩, h6⟩ := h
      exact pE_dlk G.facts.units h1 h2 (fun z => by rw [z] at h3; cases h3) h4 h5 (soundE a q sc X W _ G h6)
    · cases h
  | .gin n y ks a, q, sc, X, W, x, G, h => by
    unfold chkE at h
    split at h
    · simp only [Bool.and_eq_true, decide_eq_true_eq, Option.isSome_iff_exists] at h
      obtain ⟨⟨⟨⟨rfl, rfl⟩, h1⟩, kvs, hk⟩, h3⟩ := h
      obtain ⟨m1, m2⟩ := kdKeys_of hk
      subst m2
      exact (pE_gin G.facts m1 (gl_of G h1).1 (gl_of G h1).2 (soundE a q sc X W _ G h3)).1
    · cases h
  | .git y kvs a, q, sc, X, W, x, G, h => by
    unfold chkE at h
    split at h
    · simp only [Bool.and_eq_true, decide_eq_true_eq] at h
      obtain ⟨⟨⟨⟨rfl, h1⟩, h2⟩, h3⟩, h4⟩ := h
      exact pE_git G.facts (kds_of h2) (gl_of G h1).1 (gl_of G h1).2 h3 (soundE a q sc X W _ G h4)
    · cases h
  | .newW es, q, sc, X, W, x, G, h => by
    unfold chkE at h
    split at h
    · exact pE_newW (soundEs es q sc X W _ G h).1
    · cases h
  | .appW o a, q, sc, X, W, x, G, h => by
    unfold chkE at h
    split at h
    · simp only [Bool.and_eq_true, decide_eq_true_eq] at h
      obtain ⟨⟨⟨⟨⟨rfl, h1⟩, h2⟩, h3⟩, h4⟩, h5⟩ := h
      exact pE_appW (soundE o q sc X W _ G h4) h1 h2 h3 (soundE a q sc X W _ G h5)
    · cases h
  | .popW o, q, sc, X, W, x, G, h => by
    unfold chkE at h
    split at h
    · simp only [Bool.and_eq_true, decide_eq_true_eq] at h
      obtain ⟨⟨⟨rfl, h2⟩, h3⟩, h4⟩ := h
      exact pE_popW (soundE o q sc X W _ G h4) h2 h3
    · cases h
  | .frs n, q, sc, X, W, x, G, h => by unfold chkE at h; exact pE_frs (soundN n q sc X W x G h)
  | .new n, q, sc, X, W, x, G, h => by unfold chkE at h; exact pE_new (soundN n q sc X W x G h)
theorem soundEs : ∀ (es : List Ex) (q : Cst) (sc : Scope) (X : Cx) (W : WX) (xs : List Expr), GoodX q sc X c W → chkEs q sc es xs = true → PA X xs (tEs X c W es) ∧ PA X xs (tDs X c W es) ∧ xs.all noStar = true ∧ xs.length = es.length
  | [], q, sc, X, W, xs, G, h => by
    cases xs with
    | nil => exact ⟨pA_nil, pD_nil, rfl, rfl⟩
    | cons _ _ => unfold chkEs at h; cases h
  | e :: es, q, sc, X, W, xs, G, h => by
    cases xs with
    | nil => unfold chkEs at h; cases h
    | cons x xs =>
      rw [chkEs] at h
      simp only [Bool.and_eq_true] at h
      obtain ⟨⟨h1, h2⟩, h3⟩ := h
      have he := soundE e q sc X W x G h2
      obtain ⟨k1, k2, k3, k4⟩ := soundEs es q sc X W xs G h3
      exact ⟨pA_cons h1 he k1, pD_cons h1 he k2, by simp [h1, k3], by simp [k4]⟩
theorem soundP : ∀ (o : Option Ex) (q : Cst) (sc : Scope) (X : Cx) (W : WX) (x : Option Expr), GoodX q sc X c W → chkP q sc o x = true → PO X x (tP X c W o)
  | none, q, sc, X, W, x, G, h => by
    cases x with
    | none => exact pP_none
    | some _ => unfold chkP at h; cases h
  | some e, q, sc, X, W, x, G, h => by
    cases x with
    | none => unfold chkP at h; cases h
    | some x => rw [chkP] at h; exact pP_some (soundE e q sc X W x G h)
theorem soundN : ∀ (n : Nw) (q : Cst) (sc : Scope) (X : Cx) (W : WX) (x : Expr), GoodX q sc X c W → chkN q sc n x = true → PE X x (tN X c W n)
  | .lst es, q, sc, X, W, x, G, h => by
    unfold chkN at h
    split at h
    · exact pN_lst (soundEs es q sc X W _ G h).2.1
    · cases h
  | .lc own elt tg it cond, q, sc, X, W, x, G, h => by
    unfold chkN at h
    split at h
    · rename_i y t i ifs scope pos
      simp only [Bool.and_eq_true, decide_eq_true_eq] at h
      obtain ⟨⟨⟨⟨⟨⟨⟨⟨h0, h1⟩, h2⟩, h3⟩, h4⟩, h5⟩, h6⟩, h7⟩, h8⟩ := h
      have bo := blkOk_by h1
      rw [← h2]
      refine pN_lc G.facts.calm G.facts.nd (soundI it q sc X W t i G h5) (by rw [G.N, G.scp]; exact bo) (fun j hj => ?_) (fun s H C cl fp => ?_) (fun s H C cl fp => ?_) (fun s H C cl fp => ?_) (fold_of h4)
      · rw [h2]; exact of_decide_eq_true (List.all_eq_true.mp h3 j hj)
      · exact soundG tg _ _ _ _ t (good_blk G s H scope C cl fp bo.kind) h6
      · have GB := good_blk G s H scope C cl fp bo.kind
        cases ifs with
        | nil =>
          cases cond with
          | none => exact pC_none
          | some _ => cases h8
        | cons u us =>
          cases us with
          | cons _ _ => cases cond <;> cases h8
          | nil =>
            cases cond with
            | none => cases h8
            | some e => exact pC_some (soundT e _ _ _ _ u GB h8).1
      · exact soundE elt _ _ _ _ y (good_blk G s H scope C cl fp bo.kind) h7
    · cases h
  | .prm p es, q, sc, X, W, x, G, h => by
    unfold chkN at h
    split at h
    · simp only [Bool.and_eq_true, decide_eq_true_eq] at h
      obtain ⟨⟨⟨⟨hz, h1⟩, h2⟩, h3⟩, h4⟩ := h
      obtain ⟨k1, _, k3, k4⟩ := soundEs es q sc X W _ G h4
      obtain ⟨a, as, rfl⟩ := nonempty_of h3
      cases p with
      | list => exact pN_list hz (gl_of G h1).1 (G.facts.free _ h2) k3 k1
      | sorted => exact pN_sorted G.facts.units hz (gl_of G h1).1 (G.facts.free _ h2) k3 k1
    · cases h
  | .slc a lo hi, q, sc, X, W, x, G, h => by
    unfold chkN at h
    split at h
    · simp only [Bool.and_eq_true] at h
      exact pN_slc (soundE a q sc X W _ G h.1.1) (soundP lo q sc X W _ G h.1.2) (soundP hi q sc X W _ G h.2)
    · cases h
  | .cat _ _, _, _, _, _, _, _, h => by unfold chkN at h; cases h
  | .rep _ _, _, _, _, _, _, _, h => by unfold chkN at h; cases h
theorem soundI : ∀ (it : It) (q : Cst) (sc : Scope) (X : Cx) (W : WX) (tg x : Expr), GoodX q sc X c W → chkI q sc it tg x = true → PI X tg x (tIt X c W it)
  | .each a, q, sc, X, W, tg, x, G, h => by unfold chkI at h; exact pI_each (soundE a q sc X W x G h)
  | .range1 a, q, sc, X, W, tg, x, G, h => by
    unfold chkI at h
    split at h
    · simp only [Bool.and_eq_true, decide_eq_true_eq] at h
      obtain ⟨⟨⟨⟨hz, h1⟩, h2⟩, h3⟩, h4⟩ := h
      exact pI_range1 hz (gl_of G h1).1 (G.facts.free _ h2) h3 (soundE a q sc X W _ G h4)
    · cases h
  | .range2 a b, q, sc, X, W, tg, x, G, h => by
    unfold chkI at h
    split at h
    · simp only [Bool.and_eq_true, decide_eq_true_eq] at h
      obtain ⟨⟨⟨⟨⟨⟨hz, h1⟩, h2⟩, h3⟩, h4⟩, h5⟩, h6⟩ := h
      exact pI_range2 hz (gl_of G h1).1 (G.facts.free _ h2) h3 h4 (soundE a q sc X W _ G h5) (soundE b q sc X W _ G h6)
    · cases h
  | .enum a, q, sc, X, W, tg, x, G, h => by
    unfold chkI at h
    split at h
    · simp only [Bool.and_eq_true, decide_eq_true_eq] at h
      obtain ⟨⟨⟨⟨hz, h1⟩, h2⟩, h3⟩, h4⟩ := h
      exact pI_enum hz (gl_of G h1).1 (G.facts.free _ h2) h3 (soundE a q sc X W _ G h4)
    · cases h
  | .zip a b, q, sc, X, W, tg, x, G, h => by
    unfold chkI at h
    split at h
    · simp only [Bool.and_eq_true, decide_eq_true_eq] at h
      obtain ⟨⟨⟨⟨⟨⟨hz, h1⟩, h2⟩, h3⟩, h4⟩, h5⟩, h6⟩ := h
      exact pI_zip hz (gl_of G h1).1 (G.facts.free _ h2) h3 h4 (soundE a q sc X W _ G h5) (soundE b q sc X W _ G h6)
    · cases h
theorem soundG : ∀ (t : Tg) (q : Cst) (sc : Scope) (X : Cx) (W : WX) (x : Expr), GoodX q sc X c W → chkG q sc t x = true → PG X x (tG X c (fun _ _ _ _ => False) t)
  | .name i, q, sc, X, W, x, G, h => by
    unfold chkG at h
    split at h
    · simp only [Bool.and_eq_true, decide_eq_true_eq] at h
      exact pG_name G.facts.nd (by rw [G.N]; exact h.1.1) (by rw [G.scp]; exact loc_of h.1.2) (fn_of' G h.2)
    · cases h
  | .tup ts, q, sc, X, W, x, G, h => by
    unfold chkG at h
    split at h
    · simp only [Bool.and_eq_true, decide_eq_true_eq] at h
      obtain ⟨k1, k2⟩ := soundGs ts q sc X W _ G h.2
      exact pG_tup G.facts.calm k2 h.1 k1
    · cases h
  | .ix o i, q, sc, X, W, x, G, h => by
    unfold chkG at h
    split at h
    · simp only [Bool.and_eq_true] at h
      exact pG_ix h.1.1 (tE_nox (soundE o q sc X W _ G h.1.2)) (tE_nox (soundE i q sc X W _ G h.2))
    · cases h
  | .sl o lo hi, q, sc, X, W, x, G, h => by
    unfold chkG at h
    split at h
    · simp only [Bool.and_eq_true] at h
      exact pG_sl (tE_nox (soundE o q sc X W _ G h.1.1)) (tP_nox (soundP lo q sc X W _ G h.1.2)) (tP_nox (soundP hi q sc X W _ G h.2))
    · cases h
theorem soundGs : ∀ (ts : List Tg) (q : Cst) (sc : Scope) (X : Cx) (W : WX) (xs : List Expr), GoodX q sc X c W → chkGs q sc ts xs = true → PGs X xs (tGs X c (fun _ _ _ _ => False) ts) ∧ xs.all noStar = true
  | [], q, sc, X, W, xs, G, h => by
    cases xs with
    | nil => exact ⟨pGs_nil, rfl⟩
    | cons _ _ => unfold chkGs at h; cases h
  | t :: ts, q, sc, X, W, xs, G, h => by
    cases xs with
    | nil => unfold chkGs at h; cases h
    | cons x xs =>
      rw [chkGs] at h
      simp only [Bool.and_eq_true] at h
      obtain ⟨k1, k2⟩ := soundGs ts q sc X W xs G h.2
      exact ⟨pGs_cons h.1.1 (soundG t q sc X W x G h.1.2) k1, by simp [h.1.1, k2]⟩
theorem soundT : ∀ (e : Ex) (q : Cst) (sc : Scope) (X : Cx) (W : WX) (x : Expr), GoodX q sc X c W → chkT q sc e x = true → PT X x (tTe X c W e) ∧ (∀ op xs p, x = .BoolOp op xs p → PW X x (tTe X c W e))
  | .and a b, q, sc, X, W, x, G, h => by
    unfold chkT at h
    split at h
    · simp only [Bool.and_eq_true] at h
      exact ⟨L2.PW.pt (pW_and (soundT a q sc X W _ G h.1).1 (pW_and1 (soundT b q sc X W _ G h.2).1)), fun _ _ _ _ => pW_and (soundT a q sc X W _ G h.1).1 (pW_and1 (soundT b q sc X W _ G h.2).1)⟩
    · simp only [Bool.and_eq_true] at h
      have k := pW_and (soundT a q sc X W _ G h.1).1 ((soundT b q sc X W _ G h.2).2 _ _ _ rfl)
      exact ⟨L2.PW.pt k, fun _ _ _ _ => k⟩
    · cases h
  | .or a b, q, sc, X, W, x, G, h => by
    unfold chkT at h
    split at h
    · simp only [Bool.and_eq_true] at h
      exact ⟨L2.PW.pt (pW_or (soundT a q sc X W _ G h.1).1 (pW_or1 (soundT b q sc X W _ G h.2).1)), fun _ _ _ _ => pW_or (soundT a q sc X W _ G h.1).1 (pW_or1 (soundT b q sc X W _ G h.2).1)⟩
    · simp only [Bool.and_eq_true] at h
      have k := pW_or (soundT a q sc X W _ G h.1).1 ((soundT b q sc X W _ G h.2).2 _ _ _ rfl)
      exact ⟨L2.PW.pt k, fun _ _ _ _ => k⟩
    · cases h
  | .not a, q, sc, X, W, x, G, h => by
    unfold chkT at h
    split at h
    · exact ⟨pT_not (soundT a q sc X W _ G h).1, fun _ _ _ e => by cases e⟩
    · cases h
  | .cmp o a b, q, sc, X, W, x, G, h => by
    unfold chkT at h
    split at h
    · simp only [Bool.and_eq_true, decide_eq_true_eq, Bool.not_eq_true'] at h
      obtain ⟨⟨⟨rfl, h0⟩, h1⟩, h2⟩ := h
      exact ⟨pT_cmp G.facts.units (soundE a q sc X W _ G h1) (soundE b q sc X W _ G h2) h0, fun _ _ _ e => by cases e⟩
    · cases h
  | .isN n a, q, sc, X, W, x, G, h => by
    unfold chkT at h
    split at h
    · simp only [Bool.and_eq_true, decide_eq_true_eq] at h
      obtain ⟨rfl, h1⟩ := h
      cases n with
      | true => exact ⟨pT_notN (soundE a q sc X W _ G h1), fun _ _ _ e => by cases e⟩
      | false => exact ⟨pT_isN (soundE a q sc X W _ G h1), fun _ _ _ e => by cases e⟩
    · cases h
  | .chain o o' a b d, q, sc, X, W, x, G, h => by
    unfold chkT at h
    split at h
    · simp only [Bool.and_eq_true, decide_eq_true_eq, Bool.not_eq_true'] at h
      obtain ⟨⟨⟨⟨⟨rfl, rfl⟩, h0⟩, h1⟩, h2⟩, h3⟩ := h
      exact ⟨pT_chain G.facts.units (soundE a q sc X W _ G h1) (soundE b q sc X W _ G h2) (soundE d q sc X W _ G h3) h0, fun _ _ _ e => by cases e⟩
    · cases h
  | .gin n y ks a, q, sc, X, W, x, G, h => by
    unfold chkT at h
    split at h
    · simp only [Bool.and_eq_true, decide_eq_true_eq, Option.isSome_iff_exists] at h
      obtain ⟨⟨⟨⟨rfl, rfl⟩, h1⟩, kvs, hk⟩, h3⟩ := h
      obtain ⟨m1, m2⟩ := kdKeys_of hk
      subst m2
      exact ⟨(pE_gin G.facts m1 (gl_of G h1).1 (gl_of G h1).2 (soundE a q sc X W _ G h3)).2, fun _ _ _ e => by cases e⟩
    · cases h
  | .call f es, q, sc, X, W, x, G, h => by
    unfold chkT at h
    split at h
    · simp only [Bool.and_eq_true, decide_eq_true_eq] at h
      obtain ⟨⟨⟨rfl, h1⟩, hn⟩, h3⟩ := h
      obtain ⟨k1, _, k3, k4⟩ := soundEs es q sc X W _ G h3
      rcases split_of k4 with ⟨rfl, rfl⟩ | ⟨a, as, rfl⟩
      · exact ⟨pT_truth (pE_call0 G.facts hn (gl_of G h1).1 (gl_of G h1).2) (test_of rfl), fun _ _ _ e => by cases e⟩
      · exact ⟨pT_truth (pE_call G.facts hn (gl_of G h1).1 (gl_of G h1).2 k3 k1) (test_of rfl), fun _ _ _ e => by cases e⟩
    · cases h
  | .prim p es, q, sc, X, W, x, G, h => by
    cases p with
    | isinst ts =>
      unfold chkT at h
      split at h
      · simp only [Bool.and_eq_true, decide_eq_true_eq] at h
        obtain ⟨⟨⟨⟨⟨⟨⟨⟨hz, h1⟩, h2⟩, ht⟩, h3⟩, h4⟩, h5⟩, h6⟩, h7⟩ := h
        subst ht
        obtain ⟨b1, b2⟩ := tyBoot h3
        exact ⟨pT_truth (pE_isinst h3 hz (gl_of G h2).1 (G.facts.free _ h1) b1 (gl_of G h4).1 (G.facts.free _ h5) b2 (gl_of G h4).2 h6 (soundE _ q sc X W _ G h7)) (test_of rfl), fun _ _ _ e => by cases e⟩
      · cases h
    | _ =>
      unfold chkT at h
      split at h
      · rename_i hp
        simp only [Bool.and_eq_true, decide_eq_true_eq] at h
        obtain ⟨⟨⟨⟨rfl, h1⟩, h2⟩, h3⟩, h4⟩ := h
        obtain ⟨k1, _, k3, k4⟩ := soundEs es q sc X W _ G h4
        obtain ⟨a, as, rfl⟩ := nonempty_of h3
        rcases builtin_of G.facts.calm G.facts.units G.facts.gd hp with ⟨_, b1, b2, b3⟩ | ⟨_, b1, b2, b3⟩
        · exact ⟨pT_truth (pE_primB b1 (gl_of G h1).1 (G.facts.free _ h2) b2 b3 (gl_of G h1).2 k3 k1) (test_of rfl), fun _ _ _ e => by cases e⟩
        · exact ⟨pT_truth (pE_primT b1 (gl_of G h1).1 (G.facts.free _ h2) b2 b3 (gl_of G h1).2 k3 k1) (test_of rfl), fun _ _ _ e => by cases e⟩
      · cases h
  | .var i, q, sc, X, W, x, G, h => by
    unfold chkT at h
    split at h
    · simp only [Bool.and_eq_true, decide_eq_true_eq, okN] at h
      obtain ⟨⟨h1, h2⟩, h3, h4⟩ := h
      exact ⟨pT_truth (pE_var (by rw [G.N]; exact h1) (by rw [G.scp]; exact vis_of h2) (ne_b h3) (ne_b h4)) (test_of rfl), fun _ _ _ e => by cases e⟩
    · cases h
  | .idx a i, q, sc, X, W, x, G, h => by
    unfold chkT at h
    split at h
    · simp only [Bool.and_eq_true] at h
      exact ⟨pT_truth (pE_idx h.1.1 (soundE a q sc X W _ G h.1.2) (soundE i q sc X W _ G h.2)) (test_of rfl), fun _ _ _ e => by cases e⟩
    · cases h
  | .lit _, _, _, _, _, _, _, h => by unfold chkT at h; cases h
  | .glb _ _, _, _, _, _, _, _, h => by unfold chkT at h; cases h
  | .bin _ _ _, _, _, _, _, _, _, h => by unfold chkT at h; cases h
  | .neg _, _, _, _, _, _, _, h => by unfold chkT at h; cases h
  | .ife _ _ _, _, _, _, _, _, _, h => by unfold chkT at h; cases h
  | .tup _, _, _, _, _, _, _, h => by unfold chkT at h; cases h
  | .slc _ _ _, _, _, _, _, _, _, h => by unfold chkT at h; cases h
  | .rev _, _, _, _, _, _, _, h => by unfold chkT at h; cases h
  | .mth _ _ _ _, _, _, _, _, _, _, h => by unfold chkT at h; cases h
  | .dlk _ _, _, _, _, _, _, _, h => by unfold chkT at h; cases h
  | .git _ _ _, _, _, _, _, _, _, h => by unfold chkT at h; cases h
  | .newW _, _, _, _, _, _, _, h => by unfold chkT at h; cases h
  | .appW _ _, _, _, _, _, _, _, h => by unfold chkT at h; cases h
  | .popW _, _, _, _, _, _, _, h => by unfold chkT at h; cases h
  | .frs _, _, _, _, _, _, _, h => by unfold chkT at h; cases h
  | .new _, _, _, _, _, _, _, h => by unfold chkT at h; cases h
end
end
end HB
/-! What the checker lets pass keeps to the model: statements. -/
namespace HB
open PySem PySem.W PySem.Spec PyProof.Rows L2
def lcOf : Ex → Option (Bool × List Nat × Ex × Tg × It × Option Ex)
  | .frs (.lc own elt tg it cond) => some (true, own, elt, tg, it, cond)
  | .new (.lc own elt tg it cond) => some (false, own, elt, tg, it, cond)
  | _ => none
theorem lcOf_eq {e : Ex} {fr : Bool} {own : List Nat} {elt : Ex} {tg : Tg} {it : It} {cond : Option Ex} (h : lcOf e = some (fr, own, elt, tg, it, cond)) : e = if fr then .frs (.lc own elt tg it cond) else .new (.lc own elt tg it cond) := by
  unfold lcOf at h
  split at h <;> cases h <;> rfl
def chkLc (q : Cst) (sc : Scope) (tg a : Expr) (t : Tg) (e : Ex) : Bool := match tg, a, t, lcOf e with
  | .Name y py, .ListComp elt [⟨g, it, ifs, 0⟩] scope lpos, .name i, some (_, own, eelt, etg, eit, cond) =>
    decide (q.N[i]? = some y) && decide (sc.names.lookup y = some .local) && (py.line == lpos.line) && decide ((scope.names.any fun (n, k) => n == y && (k == .local || k == .cell)) = false) &&
      (own.all (fun i => decide (i < q.N.length)) && blkC q.N sc scope (own.map fun i => (q.N.getD i "", i)) && decide ((own.map fun i => (q.N.getD i "", i)).map (·.2) = own) && (tgSl etg).all (fun i => decide (i ∈ own)) && noSet it &&
      chkI q sc eit g it && chkG { q with own := some scope.names } (relS scope sc) etg g && chkE { q with own := some scope.names } (relS scope sc) eelt elt && (match ifs, cond with
        | [], none => true
        | [u], some e => chkT { q with own := some scope.names } (relS scope sc) e u
        | _, _ => false))
  | _, _, _, _ => false
def locN (q : Cst) (sc : Scope) (i : Nat) (x : Str) : Bool := decide (q.N[i]? = some x) && decide (sc.names.lookup x = some .local)
def chkPar (q : Cst) (sc : Scope) (ts vs : List Expr) (gs : List Tg) (es : List Ex) : Bool :=
  if parNone sc ts vs then vs.all noStar && ts.all noStar && decide (ts.length = gs.length) && chkEs q sc es vs && chkGs q sc gs ts && decide (ts.length ≤ maxLen)
  else match gs, es, ts, vs with
    | [.name i, .name j], [_, _], [.Name x px, .Name y py], [a, b] => decide (i ≠ j) && locN q sc i x && locN q sc j y && parSome sc [.Name x px, .Name y py] [a, b] [x, y] && chkEs q sc es [a, b]
    | [.name i, .name j, .name l], [_, _, _], [.Name x px, .Name y py, .Name z pz], [a, b, d] => decide (i ≠ j) && decide (i ≠ l) && decide (j ≠ l) && locN q sc i x && locN q sc j y && locN q sc l z && parSome sc [.Name x px, .Name y py, .Name z pz] [a, b, d] [x, y, z] && chkEs q sc es [a, b, d]
    | _, _, _, _ => false
mutual
def chkS (q : Cst) (sc : Scope) : St → Stmt → Bool
  | .asg t e, x => match x with
    | .Assign [tg] a _ => if noComp a then noPar tg a && noStar tg && chkE q sc e a && chkG q sc t tg else chkLc q sc tg a t e
    | _ => false
  | .par gs es, x => match x with
    | .Assign [.Tuple ts _ _] (.Tuple vs _ _) _ => chkPar q sc ts vs gs es
    | _ => false
  | .aug i o e, x => match x with
    | .AugAssign (.Name y _) op a _ => decide (op = opOf o) && decide (q.N[i]? = some y) && locB sc y && fnB q sc y && chkE q sc e a
    | _ => false
  | .augIx a i o e, x => match x with
    | .AugAssign (.Subscript u v _) op d _ => decide (op = opOf o) && noSlice v && chkE q sc a u && chkE q sc i v && chkE q sc e d
    | _ => false
  | .exp e, x => match x with
    | .Expr a _ => noComp a && chkE q sc e a
    | _ => false
  | .ite t a b, x => match x with
    | .If u xs ys _ => chkT q sc t u && chkB q sc a xs && chkB q sc b ys
    | _ => false
  | .for_ t it b, x => match x with
    | .For tg a xs [] _ => noSet a && chkI q sc it tg a && chkG q sc t tg && chkB q sc b xs
    | _ => false
  | .while_ t b, x => match x with
    | .While u xs [] _ => chkT q sc t u && chkB q sc b xs
    | _ => false
  | .ret e, x => match x with
    | .Return (some a) _ => chkE q sc e a
    | _ => false
  | .retN, x => match x with
    | .Return none _ => true
    | _ => false
  | .pass, x => match x with
    | .Pass _ => true
    | _ => false
  | .brk, x => match x with
    | .Break _ => true
    | _ => false
  | .cnt, x => match x with
    | .Continue _ => true
    | _ => false
  | .raise_ y es, x => match x, es with
    | .Raise (some (.Call (.Name z _) [.Constant (.str _) _ _] [] _)) none _, [] => decide (y = z) && decide (z ∈ q.T.excs) && glB sc z
    | _, _ => false
  | .nop, x => match x with
    | .Expr (.Constant (.str _) _ _) _ => true
    | _ => false
def chkB (q : Cst) (sc : Scope) : List St → List Stmt → Bool
  | [], [] => true
  | s :: b, x :: xs => chkS q sc s x && chkB q sc b xs
  | _, _ => false
end
section
variable {c : Calls}
theorem sound_par {q : Cst} {sc : Scope} {X : Cx} {W : WX} {ts vs : List Expr} {gs : List Tg} {es : List Ex} {k k2 : Nat} {p p2 pos : Pos} (G : GoodX q sc X c W) (h : chkPar q sc ts vs gs es = true) :
    PS X (.Assign [.Tuple ts k p] (.Tuple vs k2 p2) pos) (tS X c W (.par gs es)) := by
  unfold chkPar at h
  split at h
  · rename_i hp
    simp only [Bool.and_eq_true, decide_eq_true_eq] at h
    obtain ⟨⟨⟨⟨⟨h1, h2⟩, h3⟩, h4⟩, h5⟩, h6⟩ := h
    exact pS_par G.facts.calm (by rw [G.scp]; exact hp) h1 h2 h3 (soundEs es q sc X W _ G h4).1 (soundGs gs q sc X W _ G h5).1 h6
  · split at h
    · simp only [Bool.and_eq_true, decide_eq_true_eq, locN] at h
      obtain ⟨⟨⟨⟨h1, h2, h3⟩, h4, h5⟩, h6⟩, h7⟩ := h
      obtain ⟨k1, _, k3, _⟩ := soundEs _ q sc X W _ G h7
      exact pS_par2 G.facts.calm G.facts.nd (by rw [G.scp]; exact G.kind) (by rw [G.N]; exact h2) (by rw [G.N]; exact h4) h1 (by rw [G.scp]; exact h3) (by rw [G.scp]; exact h5) (by rw [G.scp]; exact h6) k3 k1
    · simp only [Bool.and_eq_true, decide_eq_true_eq, locN] at h
      obtain ⟨⟨⟨⟨⟨⟨⟨h1, h1b⟩, h1c⟩, h2, h3⟩, h4, h5⟩, h6, h7⟩, h8⟩, h9⟩ := h
      obtain ⟨k1, _, k3, _⟩ := soundEs _ q sc X W _ G h9
      exact pS_par3 G.facts.calm G.facts.nd (by rw [G.scp]; exact G.kind) (by rw [G.N]; exact h2) (by rw [G.N]; exact h4) (by rw [G.N]; exact h6) h1 h1b h1c (by rw [G.scp]; exact h3) (by rw [G.scp]; exact h5) (by rw [G.scp]; exact h7) (by rw [G.scp]; exact h8) k3 k1
    · cases h
theorem sound_lc {q : Cst} {sc : Scope} {X : Cx} {W : WX} {tg a : Expr} {t : Tg} {e : Ex} {pos : Pos} (G : GoodX q sc X c W) (h : chkLc q sc tg a t e = true) : PS X (.Assign [tg] a pos) (tS X c W (.asg t e)) := by
  unfold chkLc at h
  split at h
  · rename_i y py elt g it ifs scope lpos i fr own eelt etg eit cond e1
    simp only [Bool.and_eq_true, decide_eq_true_eq] at h
    obtain ⟨⟨⟨⟨g1, g2⟩, g3⟩, g4⟩, ⟨⟨⟨⟨⟨⟨⟨h0, h1⟩, h2⟩, h3⟩, h4⟩, h5⟩, h6⟩, h7⟩, h8⟩ := h
    have bo := blkOk_by h1
    rw [lcOf_eq e1, ← h2]
    refine pS_lc (fr := fr) G.facts.calm G.facts.nd (by rw [G.N]; exact g1) (by rw [G.scp]; exact g2) (by rw [G.scp]; exact G.kind) g3 g4 (soundI eit q sc X W g it G h5) (by rw [G.N, G.scp]; exact bo) (fun j hj => ?_) (fun s H C cl fp => ?_) (fun s H C cl fp => ?_) (fun s H C cl fp => ?_) (fold_of h4)
    · rw [h2]; exact of_decide_eq_true (List.all_eq_true.mp h3 j hj)
    · exact soundG etg _ _ _ _ g (good_blk G s H scope C cl fp bo.kind) h6
    · have GB := good_blk G s H scope C cl fp bo.kind
      cases ifs with
      | nil =>
        cases cond with
        | none => exact pC_none
        | some _ => cases h8
      | cons u us =>
        cases us with
        | cons _ _ => cases cond <;> cases h8
        | nil =>
          cases cond with
          | none => cases h8
          | some e => exact pC_some (soundT e _ _ _ _ u GB h8).1
    · exact soundE eelt _ _ _ _ elt (good_blk G s H scope C cl fp bo.kind) h7
  · cases h
mutual
theorem soundS : ∀ (st : St) (q : Cst) (sc : Scope) (X : Cx) (W : WX) (x : Stmt), GoodX q sc X c W → PassesOwn (model X.prog X.w) X.A X.env X.xe → chkS q sc st x = true → PS X x (tS X c W st)
  | .asg t e, q, sc, X, W, x, G, hp, h => by
    unfold chkS at h
    split at h
    · split at h
      · rename_i hn
        simp only [Bool.and_eq_true] at h
        exact pS_asg h.1.1.1 hn h.1.1.2 (soundE e q sc X W _ G h.1.2) (soundG t q sc X W _ G h.2)
      · exact sound_lc G h
    · cases h
  | .par gs es, q, sc, X, W, x, G, hp, h => by
    unfold chkS at h
    split at h
    · exact sound_par G h
    · cases h
  | .aug i o e, q, sc, X, W, x, G, hp, h => by
    unfold chkS at h
    split at h
    · simp only [Bool.and_eq_true, decide_eq_true_eq] at h
      obtain ⟨⟨⟨⟨rfl, h1⟩, h2⟩, h3⟩, h4⟩ := h
      exact pS_aug G.facts.nd (by rw [G.N]; exact h1) (by rw [G.scp]; exact loc_of h2) (fn_of' G h3) (soundE e q sc X W _ G h4)
    · cases h
  | .augIx a i o e, q, sc, X, W, x, G, hp, h => by
    unfold chkS at h
    split at h
    · simp only [Bool.and_eq_true, decide_eq_true_eq] at h
      obtain ⟨⟨⟨⟨rfl, h1⟩, h2⟩, h3⟩, h4⟩ := h
      exact pS_augIx h1 (soundE a q sc X W _ G h2) (soundE i q sc X W _ G h3) (soundE e q sc X W _ G h4)
    · cases h
  | .exp e, q, sc, X, W, x, G, hp, h => by
    unfold chkS at h
    split at h
    · simp only [Bool.and_eq_true] at h
      exact pS_exp h.1 (soundE e q sc X W _ G h.2)
    · cases h
  | .ite t a b, q, sc, X, W, x, G, hp, h => by
    unfold chkS at h
    split at h
    · simp only [Bool.and_eq_true] at h
      exact pS_if (soundT t q sc X W _ G h.1.1).1 (soundB a q sc X W _ G hp h.1.2) (soundB b q sc X W _ G hp h.2)
    · cases h
  | .for_ t it b, q, sc, X, W, x, G, hp, h => by
    unfold chkS at h
    split at h
    · simp only [Bool.and_eq_true] at h
      exact pS_for hp G.facts.calm (soundI it q sc X W _ _ G h.1.1.2) (soundG t q sc X W _ G h.1.2) (soundB b q sc X W _ G hp h.2) (fold_of h.1.1.1)
    · cases h
  | .while_ t b, q, sc, X, W, x, G, hp, h => by
    unfold chkS at h
    split at h
    · simp only [Bool.and_eq_true] at h
      exact pS_while hp (soundT t q sc X W _ G h.1).1 (soundB b q sc X W _ G hp h.2)
    · cases h
  | .ret e, q, sc, X, W, x, G, hp, h => by
    unfold chkS at h
    split at h
    · exact pS_ret (soundE e q sc X W _ G h)
    · cases h
  | .retN, q, sc, X, W, x, G, hp, h => by
    unfold chkS at h
    split at h
    · exact pS_retN
    · cases h
  | .pass, q, sc, X, W, x, G, hp, h => by
    unfold chkS at h
    split at h
    · exact pS_pass
    · cases h
  | .brk, q, sc, X, W, x, G, hp, h => by
    unfold chkS at h
    split at h
    · exact pS_brk
    · cases h
  | .cnt, q, sc, X, W, x, G, hp, h => by
    unfold chkS at h
    split at h
    · exact pS_cnt
    · cases h
  | .raise_ y es, q, sc, X, W, x, G, hp, h => by
    unfold chkS at h
    split at h
    · simp only [Bool.and_eq_true, decide_eq_true_eq] at h
      obtain ⟨⟨rfl, h1⟩, h2⟩ := h
      exact pS_raise G.facts h1 (gl_of G h2).1 (gl_of G h2).2
    · cases h
  | .nop, q, sc, X, W, x, G, hp, h => by
    unfold chkS at h
    split at h
    · rename_i v _ _ _
      refine PS.imp (pS_exp (c := c) (W := W) (ea := .lit (.str v)) rfl pE_str) fun D σh H ⟨Ψ, Φ, ρ, σ, env, o, ev, f⟩ => ⟨Ψ, Φ, ρ, σ, env, o, ev, ?_⟩
      have : exS c (.exp (.lit (.str v))) env σ = exS c .nop env σ := by simp only [exS, evE, R.toO]
      rw [this]; exact f
    · cases h
theorem soundB : ∀ (b : List St) (q : Cst) (sc : Scope) (X : Cx) (W : WX) (xs : List Stmt), GoodX q sc X c W → PassesOwn (model X.prog X.w) X.A X.env X.xe → chkB q sc b xs = true → PSs X xs (tB X c W b)
  | [], q, sc, X, W, xs, G, hp, h => by
    cases xs with
    | nil => exact pB_nil
    | cons _ _ => unfold chkB at h; cases h
  | s :: b, q, sc, X, W, xs, G, hp, h => by
    cases xs with
    | nil => unfold chkB at h; cases h
    | cons x xs =>
      rw [chkB] at h
      simp only [Bool.and_eq_true] at h
      exact pB_cons (soundS s q sc X W x G hp h.1) (soundB b q sc X W xs G hp h.2)
end
end
end HB
/-! Each def keeps its promise. -/
namespace HB
open PySem PySem.W PySem.Spec PyProof.Rows L2
section
variable {Ψ Φ H : Hp} {ρ : List Addr} {σ : Sto}
/-- a callee's list handed up: the others of its store are given up -/
theorem Ok.move (o : Ok Ψ Φ ρ σ H) {n i : Nat} {a : Addr} {xs : List D} (hn : n ≤ i) (e1 : ρ[i]? = some a) (e2 : σ[i]? = some (.lst xs)) (hp : (σ.take n).all plainC = true) : Ok Ψ Φ (ρ.take n ++ [a]) (σ.take n ++ [.lst xs]) H := by
  have hi : i < ρ.length := (List.getElem?_eq_some_iff.mp e1).1
  have hl := o.len
  have hna : a ∉ ρ.take n := fun h => by
    obtain ⟨j, hj, e⟩ := List.mem_iff_getElem.mp h
    have hj2 : j < n := by simp at hj; omega
    have : ρ[j]? = some a := by
      have : (ρ.take n)[j]? = some a := by rw [List.getElem?_eq_getElem hj, e]
      rw [List.getElem?_take, if_pos hj2] at this; exact this
    have := nodup_at o.nd this e1
    omega
  refine ⟨fun b u e => ?_, o.sub, ?_, by simp [o.len], fun j b c f1 f2 => ?_⟩
  · obtain ⟨h1, h2, h3⟩ := o.pin b u e
    refine ⟨h1, h2, fun h => ?_⟩
    rcases List.mem_append.mp h with h | h
    · exact h3 (List.mem_of_mem_take h)
    · rw [List.mem_singleton] at h
      subst h
      exact h3 (List.mem_of_getElem? e1)
  · rw [List.nodup_append]
    refine ⟨o.nd.sublist (List.take_sublist _ _), by simp, fun x hx y hy => ?_⟩
    rw [List.mem_singleton] at hy
    subst hy
    exact fun e => hna (e ▸ hx)
  · have l1 : (ρ.take n).length = n := by simp; omega
    have l2 : (σ.take n).length = n := by simp; omega
    rcases Nat.lt_trichotomy j n with q | q | q
    · rw [List.getElem?_append_left (by omega)] at f1 f2
      have pc : plainC c = true := List.all_eq_true.mp hp c (List.mem_of_getElem? f2)
      rw [List.getElem?_take, if_pos q] at f1 f2
      exact (o.cell j b c f1 f2).plain pc
    · rw [List.getElem?_append_right (by omega)] at f1 f2
      rw [l1] at f1
      rw [l2] at f2
      have z : j - n = 0 := by omega
      rw [z] at f1 f2
      simp at f1 f2
      subst f1 f2
      exact o.cell i a _ e1 e2
    · rw [List.getElem?_eq_none (by simp; omega)] at f1
      cases f1
theorem pre_take {ρ' : List Addr} {n : Nat} (p : ρ <+: ρ') (h : n = ρ.length) : ρ'.take n = ρ := by
  obtain ⟨t, rfl⟩ := p
  subst h
  simp
theorem pre_move {ρ' : List Addr} {n : Nat} (p : ρ <+: ρ') (h : n = ρ.length) (a : Addr) : ρ <+: ρ'.take n ++ [a] := by
  rw [pre_take p h]; exact List.prefix_append _ _
theorem chkR_ok {n : Nat} {w : HB.W} {s : Sto} {P : HB.W → Sto → Hp → List Addr → Hp → Prop} {E : Xn → Hp → Prop} (f : Fin Ψ Φ ρ (chkR n (.ok w s)) P E) : (s.take n).all plainC = true ∧ Fin Ψ Φ ρ (.ok w s) P E := by
  simp only [chkR] at f
  split at f
  · rename_i h; exact ⟨h, f⟩
  · exact f.elim
theorem chkR_ex {n : Nat} {x : Xn} {s : Sto} {P : HB.W → Sto → Hp → List Addr → Hp → Prop} {E : Xn → Hp → Prop} (f : Fin Ψ Φ ρ (chkR n (.ex x s)) P E) : (s.take n).all plainC = true ∧ Fin Ψ Φ ρ (.ex x s) P E := by
  simp only [chkR] at f
  split at f
  · rename_i h; exact ⟨h, f⟩
  · exact f.elim
theorem take_take' {α : Type} (l : List α) (n : Nat) : (l.take n).take n = l.take n := by rw [List.take_take, Nat.min_self]
/-- a body's end is the def's end -/
theorem fin_out {X : Cx} {W : WX} {E : XK} {o : O} {keep : Bool} {Q : VK} (hW : ∀ cls d s H, E cls d H → W cls d s H) (ok : Ok Ψ Φ ρ σ H)
    (f : Fin Ψ Φ ρ (chkR σ.length (outF keep σ.length o)) (fun w _ Φ' ρ' H' => ∀ v, RelW Φ' ρ' w v → Q v H') (EX X.mg E)) : FinO X W Ψ Φ ρ o { nx := fun _ H' => Q .non H', rt := Q } := by
  have hl := ok.len
  cases o with
  | nx e s =>
    obtain ⟨hp, f⟩ := chkR_ok f
    rw [take_take'] at hp
    intro Φ' ρ' H' σ' s1 p o1 _
    refine f Φ' (ρ'.take σ.length) H' s1 ?_ (o1.cut _ hp) .non (by first | exact .non | exact Dp.non | constructor)
    rw [pre_take p hl.symm]; exact List.prefix_refl _
  | ret w s =>
    intro Φ' ρ' H' s1 p o1 v r
    simp only [outF, endF] at f
    split at f
    · cases w with
      | d x =>
        obtain ⟨hp, f⟩ := chkR_ok f
        rw [take_take'] at hp
        refine f Φ' (ρ'.take σ.length) H' s1 ?_ (o1.cut _ hp) v r
        rw [pre_take p hl.symm]; exact List.prefix_refl _
      | h i =>
        simp only at f
        split at f
        · rename_i hn
          split at f
          · rename_i xs e2
            obtain ⟨hp, f⟩ := chkR_ok f
            obtain ⟨a, e1, rfl⟩ := r
            have l2 : (s.take σ.length).length = σ.length := by
              have := (List.getElem?_eq_some_iff.mp e2).1
              simp; omega
            have e5 : ((s.take σ.length) ++ [Cell.lst xs]).take σ.length = s.take σ.length := by
              conv => lhs; arg 1; rw [← l2]
              exact List.take_left
            rw [e5] at hp
            refine f Φ' (ρ'.take σ.length ++ [a]) H' s1 (pre_move p hl.symm a) (o1.move hn e1 e2 hp) (.ref a) ⟨a, ?_, rfl⟩
            rw [pre_take p hl.symm, ← hl]
            simp
          · exact f.elim
        · exact f.elim
    · unfold toD at f
      cases q : frz s w with
      | none => rw [q] at f; exact f.elim
      | some ds =>
        obtain ⟨d, s2⟩ := ds
        rw [q] at f
        obtain ⟨hp, f⟩ := chkR_ok f
        rw [take_take'] at hp
        obtain ⟨Φ2, g, o2, r2⟩ := frz_ok o1 r q
        refine f Φ2 (ρ'.take σ.length) H' (s1.trans g) ?_ (o2.cut _ hp) v r2
        rw [pre_take p hl.symm]; exact List.prefix_refl _
  | ex x e s =>
    obtain ⟨hp, f⟩ := chkR_ex f
    rw [take_take'] at hp
    intro Φ' ρ' H' σ' s1 p o1 _ cls d hx
    refine hW _ _ _ _ (f Φ' (ρ'.take σ.length) H' s1 ?_ (o1.cut _ hp) cls d hx)
    rw [pre_take p hl.symm]; exact List.prefix_refl _
  | brk _ _ => exact f.elim
  | cnt _ _ => exact f.elim
  | bad => exact f.elim
theorem paired_len {α β : Type} {r : α → β → Prop} : ∀ {xs : List α} {ys : List β}, Paired r xs ys → xs.length = ys.length
  | _, _, .nil => rfl
  | _, _, .cons _ h => by simp [paired_len h]
theorem paired_get {α β : Type} {r : α → β → Prop} : ∀ {xs : List α} {ys : List β}, Paired r xs ys → ∀ (i : Nat) (x : α), xs[i]? = some x → ∃ y, ys[i]? = some y ∧ r x y
  | _, _, .nil, i, x, e => by simp at e
  | _, _, .cons h t, 0, x, e => by simp at e; subst e; exact ⟨_, rfl, h⟩
  | _, _, .cons h t, i + 1, x, e => by simp at e; simpa using paired_get t i x e
theorem env_start {N : List Str} {ws : List HB.W} {vs : List V} (r : RelWs Φ ρ ws vs) : EnvOk Φ ρ (ws.map some ++ List.replicate (N.length - ws.length) none) (start N vs) := by
  have l := paired_len r
  refine ⟨by simp [L2.start, l], fun i w e => ?_⟩
  by_cases h : i < ws.length
  · rw [List.getElem?_append_left (by simpa using h)] at e
    simp at e
    obtain ⟨v, hv, rv⟩ := paired_get r i w e
    refine ⟨v, ?_, rv⟩
    rw [L2.start, List.getElem?_append_left (by simp; omega)]
    simp [hv]
  · rw [List.getElem?_append_right (by simp; omega)] at e
    rw [List.getElem?_replicate] at e
    split at e <;> cases e
end
/-- what is told by hand: from data to data -/
def spX (g : List D → Option D) : Sp := fun vs H Q _ => ∃ Φ ds r, Sub Φ H ∧ RpAll Φ H vs ds ∧ g ds = some r ∧ Out Φ H r Q
/-- what stands behind the top -/
structure Base (P : Program) (w : World) (K : PySem.W.Frag) (mg : Str → Option Value) (base : Heap) (T : Tab) (kx : Nat) : Prop where
  free : ∀ x ∈ T.free, mg x = none
  glob : ∀ p ∈ T.glob, ∃ u v, mg p.1 = some u ∧ RelV v u ∧ ∀ Φ, Dp K0 Φ v p.2
  kds : ∀ p ∈ T.kds, ∃ a es n, mg p.1 = some (.ref a) ∧ KDict K w a es n ∧ (∀ z, p.2.lookup z = none → nsIn K a z = some none) ∧
    ∀ z d, p.2.lookup z = some d → ∃ u v, nsIn K a z = some (some u) ∧ RelV v u ∧ ∀ Φ, Dp K0 Φ v d
  excs : ∀ x ∈ T.excs, ∃ C, mg x = some (.ref C) ∧ ExcF K C
  ext : ∀ p ∈ T.ext, T.prog.find? (fun e => decide (e.name = p.1)) = none ∧ T.ext.lookup p.1 = some p.2 ∧ ∃ (k0 : Nat) (f : Addr) (fd : FuncData) (ps : List Str), k0 ≤ kx ∧ mg p.1 = some (.ref f) ∧ keepIn K (.ref f) = true ∧ Binds K fd ps [] ∧ FnG P w K mg base k0 f fd ps (spX p.2)
  funs : ∀ d ∈ T.prog, ∃ qual params body scope f fd ps, FunD K d.name qual params body scope [] [] f fd ∧ FnScope d.slots ps scope ∧ Binds K fd ps [] ∧ mg d.name = some (.ref f) ∧
    chkB ⟨d.slots, T, none⟩ scope d.body body = true ∧ d.params = ps.length ∧ T.prog.find? (fun e => decide (e.name = d.name)) = some d
theorem knows_of {T : Tab} {x : Str} (h : T.knows x = true) : (∃ d ∈ T.prog, d.name = x) ∨ ∃ p ∈ T.ext, p.1 = x := by
  unfold Tab.knows at h
  rcases of_or_eq h with h | h
  · obtain ⟨d, hd, e⟩ := List.any_eq_true.mp h
    exact .inl ⟨d, hd, of_decide_eq_true e⟩
  · obtain ⟨d, hd, e⟩ := List.any_eq_true.mp h
    exact .inr ⟨d, hd, of_decide_eq_true e⟩
theorem fn_sound {P : Program} {w : World} {K : PySem.W.Frag} {mg : Str → Option Value} {base : Heap} {T : Tab} {kx : Nat} (B : Base P w K mg base T kx) : ∀ (k : Nat), ∀ x, T.knows x = true → ∃ f fd ps,
    FnG P w K mg base (k + kx) f fd ps (spI mg (runF T.prog T.ext k) x) ∧ mg x = some (.ref f) ∧ keepIn K (.ref f) = true ∧ Binds K fd ps []
  | 0, x, hx => by
    have none : ∀ {f : Addr} {fd : FuncData} {ps : List Str}, FnG P w K mg base (0 + kx) f fd ps (spI mg (runF T.prog T.ext 0) x) := by
      refine ⟨fun vs H Q E q => ?_, fun A _ _ outer s H args us vs Q E _ _ _ q => ?_⟩
      · obtain ⟨Ψ, Φ, ρ, σ, ws, o, r, f⟩ := q; exact f.elim
      · obtain ⟨Ψ, Φ, ρ, σ, ws, o, r, f⟩ := q; exact f.elim
    rcases knows_of hx with ⟨d, hd, rfl⟩ | ⟨p, hp, rfl⟩
    · obtain ⟨qual, params, body, scope, f, fd, ps, F, S, hb, hm, hc, hp, hn⟩ := B.funs d hd
      exact ⟨f, fd, ps, none, hm, F.kp, hb⟩
    · obtain ⟨_, _, k0, f, fd, ps, _, hm, hk, hb, _⟩ := B.ext p hp
      exact ⟨f, fd, ps, none, hm, hk, hb⟩
  | k + 1, x, hx => by
    rcases knows_of hx with ⟨d, hd, rfl⟩ | ⟨p, hp, rfl⟩
    · obtain ⟨qual, params, body, scope, f, fd, ps, F, S, hb, hm, hc, hp, hn⟩ := B.funs d hd
      have e0 : k + 1 + kx = (k + kx) + 1 := by omega
      rw [e0]
      refine ⟨f, fd, ps, fn_go F S (fun vs H Q E q => ?_) fun cdv A outer s H vs Q E gd hr q => ?_, hm, F.kp, hb⟩
      · obtain ⟨Ψ, Φ, ρ, σ, ws, o, r, g⟩ := q
        rw [runF, hn] at g
        simp only at g
        split at g
        · rename_i e
          rw [← paired_len r, e, hp]
        · exact g.elim
      · obtain ⟨Ψ, Φ, ρ, σ, ws, o, r, g⟩ := q
        rw [runF, hn] at g
        simp only at g
        split at g
        · rename_i e
          refine ⟨tB (bodyX P w K mg base d.slots qual scope f cdv A outer s H E) (runF T.prog T.ext k) (fun cls d _ H => E cls d H) d.body, ?_, Ψ, Φ, ρ, σ, _, o, env_start r, fin_out (fun _ _ _ _ h => h) o g⟩
          refine soundB d.body ⟨d.slots, T, none⟩ scope _ _ body ?_ (passes_of rfl) hc
          refine ⟨⟨rfl, S.nd, B.free, B.glob, B.kds, fun y hy => ?_, gd, B.excs, takes_of rfl rfl rfl rfl, ?_⟩, rfl, rfl, S.kind, rfl⟩
          · obtain ⟨f2, fd2, ps2, G, m2, kp2, b2⟩ := fn_sound B k y hy
            exact ⟨k + kx, f2, fd2, ps2, G, hr, m2, kp2, b2⟩
          · have := hr.un
            show (A.deeper (envOfC qual scope s.heap.objs.size f cdv)).units + 100 < _
            omega
        · exact g.elim
    · obtain ⟨h1, h2, k0, f, fd, ps, hk0, hm, hk, hb, G⟩ := B.ext p hp
      refine ⟨f, fd, ps, ?_, hm, hk, hb⟩
      have imp : ∀ {vs : List V} {H : Hp} {Q : VK} {E : XK}, spI mg (runF T.prog T.ext (k + 1)) p.1 vs H Q E → spX p.2 vs H Q E := by
        intro vs H Q E q
        obtain ⟨Ψ, Φ, ρ, σ, ws, o, r, g⟩ := q
        rw [runF, h1] at g
        simp only at g
        rw [h2] at g
        simp only at g
        obtain ⟨ds, e1, g⟩ := Fin.rds g
        obtain ⟨r', e2, g⟩ := Fin.map1 g
        exact ⟨Φ, ds, r', o.sub, peeks_rp o r e1, e2, Out.of o g⟩
      exact ⟨fun vs H Q E q => G.len _ _ _ _ (imp q), fun A gd hr up t H args us vs Q E e0 bd rv q => G.go A gd (hr.mono (by omega)) up t H args us vs Q E e0 bd rv (imp q)⟩
end HB
/-! The law's call. -/
namespace HB
open PySem PySem.W PySem.Spec PyProof.Rows L2
/-- the list of a law's script, frozen; nothing else is tracked -/
def scr (a : Addr) (o : Obj) (ns : List Int) : Hp := fun b => if b = a then some (.frz o (.lst (ns.map V.int))) else none
theorem scr_at {a : Addr} {o : Obj} {ns : List Int} : scr a o ns a = some (.frz o (.lst (ns.map V.int))) := if_pos rfl
theorem scr_ne {a b : Addr} {o : Obj} {ns : List Int} (h : b ≠ a) : scr a o ns b = none := if_neg h
theorem ints_dp {Φ : Hp} : ∀ ns : List Int, DpAll K0 Φ (ns.map V.int) (ns.map PyData.int)
  | [] => .nil
  | n :: ns => .cons (.int n) (ints_dp ns)
section
variable {P : Program} {w : World} {K : PySem.W.Frag} {mg mb : Str → Option Value} {k : Nat} {fa a : Addr} {sp : Sp} {t : Shared} {vs : List Value} {ns : List Int}
theorem law_go (KX : K.In t.heap) (nK : K.lookup a = none) (g1 : t.heap.Ns mainGlobals mg) (g2 : t.heap.Ns builtinsNs mb) (g3 : ∀ y : Str, y ≠ "__name__" → mb y = bootBuiltins y) (g4 : t.heap.NoLimit) (g5 : t.gens = #[])
    (at_ : t.heap.get? a = some { cls := .type "list", data := .seq vs.toArray }) (ia : IntsAre vs ns) (hl : ns.length ≤ sizeLine) (room : Room k callerA)
    (F : ∀ B0 : Heap, K.In B0 → B0.Ns mainGlobals mg → ∃ fd ps, FnG P w K mg B0 k fa fd ps sp ∧ Binds K fd ps [])
    (hsp : ∀ o : Obj, sp [.ref a] (scr a o ns) (fun v _ => v = .bl true) fun _ _ _ => False) :
    codeAny (model P w) callerA (.call (.ref fa) ⟨[.ref a], []⟩) (fun r s' => r = .ok (.ret (.bool true)) ∧ OldK t.heap s'.heap ∧ s'.os = t.os ∧ AllBare s'.gens) t := by
  obtain ⟨o, ho⟩ : ∃ o : Obj, o = { cls := .type "list", data := .seq vs.toArray } := ⟨_, rfl⟩
  have rel := vals_ints ia
  have gone : ∀ {b : Addr}, b ≠ a → scr a o ns b = none := fun h => scr_ne h
  have stays : ∀ {b : Addr} {u : Obj}, t.heap.get? b = some u → b ≠ a → (hidT t.heap (scr a o ns)).get? b = some u := fun e h => hidT_get e (gone h)
  have isNs : ∀ {b : Addr} {m : Str → Option Value}, t.heap.Ns b m → (hidT t.heap (scr a o ns)).Ns b m := by
    rintro b m ⟨u, es, n, e, d, r⟩
    refine ⟨u, es, n, stays e fun z => ?_, d, r⟩
    rw [z, at_] at e
    cases e
    exact nomatch d
  have KB : K.In (hidT t.heap (scr a o ns)) := fun b u e => stays (KX b u e) fun z => by
    rw [z, nK] at e; cases e
  have md : Mod K mg (hidT t.heap (scr a o ns)) := by
    obtain ⟨mc, c1, c2⟩ := g4
    exact ⟨KB, isNs g1, ⟨mb, isNs g2, g3⟩, ⟨mc, isNs c1, c2⟩⟩
  have hok : HOk P w (scr a o ns) t.heap := by
    intro b u e
    by_cases z : b = a
    · subst z
      rw [scr_at] at e
      cases e
      subst ho
      exact ⟨at_, by rw [List.length_map]; exact hl, vs, _, rel, at_⟩
    · rw [scr_ne z] at e; cases e
  have e0 : Env0 P w K mg (hidT t.heap (scr a o ns)) callerA [] t (scr a o ns) :=
    { frames := rfl, mod := md, bs := fun b u e => of_hidT e, bsz := Nat.le_of_eq (hidT_size _ _), funs := trivial, frf := fun b hb => absurd hb (List.not_mem_nil), hok := hok, bare := .of_eq g5 }
  obtain ⟨fd, ps, FG, bd⟩ := F _ KB (isNs g1)
  have len := FG.len _ _ _ _ (hsp o)
  have bb := bd t [.ref a] KX (by simpa using len)
  simp only [List.append_nil] at bb
  have run := FG.go callerA rfl room [] t (scr a o ns) ⟨[.ref a], []⟩ [.ref a] [.ref a] _ _ e0 bb (.cons rfl .nil) (hsp o)
  refine codeAny_mono run fun r s' z => ?_
  rcases r with e | fl
  · obtain ⟨_, _, _, _, _, _, _, _, _, _, _, _, ff⟩ := z
    exact ff.elim
  · cases fl
    case ret u =>
      obtain ⟨v, H', os, bare, un, hok', rv, q⟩ := z
      have q : v = .bl true := q
      subst q
      have rv : u = Value.bool true := rv
      subst rv
      refine ⟨rfl, OldK.of_keep fun b u e => ?_, os, bare⟩
      by_cases zz : b = a
      · subst zz
        have f2 := un.frzs b o _ scr_at
        obtain ⟨e2, _⟩ := hok' b _ f2
        obtain ⟨e1, _⟩ := hok b _ scr_at
        rw [e] at e1
        cases e1
        exact e2
      · exact un.keep b u e (gone zz) (by intro y; exact absurd y (List.not_mem_nil)) (by simp)
    case next => exact False.elim z
    case brk => exact False.elim z
    case cont => exact False.elim z
end
end HB
/-! What stands behind the top: the head's look, without lists. -/
namespace HB
open PySem PySem.W PySem.Spec PyProof.Rows L2
def isL (o : Obj) : Bool := match o.cls with
  | .type c => decide (c = "list")
  | _ => false
def frN (g : Addr → Option Obj) : List Addr → PySem.W.Frag
  | [] => []
  | a :: as => match g a with
    | some o => if isL o then frN g as else (a, o) :: frN g as
    | none => frN g as
theorem frN_at {g : Addr → Option Obj} {a : Addr} {o : Obj} : ∀ {as : List Addr}, (frN g as).lookup a = some o → g a = some o ∧ isL o = false
  | [], h => by cases h
  | b :: as, h => by
    rw [frN] at h
    split at h
    · rename_i u e
      split at h
      · exact frN_at h
      · rename_i hl
        by_cases z : a = b
        · subst z
          rw [List.lookup_cons_self] at h
          cases h
          exact ⟨e, by simpa using hl⟩
        · have : (a == b) = false := by simpa using z
          rw [List.lookup_cons, this] at h
          exact frN_at h
    · exact frN_at h
def NoL (K : PySem.W.Frag) : Prop := ∀ a o, K.lookup a = some o → isL o = false
/-- constants of the top -/
def dvOf : D → He.Dv
  | .int i => .int i
  | .str x => .str x
  | .bool b => .bl b
  | _ => .non
def flatD : D → Bool
  | .int _ | .str _ | .bool _ | .none => true
  | _ => false
theorem dv_dp {K : PySem.W.Frag} {Φ : Hp} {d : D} (h : flatD d = true) : Dp K0 Φ ((dvOf d).v K) d := by
  cases d <;> first | cases h | skip
  · exact .non
  · exact .bl _
  · exact .int _
  · exact .str _
def faG (p : Str × D) : He.Fa := match p.2 with
  | .int i => .int p.1 i
  | .str z => .str p.1 z
  | _ => .int p.1 0
def names (T : Tab) : List Str := T.prog.map (·.name) ++ T.ext.map (·.1) ++ T.kds.map (·.1) ++ T.excs
def faOf (T : Tab) : List He.Fa := T.free.map .free ++ T.glob.map faG ++ T.excs.map .exc ++ (names T).map .glo
def tsOf (T : Tab) : List He.Tab := T.kds.map fun p => (fun K => He.ga K p.1, p.2.map (·.1))
def moreB (T : Tab) (K : PySem.W.Frag) : Bool := T.kds.all fun p => He.valsB K (He.ga K p.1) (p.2.map fun q => (q.1, dvOf q.2))
def flatT (T : Tab) : Bool := (T.glob.all fun p => match p.2 with | .int _ | .str _ => true | _ => false) && T.kds.all fun p => p.2.all fun q => flatD q.2
abbrev AlN : Type := He.AlT × Bool
def obsN (n : Nat) (fn : List He.DefD) (T : Tab) (g : Addr → Option Obj) : AlN := (He.obsT (faOf T) fn (tsOf T) (frN g (He.asD g n)), moreB T (frN g (He.asD g n)))
structure SaysN (fn : List He.DefD) (T : Tab) (w : World) (K : PySem.W.Frag) : Prop where
  t : He.SaysT (faOf T) fn (tsOf T) w K
  more : moreB T K = true
  no : NoL K
def hookN (n : Nat) (fn : List He.DefD) (T : Tab) : PySem.W.Hook where
  α := AlN
  obs := fun s => obsN n fn T s.heap.get?
  val := fun w => (He.valT fn (tsOf T) w, true)
  says := fun w h => ∃ K : PySem.W.Frag, K.In h ∧ SaysN fn T w K
  of := fun _ _ e => ⟨_, fun a o h => (frN_at h).1, congrArg (fun z : AlN => z.1) e, congrArg (fun z : AlN => z.2) e, fun a o h => (frN_at h).2⟩
  keeps := fun _ _ _ ⟨K, hK, c⟩ k => ⟨K, PySem.W.Frag.In.keeps hK k, c⟩
theorem obsN_eq {n : Nat} {fn : List He.DefD} {T : Tab} {g : Addr → Option Obj} {s : Shared} (h : ∀ a, g a = s.heap.get? a) : obsN n fn T g = (hookN n fn T).obs s := by
  have e : g = s.heap.get? := funext h
  subst e
  rfl
/-- a key that a table has not -/
theorem not_there {K : PySem.W.Frag} {a : Addr} {P : Params} {ks : List Str} {z : Str} (h : He.dicW K a = some (He.keysIn P ks)) (hz : z ∉ ks) : nsIn K a z = some none := by
  unfold He.dicW at h
  unfold nsIn
  split at h
  · rename_i c es n sl e
    rw [e]
    split at h
    · have h := Option.some.inj h
      have key : ∀ (l : List DictEntry) (ks : List Str), l.map He.keyOf = He.keysIn P ks → z ∉ ks → l.find? (·.key.isStr z) = none ∧ l.any (·.refKey) = false := by
        intro l
        induction l with
        | nil => intro _ _ _; exact ⟨rfl, rfl⟩
        | cons d l ih =>
          intro ks hk hz
          cases ks with
          | nil => simp [He.keysIn] at hk
          | cons k ks =>
            simp only [He.keysIn, List.map_cons, List.cons.injEq] at hk
            obtain ⟨i1, i2⟩ := ih ks hk.2 fun y => hz (List.mem_cons_of_mem _ y)
            have hd := hk.1
            unfold He.keyOf at hd
            split at hd
            · rename_i y tk ey
              have hy : y = k := by
                have := Option.some.inj hd
                exact congrArg (·.1) this
              subst hy
              have ne : y ≠ z := fun q => hz (by rw [q]; simp)
              have n1 : d.key.isStr z = false := by rw [ey]; simp [Value.isStr, ne]
              have n2 : d.refKey = false := by unfold DictEntry.refKey; rw [ey] <;> rfl
              rw [List.find?_cons, n1, List.any_cons, n2]
              exact ⟨i1, by simpa using i2⟩
            · cases hd
      obtain ⟨k1, k2⟩ := key es.toList ks h hz
      simp only
      rw [k1, k2]
      rfl
    · cases h
  · cases h
end HB
/-! From the head's look to the defs' promises, to the law. -/
namespace HB
open PySem PySem.W PySem.Spec PyProof.Rows L2
/-- a def of the language, its text, its parameters -/
structure Pl where
  d : Def
  st : Stmt
  ps : List Str
def Pl.dd (p : Pl) : He.DefD := ⟨(p.d.name, none), p.d.name, p.d.name, defArgs p.st, defBody p.st, defScope p.st, [], []⟩
def scB (N ps : List Str) (sc : Scope) : Bool :=
  (match sc.kind with | .function => true | _ => false) && !sc.isCoroutine && !sc.isGenerator && decide N.Nodup && decide (N.take ps.length = ps) && (ps.all fun x => locB sc x) && sc.names.all fun y => decide (y.2 ≠ .free)
theorem sc_of {N ps : List Str} {sc : Scope} (h : scB N ps sc = true) : FnScope N ps sc := by
  unfold scB at h
  simp only [Bool.and_eq_true, decide_eq_true_eq, List.all_eq_true, Bool.not_eq_true'] at h
  obtain ⟨⟨⟨⟨⟨⟨h1, h2⟩, h3⟩, h4⟩, h5⟩, h6⟩, h7⟩ := h
  refine ⟨?_, h2, h3, h4, h5, fun x hx => loc_of (h6 x hx), fun y hy => h7 y hy⟩
  split at h1
  · assumption
  · cases h1
def plB (T : Tab) (p : Pl) : Bool := chkB ⟨p.d.slots, T, none⟩ (defScope p.st) p.d.body (defBody p.st) && scB p.d.slots p.ps (defScope p.st) && decide (p.d.params = p.ps.length)
def BindOk (p : Pl) : Prop := ∀ (kV doc pm : Value) (an : Option Addr) (cdv ct : Value) (us : List Value), us.length = p.ps.length →
  bindArgs (fnOf p.d.name p.d.name (defArgs p.st) (defBody p.st) (defScope p.st) .none kV doc pm an cdv ct) ⟨us, []⟩ = pure (p.ps.zip us)
/-- the facts that a law's head tells -/
structure Ready (T : Tab) (pls : List Pl) : Prop where
  prog : T.prog = pls.map (·.d)
  nd : (T.prog.map (·.name)).Nodup
  flat : flatT T = true
  chk : pls.all (plB T) = true
  bind : ∀ p ∈ pls, BindOk p
section
variable {P : Program} {w : World} {K : PySem.W.Frag} {mg : Str → Option Value} {B0 h : Heap} {T : Tab} {pls : List Pl} {xs : List He.DefD} {kx : Nat}
theorem fa_of {fn : List He.DefD} (S : SaysN fn T w K) {f : He.Fa} (hf : f ∈ faOf T) : f.ok K = true := by
  obtain ⟨i, hi⟩ := List.getElem?_of_mem hf
  exact S.t.d.fact i hi
theorem glo_of {fn : List He.DefD} (S : SaysN fn T w K) (KX : K.In h) (G : h.Ns mainGlobals mg) {x : Str} (hx : x ∈ names T) : mg x = some (.ref (He.ga K x)) :=
  He.glo_ok KX G (fa_of S (by unfold faOf; exact List.mem_append_right _ (List.mem_map.mpr ⟨x, hx, rfl⟩)))
theorem find_nd {l : List Def} (h : (l.map (·.name)).Nodup) : ∀ d ∈ l, l.find? (fun e => decide (e.name = d.name)) = some d := by
  induction l with
  | nil => intro d hd; cases hd
  | cons a l ih =>
    intro d hd
    rw [List.map_cons, List.nodup_cons] at h
    rcases List.mem_cons.mp hd with e | e
    · subst e
      rw [List.find?_cons]; simp
    · have : a.name ≠ d.name := fun z => h.1 (by rw [z]; exact List.mem_map.mpr ⟨d, e, rfl⟩)
      rw [List.find?_cons]
      simp only [this, decide_false]
      exact ih h.2 d e
theorem base_by (R : Ready T pls) (S : SaysN (pls.map Pl.dd ++ xs) T w K) (KX : K.In B0) (G : B0.Ns mainGlobals mg)
    (hx : ∀ p ∈ T.ext, T.prog.find? (fun e => decide (e.name = p.1)) = none ∧ T.ext.lookup p.1 = some p.2 ∧ ∃ (k0 : Nat) (f : Addr) (fd : FuncData) (ps : List Str), k0 ≤ kx ∧ mg p.1 = some (.ref f) ∧ keepIn K (.ref f) = true ∧ Binds K fd ps [] ∧ FnG P w K mg B0 k0 f fd ps (spX p.2)) :
    Base P w K mg B0 T kx where
  free := fun x hx => He.free_ok KX G (fa_of S (by unfold faOf; simp [hx]))
  glob := fun p hp => by
    have fl := R.flat
    unfold flatT at fl
    simp only [Bool.and_eq_true, List.all_eq_true] at fl
    have f1 := fl.1 p hp
    have m : faG p ∈ faOf T := by
      unfold faOf
      simp only [List.mem_append, List.mem_map]
      exact .inl (.inl (.inr ⟨p, hp, rfl⟩))
    have ok := fa_of S m
    obtain ⟨y, v⟩ := p
    cases v <;> try (cases f1; done)
    · obtain ⟨t, e⟩ := He.int_ok KX G ok
      exact ⟨_, .int _, e, ⟨t, rfl⟩, fun Φ => .int _⟩
    · obtain ⟨t, e⟩ := He.str_ok KX G ok
      exact ⟨_, .str _, e, ⟨t, rfl⟩, fun Φ => .str _⟩
  kds := fun p hp => by
    have fl := R.flat
    unfold flatT at fl
    simp only [Bool.and_eq_true, List.all_eq_true] at fl
    have f2 := fl.2 p hp
    obtain ⟨i, hi⟩ := List.getElem?_of_mem hp
    have ht : (tsOf T)[i]? = some (fun K => He.ga K p.1, p.2.map (·.1)) := by unfold tsOf; rw [List.getElem?_map, hi]; rfl
    obtain ⟨es, n, kd⟩ := S.t.tab i ht
    have e2 : (tsOf T).map (fun t => He.dicW K (t.1 K)) = (tsOf T).map fun t => some (He.keysIn w.params t.2) := congrArg (fun z : He.AlT => z.2) S.t
    have e3 : He.dicW K (He.ga K p.1) = some (He.keysIn w.params (p.2.map (·.1))) := by
      have := congrArg (fun l => l[i]?) e2
      simp only [List.getElem?_map, ht, Option.map_some] at this
      exact Option.some.inj this
    refine ⟨He.ga K p.1, es, n, glo_of S KX G (by unfold names; simp only [List.mem_append, List.mem_map]; exact .inl (.inr ⟨p, hp, rfl⟩)), kd, fun z hz => not_there e3 fun m => ?_, fun z d hz => ?_⟩
    · obtain ⟨q, hq, e⟩ := List.mem_map.mp m
      have : ∀ (l : List (Str × D)), q ∈ l → l.lookup z ≠ none := by
        intro l
        induction l with
        | nil => intro h; cases h
        | cons r l ih =>
          intro h
          obtain ⟨r1, r2⟩ := r
          rw [List.lookup_cons]
          by_cases y : z = r1
          · simp [y]
          · have : (z == r1) = false := by simpa using y
            rw [this]
            rcases List.mem_cons.mp h with h | h
            · exfalso; apply y; rw [← e, h]
            · exact ih h
      exact this p.2 hq hz
    · have mem : ∀ (l : List (Str × D)), l.lookup z = some d → (z, d) ∈ l := by
        intro l
        induction l with
        | nil => intro h; cases h
        | cons r l ih =>
          intro h
          obtain ⟨r1, r2⟩ := r
          rw [List.lookup_cons] at h
          by_cases y : z = r1
          · subst y; simp at h; subst h; simp
          · have : (z == r1) = false := by simpa using y
            rw [this] at h
            exact List.mem_cons_of_mem _ (ih h)
      have md := mem p.2 hz
      have mo := List.all_eq_true.mp S.more p hp
      obtain ⟨u, e4, r4⟩ := He.valsB_ok mo (q := (z, dvOf d)) (List.mem_map.mpr ⟨(z, d), md, rfl⟩)
      exact ⟨u, _, e4, r4, fun Φ => dv_dp (f2 (z, d) md)⟩
  excs := fun x hx => by
    obtain ⟨h1, h2, h3, h4⟩ := He.exc_ok (fa_of S (f := .exc x) (by unfold faOf; simp only [List.mem_append, List.mem_map]; exact .inl (.inr ⟨x, hx, rfl⟩)))
    exact ⟨He.ga K x, glo_of S KX G (by unfold names; simp [hx]), ⟨h1, h2, h3, h4⟩⟩
  ext := hx
  funs := fun d hd => by
    have hd' := hd
    rw [R.prog] at hd'
    obtain ⟨p, hp, rfl⟩ := List.mem_map.mp hd'
    obtain ⟨i, hi⟩ := List.getElem?_of_mem hp
    have hi2 : (pls.map Pl.dd ++ xs)[i]? = some p.dd := by
      have : i < pls.length := (List.getElem?_eq_some_iff.mp hi).1
      rw [List.getElem?_append_left (by simpa using this), List.getElem?_map, hi]; rfl
    obtain ⟨fd, F⟩ := S.t.d.def_ i hi2
    have c := List.all_eq_true.mp R.chk p hp
    unfold plB at c
    simp only [Bool.and_eq_true, decide_eq_true_eq] at c
    exact ⟨p.d.name, defArgs p.st, defBody p.st, defScope p.st, He.ga K p.d.name, fd, p.ps, F, sc_of c.1.2, F.bindsN (R.bind p hp), glo_of S KX G (by unfold names; simp only [List.mem_append, List.mem_map]; exact .inl (.inl (.inl ⟨p.d, hd, rfl⟩))), c.1.1, c.2, find_nd R.nd p.d hd⟩
end
end HB
/-! The law holds where the language's run says so. -/
namespace HB
open PySem PySem.W PySem.Spec PyProof.Rows L2
theorem walk_go {l : PySem.W.OpenLaw} {n k : Nat} {q : Program} {loose : List Str} {XP : (Str → Option Value) → Heap → Prop} {YP : World → Heap → Prop} {d : DefRec} (hn : l.most = some n) (hn2 : n ≤ sizeLine) (hdf : d.params.defaults = []) (room : Room k callerA)
    (F : ∀ (w : World) (mg : Str → Option Value) (fa : Addr) (h : Heap), YP w h → h.Ns mainGlobals mg → mg d.name = some (.ref fa) → ∃ (K : PySem.W.Frag) (sp : Sp), K.In h ∧ NoL K ∧
      (∀ (ns : List Int), ns.length ≤ n → (∀ i ∈ ns, Builtin.Int.intBits i ≤ 1048576) → ∀ (a : Addr) (o : Obj), sp [.ref a] (scr a o ns) (fun v _ => v = .bl true) fun _ _ _ => False) ∧
      ∀ B0 : Heap, K.In B0 → B0.Ns mainGlobals mg → ∃ fd ps, FnG l.prog w K mg B0 k fa fd ps sp ∧ Binds K fd ps []) :
    PySem.W.WalkO q loose XP YP l.row.toRowW d [] (fun f vs => PySem.call f vs) := by
  refine Att.attach_callB hn hdf fun w s₀ t mg mb fa o pm cd doc a vs ns G Y ho hd hcd hmg at_ ia hlen bits hg => ?_
  obtain ⟨K, sp, KX, no, hsp, FG⟩ := F w mg fa _ Y G.T.g hmg
  have nK : K.lookup a = none := by
    cases e : K.lookup a with
    | none => rfl
    | some u =>
      have e1 := KX a u e
      rw [at_] at e1
      cases e1
      have := no a _ e
      simp [isL] at this
  exact law_go KX nK G.T.g G.T.b G.T.builtins G.T.nolimit hg at_ ia (Nat.le_trans hlen hn2) room FG fun o => hsp ns hlen bits a o
/-- what is to be shown of the run -/
def RunOk (T : Tab) (n fuel : Nat) : Prop := ∀ ns : List Int, ns.length ≤ n → (∀ i ∈ ns, Builtin.Int.intBits i ≤ 1048576) → ∃ s, runF T.prog T.ext fuel "law" [.d (.list (ns.map .int))] [] = .ok (.d (.bool true)) s
theorem sp_law {mg : Str → Option Value} {T : Tab} {n fuel : Nat} (R : RunOk T n fuel) (ns : List Int) (h1 : ns.length ≤ n) (h2 : ∀ i ∈ ns, Builtin.Int.intBits i ≤ 1048576) (a : Addr) (o : Obj) :
    spI mg (runF T.prog T.ext fuel) "law" [.ref a] (scr a o ns) (fun v _ => v = .bl true) fun _ _ _ => False := by
  obtain ⟨s, e⟩ := R ns h1 h2
  refine ⟨fun _ => none, scr a o ns, [], [], [.d (.list (ns.map .int))], ⟨(fun _ _ z => nomatch z), (Sub.refl _), List.nodup_nil, rfl, (fun i b c z _ => by simp at z)⟩, .cons (.lst (.inl (.inr ⟨o, scr_at⟩)) (ints_dp ns)) .nil, ?_⟩
  rw [e]
  intro Φ' ρ' H' _ _ _ v r
  cases r
  rfl
theorem walk_by {l : PySem.W.OpenLaw} {n fuel kx : Nat} {q : Program} {loose : List Str} {XP : (Str → Option Value) → Heap → Prop} {YP : World → Heap → Prop} {d : DefRec} {T : Tab} {pls : List Pl} {xs : List He.DefD} (hn : l.most = some n) (hn2 : n ≤ sizeLine) (hdf : d.params.defaults = []) (room : Room (fuel + kx) callerA)
    (hd : d.name = ("law" : Str)) (kn : T.knows "law" = true) (R : Ready T pls) (run : RunOk T n fuel) (hY : ∀ (w : World) (h : Heap), YP w h → ∃ K : PySem.W.Frag, K.In h ∧ SaysN (pls.map Pl.dd ++ xs) T w K)
    (hx : ∀ (w : World) (K : PySem.W.Frag) (mg : Str → Option Value) (B0 : Heap), SaysN (pls.map Pl.dd ++ xs) T w K → K.In B0 → B0.Ns mainGlobals mg → ∀ p ∈ T.ext, T.prog.find? (fun e => decide (e.name = p.1)) = none ∧ T.ext.lookup p.1 = some p.2 ∧
      ∃ (k0 : Nat) (f : Addr) (fd : FuncData) (ps : List Str), k0 ≤ kx ∧ mg p.1 = some (.ref f) ∧ keepIn K (.ref f) = true ∧ Binds K fd ps [] ∧ FnG l.prog w K mg B0 k0 f fd ps (spX p.2)) :
    PySem.W.WalkO q loose XP YP l.row.toRowW d [] (fun f vs => PySem.call f vs) := by
  refine walk_go hn hn2 hdf room fun w mg fa h Y G hm => ?_
  obtain ⟨K, KX, S⟩ := hY w h Y
  rw [hd] at hm
  refine ⟨K, spI mg (runF T.prog T.ext fuel) "law", KX, S.no, fun ns h1 h2 a o => sp_law run ns h1 h2 a o, fun B0 KB GB => ?_⟩
  obtain ⟨f, fd, ps, FG, m2, _, bd⟩ := fn_sound (base_by R S KB GB (hx w K mg B0 S KB GB)) fuel "law" kn
  have e := m2.symm.trans hm
  cases e
  exact ⟨fd, ps, FG, bd⟩
/-- a written part of the heap, without its lists -/
def noLs (K : PySem.W.Frag) : PySem.W.Frag := frN (fun a => K.lookup a) (K.map (·.1))
theorem says_of {fn : List He.DefD} {T : Tab} {w : World} {K : PySem.W.Frag} {h : Heap} (KX : K.In h) (e : (He.obsT (faOf T) fn (tsOf T) (noLs K), moreB T (noLs K)) = (He.valT fn (tsOf T) w, true)) : ∃ K : PySem.W.Frag, K.In h ∧ SaysN fn T w K :=
  ⟨noLs K, fun a o z => KX a o (frN_at z).1, congrArg (fun z : AlN => z.1) e, congrArg (fun z : AlN => z.2) e, fun a o z => (frN_at z).2⟩
end HB
/-! The run of the language, step by step, as rules for simp. -/
namespace HB
namespace M
open PySem PySem.W
section
variable (c : Calls) (e : Env) (s : Sto)
@[simp] theorem e_lit (d : D) : evE c (.lit d) e s = .ok (.d d) s := by rw [evE]
@[simp] theorem e_glb (x : Str) (d : D) : evE c (.glb x d) e s = .ok (.d d) s := by rw [evE]
@[simp] theorem e_var (i : Nat) : evE c (.var i) e s = match e[i]? with
    | some (some w) => .ok w s
    | _ => .bad := by rw [evE] <;> rfl
@[simp] theorem e_bin (o : Op2) (a b : Ex) : evE c (.bin o a b) e s = (evE c a e s).bind fun x s => (evE c b e s).bind fun y s => rd2 s x y fun u v => R.map1 s (bin2 o u v) := by rw [evE]
@[simp] theorem e_neg (a : Ex) : evE c (.neg a) e s = (evE c a e s).bind fun x s => rd1 s x fun u => R.map1 s (neg1 u) := by rw [evE]
@[simp] theorem e_cmp (o : Cmp) (a b : Ex) : evE c (.cmp o a b) e s = (evE c a e s).bind fun x s => (evE c b e s).bind fun y s => rd2 s x y fun u v => R.map1 s ((cmp2 o u v).map .bool) := by rw [evE]
@[simp] theorem e_isN (n : Bool) (a : Ex) : evE c (.isN n a) e s = (evE c a e s).bind fun x s => .ok (.d (.bool (match x with | .d .none => !n | _ => n))) s := by rw [evE] <;> rfl
@[simp] theorem e_and (a b : Ex) : evE c (.and a b) e s = (evE c a e s).bind fun x s => tst s x fun k => if k then evE c b e s else .ok x s := by rw [evE]
@[simp] theorem e_or (a b : Ex) : evE c (.or a b) e s = (evE c a e s).bind fun x s => tst s x fun k => if k then .ok x s else evE c b e s := by rw [evE]
@[simp] theorem e_not (a : Ex) : evE c (.not a) e s = (evE c a e s).bind fun x s => tst s x fun k => .ok (.d (.bool (!k))) s := by rw [evE]
@[simp] theorem e_ife (t a b : Ex) : evE c (.ife t a b) e s = (evE c t e s).bind fun x s => tst s x fun k => if k then evE c a e s else evE c b e s := by rw [evE]
@[simp] theorem e_tup (es : List Ex) : evE c (.tup es) e s = (evD c es e s).bind fun ds s => if ds.length ≤ maxLen then .ok (.d (.tuple ds)) s else .bad := by rw [evE]
@[simp] theorem e_idx (a i : Ex) : evE c (.idx a i) e s = (evE c a e s).bind fun x s => (evE c i e s).bind fun y s => idxR s x y := by rw [evE]
@[simp] theorem e_slc (a : Ex) (lo hi : Option Ex) : evE c (.slc a lo hi) e s = (evE c a e s).bind fun x s => (evP c lo e s).bind fun l s => (evP c hi e s).bind fun h s => rd1 s x fun u => R.map1 s (slc2 u l h) := by rw [evE]
@[simp] theorem e_rev (a : Ex) : evE c (.rev a) e s = (evE c a e s).bind fun x s => rd1 s x fun u => R.map1 s (rev2 u) := by rw [evE]
@[simp] theorem e_call (f : Str) (es : List Ex) : evE c (.call f es) e s = (evs c es e s).bind fun ws s => callIn c f ws s := by rw [evE]
@[simp] theorem e_prim (p : Prim) (es : List Ex) : evE c (.prim p es) e s = (evs c es e s).bind fun ws s => rds s ws fun ds => R.map1 s (prim p ds) := by rw [evE]
@[simp] theorem e_mth (m : Mth) (ty : String) (o : Ex) (es : List Ex) : evE c (.mth m ty o es) e s = (evE c o e s).bind fun x s => rd1 s x fun u => if hasTy u ty then (if m.writes then (evD c es e s).bind fun ds s => (mthW s m x ds).bind fun d s => .ok (.d d) s
    else (evs c es e s).bind fun ws s => rd1 s x fun u => rds s ws fun ds => R.map1 s (mthD m u ds)) else .bad := by rw [evE]
@[simp] theorem e_dlk (kvs : List (Str × Str)) (a : Ex) : evE c (.dlk kvs a) e s = (evE c a e s).bind fun x s => rd1 s x fun u => R.map1 s (look kvs u) := by rw [evE]
@[simp] theorem e_gin (n : Bool) (x : Str) (ks : List Str) (a : Ex) : evE c (.gin n x ks a) e s = (evE c a e s).bind fun x s => rd1 s x fun u => R.map1 s (hasKey n ks u) := by rw [evE]
@[simp] theorem e_git (x : Str) (kvs : List (Str × D)) (a : Ex) : evE c (.git x kvs a) e s = (evE c a e s).bind fun x s => rd1 s x fun u => R.map1 s (lookD kvs u) := by rw [evE]
@[simp] theorem e_newW (es : List Ex) : evE c (.newW es) e s = (evs c es e s).bind fun ws s => if ws.length ≤ maxLen then .ok (.h s.length) (s ++ [.lsw ws]) else .bad := by rw [evE]
@[simp] theorem e_appW (o a : Ex) : evE c (.appW o a) e s = (evE c o e s).bind fun x s => match x with
    | .h _ => (evE c a e s).bind fun y s => appR s x y
    | .d _ => .bad := by rw [evE] <;> rfl
@[simp] theorem e_popW (o : Ex) : evE c (.popW o) e s = (evE c o e s).bind fun x s => popR s x := by rw [evE]
@[simp] theorem e_frs (n : Nw) : evE c (.frs n) e s = (evN c n e s).bind fun xs s => .ok (.d (.list xs)) s := by rw [evE]
@[simp] theorem e_new (n : Nw) : evE c (.new n) e s = alloc (evN c n e s) := by rw [evE]
@[simp] theorem es_nil : evs c [] e s = .ok [] s := by rw [evs]
@[simp] theorem es_cons (a : Ex) (es : List Ex) : evs c (a :: es) e s = (evE c a e s).bind fun x s => (evs c es e s).bind fun xs s => .ok (x :: xs) s := by rw [evs]
@[simp] theorem d_nil : evD c [] e s = .ok [] s := by rw [evD]
@[simp] theorem d_cons (a : Ex) (es : List Ex) : evD c (a :: es) e s = (evE c a e s).bind fun x s => toD s x fun d s => (evD c es e s).bind fun xs s => .ok (d :: xs) s := by rw [evD]
@[simp] theorem p_none : evP c none e s = .ok none s := by rw [evP]
@[simp] theorem p_some (a : Ex) : evP c (some a) e s = (evE c a e s).bind fun x s => rd1 s x fun u => R.of s (int1 u) := by rw [evP]
@[simp] theorem n_lst (es : List Ex) : evN c (.lst es) e s = (evD c es e s).bind fun ds s => if ds.length ≤ maxLen then .ok ds s else .bad := by rw [evN]
@[simp] theorem n_slc (a : Ex) (lo hi : Option Ex) : evN c (.slc a lo hi) e s = (evE c a e s).bind fun x s => (evP c lo e s).bind fun l s => (evP c hi e s).bind fun h s => rd1 s x fun u => R.of s (cut1 u l h) := by rw [evN]
@[simp] theorem c_none : evC c none e s = .ok true s := by rw [evC]
@[simp] theorem c_some (t : Ex) : evC c (some t) e s = (evE c t e s).bind fun x s => tst s x fun k => .ok k s := by rw [evC]
@[simp] theorem i_each (a : Ex) : evI c (.each a) e s = (evE c a e s).bind fun x s => R.of s (srcS s x) := by rw [evI]
@[simp] theorem i_range1 (a : Ex) : evI c (.range1 a) e s = (evE c a e s).bind fun x s => rd1 s x fun u => R.of s (range1 u) := by rw [evI]
@[simp] theorem i_range2 (a b : Ex) : evI c (.range2 a b) e s = (evE c a e s).bind fun x s => (evE c b e s).bind fun y s => rd2 s x y fun u v => R.of s (range2 u v) := by rw [evI]
@[simp] theorem t_name (i : Nat) (w : W) : asT c (.name i) w e s = if i < e.length then .ok (e.set i (some w)) s else .bad := by rw [asT]
@[simp] theorem t_ix (o i : Ex) (w : W) : asT c (.ix o i) w e s = toD s w fun x s => (evE c o e s).bind fun o s => (evE c i e s).bind fun i s => (setIx s o i x).bind fun _ s => .ok e s := by rw [asT]
@[simp] theorem ts_nil : asTs c [] [] e s = .ok e s := by rw [asTs]
@[simp] theorem ts_cons (t : Tg) (ts : List Tg) (w : W) (ws : List W) : asTs c (t :: ts) (w :: ws) e s = (asT c t w e s).bind fun e s => asTs c ts ws e s := by rw [asTs]
@[simp] theorem s_asg (t : Tg) (a : Ex) : exS c (.asg t a) e s = (evE c a e s).toO e fun w s => (noEx (asT c t w e s)).toO e .nx := by rw [exS]
@[simp] theorem s_par (ts : List Tg) (es : List Ex) : exS c (.par ts es) e s = (evs c es e s).toO e fun ws s => (noEx (asTs c ts ws e s)).toO e .nx := by rw [exS]
@[simp] theorem s_aug (i : Nat) (o : Op2) (a : Ex) : exS c (.aug i o a) e s = match e[i]? with
    | some (some x) => ((evE c a e s).bind fun y s => rd2 s x y fun u v => R.map1 s (ibin2 o u v)).toO e fun w s => .nx (e.set i (some w)) s
    | _ => .bad := by rw [exS] <;> rfl
@[simp] theorem s_augIx (a i : Ex) (o : Op2) (b : Ex) : exS c (.augIx a i o b) e s = ((evE c a e s).bind fun x s => (evE c i e s).bind fun y s => (rd2 s x y fun u v => R.of s (idxL u v)).bind fun w s => (evE c b e s).bind fun z s =>
    (rd1 s z fun v => R.of s (ibin2 o w v)).bind fun r s => setIx s x y r).toO e fun _ s => .nx e s := by rw [exS]
@[simp] theorem s_exp (a : Ex) : exS c (.exp a) e s = (evE c a e s).toO e fun _ s => .nx e s := by rw [exS]
@[simp] theorem s_ite (t : Ex) (a b : List St) : exS c (.ite t a b) e s = (evT c t e s).toO e fun k s => if k then exB c a e s else exB c b e s := by rw [exS]
theorem s_for (t : Tg) (it : It) (b : List St) : exS c (.for_ t it b) e s = (evI c it e s).toO e fun src s =>
    forL (fun s => Src.ok s src.keep) (fun x e s => (noEx (asT c t (.d x) e s)).toO e fun e s => exB c b e s) src.items e s := by rw [exS]
theorem s_while (t : Ex) (b : List St) : exS c (.while_ t b) e s = whileL (evT c t) (exB c b) turnsMost e s := by rw [exS]
@[simp] theorem s_ret (a : Ex) : exS c (.ret a) e s = (evE c a e s).toO e .ret := by rw [exS]
@[simp] theorem s_raise (n : Str) (es : List Ex) : exS c (.raise_ n es) e s = (evD c es e s).toO e fun ds s => .ex ⟨n, ds⟩ e s := by rw [exS]
@[simp] theorem s_nop : exS c .nop e s = .nx e s := by rw [exS]
@[simp] theorem b_nil : exB c [] e s = .nx e s := by rw [exB]
@[simp] theorem b_cons (a : St) (b : List St) : exB c (a :: b) e s = (exS c a e s).bind fun e s => exB c b e s := by rw [exB]
@[simp] theorem ev_T (t : Ex) : evT c t e s = (evE c t e s).bind fun x s => tst s x fun k => .ok k s := rfl
end
@[simp] theorem peek_d (s : Sto) (d : D) : peek s (.d d) = some d := rfl
@[simp] theorem rd1_d {α : Type} (s : Sto) (d : D) (g : D → R α) : rd1 s (.d d) g = g d := rfl
@[simp] theorem rd2_d {α : Type} (s : Sto) (d d' : D) (g : D → D → R α) : rd2 s (.d d) (.d d') g = g d d' := rfl
@[simp] theorem tst_b {α : Type} (s : Sto) (k : Bool) (g : Bool → R α) : tst s (.d (.bool k)) g = g k := rfl
@[simp] theorem toD_d {α : Type} (s : Sto) (d : D) (f : D → Sto → R α) : toD s (.d d) f = f d s := rfl
@[simp] theorem frz_d (s : Sto) (d : D) : frz s (.d d) = some (d, s) := rfl
@[simp] theorem map1_some (s : Sto) (d : D) : R.map1 s (some d) = .ok (.d d) s := rfl
@[simp] theorem of_none {α : Type} (s : Sto) : R.of s (none : Option α) = .bad := rfl
@[simp] theorem peeks_nil (s : Sto) : peeks s [] = some [] := rfl
@[simp] theorem rds_1 {α : Type} (s : Sto) (d : D) (g : List D → R α) : rds s [.d d] g = g [d] := rfl
@[simp] theorem rds_2 {α : Type} (s : Sto) (d d' : D) (g : List D → R α) : rds s [.d d, .d d'] g = g [d, d'] := rfl
@[simp] theorem noEx_ok' {α : Type} (a : α) (s : Sto) : noEx (.ok a s) = .ok a s := rfl
@[simp] theorem idxR_d (s : Sto) (d : D) (y : W) : idxR s (.d d) y = rd2 s (.d d) y fun u v => R.map1 s (idx2 u v) := rfl
@[simp] theorem alloc_ok (xs : List D) (s : Sto) : alloc (.ok xs s) = .ok (.h s.length) (s ++ [.lst xs]) := rfl
@[simp] theorem src_ok_nil (s : Sto) : Src.ok s [] = true := rfl
@[simp] theorem chkR_nil (r : R W) : chkR 0 r = r := by cases r <;> simp [chkR]
/-! ### texts -/
abbrev S (l : List Nat) : Str := ⟨l.toArray⟩
@[simp] theorem S_len (l : List Nat) : (S l).length = l.length := by simp [Str.length]
@[simp] theorem S_cps (l : List Nat) : (S l).cps.toList = l := rfl
@[simp] theorem S_app (a b : List Nat) : S a ++ S b = S (a ++ b) := by
  show Str.append _ _ = _
  simp [Str.append]
theorem S_inj {a b : List Nat} (h : S a = S b) : a = b := by
  have := congrArg (fun z : Str => z.cps.toList) h
  exact this
/-! ### loops -/
theorem for_nil {keep : Sto → Bool} {f : D → Env → Sto → O} {e : Env} {s : Sto} (h : keep s = true) : forL keep f [] e s = .nx e s := by simp [forL, h]
theorem for_cons {keep : Sto → Bool} {f : D → Env → Sto → O} {x : D} {xs : List D} {e e' : Env} {s s' : Sto} (h : keep s = true) (q : f x e s = .nx e' s') : forL keep f (x :: xs) e s = forL keep f xs e' s' := by simp [forL, h, q]
theorem for_ret {keep : Sto → Bool} {f : D → Env → Sto → O} {x : D} {xs : List D} {e : Env} {s s' : Sto} {w : W} (h : keep s = true) (q : f x e s = .ret w s') : forL keep f (x :: xs) e s = .ret w s' := by simp [forL, h, q]
theorem while_go {t : Env → Sto → R Bool} {f : Env → Sto → O} {n : Nat} {e e' : Env} {s s1 s' : Sto} (h : t e s = .ok true s1) (q : f e s1 = .nx e' s') : whileL t f (n + 1) e s = whileL t f n e' s' := by simp [whileL, h, q]
theorem while_end {t : Env → Sto → R Bool} {f : Env → Sto → O} {n : Nat} {e : Env} {s s1 : Sto} (h : t e s = .ok false s1) : whileL t f (n + 1) e s = .nx e s1 := by simp [whileL, h]
theorem range_cons {a b : Int} (h : a < b) : rangeL a b = .int a :: rangeL (a + 1) b := by
  unfold rangeL
  obtain ⟨n, hn⟩ : ∃ n, (b - a).toNat = n + 1 := ⟨(b - a).toNat - 1, by omega⟩
  have e : (b - (a + 1)).toNat = n := by omega
  rw [hn, e, List.range_succ_eq_map, List.map_cons, List.map_map]
  congr 1
  · simp
  · apply List.map_congr_left
    intro k _
    simp only [Function.comp]
    congr 1
    omega
theorem range_nil {a b : Int} (h : b ≤ a) : rangeL a b = [] := by
  unfold rangeL
  have : (b - a).toNat = 0 := by omega
  rw [this]; rfl
end M
end HB
namespace HB
namespace G
open PySem PySem.W
def d_is_shelf : Def := ⟨"is_shelf", 1, ["thing", "sign", "rows", "due", "things"], false, [
  .ite (.not (.prim (.isinst ["str"]) [.var 0])) [.ret (.lit (.bool false))] [],
  .par [.name 2, .name 3, .name 4] [.new (.lst [.lit (.int 0)]), .new (.lst []), .lit (.int 0)],
  .for_ (.name 1) (.each (.var 0)) [.ite (.or (.gin false "BEHIND" ["b", "d", "p", "q", "o", "x"] (.var 1)) (.gin false "ENDS" ["(", "["] (.var 1))) [.augIx (.var 2) (.neg (.lit (.int 1))) .add (.lit (.int 1)), .aug 4 .add (.lit (.int 1)), .ite (.gin false "ENDS" ["(", "["] (.var 1)) [.exp (.mth .append "list" (.var 3) [.git "ENDS" [("(", .str ")"), ("[", .str "]")] (.var 1)]), .exp (.mth .append "list" (.var 2) [.lit (.int 0)])] [], .ite (.or (.cmp .gt (.prim .max1 [.var 2]) (.glb "MOST_IN_ROW" (.int 6))) (.or (.cmp .gt (.var 4) (.glb "MOST_THINGS" (.int 16))) (.cmp .gt (.prim .len [.var 3]) (.glb "MOST_DEEP" (.int 3))))) [.ret (.lit (.bool false))] []] [.ite (.or (.cmp .eq (.var 3) (.frs (.lst []))) (.cmp .ne (.var 1) (.idx (.var 3) (.neg (.lit (.int 1)))))) [.ret (.lit (.bool false))] [.exp (.mth .pop "list" (.var 3) []), .exp (.mth .pop "list" (.var 2) [])]]],
  .ret (.cmp .eq (.var 3) (.frs (.lst [])))]⟩
def d_need_shelf : Def := ⟨"need_shelf", 1, ["thing"], false, [
  .ite (.not (.call "is_shelf" [.var 0])) [.raise_ "NoShelf" []] []]⟩
def d_end_of : Def := ⟨"end_of", 2, ["row", "at", "deep", "end"], false, [
  .asg (.name 2) (.lit (.int 0)),
  .for_ (.name 3) (.range2 (.var 1) (.prim .len [.var 0])) [.ite (.gin false "ENDS" ["(", "["] (.idx (.var 0) (.var 3))) [.aug 2 .add (.lit (.int 1))] [.ite (.gin true "BEHIND" ["b", "d", "p", "q", "o", "x"] (.idx (.var 0) (.var 3))) [.aug 2 .sub (.lit (.int 1))] []], .ite (.cmp .eq (.var 2) (.lit (.int 0))) [.ret (.bin .add (.var 3) (.lit (.int 1)))] []],
  .ret (.prim .len [.var 0])]⟩
def d_things_in : Def := ⟨"things_in", 1, ["row", "found", "at", "end"], false, [
  .par [.name 1, .name 2] [.new (.lst []), .lit (.int 0)],
  .while_ (.cmp .lt (.var 2) (.prim .len [.var 0])) [.asg (.name 3) (.call "end_of" [.var 0, .var 2]), .exp (.mth .append "list" (.var 1) [.slc (.var 0) (some (.var 2)) (some (.var 3))]), .asg (.name 2) (.var 3)],
  .ret (.prim .tuple [.var 1])]⟩
def d_is_box : Def := ⟨"is_box", 1, ["thing"], false, [
  .ret (.gin false "ENDS" ["(", "["] (.idx (.var 0) (.lit (.int 0))))]⟩
def d_inner : Def := ⟨"inner", 1, ["box"], false, [
  .ret (.slc (.var 0) (some (.lit (.int 1))) (some (.neg (.lit (.int 1)))))]⟩
def d_with_inner : Def := ⟨"with_inner", 2, ["box", "row"], false, [
  .ret (.bin .add (.bin .add (.idx (.var 0) (.lit (.int 0))) (.var 1)) (.idx (.var 0) (.neg (.lit (.int 1)))))]⟩
def d_behind_thing : Def := ⟨"behind_thing", 1, ["thing"], false, [
  .ret (.ife (.call "is_box" [.var 0]) (.call "with_inner" [.var 0, .call "behind_row" [.call "inner" [.var 0]]]) (.git "BEHIND" [("b", .str "d"), ("d", .str "b"), ("p", .str "q"), ("q", .str "p"), ("o", .str "o"), ("x", .str "x")] (.var 0)))]⟩
def d_behind_row : Def := ⟨"behind_row", 1, ["row", "thing"], false, [
  .ret (.mth .join "str" (.lit (.str "")) [.frs (.lc [1] (.call "behind_thing" [.var 1]) (.name 1) (.each (.rev (.call "things_in" [.var 0]))) none)])]⟩
def d_mirrored : Def := ⟨"mirrored", 1, ["shelf"], false, [
  .exp (.call "need_shelf" [.var 0]),
  .ret (.call "behind_row" [.var 0])]⟩
def d__law_cell_at : Def := ⟨"_law_cell_at", 2, ["_law_script", "_law_k"], false, [
  .ite (.cmp .lt (.var 1) (.prim .len [.var 0])) [.ret (.idx (.var 0) (.var 1))] [],
  .ret (.lit (.int 0))]⟩
def d__law_pot : Def := ⟨"_law_pot", 1, ["_law_cell", "_law_number", "_law_j", "_law_more"], true, [
  .ite (.cmp .ge (.var 0) (.bin .pow (.lit (.int 10)) (.lit (.int 18)))) [.ret (.new (.lst [.bin .sub (.var 0) (.bin .pow (.lit (.int 10)) (.lit (.int 18)))]))] [],
  .asg (.name 1) (.lit (.int 0)),
  .for_ (.name 2) (.range1 (.lit (.int 64))) [.asg (.name 3) (.bin .mod (.bin .mul (.bin .add (.bin .add (.bin .mod (.var 0) (.lit (.int 2147483629))) (.bin .mul (.lit (.int 7919)) (.var 2))) (.lit (.int 1))) (.lit (.int 48271))) (.lit (.int 2147483647))), .asg (.name 3) (.bin .mod (.bin .add (.bin .add (.bin .mul (.var 3) (.var 3)) (.bin .mul (.lit (.int 69621)) (.var 2))) (.lit (.int 7))) (.lit (.int 2147483587))), .asg (.name 1) (.bin .add (.bin .mul (.var 1) (.lit (.int 2147483587))) (.var 3))],
  .ret (.new (.lst [.var 1]))]⟩
def d__law_take : Def := ⟨"_law_take", 2, ["_law_pot_here", "_law_far", "_law_found"], false, [
  .asg (.name 2) (.bin .mod (.idx (.var 0) (.lit (.int 0))) (.var 1)),
  .asg (.ix (.var 0) (.lit (.int 0))) (.bin .fdiv (.idx (.var 0) (.lit (.int 0))) (.var 1)),
  .ret (.var 2)]⟩
def d__law_row : Def := ⟨"_law_row", 4, ["_law_pot_here", "_law_box", "_law_deep", "_law_most", "_law_found", "_law_turn", "_law_way"], false, [
  .asg (.name 4) (.new (.lst [])),
  .for_ (.name 5) (.range1 (.call "_law_take" [.var 0, .bin .add (.var 3) (.lit (.int 1))])) [.asg (.name 6) (.call "_law_take" [.var 0, .lit (.int 9)]), .ite (.and (.cmp .gt (.idx (.var 1) (.lit (.int 0))) (.lit (.int 0))) (.and (.cmp .lt (.var 6) (.lit (.int 3))) (.cmp .lt (.var 2) (.lit (.int 3))))) [.asg (.ix (.var 1) (.lit (.int 0))) (.bin .sub (.idx (.var 1) (.lit (.int 0))) (.lit (.int 1))), .exp (.mth .append "list" (.var 4) [.frs (.lst [.idx (.frs (.lst [.lit (.str "("), .lit (.str "("), .lit (.str "[")])) (.var 6), .call "_law_row" [.var 0, .var 1, .bin .add (.var 2) (.lit (.int 1)), .var 3]])])] [.ite (.cmp .gt (.idx (.var 1) (.lit (.int 0))) (.lit (.int 0))) [.asg (.ix (.var 1) (.lit (.int 0))) (.bin .sub (.idx (.var 1) (.lit (.int 0))) (.lit (.int 1))), .exp (.mth .append "list" (.var 4) [.idx (.lit (.str "bdpqoxbdp")) (.var 6)])] []]],
  .ret (.var 4)]⟩
def d__law_written : Def := ⟨"_law_written", 1, ["_law_row_here", "_law_found", "_law_one"], false, [
  .asg (.name 1) (.lit (.str "")),
  .for_ (.name 2) (.each (.var 0)) [.ite (.prim (.isinst ["str"]) [.var 2]) [.asg (.name 1) (.bin .add (.var 1) (.var 2))] [.asg (.name 1) (.bin .add (.bin .add (.bin .add (.var 1) (.idx (.var 2) (.lit (.int 0)))) (.call "_law_written" [.idx (.var 2) (.lit (.int 1))])) (.dlk [("(", ")"), ("[", "]")] (.idx (.var 2) (.lit (.int 0)))))]],
  .ret (.var 1)]⟩
def d__law_shelf : Def := ⟨"_law_shelf", 3, ["_law_pot_here", "_law_many", "_law_most"], false, [
  .ret (.call "_law_written" [.call "_law_row" [.var 0, .new (.lst [.var 1]), .lit (.int 0), .var 2]])]⟩
def d__law_read : Def := ⟨"_law_read", 1, ["_law_shelf_here", "_law_rows", "_law_sign"], false, [
  .asg (.name 1) (.newW [.newW []]),
  .for_ (.name 2) (.each (.var 0)) [.ite (.cmp .isin (.var 2) (.lit (.str ")]"))) [.exp (.popW (.var 1))] [.ite (.cmp .isin (.var 2) (.lit (.str "(["))) [.exp (.appW (.idx (.var 1) (.neg (.lit (.int 1)))) (.newW [.var 2, .newW []])), .exp (.appW (.var 1) (.idx (.idx (.idx (.var 1) (.neg (.lit (.int 1)))) (.neg (.lit (.int 1)))) (.lit (.int 1))))] [.exp (.appW (.idx (.var 1) (.neg (.lit (.int 1)))) (.var 2))]]],
  .ret (.idx (.var 1) (.lit (.int 0)))]⟩
def d__law_back : Def := ⟨"_law_back", 1, ["_law_row_here", "_law_found", "_law_one"], false, [
  .asg (.name 1) (.new (.lst [])),
  .for_ (.name 2) (.each (.rev (.var 0))) [.ite (.prim (.isinst ["str"]) [.var 2]) [.exp (.mth .append "list" (.var 1) [.idx (.lit (.str "dbqpox")) (.mth .index "str" (.lit (.str "bdpqox")) [.var 2])])] [.exp (.mth .append "list" (.var 1) [.frs (.lst [.idx (.var 2) (.lit (.int 0)), .call "_law_back" [.idx (.var 2) (.lit (.int 1))]])])]],
  .ret (.var 1)]⟩
def d_law : Def := ⟨"law", 1, ["_law_script", "_law_some", "_law_due", "_law_k", "_law_pot_here", "_law_turn", "_law_shelf_here", "_law_found"], false, [
  .asg (.name 1) (.frs (.lst [.lit (.str ""), .lit (.str "b"), .lit (.str "d"), .lit (.str "p"), .lit (.str "q"), .lit (.str "o"), .lit (.str "x"), .lit (.str "bd"), .lit (.str "bp"), .lit (.str "(bo)p"), .lit (.str "[bo]p"), .lit (.str "(b[p(o)])"), .lit (.str "()[]"), .lit (.str "bob"), .lit (.str "bod")])),
  .asg (.name 2) (.frs (.lst [.lit (.str ""), .lit (.str "d"), .lit (.str "b"), .lit (.str "q"), .lit (.str "p"), .lit (.str "o"), .lit (.str "x"), .lit (.str "bd"), .lit (.str "qd"), .lit (.str "q(od)"), .lit (.str "q[od]"), .lit (.str "([(o)q]d)"), .lit (.str "[]()"), .lit (.str "dod"), .lit (.str "bod")])),
  .ite (.or (.cmp .ne (.frs (.lc [6] (.call "mirrored" [.var 6]) (.name 6) (.each (.var 1)) none)) (.var 2)) (.cmp .ne (.frs (.lc [6] (.call "mirrored" [.var 6]) (.name 6) (.each (.var 2)) none)) (.var 1))) [.ret (.lit (.bool false))] [],
  .for_ (.name 3) (.range1 (.prim .max2 [.lit (.int 1), .prim .min2 [.prim .len [.var 0], .lit (.int 6)]])) [.asg (.name 4) (.call "_law_pot" [.call "_law_cell_at" [.var 0, .var 3]]), .for_ (.name 5) (.range1 (.lit (.int 5))) [.asg (.name 6) (.call "_law_shelf" [.var 4, .lit (.int 16), .lit (.int 6)]), .asg (.name 7) (.call "_law_written" [.call "_law_back" [.call "_law_read" [.var 6]]]), .ite (.cmp .ne (.prim .repr [.frs (.lst [.call "mirrored" [.var 6], .call "mirrored" [.var 6], .call "mirrored" [.var 7]])]) (.prim .repr [.frs (.lst [.var 7, .var 7, .var 6])])) [.ret (.lit (.bool false))] []]],
  .ret (.lit (.bool true))]⟩
def prog : List Def := [d_is_shelf, d_need_shelf, d_end_of, d_things_in, d_is_box, d_inner, d_with_inner, d_behind_thing, d_behind_row, d_mirrored, d__law_cell_at, d__law_pot, d__law_take, d__law_row, d__law_written, d__law_shelf, d__law_read, d__law_back, d_law]
end G
end HB
/-! Rows of things: what the program's defs tell of them. -/
namespace HB
namespace M
open PySem PySem.W
@[simp] theorem S_eq (a b : List Nat) : (S a = S b) = (a = b) := propext ⟨S_inj, fun h => by rw [h]⟩
theorem s_b : Str.ofString "b" = S [98] := by decide +kernel
theorem s_d : Str.ofString "d" = S [100] := by decide +kernel
theorem s_p : Str.ofString "p" = S [112] := by decide +kernel
theorem s_q : Str.ofString "q" = S [113] := by decide +kernel
theorem s_o : Str.ofString "o" = S [111] := by decide +kernel
theorem s_x : Str.ofString "x" = S [120] := by decide +kernel
theorem s_po : Str.ofString "(" = S [40] := by decide +kernel
theorem s_pc : Str.ofString ")" = S [41] := by decide +kernel
theorem s_bo : Str.ofString "[" = S [91] := by decide +kernel
theorem s_bc : Str.ofString "]" = S [93] := by decide +kernel
theorem s_e : Str.ofString "" = S [] := by decide +kernel
/-- a letter's sign -/
def Lt (c : Nat) : Prop := c = 98 ∨ c = 100 ∨ c = 112 ∨ c = 113 ∨ c = 111 ∨ c = 120
instance (c : Nat) : Decidable (Lt c) := by unfold Lt; infer_instance
inductive Th where
  | c (n : Nat) | b (k : Bool) (r : List Th)
def opn : Bool → Nat
  | true => 40 | false => 91
def cls : Bool → Nat
  | true => 41 | false => 93
mutual
def wr : Th → List Nat
  | .c n => [n]
  | .b k r => opn k :: (wrs r ++ [cls k])
def wrs : List Th → List Nat
  | [] => []
  | t :: r => wr t ++ wrs r
end
mutual
def gd : Th → Prop
  | .c n => Lt n
  | .b _ r => gds r
def gds : List Th → Prop
  | [] => True
  | t :: r => gd t ∧ gds r
end
mutual
def dep : Th → Nat
  | .c _ => 0
  | .b _ r => deps r + 1
def deps : List Th → Nat
  | [] => 0
  | t :: r => max (dep t) (deps r)
end
/-- how a sign changes the depth -/
def dl (c : Nat) : Int := if c = 40 ∨ c = 91 then 1 else if Lt c then 0 else -1
@[simp] theorem k_ends (n : Bool) (c : Nat) : hasKey n ["(", "["] (.str (S [c])) = some (.bool (if n then !decide (c = 40 ∨ c = 91) else decide (c = 40 ∨ c = 91))) := by
  rw [s_po, s_bo]
  simp only [hasKey, List.contains_eq_mem]
  simp
@[simp] theorem k_behind (n : Bool) (c : Nat) : hasKey n ["b", "d", "p", "q", "o", "x"] (.str (S [c])) = some (.bool (if n then !decide (Lt c) else decide (Lt c))) := by
  rw [s_b, s_d, s_p, s_q, s_o, s_x]
  simp only [hasKey, List.contains_eq_mem]
  have e : decide (S [c] ∈ [S [98], S [100], S [112], S [113], S [111], S [120]]) = decide (Lt c) := by
    by_cases h : Lt c
    · rw [decide_eq_true h]
      have h' := h
      unfold Lt at h'
      simpa using h'
    · rw [decide_eq_false h]
      have h' := h
      unfold Lt at h'
      simpa using h'
  rw [e]
theorem idx_str {L : List Nat} {p : Nat} {c : Nat} (h : L[p]? = some c) (hl : L.length ≤ maxLen) : idx2 (.str (S L)) (.int (p : Int)) = some (.str (S [c])) := by
  have hp : p < L.length := by
    rcases Nat.lt_or_ge p L.length with h' | h'
    · exact h'
    · rw [List.getElem?_eq_none h'] at h; cases h
  simp only [idx2, S_len, if_pos hl, S_cps, L2.atI, L2.ixN]
  rw [if_pos (by omega), if_pos (by omega)]
  simp [h]
section
variable {P : List Def} {X : Ext}
def Fd (P : List Def) (f : Str) (d : Def) : Prop := P.find? (fun e => decide (e.name = f)) = some d
theorem run_def {k : Nat} {f : Str} {ws : List W} {s : Sto} {d : Def} (h : Fd P f d) (hl : ws.length = d.params) :
    runF P X (k + 1) f ws s = chkR s.length (outF d.keep s.length (exB (runF P X k) d.body (ws.map some ++ List.replicate (d.slots.length - ws.length) none) s)) := by
  unfold Fd at h
  rw [runF, h]
  simp only
  rw [if_pos hl]
/-! ### small facts -/
@[simp] theorem eq_ii (a b : Int) : cmp2 .eq (.int a) (.int b) = some (decide (a = b)) := by
  simp [cmp2, PyData.plain, PyData.depth, PyData.eqv]
  try (rw [Bool.eq_iff_iff]; simp)
@[simp] theorem lt_ii (a b : Int) : cmp2 .lt (.int a) (.int b) = some (decide (a < b)) := rfl
@[simp] theorem le_ii (a b : Int) : cmp2 .le (.int a) (.int b) = some (decide (a ≤ b)) := rfl
@[simp] theorem gt_ii (a b : Int) : cmp2 .gt (.int a) (.int b) = some (decide (b < a)) := rfl
@[simp] theorem ge_ii (a b : Int) : cmp2 .ge (.int a) (.int b) = some (decide (b ≤ a)) := rfl
@[simp] theorem add_ii (a b : Int) : bin2 .add (.int a) (.int b) = some (.int (a + b)) := rfl
@[simp] theorem sub_ii (a b : Int) : bin2 .sub (.int a) (.int b) = some (.int (a - b)) := rfl
@[simp] theorem iadd_ii (a b : Int) : ibin2 .add (.int a) (.int b) = some (.int (a + b)) := rfl
@[simp] theorem isub_ii (a b : Int) : ibin2 .sub (.int a) (.int b) = some (.int (a - b)) := rfl
@[simp] theorem neg_i (a : Int) : neg1 (.int a) = some (.int (-a)) := rfl
@[simp] theorem int1_i (a : Int) : int1 (.int a) = some (some a) := rfl
theorem len_s {L : List Nat} (h : L.length ≤ maxLen) : prim .len [.str (S L)] = some (.int L.length) := by simp [prim, h]
@[simp] theorem toO_if {α : Type} {p : Prop} [Decidable p] (e : Env) (a b : R α) (f : α → Sto → O) : (if p then a else b).toO e f = if p then a.toO e f else b.toO e f := by split <;> rfl
@[simp] theorem bind_if {α β : Type} {p : Prop} [Decidable p] (a b : R α) (f : α → Sto → R β) : (if p then a else b).bind f = if p then a.bind f else b.bind f := by split <;> rfl
@[simp] theorem obind_if {p : Prop} [Decidable p] (a b : O) (f : Env → Sto → O) : (if p then a else b).bind f = if p then a.bind f else b.bind f := by split <;> rfl
/-! ### end_of -/
def eoB : List St := match G.d_end_of.body with
  | [_, .for_ _ _ b, _] => b
  | _ => []
theorem eo_turn {C : Calls} {L : List Nat} {p : Nat} {c : Nat} {a δ : Int} {v : Option W} (h : L[p]? = some c) (hl : L.length ≤ maxLen) :
    (noEx (asT C (.name 3) (.d (.int (p : Int))) [some (.d (.str (S L))), some (.d (.int a)), some (.d (.int δ)), v] [])).toO [some (.d (.str (S L))), some (.d (.int a)), some (.d (.int δ)), v] (fun e s => exB C eoB e s) =
      if δ + dl c = 0 then .ret (.d (.int (p + 1))) [] else .nx [some (.d (.str (S L))), some (.d (.int a)), some (.d (.int (δ + dl c))), some (.d (.int p))] [] := by
  simp [eoB, G.d_end_of, idx_str h hl, dl]
  by_cases h1 : c = 40 ∨ c = 91
  · simp [h1]
  · by_cases h2 : Lt c
    · simp [h1, h2]
    · simp [h1, h2]
      have e : δ + -1 = δ - 1 := by omega
      rw [e]
end
/-- the loop over the rest of a text -/
def eoL (C : Calls) (L : List Nat) (p : Nat) (e : Env) : O := forL (fun s => Src.ok s []) (fun x e s => (noEx (asT C (.name 3) (.d x) e s)).toO e fun e s => exB C eoB e s) (rangeL p L.length) e []
def eoE (L : List Nat) (a δ : Int) (v : Option W) : Env := [some (.d (.str (S L))), some (.d (.int a)), some (.d (.int δ)), v]
theorem eo_step {C : Calls} {L : List Nat} {p c : Nat} {a δ : Int} {v : Option W} (h : L[p]? = some c) (hl : L.length ≤ maxLen) :
    eoL C L p (eoE L a δ v) = if δ + dl c = 0 then .ret (.d (.int (p + 1))) [] else eoL C L (p + 1) (eoE L a (δ + dl c) (some (.d (.int p)))) := by
  have hp : p < L.length := by
    rcases Nat.lt_or_ge p L.length with h' | h'
    · exact h'
    · rw [List.getElem?_eq_none h'] at h; cases h
  unfold eoL
  rw [range_cons (by omega)]
  have q := eo_turn (C := C) (a := a) (δ := δ) (v := v) h hl
  by_cases hz : δ + dl c = 0
  · rw [if_pos hz] at q ⊢
    exact for_ret rfl q
  · rw [if_neg hz] at q ⊢
    exact for_cons rfl q
theorem dl_opn (k : Bool) : dl (opn k) = 1 := by cases k <;> rfl
theorem dl_cls (k : Bool) : dl (cls k) = -1 := by cases k <;> simp [dl, cls, Lt]
theorem dl_lt {c : Nat} (h : Lt c) : dl c = 0 := by
  unfold dl
  rw [if_neg (by rcases h with h | h | h | h | h | h <;> omega), if_pos h]
mutual
/-- within a box -/
theorem eo_in {C : Calls} {L : List Nat} {a : Int} (hl : L.length ≤ maxLen) : ∀ (t : Th) (p : Nat) (δ : Int) (v : Option W) (post : List Nat), gd t → 0 < δ → L.drop p = wr t ++ post →
    ∃ v', eoL C L p (eoE L a δ v) = eoL C L (p + (wr t).length) (eoE L a δ v') ∧ L.drop (p + (wr t).length) = post
  | .c n, p, δ, v, post, g, hd, h => by
    have h1 : L[p]? = some n := by rw [← List.head?_drop, h]; rfl
    have hn : dl n = 0 := dl_lt g
    refine ⟨some (.d (.int p)), ?_, ?_⟩
    · rw [eo_step h1 hl, hn, if_neg (by omega), Int.add_zero]; rfl
    · have : L.drop (p + 1) = (L.drop p).drop 1 := by rw [List.drop_drop]
      show L.drop (p + 1) = post
      rw [this, h]; rfl
  | .b k r, p, δ, v, post, g, hd, h => by
    have h' : L.drop p = opn k :: (wrs r ++ (cls k :: post)) := by rw [h, wr]; simp
    have h1 : L[p]? = some (opn k) := by rw [← List.head?_drop, h']; rfl
    have e1 := eo_step (C := C) (a := a) (δ := δ) (v := v) h1 hl
    rw [dl_opn, if_neg (by omega)] at e1
    have h2 : L.drop (p + 1) = wrs r ++ (cls k :: post) := by
      have : L.drop (p + 1) = (L.drop p).drop 1 := by rw [List.drop_drop]
      rw [this, h']; rfl
    obtain ⟨v2, e2, h3⟩ := eo_ins (C := C) (a := a) hl r (p + 1) (δ + 1) (some (.d (.int p))) (cls k :: post) g (by omega) h2
    have h4 : L[p + 1 + (wrs r).length]? = some (cls k) := by rw [← List.head?_drop, h3]; rfl
    have e3 := eo_step (C := C) (a := a) (δ := δ + 1) (v := v2) h4 hl
    rw [dl_cls, if_neg (by omega), show δ + 1 + -1 = δ by omega] at e3
    refine ⟨some (.d (.int ((p + 1 + (wrs r).length : Nat) : Int))), ?_, ?_⟩
    · rw [e1, e2, e3]
      have : p + 1 + (wrs r).length + 1 = p + (wr (.b k r)).length := by rw [wr]; simp; omega
      rw [this]
    · have : p + (wr (.b k r)).length = p + 1 + (wrs r).length + 1 := by rw [wr]; simp; omega
      rw [this]
      have e : L.drop (p + 1 + (wrs r).length + 1) = (L.drop (p + 1 + (wrs r).length)).drop 1 := by rw [List.drop_drop]
      rw [e, h3]; rfl
theorem eo_ins {C : Calls} {L : List Nat} {a : Int} (hl : L.length ≤ maxLen) : ∀ (r : List Th) (p : Nat) (δ : Int) (v : Option W) (post : List Nat), gds r → 0 < δ → L.drop p = wrs r ++ post →
    ∃ v', eoL C L p (eoE L a δ v) = eoL C L (p + (wrs r).length) (eoE L a δ v') ∧ L.drop (p + (wrs r).length) = post
  | [], p, δ, v, post, g, hd, h => ⟨v, rfl, by simpa [wrs] using h⟩
  | t :: r, p, δ, v, post, g, hd, h => by
    have h' : L.drop p = wr t ++ (wrs r ++ post) := by rw [h, wrs]; simp
    obtain ⟨v1, e1, h1⟩ := eo_in (C := C) (a := a) hl t p δ v _ g.1 hd h'
    obtain ⟨v2, e2, h2⟩ := eo_ins (C := C) (a := a) hl r _ δ v1 _ g.2 hd h1
    refine ⟨v2, ?_, ?_⟩
    · rw [e1, e2, wrs, List.length_append, Nat.add_assoc]
    · rw [wrs, List.length_append, ← Nat.add_assoc]; exact h2
end
theorem range2_nat {p n : Nat} (h : p ≤ n) (hn : n ≤ maxLen) : range2 (.int p) (.int n) = some ⟨[], rangeL p n⟩ := by
  unfold maxLen at hn
  simp only [range2]
  rw [if_pos (by omega)]
theorem a1 {C : Calls} {L : List Nat} {p : Nat} : evE C (.var 1) (eoE L p 0 none) [] = .ok (.d (.int p)) [] := by rw [e_var]; rfl
theorem a0 {C : Calls} {L : List Nat} {p : Nat} : evE C (.var 0) (eoE L p 0 none) [] = .ok (.d (.str (S L))) [] := by rw [e_var]; rfl
theorem a2 {C : Calls} {L : List Nat} {p : Nat} (hl : L.length ≤ maxLen) : evE C (.prim .len [.var 0]) (eoE L p 0 none) [] = .ok (.d (.int L.length)) [] := by rw [e_prim, es_cons, a0, HB.R.bind_ok, es_nil, HB.R.bind_ok, HB.R.bind_ok, rds_1, len_s hl, map1_some]
theorem eo_iter {C : Calls} {L : List Nat} {p : Nat} (hl : L.length ≤ maxLen) (hp : p ≤ L.length) : evI C (.range2 (.var 1) (.prim .len [.var 0])) (eoE L p 0 none) [] = .ok ⟨[], rangeL p L.length⟩ [] := by
  rw [i_range2, a1, HB.R.bind_ok, a2 hl, HB.R.bind_ok, rd2_d, range2_nat hp hl, HB.R.of_some]
theorem eo_run {P : List Def} {X : Ext} {k : Nat} (hP : Fd P "end_of" G.d_end_of) {L : List Nat} {p : Nat} {t : Th} {post : List Nat} (hl : L.length ≤ maxLen) (g : gd t) (h : L.drop p = wr t ++ post) :
    runF P X (k + 1) "end_of" [.d (.str (S L)), .d (.int p)] [] = .ok (.d (.int ((p + (wr t).length : Nat) : Int))) [] := by
  rw [run_def hP rfl]
  have hp : p < L.length := by
    rcases Nat.lt_or_ge p L.length with h' | h'
    · exact h'
    · rw [List.drop_eq_nil_of_le h'] at h
      cases t <;> simp [wr] at h
  have key : ∃ v, eoL (runF P X k) L p (eoE L p 0 v) = .ret (.d (.int ((p + (wr t).length : Nat) : Int))) [] ∧ v = none := by
    refine ⟨none, ?_, rfl⟩
    cases t with
    | c n =>
      have h1 : L[p]? = some n := by rw [← List.head?_drop, h]; rfl
      rw [eo_step h1 hl, dl_lt g, if_pos (by omega)]
      simp [wr]
    | b kk r =>
      have h' : L.drop p = opn kk :: (wrs r ++ (cls kk :: post)) := by rw [h, wr]; simp
      have h1 : L[p]? = some (opn kk) := by rw [← List.head?_drop, h']; rfl
      have e1 := eo_step (C := runF P X k) (a := p) (δ := 0) (v := none) h1 hl
      rw [dl_opn, if_neg (by omega)] at e1
      have h2 : L.drop (p + 1) = wrs r ++ (cls kk :: post) := by
        have : L.drop (p + 1) = (L.drop p).drop 1 := by rw [List.drop_drop]
        rw [this, h']; rfl
      obtain ⟨v2, e2, h3⟩ := eo_ins (C := runF P X k) (a := p) hl r (p + 1) (0 + 1) (some (.d (.int p))) (cls kk :: post) g (by omega) h2
      have h4 : L[p + 1 + (wrs r).length]? = some (cls kk) := by rw [← List.head?_drop, h3]; rfl
      have e3 := eo_step (C := runF P X k) (a := p) (δ := 0 + 1) (v := v2) h4 hl
      rw [dl_cls, if_pos (by omega)] at e3
      rw [e1, e2, e3]
      simp [wr]
      omega
  obtain ⟨v, e, rfl⟩ := key
  have hb : G.d_end_of.body = [.asg (.name 2) (.lit (.int 0)), .for_ (.name 3) (.range2 (.var 1) (.prim .len [.var 0])) eoB, .ret (.prim .len [.var 0])] := rfl
  have he : exB (runF P X k) G.d_end_of.body ([W.d (.str (S L)), .d (.int p)].map some ++ List.replicate (G.d_end_of.slots.length - 2) none) [] = .ret (.d (.int ((p + (wr t).length : Nat) : Int))) [] := by
    rw [hb, b_cons, s_asg, e_lit, HB.R.toO_ok, t_name]
    have e0 : ([W.d (PyData.str (S L)), .d (.int p)].map some ++ List.replicate (G.d_end_of.slots.length - 2) none).set 2 (some (.d (.int 0))) = eoE L p 0 none := rfl
    have l0 : 2 < ([W.d (PyData.str (S L)), .d (.int p)].map some ++ List.replicate (G.d_end_of.slots.length - 2) none).length := by show 2 < 4; omega
    rw [if_pos l0, e0, noEx_ok', HB.R.toO_ok, HB.O.bind_nx, b_cons, s_for]
    have e1 := eo_iter (C := runF P X k) hl (Nat.le_of_lt hp)
    rw [e1, HB.R.toO_ok]
    have e2 : eoL (runF P X k) L p (eoE L p 0 none) = _ := e
    unfold eoL at e2
    rw [e2, HB.O.bind_ret]
  have hl2 : [W.d (PyData.str (S L)), .d (.int p)].length = 2 := rfl
  rw [hl2, he]
  rfl
/-! ### calls of data -/
theorem call1 {c : Calls} {f : Str} {a v : D} {s0 s : Sto} (h : c f [.d a] [] = .ok (.d v) s0) : callIn c f [.d a] s = .ok (.d v) s := by
  simp [callIn, gath, cellsAt, h, scat]
theorem call2 {c : Calls} {f : Str} {a b v : D} {s0 s : Sto} (h : c f [.d a, .d b] [] = .ok (.d v) s0) : callIn c f [.d a, .d b] s = .ok (.d v) s := by
  simp [callIn, gath, cellsAt, h, scat]
theorem cut_nat {L : List Nat} {p q : Nat} (h : p ≤ L.length) (h2 : q ≤ L.length) : L2.cutS (S L) (some (p : Int)) (some (q : Int)) = S ((L.drop p).take (q - p)) := by
  unfold L2.cutS
  rw [S_len, HT.sIx_nat, HT.sIx_nat, S_cps, Nat.min_eq_left h, Nat.min_eq_left h2]
theorem out_d {x : D} {s : Sto} : chkR 0 (outF false 0 (.ret (.d x) s)) = .ok (.d x) [] := by simp [outF, endF]
/-! ### things_in -/
def tiT : Ex := match G.d_things_in.body with
  | [_, .while_ t _, _] => t
  | _ => .lit .none
def tiB : List St := match G.d_things_in.body with
  | [_, .while_ _ b, _] => b
  | _ => []
theorem ti_body : G.d_things_in.body = [.par [.name 1, .name 2] [.new (.lst []), .lit (.int 0)], .while_ tiT tiB, .ret (.prim .tuple [.var 1])] := rfl
def tiE (L : List Nat) (p : Nat) (v : Option W) : Env := [some (.d (.str (S L))), some (.h 0), some (.d (.int p)), v]
theorem ti_test {C : Calls} {L : List Nat} {p : Nat} {v : Option W} {s : Sto} (hl : L.length ≤ maxLen) : evT C tiT (tiE L p v) s = .ok (decide ((p : Int) < L.length)) s := by
  have h0 : evE C (.var 0) (tiE L p v) s = .ok (.d (.str (S L))) s := by rw [e_var]; rfl
  have h1 : evE C (.prim .len [.var 0]) (tiE L p v) s = .ok (.d (.int L.length)) s := by rw [e_prim, es_cons, h0, HB.R.bind_ok, es_nil, HB.R.bind_ok, HB.R.bind_ok, rds_1, len_s hl, map1_some]
  have h2 : evE C (.var 2) (tiE L p v) s = .ok (.d (.int p)) s := by rw [e_var]; rfl
  show (evE C (.cmp .lt (.var 2) (.prim .len [.var 0])) (tiE L p v) s).bind _ = _
  rw [e_cmp, h2, HB.R.bind_ok, h1, HB.R.bind_ok, rd2_d, lt_ii]
  rfl
theorem app_put {s : Sto} {xs : List D} {x : D} {i : Nat} (h : s[i]? = some (.lst xs)) (hl : xs.length + 1 ≤ maxLen) : mthW s .append (.h i) [x] = .ok .none (s.set i (.lst (xs ++ [x]))) := by
  simp only [mthW, put, h, mthF]
  rw [if_pos (by simp; exact hl)]
theorem ti_turn {P : List Def} {X : Ext} {k : Nat} (hP : Fd P "end_of" G.d_end_of) {L : List Nat} {p : Nat} {t : Th} {post : List Nat} {v : Option W} {acc : List D} (hl : L.length ≤ maxLen) (g : gd t) (h : L.drop p = wr t ++ post) (ha : acc.length + 1 ≤ maxLen) :
    exB (runF P X (k + 1)) tiB (tiE L p v) [.lst acc] = .nx (tiE L (p + (wr t).length) (some (.d (.int ((p + (wr t).length : Nat) : Int))))) [.lst (acc ++ [.str (S (wr t))])] := by
  have hp : p ≤ L.length := by
    rcases Nat.lt_or_ge p L.length with h' | h'
    · omega
    · rw [List.drop_eq_nil_of_le h'] at h
      cases t <;> simp [wr] at h
  have hq : p + (wr t).length ≤ L.length := by
    have := congrArg List.length h
    rw [List.length_drop, List.length_append] at this
    omega
  have e := eo_run (X := X) (k := k) hP hl g h
  have h0 : ∀ v s, evE (runF P X (k + 1)) (.var 0) (tiE L p v) s = .ok (.d (.str (S L))) s := fun v s => by rw [e_var]; rfl
  have h1 : ∀ v s, evE (runF P X (k + 1)) (.var 1) (tiE L p v) s = .ok (.h 0) s := fun v s => by rw [e_var]; rfl
  have h2 : ∀ v s, evE (runF P X (k + 1)) (.var 2) (tiE L p v) s = .ok (.d (.int p)) s := fun v s => by rw [e_var]; rfl
  have h3 : ∀ w s, evE (runF P X (k + 1)) (.var 3) (tiE L p (some w)) s = .ok w s := fun v s => by rw [e_var]; rfl
  have hb : tiB = [.asg (.name 3) (.call "end_of" [.var 0, .var 2]), .exp (.mth .append "list" (.var 1) [.slc (.var 0) (some (.var 2)) (some (.var 3))]), .asg (.name 2) (.var 3)] := rfl
  rw [hb, b_cons, s_asg, e_call, es_cons, h0, HB.R.bind_ok, es_cons, h2, HB.R.bind_ok, es_nil, HB.R.bind_ok, HB.R.bind_ok, HB.R.bind_ok, call2 e, HB.R.toO_ok, t_name, if_pos (by show 3 < 4; omega), noEx_ok', HB.R.toO_ok, HB.O.bind_nx]
  rw [show (tiE L p v).set 3 (some (.d (.int ((p + (wr t).length : Nat) : Int)))) = tiE L p (some (.d (.int ((p + (wr t).length : Nat) : Int)))) from rfl]
  have hs : evE (runF P X (k + 1)) (.slc (.var 0) (some (.var 2)) (some (.var 3))) (tiE L p (some (.d (.int ((p + (wr t).length : Nat) : Int))))) [.lst acc] = .ok (.d (.str (S (wr t)))) [.lst acc] := by
    rw [e_slc, h0, HB.R.bind_ok, p_some, h2, HB.R.bind_ok, rd1_d, int1_i, HB.R.of_some, HB.R.bind_ok, p_some, h3, HB.R.bind_ok, rd1_d, int1_i, HB.R.of_some, HB.R.bind_ok, rd1_d]
    simp only [slc2, S_len]
    rw [if_pos hl, map1_some, cut_nat hp hq, h]
    simp
  rw [b_cons, s_exp, e_mth, h1, HB.R.bind_ok]
  have hr : rd1 [Cell.lst acc] (.h 0) = fun (g : D → R W) => g (.list acc) := rfl
  rw [hr]
  simp only [hasTy, beq_self_eq_true, if_true, Mth.writes]
  rw [d_cons, hs, HB.R.bind_ok, toD_d, d_nil, HB.R.bind_ok, HB.R.bind_ok, app_put rfl ha, HB.R.bind_ok, HB.R.toO_ok, HB.O.bind_nx, b_cons, s_asg, h3, HB.R.toO_ok, t_name, if_pos (by show 2 < 4; omega), noEx_ok', HB.R.toO_ok, HB.O.bind_nx, b_nil]
  rfl
def thD (r : List Th) : List D := r.map fun t => .str (S (wr t))
theorem wr_pos : ∀ t : Th, 0 < (wr t).length
  | .c _ => by simp [wr]
  | .b _ _ => by simp [wr]
theorem wrs_len : ∀ r : List Th, r.length ≤ (wrs r).length
  | [] => by simp [wrs]
  | t :: r => by have := wr_pos t; have := wrs_len r; simp [wrs]; omega
theorem ti_loop {P : List Def} {X : Ext} {k : Nat} (hP : Fd P "end_of" G.d_end_of) {L : List Nat} (hl : L.length + 1 ≤ maxLen) : ∀ (r : List Th) (n p : Nat) (v : Option W) (acc : List D), gds r → L.drop p = wrs r → r.length < n → acc.length + r.length ≤ maxLen → p ≤ L.length →
    ∃ v', whileL (evT (runF P X (k + 1)) tiT) (exB (runF P X (k + 1)) tiB) n (tiE L p v) [.lst acc] = .nx (tiE L L.length v') [.lst (acc ++ thD r)]
  | [], 0, p, v, acc, g, h, hn, ha, hp => by simp at hn
  | [], n + 1, p, v, acc, g, h, hn, ha, hp => by
    have : p = L.length := by
      rw [wrs, List.drop_eq_nil_iff] at h
      omega
    subst this
    refine ⟨v, ?_⟩
    rw [while_end (s1 := [.lst acc]) (by rw [ti_test (by omega)]; simp)]
    simp [thD]
  | t :: r, 0, p, v, acc, g, h, hn, ha, hp => by simp at hn
  | t :: r, n + 1, p, v, acc, g, h, hn, ha, hp => by
    have hp2 : p < L.length := by
      rcases Nat.lt_or_ge p L.length with h' | h'
      · exact h'
      · rw [List.drop_eq_nil_of_le h', wrs] at h
        have := wr_pos t
        have := congrArg List.length h
        simp at this
        omega
    rw [wrs] at h
    have hlen := congrArg List.length h
    rw [List.length_drop, List.length_append] at hlen
    simp at ha hn
    obtain ⟨v', e⟩ := ti_loop (X := X) (k := k) hP hl r n (p + (wr t).length) (some (.d (.int ((p + (wr t).length : Nat) : Int)))) (acc ++ [.str (S (wr t))]) g.2 (by rw [← List.drop_drop, h]; simp) (by omega) (by simp; omega) (by omega)
    refine ⟨v', ?_⟩
    rw [while_go (s1 := [.lst acc]) (by rw [ti_test (by omega)]; simp [hp2]) (ti_turn hP (by omega) g.1 h (by omega)), e]
    simp [thD]
theorem ti_run {P : List Def} {X : Ext} {k : Nat} (hT : Fd P "things_in" G.d_things_in) (hP : Fd P "end_of" G.d_end_of) {r : List Th} (hl : (wrs r).length ≤ 1000) (g : gds r) :
    runF P X (k + 2) "things_in" [.d (.str (S (wrs r)))] [] = .ok (.d (.tuple (thD r))) [] := by
  rw [run_def hT rfl]
  have hr := wrs_len r
  have hm : maxLen = 1000000 := rfl
  have htm : turnsMost = 1000000 := rfl
  obtain ⟨v', e⟩ := ti_loop (X := X) (k := k) hP (L := wrs r) (by omega) r turnsMost 0 none [] g (by simp) (by omega) (by simp; omega) (by omega)
  have he : exB (runF P X (k + 1)) G.d_things_in.body ([W.d (.str (S (wrs r)))].map some ++ List.replicate (G.d_things_in.slots.length - 1) none) [] = .ret (.d (.tuple (thD r))) [.lst (thD r)] := by
    rw [ti_body, b_cons, s_par, es_cons, e_new, n_lst, d_nil, HB.R.bind_ok, if_pos (show ([] : List D).length ≤ maxLen by rw [hm]; exact Nat.zero_le _), alloc_ok, HB.R.bind_ok, es_cons, e_lit, HB.R.bind_ok, es_nil, HB.R.bind_ok, HB.R.bind_ok, HB.R.toO_ok]
    rw [ts_cons, t_name, if_pos (by show 1 < 4; omega), HB.R.bind_ok, ts_cons, t_name, if_pos (by show 2 < 4; omega), HB.R.bind_ok, ts_nil, noEx_ok', HB.R.toO_ok, HB.O.bind_nx, b_cons, s_while]
    have e2 : whileL (evT (runF P X (k + 1)) tiT) (exB (runF P X (k + 1)) tiB) turnsMost (tiE (wrs r) 0 none) [.lst []] = .nx (tiE (wrs r) (wrs r).length v') [.lst (thD r)] := by rw [e]; simp
    have e3 : (((([W.d (.str (S (wrs r)))].map some ++ List.replicate (G.d_things_in.slots.length - 1) none).set 1 (some (W.h ([] : Sto).length))).set 2 (some (W.d (.int 0))))) = tiE (wrs r) 0 none := rfl
    rw [e3, show ([] : Sto) ++ [Cell.lst []] = [.lst []] from rfl, e2, HB.O.bind_nx, b_cons, s_ret, e_prim, es_cons, e_var]
    rfl
  rw [show [W.d (PyData.str (S (wrs r)))].length = 1 from rfl, he]
  exact out_d
end M
end HB
/-! Rows from behind. -/
namespace HB
namespace M
open PySem PySem.W
def bl : Nat → Nat
  | 98 => 100 | 100 => 98 | 112 => 113 | 113 => 112 | n => n
mutual
def bk : Th → Th
  | .c n => .c (bl n)
  | .b k r => .b k (bks r)
def bks : List Th → List Th
  | [] => []
  | t :: r => bks r ++ [bk t]
end
theorem lt_bl {n : Nat} (h : Lt n) : Lt (bl n) := by
  rcases h with h | h | h | h | h | h <;> subst h <;> simp [bl, Lt]
theorem wrs_app : ∀ a b : List Th, wrs (a ++ b) = wrs a ++ wrs b
  | [], b => by simp [wrs]
  | t :: a, b => by simp [wrs, wrs_app a b]
theorem gds_app : ∀ {a b : List Th}, gds a → gds b → gds (a ++ b)
  | [], b, _, h => h
  | t :: a, b, g, h => ⟨g.1, gds_app g.2 h⟩
mutual
theorem gd_bk : ∀ t : Th, gd t → gd (bk t)
  | .c n, g => lt_bl g
  | .b k r, g => gds_bks r g
theorem gds_bks : ∀ r : List Th, gds r → gds (bks r)
  | [], _ => trivial
  | t :: r, g => by rw [bks]; exact gds_app (gds_bks r g.2) ⟨gd_bk t g.1, trivial⟩
end
mutual
theorem len_bk : ∀ t : Th, (wr (bk t)).length = (wr t).length
  | .c n => rfl
  | .b k r => by simp [bk, wr, len_bks r]
theorem len_bks : ∀ r : List Th, (wrs (bks r)).length = (wrs r).length
  | [] => rfl
  | t :: r => by rw [bks, wrs_app]; simp [wrs, len_bk t, len_bks r]; omega
end
mutual
theorem bk_bk : ∀ t : Th, gd t → bk (bk t) = t
  | .c n, g => by
    rcases g with h | h | h | h | h | h <;> subst h <;> rfl
  | .b k r, g => by rw [bk, bk, bks_bks r g]
theorem bks_app : ∀ a b : List Th, bks (a ++ b) = bks b ++ bks a
  | [], b => by simp [bks]
  | t :: a, b => by simp [bks, bks_app a b]
theorem bks_bks : ∀ r : List Th, gds r → bks (bks r) = r
  | [], _ => rfl
  | t :: r, g => by rw [bks, bks_app, bks_bks r g.2, bks, bks, bk_bk t g.1]; rfl
end
def isB : Th → Bool
  | .c _ => false
  | .b _ _ => true
theorem idx0 {c : Nat} {l : List Nat} (h : (c :: l).length ≤ maxLen) : idx2 (.str (S (c :: l))) (.int 0) = some (.str (S [c])) := idx_str (p := 0) rfl h
theorem idxZ {c : Nat} {l : List Nat} (h : (l ++ [c]).length ≤ maxLen) : idx2 (.str (S (l ++ [c]))) (.int (-1)) = some (.str (S [c])) := by
  simp only [idx2, S_len, if_pos h, S_cps, L2.atI, L2.ixN]
  rw [if_neg (by omega), if_pos (by simp; omega)]
  simp
  have : ((-1 : Int) + (l.length + 1)).toNat = l.length := by omega
  rw [this]
  simp
theorem opn_or (k : Bool) : opn k = 40 ∨ opn k = 91 := by cases k <;> simp [opn]
theorem lt_not {n : Nat} (h : Lt n) : ¬ (n = 40 ∨ n = 91) := by rcases h with h | h | h | h | h | h <;> omega
section
variable {P : List Def} {X : Ext} {k : Nat}
theorem out_d0 {x : D} {s : Sto} {d : Def} (h : d.keep = false) : chkR 0 (outF d.keep 0 (.ret (.d x) s)) = .ok (.d x) [] := by rw [h]; exact out_d
theorem ib_run (hP : Fd P "is_box" G.d_is_box) {t : Th} (g : gd t) (hl : (wr t).length ≤ maxLen) : runF P X (k + 1) "is_box" [.d (.str (S (wr t)))] [] = .ok (.d (.bool (isB t))) [] := by
  rw [run_def hP rfl]
  have he : exB (runF P X k) G.d_is_box.body ([W.d (.str (S (wr t)))].map some ++ List.replicate (G.d_is_box.slots.length - 1) none) [] = .ret (.d (.bool (isB t))) [] := by
    rw [show G.d_is_box.body = [.ret (.gin false "ENDS" ["(", "["] (.idx (.var 0) (.lit (.int 0))))] from rfl, b_cons, s_ret, e_gin, e_idx, e_var]
    show ((((R.ok (W.d (.str (S (wr t)))) []).bind _).bind _).toO _ _).bind _ = _
    rw [HB.R.bind_ok, e_lit, HB.R.bind_ok, idxR_d, rd2_d]
    cases t with
    | c n =>
      rw [show wr (.c n) = n :: [] from rfl, idx0 (by simpa [wr] using hl), map1_some, HB.R.bind_ok, rd1_d, k_ends, map1_some]
      simp [isB, lt_not g]
    | b kk r =>
      rw [show wr (.b kk r) = opn kk :: (wrs r ++ [cls kk]) by rw [wr], idx0 (by simpa [wr] using hl), map1_some, HB.R.bind_ok, rd1_d, k_ends, map1_some]
      simp [isB, opn_or]
  rw [show [W.d (PyData.str (S (wr t)))].length = 1 from rfl, he]
  exact out_d0 rfl
theorem in_run (hP : Fd P "inner" G.d_inner) {kk : Bool} {r : List Th} (hl : (wr (.b kk r)).length ≤ maxLen) : runF P X (k + 1) "inner" [.d (.str (S (wr (.b kk r))))] [] = .ok (.d (.str (S (wrs r)))) [] := by
  rw [run_def hP rfl]
  have hw : wr (.b kk r) = opn kk :: (wrs r ++ [cls kk]) := by rw [wr]
  have he : exB (runF P X k) G.d_inner.body ([W.d (.str (S (wr (.b kk r))))].map some ++ List.replicate (G.d_inner.slots.length - 1) none) [] = .ret (.d (.str (S (wrs r)))) [] := by
    rw [show G.d_inner.body = [.ret (.slc (.var 0) (some (.lit (.int 1))) (some (.neg (.lit (.int 1)))))] from rfl, b_cons, s_ret, e_slc, e_var]
    show (((R.ok (W.d (.str (S (wr (.b kk r))))) []).bind _).toO _ _).bind _ = _
    rw [HB.R.bind_ok, p_some, e_lit, HB.R.bind_ok, rd1_d, int1_i, HB.R.of_some, HB.R.bind_ok, p_some, e_neg, e_lit, HB.R.bind_ok, rd1_d, neg_i, map1_some, HB.R.bind_ok, rd1_d, int1_i, HB.R.of_some, HB.R.bind_ok, rd1_d]
    simp only [slc2, S_len]
    rw [if_pos hl, map1_some]
    have : L2.cutS (S (wr (.b kk r))) (some 1) (some (-1)) = S (wrs r) := by
      unfold L2.cutS
      rw [S_len, S_cps, hw]
      simp [HT.sIx]
      have e1 : ((-1 : Int) + ((wrs r).length + 1 + 1)).toNat = (wrs r).length + 1 := by omega
      rw [e1]
      simp
    rw [this]
    rfl
  rw [show [W.d (PyData.str (S (wr (.b kk r))))].length = 1 from rfl, he]
  exact out_d0 rfl
theorem add_ss {a b : List Nat} (h : a.length + b.length ≤ maxLen) : bin2 .add (.str (S a)) (.str (S b)) = some (.str (S (a ++ b))) := by
  simp only [bin2, S_len, S_app, if_pos h]
theorem wi_run (hP : Fd P "with_inner" G.d_with_inner) {kk : Bool} {r : List Th} {l : List Nat} (hl : (wr (.b kk r)).length ≤ maxLen) (hl2 : l.length + 2 ≤ maxLen) :
    runF P X (k + 1) "with_inner" [.d (.str (S (wr (.b kk r)))), .d (.str (S l))] [] = .ok (.d (.str (S (opn kk :: (l ++ [cls kk]))))) [] := by
  rw [run_def hP rfl]
  have hw : wr (.b kk r) = opn kk :: (wrs r ++ [cls kk]) := by rw [wr]
  have he : exB (runF P X k) G.d_with_inner.body ([W.d (.str (S (wr (.b kk r)))), .d (.str (S l))].map some ++ List.replicate (G.d_with_inner.slots.length - 2) none) [] = .ret (.d (.str (S (opn kk :: (l ++ [cls kk]))))) [] := by
    have h0 : ∀ s, evE (runF P X k) (.var 0) ([W.d (.str (S (wr (.b kk r)))), .d (.str (S l))].map some ++ List.replicate (G.d_with_inner.slots.length - 2) none) s = .ok (.d (.str (S (wr (.b kk r))))) s := fun s => by rw [e_var]; rfl
    have h1 : ∀ s, evE (runF P X k) (.var 1) ([W.d (.str (S (wr (.b kk r)))), .d (.str (S l))].map some ++ List.replicate (G.d_with_inner.slots.length - 2) none) s = .ok (.d (.str (S l))) s := fun s => by rw [e_var]; rfl
    rw [show G.d_with_inner.body = [.ret (.bin .add (.bin .add (.idx (.var 0) (.lit (.int 0))) (.var 1)) (.idx (.var 0) (.neg (.lit (.int 1)))))] from rfl, b_cons, s_ret, e_bin, e_bin, e_idx, h0, HB.R.bind_ok, e_lit, HB.R.bind_ok, idxR_d, rd2_d]
    rw [show idx2 (.str (S (wr (.b kk r)))) (.int 0) = some (.str (S [opn kk])) by rw [hw]; exact idx0 (by rw [← hw]; exact hl)]
    rw [map1_some, HB.R.bind_ok, h1, HB.R.bind_ok, rd2_d, add_ss (by simp; omega), map1_some, HB.R.bind_ok, e_idx, h0, HB.R.bind_ok, e_neg, e_lit, HB.R.bind_ok, rd1_d, neg_i, map1_some, HB.R.bind_ok, idxR_d, rd2_d]
    rw [show idx2 (.str (S (wr (.b kk r)))) (.int (-1)) = some (.str (S [cls kk])) by rw [hw]; exact idxZ (l := opn kk :: wrs r) (by rw [List.cons_append, ← hw]; exact hl)]
    rw [map1_some, HB.R.bind_ok, rd2_d, add_ss (by simp; omega), map1_some]
    rfl
  rw [show [W.d (PyData.str (S (wr (.b kk r)))), .d (.str (S l))].length = 2 from rfl, he]
  exact out_d0 rfl
theorem lc_map {α : Type} {keep : Sto → Bool} {f : D → Sto → R (Option D)} {a b : α → D} {s : Sto} (hk : keep s = true) : ∀ (l : List α), (∀ x ∈ l, f (a x) s = .ok (some (b x)) s) → lcL keep f (l.map a) s = .ok (l.map b) s
  | [], _ => by simp [lcL, hk]
  | x :: xs, h => by
    rw [List.map_cons, lcL, if_pos hk, h x (by simp), HB.R.bind_ok, lc_map hk xs fun y hy => h y (by simp [hy]), HB.R.bind_ok]
    rfl
theorem fold_e : ∀ (ps : List (List Nat)) (acc : Array Nat), (ps.map S).foldl (fun acc p => acc ++ (S []).cps ++ p.cps) acc = acc ++ ps.flatten.toArray
  | [], acc => by simp
  | a :: r, acc => by
    rw [List.map_cons, List.foldl_cons, fold_e r]
    simp
theorem join_e : ∀ ys : List (List Nat), Txt.join (S []) (ys.map S) = S ys.flatten
  | [] => rfl
  | a :: r => by
    show Str.mk _ = _
    simp only [List.map_cons, List.drop_one, List.tail_cons, List.headD_cons]
    rw [fold_e]
    simp
theorem strs_S : ∀ ys : List (List Nat), strsOf (ys.map fun l => .str (S l)) = some (ys.map S)
  | [] => rfl
  | a :: r => by simp [strsOf, strs_S r]
theorem sum_len : ∀ ys : List (List Nat), ((ys.map S).map Str.length).sum = ys.flatten.length
  | [] => rfl
  | a :: r => by
    show (S a).length + ((r.map S).map Str.length).sum = _
    rw [sum_len r]; simp
theorem join_ok {ys : List (List Nat)} (h : ys.length ≤ 1000) (h2 : ys.flatten.length ≤ 1000) : mthD .join (.str (S [])) [.list (ys.map fun l => .str (S l))] = some (.str (S ys.flatten)) := by
  simp only [mthD, strs_S]
  rw [if_pos ⟨by simpa using h, by simp, by rw [sum_len]; omega⟩, join_e]
theorem thD_rev (r : List Th) : (thD r).reverse = thD r.reverse := by simp [thD]
theorem flat_bks : ∀ r : List Th, (r.reverse.map fun t => wr (bk t)).flatten = wrs (bks r)
  | [] => rfl
  | t :: r => by rw [List.reverse_cons, List.map_append, List.flatten_append, flat_bks r, bks, wrs_app]; simp [wrs]
structure HasSh (P : List Def) : Prop where
  is_shelf : Fd P "is_shelf" G.d_is_shelf
  need_shelf : Fd P "need_shelf" G.d_need_shelf
  end_of : Fd P "end_of" G.d_end_of
  things_in : Fd P "things_in" G.d_things_in
  is_box : Fd P "is_box" G.d_is_box
  inner : Fd P "inner" G.d_inner
  with_inner : Fd P "with_inner" G.d_with_inner
  behind_thing : Fd P "behind_thing" G.d_behind_thing
  behind_row : Fd P "behind_row" G.d_behind_row
theorem bl_look {n : Nat} (h : Lt n) : lookD [("b", .str "d"), ("d", .str "b"), ("p", .str "q"), ("q", .str "p"), ("o", .str "o"), ("x", .str "x")] (.str (S [n])) = some (.str (S [bl n])) := by
  rw [s_b, s_d, s_p, s_q, s_o, s_x]
  rcases h with h | h | h | h | h | h <;> subst h <;> rfl
theorem mem_facts : ∀ (r : List Th) (t : Th), t ∈ r → gds r → gd t ∧ dep t ≤ deps r ∧ (wr t).length ≤ (wrs r).length
  | [], _, h, _ => by simp at h
  | u :: r, t, h, g => by
    rcases List.mem_cons.mp h with h | h
    · subst h
      exact ⟨g.1, by rw [deps]; omega, by rw [wrs]; simp⟩
    · obtain ⟨a, b, c⟩ := mem_facts r t h g.2
      exact ⟨a, by rw [deps]; omega, by rw [wrs]; simp; omega⟩
mutual
theorem bt_run (hS : HasSh P) : ∀ (t : Th) (k : Nat), 2 * dep t + 4 ≤ k → gd t → (wr t).length ≤ 1000 → runF P X k "behind_thing" [.d (.str (S (wr t)))] [] = .ok (.d (.str (S (wr (bk t))))) []
  | t, 0, hk, _, _ => by omega
  | t, k + 1, hk, g, hl => by
    rw [run_def hS.behind_thing rfl]
    have hm : maxLen = 1000000 := rfl
    have he : exB (runF P X k) G.d_behind_thing.body ([W.d (.str (S (wr t)))].map some ++ List.replicate (G.d_behind_thing.slots.length - 1) none) [] = .ret (.d (.str (S (wr (bk t))))) [] := by
      have h0 : ∀ s, evE (runF P X k) (.var 0) ([W.d (.str (S (wr t)))].map some ++ List.replicate (G.d_behind_thing.slots.length - 1) none) s = .ok (.d (.str (S (wr t)))) s := fun s => by rw [e_var]; rfl
      rw [show G.d_behind_thing.body = [.ret (.ife (.call "is_box" [.var 0]) (.call "with_inner" [.var 0, .call "behind_row" [.call "inner" [.var 0]]]) (.git "BEHIND" [("b", .str "d"), ("d", .str "b"), ("p", .str "q"), ("q", .str "p"), ("o", .str "o"), ("x", .str "x")] (.var 0)))] from rfl]
      obtain ⟨j, rfl⟩ : ∃ j, k = j + 1 := ⟨k - 1, by omega⟩
      rw [b_cons, s_ret, e_ife, e_call, es_cons, h0, HB.R.bind_ok, es_nil, HB.R.bind_ok, HB.R.bind_ok, call1 (ib_run hS.is_box g (by omega)), HB.R.bind_ok, tst_b]
      cases t with
      | c n =>
        rw [isB, if_neg (by simp), e_git, h0, HB.R.bind_ok, rd1_d, show wr (.c n) = [n] by rw [wr], bl_look g, map1_some]
        rfl
      | b kk r =>
        have hd : dep (.b kk r) = deps r + 1 := by rw [dep]
        have hw : (wr (.b kk r)).length = (wrs r).length + 2 := by rw [wr]; simp
        rw [isB, if_pos rfl, e_call, es_cons, h0, HB.R.bind_ok, es_cons, e_call, es_cons, e_call, es_cons, h0, HB.R.bind_ok, es_nil, HB.R.bind_ok, HB.R.bind_ok, call1 (in_run hS.inner (by omega)), HB.R.bind_ok, es_nil, HB.R.bind_ok, HB.R.bind_ok]
        rw [call1 (br_run hS r (j + 1) (by omega) g (by omega)), HB.R.bind_ok, es_nil, HB.R.bind_ok, HB.R.bind_ok, HB.R.bind_ok, call2 (wi_run hS.with_inner (by omega) (by rw [len_bks]; omega))]
        rw [show bk (.b kk r) = .b kk (bks r) by rw [bk], show wr (.b kk (bks r)) = opn kk :: (wrs (bks r) ++ [cls kk]) by rw [wr]]
        rfl
    rw [show [W.d (PyData.str (S (wr t)))].length = 1 from rfl, he]
    exact out_d0 rfl
theorem br_run (hS : HasSh P) : ∀ (r : List Th) (k : Nat), 2 * deps r + 5 ≤ k → gds r → (wrs r).length ≤ 1000 → runF P X k "behind_row" [.d (.str (S (wrs r)))] [] = .ok (.d (.str (S (wrs (bks r))))) []
  | r, 0, hk, _, _ => by omega
  | r, k + 1, hk, g, hl => by
    rw [run_def hS.behind_row rfl]
    have he : exB (runF P X k) G.d_behind_row.body ([W.d (.str (S (wrs r)))].map some ++ List.replicate (G.d_behind_row.slots.length - 1) none) [] = .ret (.d (.str (S (wrs (bks r))))) [] := by
      have h0 : ∀ s, evE (runF P X k) (.var 0) ([W.d (.str (S (wrs r)))].map some ++ List.replicate (G.d_behind_row.slots.length - 1) none) s = .ok (.d (.str (S (wrs r)))) s := fun s => by rw [e_var]; rfl
      rw [show G.d_behind_row.body = [.ret (.mth .join "str" (.lit (.str "")) [.frs (.lc [1] (.call "behind_thing" [.var 1]) (.name 1) (.each (.rev (.call "things_in" [.var 0]))) none)])] from rfl]
      obtain ⟨j, rfl⟩ : ∃ j, k = j + 2 := ⟨k - 2, by omega⟩
      rw [b_cons, s_ret, e_mth, e_lit, HB.R.bind_ok, rd1_d]
      simp only [hasTy, beq_self_eq_true, if_true, Mth.writes, Bool.false_eq_true, if_false]
      have hi : evI (runF P X (j + 2)) (.each (.rev (.call "things_in" [.var 0]))) ([W.d (.str (S (wrs r)))].map some ++ List.replicate (G.d_behind_row.slots.length - 1) none) [] = .ok ⟨[], thD r.reverse⟩ [] := by
        rw [i_each, e_rev, e_call, es_cons, h0, HB.R.bind_ok, es_nil, HB.R.bind_ok, HB.R.bind_ok, call1 (ti_run hS.things_in hS.end_of hl g), HB.R.bind_ok, rd1_d]
        simp only [rev2]
        rw [map1_some, HB.R.bind_ok, thD_rev]
        rfl
      have hn : evN (runF P X (j + 2)) (.lc [1] (.call "behind_thing" [.var 1]) (.name 1) (.each (.rev (.call "things_in" [.var 0]))) none) ([W.d (.str (S (wrs r)))].map some ++ List.replicate (G.d_behind_row.slots.length - 1) none) [] = .ok (r.reverse.map fun t => .str (S (wr (bk t)))) [] := by
        rw [evN, hi, HB.R.bind_ok]
        have hlen : r.length ≤ 1000 := Nat.le_trans (wrs_len r) hl
        have e1 : thD r.reverse = r.reverse.map fun t => .str (S (wr t)) := rfl
        have turn : ∀ t ∈ r.reverse, noEx ((asT (runF P X (j + 2)) (.name 1) (.d (.str (S (wr t)))) (wipeE ([W.d (.str (S (wrs r)))].map some ++ List.replicate (G.d_behind_row.slots.length - 1) none) [1]) []).bind fun e' s => (evC (runF P X (j + 2)) none e' s).bind fun b s =>
            if b then (evE (runF P X (j + 2)) (.call "behind_thing" [.var 1]) e' s).bind fun w s => toD s w fun d s => .ok (some d) s else .ok none s) = .ok (some (.str (S (wr (bk t))))) [] := fun t ht => by
          obtain ⟨h1, h2, h3⟩ := mem_facts r t (by simpa using ht) g
          rw [t_name, if_pos (by show 1 < 2; omega), HB.R.bind_ok, c_none, HB.R.bind_ok, if_pos rfl, e_call, es_cons, e_var]
          have q := call1 (s := []) (bt_run hS t (j + 2) (by omega) h1 (by omega))
          show noEx ((R.bind (R.bind (R.bind (.ok (W.d (.str (S (wr t)))) []) _) _) _)) = _
          rw [HB.R.bind_ok, es_nil, HB.R.bind_ok, HB.R.bind_ok, q]
          rfl
        rw [e1]
        simp only
        rw [lc_map (b := fun t => .str (S (wr (bk t)))) rfl r.reverse turn, HB.R.bind_ok, if_pos (by simp [maxLen]; omega)]
      rw [es_cons, e_frs, hn, HB.R.bind_ok, HB.R.bind_ok, es_nil, HB.R.bind_ok, HB.R.bind_ok, rd1_d, rds_1]
      have hj : mthD .join (.str (Str.ofString "")) [.list (r.reverse.map fun t => .str (S (wr (bk t))))] = some (.str (S (wrs (bks r)))) := by
        have := join_ok (ys := r.reverse.map fun t => wr (bk t)) (by have := wrs_len r; simp; omega) (by rw [flat_bks, len_bks]; exact hl)
        rw [flat_bks] at this
        rw [s_e, ← this, List.map_map]
        rfl
      rw [hj, map1_some]
      rfl
    rw [show [W.d (PyData.str (S (wrs r)))].length = 1 from rfl, he]
    exact out_d0 rfl
end
end
end M
end HB
/-! What is a shelf. -/
namespace HB
namespace M
open PySem PySem.W
mutual
def sz : Th → Nat
  | .c _ => 1
  | .b _ r => szs r + 1
def szs : List Th → Nat
  | [] => 0
  | t :: r => sz t + szs r
end
mutual
/-- no row of more than six -/
def sm : Th → Prop
  | .c _ => True
  | .b _ r => r.length ≤ 6 ∧ sms r
def sms : List Th → Prop
  | [] => True
  | t :: r => sm t ∧ sms r
end
theorem maxD_in (x : D) (xs : List D) : maxD x xs ∈ x :: xs := by
  unfold maxD
  induction xs generalizing x with
  | nil => simp
  | cons y ys ih =>
    rw [List.foldl_cons]
    have := ih (if dataLt x y then y else x)
    rcases List.mem_cons.mp this with h | h
    · rw [h]; split <;> simp
    · simp [h]
theorem alike_ints (l : List Int) : alikeAllB (l.map .int) = true := by
  unfold alikeAllB
  rw [List.all_eq_true]
  intro x hx
  obtain ⟨i, _, rfl⟩ := List.mem_map.mp hx
  simp only [Bool.true_and]
  rw [List.all_eq_true]
  intro y hy
  obtain ⟨j, _, rfl⟩ := List.mem_map.mp hy
  rfl
theorem depth_ints : ∀ l : List Int, PyData.depthAll (l.map .int) = 0
  | [] => rfl
  | a :: l => by simp [PyData.depthAll, PyData.depth, depth_ints l]
theorem max_ints {l : List Int} {b : Int} (h : ∀ i ∈ l, i ≤ b) (hn : l ≠ []) : ∃ m, m ≤ b ∧ prim .max1 [.list (l.map .int)] = some (.int m) := by
  cases l with
  | nil => exact (hn rfl).elim
  | cons a l =>
    have := maxD_in (.int a) (l.map .int)
    rw [← List.map_cons] at this
    obtain ⟨m, hm, e⟩ := List.mem_map.mp this
    refine ⟨m, h m hm, ?_⟩
    have h1 := alike_ints (a :: l)
    have h2 : depthOk ((a :: l).map .int) = true := by unfold depthOk; rw [depth_ints]; rfl
    rw [List.map_cons] at h1 h2
    simp only [List.map_cons, prim, h1, h2, Bool.and_true, if_true, e]
def isBd : List St := match G.d_is_shelf.body with
  | [_, _, .for_ _ _ b, _] => b
  | _ => []
def txts (l : List Nat) : List D := l.map fun c => .str (S [c])
def isE (T : List Nat) (v : Option W) (n : Int) : Env := [some (.d (.str (S T))), v, some (.h 0), some (.h 1), some (.d (.int n))]
def isS (ro : List Int) (du : List Nat) : Sto := [.lst (ro.map .int), .lst (txts du)]
def isF (C : Calls) (x : D) (e : Env) (s : Sto) : O := (noEx (asT C (.name 1) (.d x) e s)).toO e fun e s => exB C isBd e s
theorem ends_look (k : Bool) : lookD [("(", .str ")"), ("[", .str "]")] (.str (S [opn k])) = some (.str (S [cls k])) := by
  rw [s_po, s_pc, s_bo, s_bc]
  cases k <;> rfl
theorem last_at {α : Type} (l : List α) (x : α) : L2.atI (l ++ [x]) (-1) = some x := by
  simp only [L2.atI, L2.ixN]
  rw [if_neg (by omega), if_pos (by simp; omega)]
  have : ((-1 : Int) + ((l ++ [x]).length : Nat)).toNat = l.length := by simp; omega
  rw [this]
  simp
theorem last_ix {n : Nat} : L2.ixN (n + 1) (-1) = some n := by
  simp only [L2.ixN]
  rw [if_neg (by omega), if_pos (by omega)]
  have : ((-1 : Int) + ((n + 1 : Nat) : Int)).toNat = n := by omega
  rw [this]
theorem put_ok {s : Sto} {i : Nat} {xs ys : List PyData} {d : PyData} {f : List PyData → Option (List PyData × PyData)} (h : s[i]? = some (.lst xs)) (hf : f xs = some (ys, d)) (hl : ys.length ≤ maxLen) : put s (.h i) f = .ok d (s.set i (.lst ys)) := by
  simp only [put, h, hf]
  rw [if_pos hl]
/-- rows[-1] += 1 -/
theorem aug_last {C : Calls} {T : List Nat} {v : Option W} {n : Int} {ro : List Int} {k : Int} {du : List Nat} (hR : ro.length + 1 ≤ maxLen) :
    exS C (.augIx (.var 2) (.neg (.lit (.int 1))) .add (.lit (.int 1))) (isE T v n) (isS (ro ++ [k]) du) = .nx (isE T v n) (isS (ro ++ [k + 1]) du) := by
  have h2 : evE C (.var 2) (isE T v n) (isS (ro ++ [k]) du) = .ok (.h 0) (isS (ro ++ [k]) du) := by rw [e_var]; rfl
  rw [s_augIx, h2, HB.R.bind_ok, e_neg, e_lit, HB.R.bind_ok, rd1_d, neg_i, map1_some, HB.R.bind_ok]
  have hp : rd2 (isS (ro ++ [k]) du) (.h 0) (.d (.int (-1))) (fun u v => R.of (isS (ro ++ [k]) du) (idxL u v)) = .ok (.int k) (isS (ro ++ [k]) du) := by
    show R.of _ (L2.atI ((ro ++ [k]).map PyData.int) (-1)) = _
    rw [List.map_append, List.map_cons, List.map_nil, last_at]
    rfl
  rw [hp, HB.R.bind_ok, e_lit, HB.R.bind_ok, rd1_d, iadd_ii, HB.R.of_some, HB.R.bind_ok]
  have hs : setIx (isS (ro ++ [k]) du) (.h 0) (.d (.int (-1))) (.int (k + 1)) = .ok () (isS (ro ++ [k + 1]) du) := by
    unfold setIx
    rw [peek_d]
    simp only
    rw [put_ok (xs := (ro ++ [k]).map .int) (ys := ((ro ++ [k]).map PyData.int).set ro.length (.int (k + 1))) (d := .none) rfl (by
      have hl : ((ro ++ [k]).map PyData.int).length = ro.length + 1 := by simp
      simp only [hl, last_ix, Option.map_some]) (by simp; exact hR), HB.R.bind_ok]
    simp [isS, List.set_append]
  rw [hs]
  rfl
theorem app0 {C : Calls} {T : List Nat} {v : Option W} {n : Int} {ro : List Int} {du : List Nat} (hR : ro.length + 1 ≤ maxLen) :
    exS C (.exp (.mth .append "list" (.var 2) [.lit (.int 0)])) (isE T v n) (isS ro du) = .nx (isE T v n) (isS (ro ++ [0]) du) := by
  have h2 : evE C (.var 2) (isE T v n) (isS ro du) = .ok (.h 0) (isS ro du) := by rw [e_var]; rfl
  rw [s_exp, e_mth, h2, HB.R.bind_ok]
  have hr : rd1 (isS ro du) (.h 0) = fun (g : PyData → HB.R W) => g (.list (ro.map .int)) := rfl
  rw [hr]
  simp only [hasTy, beq_self_eq_true, if_true, Mth.writes]
  rw [d_cons, e_lit, HB.R.bind_ok, toD_d, d_nil, HB.R.bind_ok, HB.R.bind_ok, app_put (xs := ro.map .int) rfl (by simpa using hR), HB.R.bind_ok, HB.R.toO_ok]
  simp [isS]
theorem app_due {C : Calls} {T : List Nat} {n : Int} {ro : List Int} {du : List Nat} {k : Bool} (hD : du.length + 1 ≤ maxLen) :
    exS C (.exp (.mth .append "list" (.var 3) [.git "ENDS" [("(", .str ")"), ("[", .str "]")] (.var 1)])) (isE T (some (.d (.str (S [opn k])))) n) (isS ro du) = .nx (isE T (some (.d (.str (S [opn k])))) n) (isS ro (du ++ [cls k])) := by
  have h3 : evE C (.var 3) (isE T (some (.d (.str (S [opn k])))) n) (isS ro du) = .ok (.h 1) (isS ro du) := by rw [e_var]; rfl
  have h1 : evE C (.var 1) (isE T (some (.d (.str (S [opn k])))) n) (isS ro du) = .ok (.d (.str (S [opn k]))) (isS ro du) := by rw [e_var]; rfl
  rw [s_exp, e_mth, h3, HB.R.bind_ok]
  have hr : rd1 (isS ro du) (.h 1) = fun (g : PyData → HB.R W) => g (.list (txts du)) := rfl
  rw [hr]
  simp only [hasTy, beq_self_eq_true, if_true, Mth.writes]
  rw [d_cons, e_git, h1, HB.R.bind_ok, rd1_d, ends_look, map1_some, HB.R.bind_ok, toD_d, d_nil, HB.R.bind_ok, HB.R.bind_ok, app_put (xs := txts du) rfl (by simpa [txts] using hD), HB.R.bind_ok, HB.R.toO_ok]
  simp [isS, txts]
/-- the bounds are kept -/
theorem bounds_ok {C : Calls} {T : List Nat} {v : Option W} {n : Int} {ro : List Int} {du : List Nat} (h1 : ∀ i ∈ ro, i ≤ 6) (hn : ro ≠ []) (h2 : n ≤ 16) (h3 : du.length ≤ 3) :
    exS C (.ite (.or (.cmp .gt (.prim .max1 [.var 2]) (.glb "MOST_IN_ROW" (.int 6))) (.or (.cmp .gt (.var 4) (.glb "MOST_THINGS" (.int 16))) (.cmp .gt (.prim .len [.var 3]) (.glb "MOST_DEEP" (.int 3))))) [.ret (.lit (.bool false))] []) (isE T v n) (isS ro du) = .nx (isE T v n) (isS ro du) := by
  obtain ⟨m, hm, e⟩ := max_ints h1 hn
  have v2 : evE C (.var 2) (isE T v n) (isS ro du) = .ok (.h 0) (isS ro du) := by rw [e_var]; rfl
  have v3 : evE C (.var 3) (isE T v n) (isS ro du) = .ok (.h 1) (isS ro du) := by rw [e_var]; rfl
  have v4 : evE C (.var 4) (isE T v n) (isS ro du) = .ok (.d (.int n)) (isS ro du) := by rw [e_var]; rfl
  have a1 : evE C (.cmp .gt (.prim .max1 [.var 2]) (.glb "MOST_IN_ROW" (.int 6))) (isE T v n) (isS ro du) = .ok (.d (.bool false)) (isS ro du) := by
    rw [e_cmp, e_prim, es_cons, v2, HB.R.bind_ok, es_nil, HB.R.bind_ok, HB.R.bind_ok]
    show ((R.map1 (isS ro du) (prim .max1 [.list (ro.map .int)])).bind _) = _
    rw [e, map1_some, HB.R.bind_ok, e_glb, HB.R.bind_ok, rd2_d, gt_ii, decide_eq_false (by omega)]
    rfl
  have a2 : evE C (.cmp .gt (.var 4) (.glb "MOST_THINGS" (.int 16))) (isE T v n) (isS ro du) = .ok (.d (.bool false)) (isS ro du) := by
    rw [e_cmp, v4, HB.R.bind_ok, e_glb, HB.R.bind_ok, rd2_d, gt_ii, decide_eq_false (by omega)]
    rfl
  have a3 : evE C (.cmp .gt (.prim .len [.var 3]) (.glb "MOST_DEEP" (.int 3))) (isE T v n) (isS ro du) = .ok (.d (.bool false)) (isS ro du) := by
    rw [e_cmp, e_prim, es_cons, v3, HB.R.bind_ok, es_nil, HB.R.bind_ok, HB.R.bind_ok]
    show ((R.map1 (isS ro du) (prim .len [.list (txts du)])).bind _) = _
    simp only [prim, map1_some, HB.R.bind_ok]
    rw [e_glb, HB.R.bind_ok, rd2_d, gt_ii, decide_eq_false (by simp [txts]; omega)]
    rfl
  rw [s_ite, ev_T, e_or, a1, HB.R.bind_ok, tst_b, if_neg (by simp), e_or, a2, HB.R.bind_ok, tst_b, if_neg (by simp), a3, HB.R.bind_ok, tst_b]
  simp
abbrev sGin : Ex := .gin false "ENDS" ["(", "["] (.var 1)
abbrev sAug : St := .augIx (.var 2) (.neg (.lit (.int 1))) .add (.lit (.int 1))
abbrev sBnd : St := .ite (.or (.cmp .gt (.prim .max1 [.var 2]) (.glb "MOST_IN_ROW" (.int 6))) (.or (.cmp .gt (.var 4) (.glb "MOST_THINGS" (.int 16))) (.cmp .gt (.prim .len [.var 3]) (.glb "MOST_DEEP" (.int 3))))) [.ret (.lit (.bool false))] []
abbrev sDue : St := .exp (.mth .append "list" (.var 3) [.git "ENDS" [("(", .str ")"), ("[", .str "]")] (.var 1)])
abbrev sApp : St := .exp (.mth .append "list" (.var 2) [.lit (.int 0)])
abbrev sTst : Ex := .or (.cmp .eq (.var 3) (.frs (.lst []))) (.cmp .ne (.var 1) (.idx (.var 3) (.neg (.lit (.int 1)))))
abbrev sPop (i : Nat) : St := .exp (.mth .pop "list" (.var i) [])
theorem isBd_eq : isBd = [.ite (.or (.gin false "BEHIND" ["b", "d", "p", "q", "o", "x"] (.var 1)) sGin) [sAug, .aug 4 .add (.lit (.int 1)), .ite sGin [sDue, sApp] [], sBnd] [.ite sTst [.ret (.lit (.bool false))] [sPop 3, sPop 2]]] := rfl
section
variable {C : Calls} {T : List Nat} {v : Option W} {n k : Int} {ro : List Int} {du : List Nat}
theorem is_beg {c : Nat} : isF C (.str (S [c])) (isE T v n) (isS ro du) = exB C isBd (isE T (some (.d (.str (S [c])))) n) (isS ro du) := by
  unfold isF
  rw [t_name, if_pos (by show 1 < 5; omega), noEx_ok', HB.R.toO_ok]
  rfl
theorem v1 {c : Nat} {s : Sto} : evE C (.var 1) (isE T (some (.d (.str (S [c])))) n) s = .ok (.d (.str (S [c]))) s := by rw [e_var]; rfl
theorem g_beh {c : Nat} : evE C (.gin false "BEHIND" ["b", "d", "p", "q", "o", "x"] (.var 1)) (isE T (some (.d (.str (S [c])))) n) (isS ro du) = .ok (.d (.bool (decide (Lt c)))) (isS ro du) := by
  rw [e_gin, v1, HB.R.bind_ok, rd1_d, k_behind, map1_some]
  rfl
theorem g_end {c : Nat} : evE C sGin (isE T (some (.d (.str (S [c])))) n) (isS ro du) = .ok (.d (.bool (decide (c = 40 ∨ c = 91)))) (isS ro du) := by
  rw [e_gin, v1, HB.R.bind_ok, rd1_d, k_ends, map1_some]
  rfl
theorem t_first {c : Nat} : evT C (.or (.gin false "BEHIND" ["b", "d", "p", "q", "o", "x"] (.var 1)) sGin) (isE T (some (.d (.str (S [c])))) n) (isS ro du) = .ok (decide (Lt c) || decide (c = 40 ∨ c = 91)) (isS ro du) := by
  rw [ev_T, e_or, g_beh, HB.R.bind_ok, tst_b]
  by_cases h : Lt c
  · rw [decide_eq_true h, if_pos rfl, HB.R.bind_ok, tst_b]; rfl
  · rw [decide_eq_false h, if_neg (by simp), g_end, HB.R.bind_ok, tst_b]; rfl
theorem aug4 {w : Option W} : exS C (.aug 4 .add (.lit (.int 1))) (isE T w n) (isS ro du) = .nx (isE T w (n + 1)) (isS ro du) := by
  rw [s_aug]
  show ((R.bind _ _).toO _ _) = _
  rw [e_lit, HB.R.bind_ok, rd2_d, iadd_ii, map1_some, HB.R.toO_ok]
  rfl
theorem is_let {c : Nat} (hc : Lt c) (h1 : ∀ i ∈ ro, i ≤ 6) (hk : k + 1 ≤ 6) (hr : ro.length ≤ 100) (h2 : n + 1 ≤ 16) (h3 : du.length ≤ 3) :
    isF C (.str (S [c])) (isE T v n) (isS (ro ++ [k]) du) = .nx (isE T (some (.d (.str (S [c])))) (n + 1)) (isS (ro ++ [k + 1]) du) := by
  rw [is_beg, isBd_eq, b_cons, s_ite, t_first, decide_eq_true hc, Bool.true_or, HB.R.toO_ok, if_pos rfl, b_cons, aug_last (by unfold maxLen; omega), HB.O.bind_nx, b_cons, aug4, HB.O.bind_nx, b_cons, s_ite, ev_T, g_end, decide_eq_false (lt_not hc), HB.R.bind_ok, tst_b, HB.R.toO_ok, if_neg (by simp), b_nil, HB.O.bind_nx, b_cons, bounds_ok (by
    intro i hi
    rcases List.mem_append.mp hi with h | h
    · exact h1 i h
    · simp at h; omega) (by simp) h2 h3, HB.O.bind_nx, b_nil, HB.O.bind_nx, b_nil]
theorem is_opn {b : Bool} (h1 : ∀ i ∈ ro, i ≤ 6) (hk : k + 1 ≤ 6) (hr : ro.length ≤ 100) (h2 : n + 1 ≤ 16) (h3 : du.length + 1 ≤ 3) :
    isF C (.str (S [opn b])) (isE T v n) (isS (ro ++ [k]) du) = .nx (isE T (some (.d (.str (S [opn b])))) (n + 1)) (isS (ro ++ [k + 1] ++ [0]) (du ++ [cls b])) := by
  have ho : opn b = 40 ∨ opn b = 91 := opn_or b
  rw [is_beg, isBd_eq, b_cons, s_ite, t_first, decide_eq_true ho, Bool.or_true, HB.R.toO_ok, if_pos rfl, b_cons, aug_last (by unfold maxLen; omega), HB.O.bind_nx, b_cons, aug4, HB.O.bind_nx, b_cons, s_ite, ev_T, g_end, decide_eq_true ho, HB.R.bind_ok, tst_b, HB.R.toO_ok, if_pos rfl, b_cons, app_due (by unfold maxLen; omega), HB.O.bind_nx, b_cons, app0 (by unfold maxLen; simp; omega), HB.O.bind_nx, b_nil, HB.O.bind_nx, b_cons, bounds_ok (by
    intro i hi
    simp at hi
    rcases hi with h | h | h
    · exact h1 i h
    · omega
    · omega) (by simp) h2 (by simp; omega), HB.O.bind_nx, b_nil, HB.O.bind_nx, b_nil]
theorem cls_not (b : Bool) : ¬ Lt (cls b) ∧ ¬ (cls b = 40 ∨ cls b = 91) := by cases b <;> simp [cls, Lt]
theorem pop_l {s : Sto} {xs : List PyData} {x : PyData} {i : Nat} (h : s[i]? = some (.lst (xs ++ [x]))) (hl : xs.length ≤ maxLen) : mthW s .pop (.h i) [] = .ok x (s.set i (.lst xs)) := by
  unfold mthW
  rw [put_ok (xs := xs ++ [x]) (ys := xs) (d := x) h (by simp [mthF]) hl]
theorem eq_txts {l : List Nat} (hn : l ≠ []) : cmp2 .eq (.list (txts l)) (.list []) = some false := by
  cases l with
  | nil => exact (hn rfl).elim
  | cons a l =>
    have hp : ∀ l : List Nat, PyData.plainAll (txts l) = true := fun l => by
      induction l with
      | nil => rfl
      | cons a l ih => show (true && PyData.plainAll (txts l)) = true; rw [ih]; rfl
    simp only [cmp2, PyData.plain, hp, PyData.plainAll, PyData.depth, PyData.depthAll]
    simp
    rfl
theorem eq_ss (a b : List Nat) : cmp2 .ne (.str (S a)) (.str (S b)) = some (!decide (a = b)) := by
  simp [cmp2, PyData.plain, PyData.depth, PyData.eqv]
  try (rw [Bool.eq_iff_iff]; simp)
theorem is_cls {b : Bool} (hr : ro.length ≤ 100) (hd : du.length ≤ 100) :
    isF C (.str (S [cls b])) (isE T v n) (isS (ro ++ [k]) (du ++ [cls b])) = .nx (isE T (some (.d (.str (S [cls b])))) n) (isS ro du) := by
  have v3 : evE C (.var 3) (isE T (some (.d (.str (S [cls b])))) n) (isS (ro ++ [k]) (du ++ [cls b])) = .ok (.h 1) (isS (ro ++ [k]) (du ++ [cls b])) := by rw [e_var]; rfl
  have v2 : evE C (.var 2) (isE T (some (.d (.str (S [cls b])))) n) (isS (ro ++ [k]) du) = .ok (.h 0) (isS (ro ++ [k]) du) := by rw [e_var]; rfl
  have tt : txts (du ++ [cls b]) = txts du ++ [.str (S [cls b])] := by simp [txts]
  have a1 : evE C (.cmp .eq (.var 3) (.frs (.lst []))) (isE T (some (.d (.str (S [cls b])))) n) (isS (ro ++ [k]) (du ++ [cls b])) = .ok (.d (.bool false)) (isS (ro ++ [k]) (du ++ [cls b])) := by
    rw [e_cmp, v3, HB.R.bind_ok, e_frs, n_lst, d_nil, HB.R.bind_ok, if_pos (by show 0 ≤ maxLen; exact Nat.zero_le _), HB.R.bind_ok, HB.R.bind_ok]
    show R.map1 _ ((cmp2 .eq (.list (txts (du ++ [cls b]))) (.list [])).map .bool) = _
    rw [eq_txts (by simp)]
    rfl
  have a2 : evE C (.cmp .ne (.var 1) (.idx (.var 3) (.neg (.lit (.int 1))))) (isE T (some (.d (.str (S [cls b])))) n) (isS (ro ++ [k]) (du ++ [cls b])) = .ok (.d (.bool false)) (isS (ro ++ [k]) (du ++ [cls b])) := by
    rw [e_cmp, v1, HB.R.bind_ok, e_idx, v3, HB.R.bind_ok, e_neg, e_lit, HB.R.bind_ok, rd1_d, neg_i, map1_some, HB.R.bind_ok]
    have : idxR (isS (ro ++ [k]) (du ++ [cls b])) (.h 1) (.d (.int (-1))) = .ok (.d (.str (S [cls b]))) (isS (ro ++ [k]) (du ++ [cls b])) := by
      show R.map1 _ (L2.atI (txts (du ++ [cls b])) (-1)) = _
      rw [tt, last_at, map1_some]
    rw [this, HB.R.bind_ok, rd2_d, eq_ss]
    simp
  rw [is_beg, isBd_eq, b_cons, s_ite, t_first, decide_eq_false (cls_not b).1, decide_eq_false (cls_not b).2, HB.R.toO_ok, if_neg (by simp), b_cons, s_ite, ev_T, e_or, a1, HB.R.bind_ok, tst_b, if_neg (by simp), a2, HB.R.bind_ok, tst_b, HB.R.toO_ok, if_neg (by simp), b_cons, s_exp, e_mth, v3, HB.R.bind_ok]
  have hr1 : rd1 (isS (ro ++ [k]) (du ++ [cls b])) (.h 1) = fun (g : PyData → HB.R W) => g (.list (txts (du ++ [cls b]))) := rfl
  rw [hr1]
  simp only [hasTy, beq_self_eq_true, if_true, Mth.writes]
  rw [d_nil, HB.R.bind_ok, pop_l (xs := txts du) (x := .str (S [cls b])) (by rw [← tt]; rfl) (by simp [txts, maxLen]; omega), HB.R.bind_ok, HB.R.toO_ok, HB.O.bind_nx]
  have es : (isS (ro ++ [k]) (du ++ [cls b])).set 1 (.lst (txts du)) = isS (ro ++ [k]) du := rfl
  rw [es, b_cons, s_exp, e_mth, v2, HB.R.bind_ok]
  have hr2 : rd1 (isS (ro ++ [k]) du) (.h 0) = fun (g : PyData → HB.R W) => g (.list ((ro ++ [k]).map .int)) := rfl
  rw [hr2]
  simp only [hasTy, beq_self_eq_true, if_true, Mth.writes]
  rw [d_nil, HB.R.bind_ok, pop_l (xs := ro.map .int) (x := .int k) (by show some (Cell.lst ((ro ++ [k]).map .int)) = _; simp) (by simp [maxLen]; omega), HB.R.bind_ok, HB.R.toO_ok, HB.O.bind_nx, b_nil]
  rfl
end
/-- the loop over signs -/
def isL (C : Calls) (l : List Nat) (e : Env) (s : Sto) : O := forL (fun s => Src.ok s []) (isF C) (txts l) e s
theorem isL_cons {C : Calls} {c : Nat} {l : List Nat} {e e' : Env} {s s' : Sto} (h : isF C (.str (S [c])) e s = .nx e' s') : isL C (c :: l) e s = isL C l e' s' := for_cons rfl h
mutual
theorem is_th {C : Calls} {T : List Nat} : ∀ (t : Th) (post : List Nat) (v : Option W) (n k : Int) (ro : List Int) (du : List Nat), gd t → sm t → (∀ i ∈ ro, i ≤ 6) → k + 1 ≤ 6 → ro.length ≤ du.length → n + sz t ≤ 16 → du.length + dep t ≤ 3 →
    ∃ v', isL C (wr t ++ post) (isE T v n) (isS (ro ++ [k]) du) = isL C post (isE T v' (n + sz t)) (isS (ro ++ [k + 1]) du)
  | .c c, post, v, n, k, ro, du, g, s, h1, h2, h3, h4, h5 => by
    rw [sz] at h4
    refine ⟨some (.d (.str (S [c]))), ?_⟩
    rw [show wr (.c c) = [c] by rw [wr], List.cons_append, List.nil_append, isL_cons (is_let g h1 h2 (by omega) (by simpa using h4) (by omega)), sz]
    rfl
  | .b b r, post, v, n, k, ro, du, g, s, h1, h2, h3, h4, h5 => by
    rw [sz] at h4
    rw [dep] at h5
    have hw : wr (.b b r) ++ post = opn b :: (wrs r ++ (cls b :: post)) := by rw [wr]; simp
    rw [hw, isL_cons (is_opn h1 h2 (by omega) (by omega) (by omega))]
    obtain ⟨v1, e1⟩ := is_ths (C := C) (T := T) r (cls b :: post) (some (.d (.str (S [opn b])))) (n + 1) 0 (ro ++ [k + 1]) (du ++ [cls b]) g s.2 (by
      intro i hi
      rcases List.mem_append.mp hi with h | h
      · exact h1 i h
      · simp at h; omega) (by have := s.1; omega) (by simp; omega) (by omega) (by simp; omega)
    refine ⟨some (.d (.str (S [cls b]))), ?_⟩
    rw [e1, isL_cons (is_cls (by simp; omega) (by omega)), sz]
    have : n + 1 + (szs r : Int) = n + ((szs r + 1 : Nat) : Int) := by omega
    rw [this]
theorem is_ths {C : Calls} {T : List Nat} : ∀ (r : List Th) (post : List Nat) (v : Option W) (n k : Int) (ro : List Int) (du : List Nat), gds r → sms r → (∀ i ∈ ro, i ≤ 6) → k + r.length ≤ 6 → ro.length ≤ du.length → n + szs r ≤ 16 → du.length + deps r ≤ 3 →
    ∃ v', isL C (wrs r ++ post) (isE T v n) (isS (ro ++ [k]) du) = isL C post (isE T v' (n + szs r)) (isS (ro ++ [k + r.length]) du)
  | [], post, v, n, k, ro, du, g, s, h1, h2, h3, h4, h5 => ⟨v, by simp [wrs, szs]⟩
  | t :: r, post, v, n, k, ro, du, g, s, h1, h2, h3, h4, h5 => by
    rw [szs] at h4
    rw [deps] at h5
    simp only [List.length_cons] at h2
    obtain ⟨v1, e1⟩ := is_th (C := C) (T := T) t (wrs r ++ post) v n k ro du g.1 s.1 h1 (by omega) h3 (by omega) (by omega)
    obtain ⟨v2, e2⟩ := is_ths (C := C) (T := T) r post v1 (n + sz t) (k + 1) ro du g.2 s.2 h1 (by omega) h3 (by omega) (by omega)
    refine ⟨v2, ?_⟩
    rw [show wrs (t :: r) ++ post = wr t ++ (wrs r ++ post) by rw [wrs]; simp, e1, e2, szs]
    have a1 : n + (sz t : Int) + szs r = n + ((sz t + szs r : Nat) : Int) := by omega
    have a2 : k + 1 + (r.length : Int) = k + ((t :: r).length : Nat) := by simp; omega
    rw [a1, a2]
end
/-- a row that is a shelf -/
structure Shf (r : List Th) : Prop where
  gd : gds r
  sm : sms r
  row : r.length ≤ 6
  sz : szs r ≤ 16
  dep : deps r ≤ 3
section
variable {P : List Def} {X : Ext} {k : Nat}
theorem is_run (hS : HasSh P) {r : List Th} (h : Shf r) : runF P X (k + 1) "is_shelf" [.d (.str (S (wrs r)))] [] = .ok (.d (.bool true)) [] := by
  rw [run_def hS.is_shelf rfl]
  obtain ⟨v, e⟩ := is_ths (C := runF P X k) (T := wrs r) r [] none 0 0 [] [] h.gd h.sm (by simp) (by have := h.row; omega) (by simp) (by have := h.sz; omega) (by have := h.dep; simp; omega)
  have he : exB (runF P X k) G.d_is_shelf.body ([W.d (.str (S (wrs r)))].map some ++ List.replicate (G.d_is_shelf.slots.length - 1) none) [] = .ret (.d (.bool true)) (isS [0 + (r.length : Int)] []) := by
    have hb : G.d_is_shelf.body = [.ite (.not (.prim (.isinst ["str"]) [.var 0])) [.ret (.lit (.bool false))] [], .par [.name 2, .name 3, .name 4] [.new (.lst [.lit (.int 0)]), .new (.lst []), .lit (.int 0)], .for_ (.name 1) (.each (.var 0)) isBd, .ret (.cmp .eq (.var 3) (.frs (.lst [])))] := rfl
    have h0 : ∀ s, evE (runF P X k) (.var 0) ([W.d (.str (S (wrs r)))].map some ++ List.replicate (G.d_is_shelf.slots.length - 1) none) s = .ok (.d (.str (S (wrs r)))) s := fun s => by rw [e_var]; rfl
    rw [hb, b_cons, s_ite, ev_T, e_not, e_prim, es_cons, h0, HB.R.bind_ok, es_nil, HB.R.bind_ok, HB.R.bind_ok, rds_1]
    have hp : prim (.isinst ["str"]) [.str (S (wrs r))] = some (.bool true) := rfl
    rw [hp, map1_some, HB.R.bind_ok, tst_b, HB.R.bind_ok, tst_b, HB.R.toO_ok, if_neg (by simp), b_nil, HB.O.bind_nx]
    rw [b_cons, s_par, es_cons, e_new, n_lst, d_cons, e_lit, HB.R.bind_ok, toD_d, d_nil, HB.R.bind_ok, HB.R.bind_ok, if_pos (by show 1 ≤ maxLen; unfold maxLen; omega), alloc_ok, HB.R.bind_ok, es_cons, e_new, n_lst, d_nil, HB.R.bind_ok, if_pos (by show 0 ≤ maxLen; exact Nat.zero_le _), alloc_ok, HB.R.bind_ok, es_cons, e_lit, HB.R.bind_ok, es_nil, HB.R.bind_ok, HB.R.bind_ok, HB.R.bind_ok, HB.R.toO_ok]
    rw [ts_cons, t_name, if_pos (by show 2 < 5; omega), HB.R.bind_ok, ts_cons, t_name, if_pos (by show 3 < 5; omega), HB.R.bind_ok, ts_cons, t_name, if_pos (by show 4 < 5; omega), HB.R.bind_ok, ts_nil, noEx_ok', HB.R.toO_ok, HB.O.bind_nx, b_cons, s_for]
    have e0 : ((((([W.d (PyData.str (S (wrs r)))].map some ++ List.replicate (G.d_is_shelf.slots.length - 1) none).set 2 (some (W.h ([] : Sto).length))).set 3 (some (W.h (([] : Sto) ++ [Cell.lst [.int 0]]).length))).set 4 (some (W.d (.int 0))))) = isE (wrs r) none 0 := rfl
    rw [e0, i_each]
    have h0' : ∀ s, evE (runF P X k) (.var 0) (isE (wrs r) none 0) s = .ok (.d (.str (S (wrs r)))) s := fun s => by rw [e_var]; rfl
    rw [h0', HB.R.bind_ok]
    show (O.bind (isL (runF P X k) (wrs r) (isE (wrs r) none 0) (isS ([] ++ [0]) [])) _) = _
    rw [List.append_nil] at e
    rw [e]
    rfl
  rw [show [W.d (PyData.str (S (wrs r)))].length = 1 from rfl, he]
  exact out_d0 rfl
theorem ns_run (hS : HasSh P) {r : List Th} (h : Shf r) : runF P X (k + 2) "need_shelf" [.d (.str (S (wrs r)))] [] = .ok (.d .none) [] := by
  rw [run_def hS.need_shelf rfl]
  have he : exB (runF P X (k + 1)) G.d_need_shelf.body ([W.d (.str (S (wrs r)))].map some ++ List.replicate (G.d_need_shelf.slots.length - 1) none) [] = .nx [some (.d (.str (S (wrs r))))] [] := by
    have h0 : ∀ s, evE (runF P X (k + 1)) (.var 0) ([W.d (.str (S (wrs r)))].map some ++ List.replicate (G.d_need_shelf.slots.length - 1) none) s = .ok (.d (.str (S (wrs r)))) s := fun s => by rw [e_var]; rfl
    rw [show G.d_need_shelf.body = [.ite (.not (.call "is_shelf" [.var 0])) [.raise_ "NoShelf" []] []] from rfl, b_cons, s_ite, ev_T, e_not, e_call, es_cons, h0, HB.R.bind_ok, es_nil, HB.R.bind_ok, HB.R.bind_ok, call1 (is_run hS h), HB.R.bind_ok, tst_b, HB.R.bind_ok, tst_b, HB.R.toO_ok, if_neg (by simp), b_nil, HB.O.bind_nx, b_nil]
    rfl
  rw [show [W.d (PyData.str (S (wrs r)))].length = 1 from rfl, he]
  simp [outF]
mutual
theorem wr_sz : ∀ t : Th, (wr t).length ≤ 2 * sz t
  | .c _ => by simp [wr, sz]
  | .b _ r => by have := wrs_sz r; simp [wr, sz]; omega
theorem wrs_sz : ∀ r : List Th, (wrs r).length ≤ 2 * szs r
  | [] => by simp [wrs, szs]
  | t :: r => by have := wr_sz t; have := wrs_sz r; simp [wrs, szs]; omega
end
theorem mi_run (hS : HasSh P) (hM : Fd P "mirrored" G.d_mirrored) {r : List Th} (h : Shf r) : runF P X (k + 12) "mirrored" [.d (.str (S (wrs r)))] [] = .ok (.d (.str (S (wrs (bks r))))) [] := by
  rw [run_def hM rfl]
  have hl : (wrs r).length ≤ 1000 := by have := wrs_sz r; have := h.sz; omega
  have he : exB (runF P X (k + 11)) G.d_mirrored.body ([W.d (.str (S (wrs r)))].map some ++ List.replicate (G.d_mirrored.slots.length - 1) none) [] = .ret (.d (.str (S (wrs (bks r))))) [] := by
    have h0 : ∀ s, evE (runF P X (k + 11)) (.var 0) ([W.d (.str (S (wrs r)))].map some ++ List.replicate (G.d_mirrored.slots.length - 1) none) s = .ok (.d (.str (S (wrs r)))) s := fun s => by rw [e_var]; rfl
    rw [show G.d_mirrored.body = [.exp (.call "need_shelf" [.var 0]), .ret (.call "behind_row" [.var 0])] from rfl, b_cons, s_exp, e_call, es_cons, h0, HB.R.bind_ok, es_nil, HB.R.bind_ok, HB.R.bind_ok, call1 (ns_run (k := k + 9) hS h), HB.R.toO_ok, HB.O.bind_nx, b_cons, s_ret, e_call, es_cons, h0, HB.R.bind_ok, es_nil, HB.R.bind_ok, HB.R.bind_ok, call1 (br_run hS r (k + 11) (by have := h.dep; omega) h.gd hl)]
    rfl
  rw [show [W.d (PyData.str (S (wrs r)))].length = 1 from rfl, he]
  exact out_d0 rfl
end
end M
end HB
/-! The laws' own defs: what is drawn, written, read. -/
namespace HB
namespace M
open PySem PySem.W
theorem for_inv {keep : Sto → Bool} {f : D → Env → Sto → O} (I : Nat → Env → Sto → Prop) : ∀ (xs : List D) (j : Nat) (e : Env) (s : Sto), (∀ i x e s, xs[i]? = some x → I (j + i) e s → ∃ e' s', f x e s = .nx e' s' ∧ I (j + i + 1) e' s') → (∀ i e s, I i e s → keep s = true) → I j e s →
    ∃ e' s', forL keep f xs e s = .nx e' s' ∧ I (j + xs.length) e' s'
  | [], j, e, s, h, hk, i0 => ⟨e, s, for_nil (hk j e s i0), by simpa using i0⟩
  | x :: xs, j, e, s, h, hk, i0 => by
    obtain ⟨e', s', h1, h2⟩ := h 0 x e s rfl i0
    obtain ⟨e2, s2, h3, h4⟩ := for_inv I xs (j + 1) e' s' (fun i y e s hy hi => by
      have := h (i + 1) y e s (by simpa using hy) (by rw [show j + (i + 1) = j + 1 + i by omega]; exact hi)
      rw [show j + (i + 1) = j + 1 + i by omega] at this
      exact this) hk h2
    refine ⟨e2, s2, ?_, ?_⟩
    · rw [for_cons (hk j e s i0) h1, h3]
    · rw [List.length_cons, show j + (xs.length + 1) = j + 1 + xs.length by omega]; exact h4
theorem range_at {n i : Nat} {x : D} (h : (rangeL 0 n)[i]? = some x) : i < n ∧ x = .int i := by
  unfold rangeL at h
  rw [List.getElem?_map] at h
  by_cases hl : i < ((n : Int) - 0).toNat
  · rw [List.getElem?_range hl] at h
    cases h
    exact ⟨by omega, by simp⟩
  · rw [List.getElem?_eq_none (by simp; omega)] at h
    cases h
theorem range_len (n : Nat) : (rangeL 0 n).length = n := by unfold rangeL; simp
theorem range1_nat {n : Nat} (h : n ≤ maxLen) : range1 (.int n) = some ⟨[], rangeL 0 n⟩ := by
  unfold maxLen at h
  simp only [range1]
  rw [if_pos (by omega)]
theorem callH1 {c : Calls} {f : Str} {i : Nat} {xs ys : List D} {b v : D} {s : Sto} (h : s[i]? = some (.lst xs)) (q : c f [.h 0, .d b] [.lst xs] = .ok (.d v) [.lst ys]) : callIn c f [.h i, .d b] s = .ok (.d v) (s.set i (.lst ys)) := by
  simp [callIn, gath, h, cellsAt, q, scat]
/-! ### taking -/
theorem mod_ii {a b : Int} (h : 0 < b) : bin2 .mod (.int a) (.int b) = some (.int (a % b)) := by simp only [bin2]; rw [if_pos h]
theorem div_ii {a b : Int} (h : 0 < b) (h2 : bits b < 8000) : bin2 .fdiv (.int a) (.int b) = some (.int (a / b)) := by simp only [bin2]; rw [if_pos ⟨h, h2⟩]
theorem mul_ii {a b : Int} (h : bits a + bits b < 900000) : bin2 .mul (.int a) (.int b) = some (.int (a * b)) := by simp only [bin2]; rw [if_pos h]
theorem bits_small {b : Int} (h0 : 0 ≤ b) (h : b < 4294967296) : bits b < 32 := by
  unfold bits
  by_cases hz : b.natAbs = 0
  · rw [hz]; decide
  · rw [Nat.log2_lt hz]
    have : (2 : Nat) ^ 32 = 4294967296 := by decide
    omega
section
variable {P : List Def} {X : Ext} {k : Nat}
theorem tk_run (hP : Fd P "_law_take" G.d__law_take) {n far : Int} (h : 0 < far) (h2 : far < 4294967296) :
    runF P X (k + 1) "_law_take" [.h 0, .d (.int far)] [.lst [.int n]] = .ok (.d (.int (n % far))) [.lst [.int (n / far)]] := by
  rw [run_def hP rfl]
  have he : exB (runF P X k) G.d__law_take.body ([W.h 0, .d (.int far)].map some ++ List.replicate (G.d__law_take.slots.length - 2) none) [.lst [.int n]] = .ret (.d (.int (n % far))) [.lst [.int (n / far)]] := by
    have hb : G.d__law_take.body = [.asg (.name 2) (.bin .mod (.idx (.var 0) (.lit (.int 0))) (.var 1)), .asg (.ix (.var 0) (.lit (.int 0))) (.bin .fdiv (.idx (.var 0) (.lit (.int 0))) (.var 1)), .ret (.var 2)] := rfl
    have e0 : [W.h 0, .d (.int far)].map some ++ List.replicate (G.d__law_take.slots.length - 2) none = [some (.h 0), some (.d (.int far)), none] := rfl
    rw [hb, e0]
    have hi : ∀ (w : Option W) , evE (runF P X k) (.idx (.var 0) (.lit (.int 0))) [some (.h 0), some (.d (.int far)), w] [.lst [.int n]] = .ok (.d (.int n)) [.lst [.int n]] := fun w => by
      rw [e_idx, e_var]
      show R.bind (R.ok (W.h 0) _) _ = _
      rw [HB.R.bind_ok, e_lit, HB.R.bind_ok]
      rfl
    have hv : ∀ (w : Option W) s, evE (runF P X k) (.var 1) [some (.h 0), some (.d (.int far)), w] s = .ok (.d (.int far)) s := fun w s => by rw [e_var]; rfl
    rw [b_cons, s_asg, e_bin, hi, HB.R.bind_ok, hv, HB.R.bind_ok, rd2_d, mod_ii h, map1_some, HB.R.toO_ok, t_name, if_pos (by show 2 < 3; omega), noEx_ok', HB.R.toO_ok, HB.O.bind_nx]
    have e1 : [some (W.h 0), some (.d (.int far)), none].set 2 (some (W.d (.int (n % far)))) = [some (W.h 0), some (.d (.int far)), some (.d (.int (n % far)))] := rfl
    have hh : bits far < 8000 := by have := bits_small (by omega) h2; omega
    rw [e1, b_cons, s_asg, e_bin, hi, HB.R.bind_ok, hv, HB.R.bind_ok, rd2_d, div_ii h hh, map1_some, HB.R.toO_ok, t_ix, toD_d, e_var]
    rfl
  rw [show [W.h 0, .d (.int far)].length = 2 from rfl, he]
  rfl
theorem ca_run (hP : Fd P "_law_cell_at" G.d__law_cell_at) {ns : List Int} {i : Nat} : ∃ c : Int, runF P X (k + 1) "_law_cell_at" [.d (.list (ns.map .int)), .d (.int i)] [] = .ok (.d (.int c)) [] := by
  by_cases h : i < ns.length
  · refine ⟨ns[i], ?_⟩
    rw [run_def hP rfl]
    have e0 : [W.d (.list (ns.map .int)), .d (.int i)].map some ++ List.replicate (G.d__law_cell_at.slots.length - 2) none = [some (.d (.list (ns.map .int))), some (.d (.int i))] := rfl
    have he : exB (runF P X k) G.d__law_cell_at.body ([W.d (.list (ns.map .int)), .d (.int i)].map some ++ List.replicate (G.d__law_cell_at.slots.length - 2) none) [] = .ret (.d (.int ns[i])) [] := by
      have h0 : evE (runF P X k) (.var 0) [some (.d (.list (ns.map .int))), some (.d (.int i))] [] = .ok (.d (.list (ns.map .int))) [] := by rw [e_var]; rfl
      have h1 : evE (runF P X k) (.var 1) [some (.d (.list (ns.map .int))), some (.d (.int i))] [] = .ok (.d (.int i)) [] := by rw [e_var]; rfl
      rw [e0, show G.d__law_cell_at.body = [.ite (.cmp .lt (.var 1) (.prim .len [.var 0])) [.ret (.idx (.var 0) (.var 1))] [], .ret (.lit (.int 0))] from rfl, b_cons, s_ite, ev_T, e_cmp, h1, HB.R.bind_ok, e_prim, es_cons, h0, HB.R.bind_ok, es_nil, HB.R.bind_ok, HB.R.bind_ok, rds_1]
      simp only [prim, map1_some, HB.R.bind_ok, rd2_d, lt_ii, Option.map_some]
      rw [decide_eq_true (by simp; exact h), tst_b, HB.R.toO_ok, if_pos rfl, b_cons, s_ret, e_idx, h0, HB.R.bind_ok, h1, HB.R.bind_ok, idxR_d, rd2_d]
      have : idx2 (.list (ns.map .int)) (.int i) = some (.int ns[i]) := by
        simp only [idx2, L2.atI, L2.ixN, List.length_map]
        rw [if_pos (by omega), if_pos (by omega)]
        simp [h]
      rw [this, map1_some]
      rfl
    rw [show [W.d (PyData.list (ns.map .int)), .d (.int i)].length = 2 from rfl, he]
    exact out_d0 rfl
  · refine ⟨0, ?_⟩
    rw [run_def hP rfl]
    have e0 : [W.d (.list (ns.map .int)), .d (.int i)].map some ++ List.replicate (G.d__law_cell_at.slots.length - 2) none = [some (.d (.list (ns.map .int))), some (.d (.int i))] := rfl
    have he : exB (runF P X k) G.d__law_cell_at.body ([W.d (.list (ns.map .int)), .d (.int i)].map some ++ List.replicate (G.d__law_cell_at.slots.length - 2) none) [] = .ret (.d (.int 0)) [] := by
      have h0 : evE (runF P X k) (.var 0) [some (.d (.list (ns.map .int))), some (.d (.int i))] [] = .ok (.d (.list (ns.map .int))) [] := by rw [e_var]; rfl
      have h1 : evE (runF P X k) (.var 1) [some (.d (.list (ns.map .int))), some (.d (.int i))] [] = .ok (.d (.int i)) [] := by rw [e_var]; rfl
      rw [e0, show G.d__law_cell_at.body = [.ite (.cmp .lt (.var 1) (.prim .len [.var 0])) [.ret (.idx (.var 0) (.var 1))] [], .ret (.lit (.int 0))] from rfl, b_cons, s_ite, ev_T, e_cmp, h1, HB.R.bind_ok, e_prim, es_cons, h0, HB.R.bind_ok, es_nil, HB.R.bind_ok, HB.R.bind_ok, rds_1]
      simp only [prim, map1_some, HB.R.bind_ok, rd2_d, lt_ii, Option.map_some]
      rw [decide_eq_false (by simp; omega), tst_b, HB.R.toO_ok, if_neg (by simp), b_nil, HB.O.bind_nx, b_cons, s_ret, e_lit]
      rfl
    rw [show [W.d (PyData.list (ns.map .int)), .d (.int i)].length = 2 from rfl, he]
    exact out_d0 rfl
end
end M
end HB
/-! What is drawn: a pot, rows. -/
namespace HB
namespace M
open PySem PySem.W
theorem bits_lt {a : Int} {m : Nat} (h0 : 0 ≤ a) (h : a < 2 ^ m) (hm : 0 < m) : bits a < m := by
  unfold bits
  by_cases hz : a.natAbs = 0
  · rw [hz]; simpa using hm
  · rw [Nat.log2_lt hz]
    have : (a.natAbs : Int) = a := by omega
    have e : ((a.natAbs : Nat) : Int) < ((2 ^ m : Nat) : Int) := by rw [this]; push_cast; exact h
    exact Int.ofNat_lt.mp e
theorem mul_sm {a b : Int} (h0 : 0 ≤ a) (h : a < 18446744073709551616) (g0 : 0 ≤ b) (g : b < 18446744073709551616) : bin2 .mul (.int a) (.int b) = some (.int (a * b)) := by
  have e : (2 : Int) ^ 64 = 18446744073709551616 := by decide
  have h1 := bits_lt (m := 64) h0 (by rw [e]; exact h) (by omega)
  have h2 := bits_lt (m := 64) g0 (by rw [e]; exact g) (by omega)
  exact mul_ii (by omega)
section
variable {P : List Def} {X : Ext} {k : Nat}
def poB : List St := match G.d__law_pot.body with
  | [_, _, .for_ _ _ b, _] => b
  | _ => []
theorem po_turn {C : Calls} {c num : Int} {j : Nat} {v w : Option W} (hj : j < 64) (h0 : 0 ≤ num) (h1 : num < 2 ^ (31 * j)) :
    ∃ num' m : Int, (noEx (asT C (.name 2) (.d (.int (j : Int))) [some (.d (.int c)), some (.d (.int num)), v, w] [])).toO [some (.d (.int c)), some (.d (.int num)), v, w] (fun e s => exB C poB e s) = .nx [some (.d (.int c)), some (.d (.int num')), some (.d (.int j)), some (.d (.int m))] [] ∧ 0 ≤ num' ∧ num' < 2 ^ (31 * (j + 1)) := by
  have hb : poB = [.asg (.name 3) (.bin .mod (.bin .mul (.bin .add (.bin .add (.bin .mod (.var 0) (.lit (.int 2147483629))) (.bin .mul (.lit (.int 7919)) (.var 2))) (.lit (.int 1))) (.lit (.int 48271))) (.lit (.int 2147483647))), .asg (.name 3) (.bin .mod (.bin .add (.bin .add (.bin .mul (.var 3) (.var 3)) (.bin .mul (.lit (.int 69621)) (.var 2))) (.lit (.int 7))) (.lit (.int 2147483587))), .asg (.name 1) (.bin .add (.bin .mul (.var 1) (.lit (.int 2147483587))) (.var 3))] := rfl
  have m0 : 0 ≤ c % 2147483629 ∧ c % 2147483629 < 2147483629 := ⟨Int.emod_nonneg _ (by omega), Int.emod_lt_of_pos _ (by omega)⟩
  obtain ⟨x, hx⟩ : ∃ x, x = c % 2147483629 + 7919 * (j : Int) + 1 := ⟨_, rfl⟩
  have hx1 : 0 ≤ x ∧ x < 4294967296 := by omega
  obtain ⟨y, hy⟩ : ∃ y, y = x * 48271 % 2147483647 := ⟨_, rfl⟩
  have hy1 : 0 ≤ y ∧ y < 2147483647 := by rw [hy]; exact ⟨Int.emod_nonneg _ (by omega), Int.emod_lt_of_pos _ (by omega)⟩
  obtain ⟨z, hz⟩ : ∃ z, z = (y * y + 69621 * (j : Int) + 7) % 2147483587 := ⟨_, rfl⟩
  have hz1 : 0 ≤ z ∧ z < 2147483587 := by rw [hz]; exact ⟨Int.emod_nonneg _ (by omega), Int.emod_lt_of_pos _ (by omega)⟩
  have hbig : (2 : Int) ^ (31 * (j + 1)) = 2 ^ (31 * j) * 2147483648 := by
    rw [show 31 * (j + 1) = 31 * j + 31 by omega, Int.pow_add]
    rfl
  have hmul : bin2 .mul (.int num) (.int 2147483587) = some (.int (num * 2147483587)) := by
    refine mul_ii ?_
    have a1 : bits num < 31 * j + 1 := by
      have e : (2 : Int) ^ (31 * j + 1) = 2 ^ (31 * j) * 2 := Int.pow_succ _ _
      have p : (0 : Int) < 2 ^ (31 * j) := Int.pow_pos (by omega)
      exact bits_lt h0 (by omega) (by omega)
    have a2 := bits_small (b := 2147483587) (by omega) (by omega)
    omega
  refine ⟨num * 2147483587 + z, z, ?_, by have := Int.mul_nonneg h0 (show (0 : Int) ≤ 2147483587 by omega); omega, ?_⟩
  · rw [t_name, if_pos (by show 2 < 4; omega), noEx_ok', HB.R.toO_ok]
    have e0 : [some (W.d (.int c)), some (.d (.int num)), v, w].set 2 (some (W.d (.int j))) = [some (.d (.int c)), some (.d (.int num)), some (.d (.int j)), w] := rfl
    have v0 : ∀ (u w : Option W) s, evE C (.var 0) [some (.d (.int c)), u, some (.d (.int j)), w] s = .ok (.d (.int c)) s := fun u w s => by rw [e_var]; rfl
    have v2 : ∀ (u w : Option W) s, evE C (.var 2) [some (.d (.int c)), u, some (.d (.int j)), w] s = .ok (.d (.int j)) s := fun u w s => by rw [e_var]; rfl
    have v1 : ∀ (u : W) (w : Option W) s, evE C (.var 1) [some (.d (.int c)), some u, some (.d (.int j)), w] s = .ok u s := fun u w s => by rw [e_var]; rfl
    have v3 : ∀ (u : Option W) (w : W) s, evE C (.var 3) [some (.d (.int c)), u, some (.d (.int j)), some w] s = .ok w s := fun u w s => by rw [e_var]; rfl
    have s1 : evE C (.bin .mod (.bin .mul (.bin .add (.bin .add (.bin .mod (.var 0) (.lit (.int 2147483629))) (.bin .mul (.lit (.int 7919)) (.var 2))) (.lit (.int 1))) (.lit (.int 48271))) (.lit (.int 2147483647))) [some (.d (.int c)), some (.d (.int num)), some (.d (.int j)), w] [] = .ok (.d (.int y)) [] := by
      rw [e_bin, e_bin, e_bin, e_bin, e_bin, v0, HB.R.bind_ok, e_lit, HB.R.bind_ok, rd2_d, mod_ii (by omega), map1_some, HB.R.bind_ok, e_bin, e_lit, HB.R.bind_ok, v2, HB.R.bind_ok, rd2_d, mul_sm (by omega) (by omega) (by omega) (by omega), map1_some, HB.R.bind_ok, rd2_d, add_ii, map1_some, HB.R.bind_ok, e_lit, HB.R.bind_ok, rd2_d, add_ii, map1_some, HB.R.bind_ok, e_lit, HB.R.bind_ok, rd2_d, ← hx, mul_sm hx1.1 (by omega) (by omega) (by omega), map1_some, HB.R.bind_ok, e_lit, HB.R.bind_ok, rd2_d, mod_ii (by omega), map1_some, hy]
    have s2 : evE C (.bin .mod (.bin .add (.bin .add (.bin .mul (.var 3) (.var 3)) (.bin .mul (.lit (.int 69621)) (.var 2))) (.lit (.int 7))) (.lit (.int 2147483587))) [some (.d (.int c)), some (.d (.int num)), some (.d (.int j)), some (.d (.int y))] [] = .ok (.d (.int z)) [] := by
      rw [e_bin, e_bin, e_bin, e_bin, v3, HB.R.bind_ok, v3, HB.R.bind_ok, rd2_d, mul_sm hy1.1 (by omega) hy1.1 (by omega), map1_some, HB.R.bind_ok, e_bin, e_lit, HB.R.bind_ok, v2, HB.R.bind_ok, rd2_d, mul_sm (by omega) (by omega) (by omega) (by omega), map1_some, HB.R.bind_ok, rd2_d, add_ii, map1_some, HB.R.bind_ok, e_lit, HB.R.bind_ok, rd2_d, add_ii, map1_some, HB.R.bind_ok, e_lit, HB.R.bind_ok, rd2_d, mod_ii (by omega), map1_some, hz]
    have s3 : evE C (.bin .add (.bin .mul (.var 1) (.lit (.int 2147483587))) (.var 3)) [some (.d (.int c)), some (.d (.int num)), some (.d (.int j)), some (.d (.int z))] [] = .ok (.d (.int (num * 2147483587 + z))) [] := by
      rw [e_bin, e_bin, v1, HB.R.bind_ok, e_lit, HB.R.bind_ok, rd2_d, hmul, map1_some, HB.R.bind_ok, v3, HB.R.bind_ok, rd2_d, add_ii, map1_some]
    rw [e0, hb, b_cons, s_asg, s1, HB.R.toO_ok, t_name, if_pos (by show 3 < 4; omega), noEx_ok', HB.R.toO_ok, HB.O.bind_nx]
    rw [show [some (W.d (.int c)), some (.d (.int num)), some (.d (.int j)), w].set 3 (some (W.d (.int y))) = [some (.d (.int c)), some (.d (.int num)), some (.d (.int j)), some (.d (.int y))] from rfl]
    rw [b_cons, s_asg, s2, HB.R.toO_ok, t_name, if_pos (by show 3 < 4; omega), noEx_ok', HB.R.toO_ok, HB.O.bind_nx]
    rw [show [some (W.d (.int c)), some (.d (.int num)), some (.d (.int j)), some (.d (.int y))].set 3 (some (W.d (.int z))) = [some (.d (.int c)), some (.d (.int num)), some (.d (.int j)), some (.d (.int z))] from rfl]
    rw [b_cons, s_asg, s3, HB.R.toO_ok, t_name, if_pos (by show 1 < 4; omega), noEx_ok', HB.R.toO_ok, HB.O.bind_nx, b_nil]
    rfl
  · rw [hbig]
    have a1 : num + 1 ≤ 2 ^ (31 * j) := h1
    have a2 : (num + 1) * 2147483587 ≤ 2 ^ (31 * j) * 2147483587 := Int.mul_le_mul_of_nonneg_right a1 (by omega)
    have a3 : (0 : Int) < 2 ^ (31 * j) := Int.pow_pos (by omega)
    omega
theorem po_run (hP : Fd P "_law_pot" G.d__law_pot) (c : Int) : ∃ q : Int, runF P X (k + 1) "_law_pot" [.d (.int c)] [] = .ok (.h 0) [.lst [.int q]] := by
  rw [run_def hP rfl]
  have hb : G.d__law_pot.body = [.ite (.cmp .ge (.var 0) (.bin .pow (.lit (.int 10)) (.lit (.int 18)))) [.ret (.new (.lst [.bin .sub (.var 0) (.bin .pow (.lit (.int 10)) (.lit (.int 18)))]))] [], .asg (.name 1) (.lit (.int 0)), .for_ (.name 2) (.range1 (.lit (.int 64))) poB, .ret (.new (.lst [.var 1]))] := rfl
  have e0 : [W.d (.int c)].map some ++ List.replicate (G.d__law_pot.slots.length - 1) none = [some (.d (.int c)), none, none, none] := rfl
  have v0 : ∀ (a b d : Option W) s, evE (runF P X k) (.var 0) [some (.d (.int c)), a, b, d] s = .ok (.d (.int c)) s := fun a b d s => by rw [e_var]; rfl
  have hpow : ∀ e s, evE (runF P X k) (.bin .pow (.lit (.int 10)) (.lit (.int 18))) e s = .ok (.d (.int 1000000000000000000)) s := fun e s => by
    rw [e_bin, e_lit, HB.R.bind_ok, e_lit, HB.R.bind_ok, rd2_d]
    rfl
  have ht : ∃ q : Int, exB (runF P X k) G.d__law_pot.body ([W.d (.int c)].map some ++ List.replicate (G.d__law_pot.slots.length - 1) none) [] = .ret (.h 0) [.lst [.int q]] := by
    rw [hb, e0, b_cons, s_ite, ev_T, e_cmp, v0, HB.R.bind_ok, hpow, HB.R.bind_ok, rd2_d, ge_ii]
    simp only [Option.map_some]
    rw [map1_some, HB.R.bind_ok, tst_b, HB.R.toO_ok]
    by_cases hc : (1000000000000000000 : Int) ≤ c
    · refine ⟨c - 1000000000000000000, ?_⟩
      rw [decide_eq_true hc, if_pos rfl, b_cons, s_ret, e_new, n_lst, d_cons, e_bin, v0, HB.R.bind_ok, hpow, HB.R.bind_ok, rd2_d, sub_ii, map1_some, HB.R.bind_ok, toD_d, d_nil, HB.R.bind_ok, HB.R.bind_ok, if_pos (by show 1 ≤ maxLen; unfold maxLen; omega), alloc_ok]
      rfl
    · rw [decide_eq_false hc, if_neg (by simp), b_nil, HB.O.bind_nx, b_cons, s_asg, e_lit, HB.R.toO_ok, t_name, if_pos (by show 1 < 4; omega), noEx_ok', HB.R.toO_ok, HB.O.bind_nx, b_cons, s_for, i_range1, e_lit, HB.R.bind_ok, rd1_d]
      rw [show (PyData.int 64) = .int ((64 : Nat) : Int) from rfl, range1_nat (by unfold maxLen; omega), HB.R.of_some, HB.R.toO_ok]
      obtain ⟨e', s', h1, h2⟩ := for_inv (keep := fun s => Src.ok s []) (f := fun x e s => (noEx (asT (runF P X k) (.name 2) (.d x) e s)).toO e fun e s => exB (runF P X k) poB e s)
        (fun j e s => s = [] ∧ ∃ num v w, e = [some (.d (.int c)), some (.d (.int num)), v, w] ∧ 0 ≤ num ∧ num < 2 ^ (31 * j)) (rangeL 0 ((64 : Nat) : Int)) 0 [some (.d (.int c)), some (.d (.int 0)), none, none] [] (fun i x e s hx hi => by
          obtain ⟨hi64, rfl⟩ := range_at hx
          obtain ⟨rfl, num, v, w, rfl, b1, b2⟩ := hi
          rw [Nat.zero_add] at b2 ⊢
          obtain ⟨num', m, q1, q2, q3⟩ := po_turn (C := runF P X k) (c := c) (v := v) (w := w) hi64 b1 b2
          exact ⟨_, _, q1, rfl, num', _, _, rfl, q2, q3⟩) (fun _ _ _ _ => rfl) ⟨rfl, 0, none, none, rfl, by omega, by simp⟩
      obtain ⟨rfl, num, v, w, rfl, _, _⟩ := h2
      refine ⟨num, ?_⟩
      rw [show [some (W.d (.int c)), none, none, none].set 1 (some (W.d (.int 0))) = [some (.d (.int c)), some (.d (.int 0)), none, none] from rfl]
      simp only
      rw [h1, HB.O.bind_nx, b_cons, s_ret, e_new, n_lst, d_cons, e_var]
      rfl
  obtain ⟨q, ht⟩ := ht
  refine ⟨q, ?_⟩
  rw [show [W.d (PyData.int c)].length = 1 from rfl, ht]
  rfl
end
end M
end HB
/-! Rows as lists: written, from behind. -/
namespace HB
namespace M
open PySem PySem.W
mutual
def enc : Th → PyData
  | .c n => .str (S [n])
  | .b k r => .list [.str (S [opn k]), .list (encs r)]
def encs : List Th → List PyData
  | [] => []
  | t :: r => enc t :: encs r
end
theorem encs_map : ∀ r : List Th, encs r = r.map enc
  | [] => rfl
  | t :: r => by rw [encs, encs_map r]; rfl
section
variable {P : List Def} {X : Ext} {k : Nat}
def wnB : List St := match G.d__law_written.body with
  | [_, .for_ _ _ b, _] => b
  | _ => []
def wnE (r0 : PyData) (l : List Nat) (v : Option W) : Env := [some (.d r0), some (.d (.str (S l))), v]
def wnF (C : Calls) (x : PyData) (e : Env) (s : Sto) : O := (noEx (asT C (.name 2) (.d x) e s)).toO e fun e s => exB C wnB e s
theorem wnB_eq : wnB = [.ite (.prim (.isinst ["str"]) [.var 2]) [.asg (.name 1) (.bin .add (.var 1) (.var 2))] [.asg (.name 1) (.bin .add (.bin .add (.bin .add (.var 1) (.idx (.var 2) (.lit (.int 0)))) (.call "_law_written" [.idx (.var 2) (.lit (.int 1))])) (.dlk [("(", ")"), ("[", "]")] (.idx (.var 2) (.lit (.int 0)))))]] := rfl
theorem look_ends (kk : Bool) : look [("(", ")"), ("[", "]")] (.str (S [opn kk])) = some (.str (S [cls kk])) := by
  rw [s_po, s_pc, s_bo, s_bc]
  cases kk <;> rfl
theorem wn_let {C : Calls} {r0 : PyData} {l : List Nat} {v : Option W} {c : Nat} (hl : l.length + 1 ≤ maxLen) : wnF C (.str (S [c])) (wnE r0 l v) [] = .nx (wnE r0 (l ++ [c]) (some (.d (.str (S [c]))))) [] := by
  unfold wnF
  rw [t_name, if_pos (by show 2 < 3; omega), noEx_ok', HB.R.toO_ok, wnB_eq]
  have v2 : evE C (.var 2) (wnE r0 l (some (.d (.str (S [c]))))) [] = .ok (.d (.str (S [c]))) [] := by rw [e_var]; rfl
  have v1 : evE C (.var 1) (wnE r0 l (some (.d (.str (S [c]))))) [] = .ok (.d (.str (S l))) [] := by rw [e_var]; rfl
  rw [show (wnE r0 l v).set 2 (some (W.d (.str (S [c])))) = wnE r0 l (some (.d (.str (S [c])))) from rfl, b_cons, s_ite, ev_T, e_prim, es_cons, v2, HB.R.bind_ok, es_nil, HB.R.bind_ok, HB.R.bind_ok, rds_1, show prim (.isinst ["str"]) [.str (S [c])] = some (.bool true) from rfl, map1_some, HB.R.bind_ok, tst_b, HB.R.toO_ok, if_pos rfl, b_cons, s_asg, e_bin, v1, HB.R.bind_ok, v2, HB.R.bind_ok, rd2_d, add_ss (by simpa using hl), map1_some, HB.R.toO_ok, t_name, if_pos (by show 1 < 3; omega), noEx_ok', HB.R.toO_ok, HB.O.bind_nx, b_nil, HB.O.bind_nx, b_nil]
  rfl
theorem wn_box {C : Calls} {r0 : PyData} {l : List Nat} {v : Option W} {kk : Bool} {r : List Th} (hc : C "_law_written" [.d (.list (encs r))] [] = .ok (.d (.str (S (wrs r)))) []) (hl : l.length + (wr (.b kk r)).length ≤ maxLen) :
    wnF C (enc (.b kk r)) (wnE r0 l v) [] = .nx (wnE r0 (l ++ wr (.b kk r)) (some (.d (enc (.b kk r))))) [] := by
  unfold wnF
  rw [t_name, if_pos (by show 2 < 3; omega), noEx_ok', HB.R.toO_ok, wnB_eq]
  have hw : wr (.b kk r) = opn kk :: (wrs r ++ [cls kk]) := by rw [wr]
  have hl' : l.length + ((wrs r).length + 2) ≤ maxLen := by rw [hw] at hl; simp at hl; omega
  have v2 : evE C (.var 2) (wnE r0 l (some (.d (enc (.b kk r))))) [] = .ok (.d (enc (.b kk r))) [] := by rw [e_var]; rfl
  have v1 : evE C (.var 1) (wnE r0 l (some (.d (enc (.b kk r))))) [] = .ok (.d (.str (S l))) [] := by rw [e_var]; rfl
  have i0 : evE C (.idx (.var 2) (.lit (.int 0))) (wnE r0 l (some (.d (enc (.b kk r))))) [] = .ok (.d (.str (S [opn kk]))) [] := by
    rw [e_idx, v2, HB.R.bind_ok, e_lit, HB.R.bind_ok, idxR_d, rd2_d, enc]
    rfl
  have i1 : evE C (.idx (.var 2) (.lit (.int 1))) (wnE r0 l (some (.d (enc (.b kk r))))) [] = .ok (.d (.list (encs r))) [] := by
    rw [e_idx, v2, HB.R.bind_ok, e_lit, HB.R.bind_ok, idxR_d, rd2_d, enc]
    rfl
  rw [show (wnE r0 l v).set 2 (some (W.d (enc (.b kk r)))) = wnE r0 l (some (.d (enc (.b kk r)))) from rfl, b_cons, s_ite, ev_T, e_prim, es_cons, v2, HB.R.bind_ok, es_nil, HB.R.bind_ok, HB.R.bind_ok, rds_1]
  rw [show prim (.isinst ["str"]) [enc (.b kk r)] = some (.bool false) by rw [enc]; rfl, map1_some, HB.R.bind_ok, tst_b, HB.R.toO_ok, if_neg (by simp), b_cons, s_asg, e_bin, e_bin, e_bin, v1, HB.R.bind_ok, i0, HB.R.bind_ok, rd2_d, add_ss (by simp; omega), map1_some, HB.R.bind_ok, e_call, es_cons, i1, HB.R.bind_ok, es_nil, HB.R.bind_ok, HB.R.bind_ok, call1 hc, HB.R.bind_ok, rd2_d, add_ss (by simp; omega), map1_some, HB.R.bind_ok, e_dlk, i0, HB.R.bind_ok, rd1_d, look_ends, map1_some, HB.R.bind_ok, rd2_d, add_ss (by simp; omega), map1_some, HB.R.toO_ok, t_name, if_pos (by show 1 < 3; omega), noEx_ok', HB.R.toO_ok, HB.O.bind_nx, b_nil, HB.O.bind_nx, b_nil]
  have : l ++ wr (.b kk r) = l ++ [opn kk] ++ wrs r ++ [cls kk] := by rw [hw]; simp
  rw [this]
  rfl
theorem wn_loop {C : Calls} {r0 : PyData} : ∀ (r : List Th) (l : List Nat) (v : Option W), (∀ kk r', .b kk r' ∈ r → C "_law_written" [.d (.list (encs r'))] [] = .ok (.d (.str (S (wrs r')))) []) → l.length + (wrs r).length ≤ maxLen →
    ∃ v', forL (fun s => Src.ok s []) (wnF C) (encs r) (wnE r0 l v) [] = .nx (wnE r0 (l ++ wrs r) v') []
  | [], l, v, h, hl => ⟨v, by rw [encs, for_nil rfl, wrs, List.append_nil]⟩
  | t :: r, l, v, h, hl => by
    rw [wrs, List.length_append] at hl
    rw [encs]
    cases t with
    | c c =>
      have e1 : wr (.c c) = [c] := by rw [wr]
      rw [e1] at hl
      simp at hl
      obtain ⟨v', e⟩ := wn_loop (C := C) (r0 := r0) r (l ++ [c]) (some (.d (.str (S [c])))) (fun kk r' hm => h kk r' (by simp [hm])) (by simp; omega)
      refine ⟨v', ?_⟩
      rw [show enc (.c c) = .str (S [c]) by rw [enc], for_cons rfl (wn_let (by omega)), e, wrs, e1]
      simp
    | b kk r' =>
      obtain ⟨v', e⟩ := wn_loop (C := C) (r0 := r0) r (l ++ wr (.b kk r')) (some (.d (enc (.b kk r')))) (fun kk r' hm => h kk r' (by simp [hm])) (by simp; omega)
      refine ⟨v', ?_⟩
      rw [for_cons rfl (wn_box (h kk r' (by simp)) (by omega)), e, wrs]
      simp
theorem wn_run (hP : Fd P "_law_written" G.d__law_written) : ∀ (k : Nat) (r : List Th), deps r + 1 ≤ k → (wrs r).length ≤ 1000 → runF P X k "_law_written" [.d (.list (encs r))] [] = .ok (.d (.str (S (wrs r)))) []
  | 0, r, hk, hl => by omega
  | k + 1, r, hk, hl => by
    rw [run_def hP rfl]
    have hin : ∀ kk r', Th.b kk r' ∈ r → runF P X k "_law_written" [.d (.list (encs r'))] [] = .ok (.d (.str (S (wrs r')))) [] := fun kk r' hm => by
      have h1 : deps r' + 1 ≤ deps r ∧ (wrs r').length ≤ (wrs r).length := by
        clear hk hl
        induction r with
        | nil => simp at hm
        | cons t r ih =>
          rcases List.mem_cons.mp hm with h | h
          · subst h
            exact ⟨by rw [deps, dep]; omega, by rw [wrs, wr]; simp; omega⟩
          · have := ih h
            exact ⟨by rw [deps]; omega, by rw [wrs]; simp; omega⟩
      exact wn_run hP k r' (by omega) (by omega)
    obtain ⟨v', e⟩ := wn_loop (C := runF P X k) (r0 := .list (encs r)) r [] none hin (by simp [maxLen]; omega)
    have he : exB (runF P X k) G.d__law_written.body ([W.d (.list (encs r))].map some ++ List.replicate (G.d__law_written.slots.length - 1) none) [] = .ret (.d (.str (S (wrs r)))) [] := by
      rw [show G.d__law_written.body = [.asg (.name 1) (.lit (.str "")), .for_ (.name 2) (.each (.var 0)) wnB, .ret (.var 1)] from rfl, b_cons, s_asg, e_lit, HB.R.toO_ok, t_name, if_pos (by show 1 < 3; omega), noEx_ok', HB.R.toO_ok, HB.O.bind_nx, s_e]
      have e0 : (([W.d (PyData.list (encs r))].map some ++ List.replicate (G.d__law_written.slots.length - 1) none).set 1 (some (W.d (PyData.str (S [])))) : Env) = wnE (.list (encs r)) [] none := rfl
      rw [e0, b_cons, s_for, i_each]
      have h0 : evE (runF P X k) (.var 0) (wnE (.list (encs r)) [] none) [] = .ok (.d (.list (encs r))) [] := by rw [e_var]; rfl
      rw [h0, HB.R.bind_ok]
      show (O.bind (forL (fun s => Src.ok s []) (wnF (runF P X k)) (encs r) (wnE (.list (encs r)) [] none) []) _) = _
      rw [e, HB.O.bind_nx, b_cons, s_ret, e_var]
      rfl
    rw [show [W.d (PyData.list (encs r))].length = 1 from rfl, he]
    exact out_d0 rfl
/-! ### from behind -/
def baB : List St := match G.d__law_back.body with
  | [_, .for_ _ _ b, _] => b
  | _ => []
def baE (r0 : PyData) (v : Option W) : Env := [some (.d r0), some (.h 0), v]
def baF (C : Calls) (x : PyData) (e : Env) (s : Sto) : O := (noEx (asT C (.name 2) (.d x) e s)).toO e fun e s => exB C baB e s
theorem baB_eq : baB = [.ite (.prim (.isinst ["str"]) [.var 2]) [.exp (.mth .append "list" (.var 1) [.idx (.lit (.str "dbqpox")) (.mth .index "str" (.lit (.str "bdpqox")) [.var 2])])] [.exp (.mth .append "list" (.var 1) [.frs (.lst [.idx (.var 2) (.lit (.int 0)), .call "_law_back" [.idx (.var 2) (.lit (.int 1))]])])]] := rfl
theorem s_bd : Str.ofString "bdpqox" = S [98, 100, 112, 113, 111, 120] := by decide +kernel
theorem s_db : Str.ofString "dbqpox" = S [100, 98, 113, 112, 111, 120] := by decide +kernel
theorem ix_bl {n : Nat} (h : Lt n) : ∃ j : Nat, mthD .index (.str "bdpqox") [.str (S [n])] = some (.int j) ∧ idx2 (.str "dbqpox") (.int j) = some (.str (S [bl n])) := by
  rw [s_bd, s_db]
  have key : ∀ (n j : Nat), Txt.index0 (S [98, 100, 112, 113, 111, 120]) (S [n]) = some j → mthD .index (.str (S [98, 100, 112, 113, 111, 120])) [.str (S [n])] = some (.int j) := fun n j e => by simp only [mthD, e, Option.map_some]
  rcases h with h | h | h | h | h | h <;> subst h
  · exact ⟨0, key _ _ (by decide +kernel), by rfl⟩
  · exact ⟨1, key _ _ (by decide +kernel), by rfl⟩
  · exact ⟨2, key _ _ (by decide +kernel), by rfl⟩
  · exact ⟨3, key _ _ (by decide +kernel), by rfl⟩
  · exact ⟨4, key _ _ (by decide +kernel), by rfl⟩
  · exact ⟨5, key _ _ (by decide +kernel), by rfl⟩
theorem app_go {C : Calls} {r0 : PyData} {w : Option W} {a : Ex} {x : PyData} {acc : List PyData} (h : evE C a (baE r0 w) [.lst acc] = .ok (.d x) [.lst acc]) (hl : acc.length + 1 ≤ maxLen) :
    exS C (.exp (.mth .append "list" (.var 1) [a])) (baE r0 w) [.lst acc] = .nx (baE r0 w) [.lst (acc ++ [x])] := by
  have h1 : evE C (.var 1) (baE r0 w) [.lst acc] = .ok (.h 0) [.lst acc] := by rw [e_var]; rfl
  rw [s_exp, e_mth, h1, HB.R.bind_ok]
  have hr : rd1 [Cell.lst acc] (.h 0) = fun (g : PyData → HB.R W) => g (.list acc) := rfl
  rw [hr]
  simp only [hasTy, beq_self_eq_true, if_true, Mth.writes]
  rw [d_cons, h, HB.R.bind_ok, toD_d, d_nil, HB.R.bind_ok, HB.R.bind_ok, app_put rfl hl, HB.R.bind_ok, HB.R.toO_ok]
  rfl
theorem ba_turn {C : Calls} {r0 : PyData} {v : Option W} {t : Th} {acc : List PyData} (g : gd t) (hc : ∀ kk r, t = .b kk r → C "_law_back" [.d (.list (encs r))] [] = .ok (.d (.list (encs (bks r)))) []) (hl : acc.length + 1 ≤ maxLen) :
    baF C (enc t) (baE r0 v) [.lst acc] = .nx (baE r0 (some (.d (enc t)))) [.lst (acc ++ [enc (bk t)])] := by
  unfold baF
  rw [t_name, if_pos (by show 2 < 3; omega), noEx_ok', HB.R.toO_ok, baB_eq]
  rw [show (baE r0 v).set 2 (some (W.d (enc t))) = baE r0 (some (.d (enc t))) from rfl]
  have v2 : ∀ s, evE C (.var 2) (baE r0 (some (.d (enc t)))) s = .ok (.d (enc t)) s := fun s => by rw [e_var]; rfl
  rw [b_cons, s_ite, ev_T, e_prim, es_cons, v2, HB.R.bind_ok, es_nil, HB.R.bind_ok, HB.R.bind_ok, rds_1]
  cases t with
  | c n =>
    obtain ⟨j, e1, e2⟩ := ix_bl g
    rw [show prim (.isinst ["str"]) [enc (.c n)] = some (.bool true) by rw [enc]; rfl, map1_some, HB.R.bind_ok, tst_b, HB.R.toO_ok, if_pos rfl, b_cons]
    have ea : evE C (.idx (.lit (.str "dbqpox")) (.mth .index "str" (.lit (.str "bdpqox")) [.var 2])) (baE r0 (some (.d (enc (.c n))))) [.lst acc] = .ok (.d (enc (bk (.c n)))) [.lst acc] := by
      rw [e_idx, e_lit, HB.R.bind_ok, e_mth, e_lit, HB.R.bind_ok, rd1_d]
      simp only [hasTy, beq_self_eq_true, if_true, Mth.writes, Bool.false_eq_true, if_false]
      rw [es_cons, v2, HB.R.bind_ok, es_nil, HB.R.bind_ok, HB.R.bind_ok, rd1_d, rds_1, show enc (.c n) = .str (S [n]) by rw [enc], e1, map1_some, HB.R.bind_ok, idxR_d, rd2_d, e2, map1_some, show enc (bk (.c n)) = .str (S [bl n]) by rw [bk, enc]]
    rw [app_go ea hl, HB.O.bind_nx, b_nil, HB.O.bind_nx, b_nil]
  | b kk r =>
    rw [show prim (.isinst ["str"]) [enc (.b kk r)] = some (.bool false) by rw [enc]; rfl, map1_some, HB.R.bind_ok, tst_b, HB.R.toO_ok, if_neg (by simp), b_cons]
    have i0 : ∀ s, evE C (.idx (.var 2) (.lit (.int 0))) (baE r0 (some (.d (enc (.b kk r))))) s = .ok (.d (.str (S [opn kk]))) s := fun s => by
      rw [e_idx, v2, HB.R.bind_ok, e_lit, HB.R.bind_ok, idxR_d, rd2_d, enc]
      rfl
    have i1 : ∀ s, evE C (.idx (.var 2) (.lit (.int 1))) (baE r0 (some (.d (enc (.b kk r))))) s = .ok (.d (.list (encs r))) s := fun s => by
      rw [e_idx, v2, HB.R.bind_ok, e_lit, HB.R.bind_ok, idxR_d, rd2_d, enc]
      rfl
    have ea : evE C (.frs (.lst [.idx (.var 2) (.lit (.int 0)), .call "_law_back" [.idx (.var 2) (.lit (.int 1))]])) (baE r0 (some (.d (enc (.b kk r))))) [.lst acc] = .ok (.d (enc (bk (.b kk r)))) [.lst acc] := by
      rw [e_frs, n_lst, d_cons, i0, HB.R.bind_ok, toD_d, d_cons, e_call, es_cons, i1, HB.R.bind_ok, es_nil, HB.R.bind_ok, HB.R.bind_ok, call1 (hc kk r rfl), HB.R.bind_ok, toD_d, d_nil, HB.R.bind_ok, HB.R.bind_ok, HB.R.bind_ok, if_pos (by show 2 ≤ maxLen; unfold maxLen; omega), HB.R.bind_ok, show enc (bk (.b kk r)) = .list [.str (S [opn kk]), .list (encs (bks r))] by rw [bk, enc]]
    rw [app_go ea hl, HB.O.bind_nx, b_nil, HB.O.bind_nx, b_nil]
theorem encs_bks : ∀ r : List Th, r.reverse.map (fun t => enc (bk t)) = encs (bks r) := fun r => by
  rw [encs_map]
  induction r with
  | nil => rfl
  | cons t r ih => rw [List.reverse_cons, List.map_append, ih, bks, List.map_append]; rfl
theorem ba_loop {C : Calls} {r0 : PyData} : ∀ (l : List Th) (acc : List PyData) (v : Option W), (∀ t ∈ l, gd t) → (∀ kk r', .b kk r' ∈ l → C "_law_back" [.d (.list (encs r'))] [] = .ok (.d (.list (encs (bks r')))) []) → acc.length + l.length ≤ maxLen →
    ∃ v', forL (fun s => Src.ok s []) (baF C) (l.map enc) (baE r0 v) [.lst acc] = .nx (baE r0 v') [.lst (acc ++ l.map fun t => enc (bk t))]
  | [], acc, v, g, h, hl => ⟨v, by simp [for_nil]⟩
  | t :: l, acc, v, g, h, hl => by
    simp at hl
    obtain ⟨v', e⟩ := ba_loop (C := C) (r0 := r0) l (acc ++ [enc (bk t)]) (some (.d (enc t))) (fun t ht => g t (by simp [ht])) (fun kk r' hm => h kk r' (by simp [hm])) (by simp; omega)
    refine ⟨v', ?_⟩
    rw [List.map_cons, for_cons rfl (ba_turn (g t (by simp)) (fun kk r e => h kk r (by simp [e])) (by omega)), e]
    simp
theorem ba_run (hP : Fd P "_law_back" G.d__law_back) : ∀ (k : Nat) (r : List Th), deps r + 1 ≤ k → gds r → (wrs r).length ≤ 1000 → runF P X k "_law_back" [.d (.list (encs r))] [] = .ok (.d (.list (encs (bks r)))) []
  | 0, r, hk, g, hl => by omega
  | k + 1, r, hk, g, hl => by
    rw [run_def hP rfl]
    have hin : ∀ kk r', Th.b kk r' ∈ r → runF P X k "_law_back" [.d (.list (encs r'))] [] = .ok (.d (.list (encs (bks r')))) [] := fun kk r' hm => by
      obtain ⟨h1, h2, h3⟩ := mem_facts r _ hm g
      have e1 : dep (.b kk r') = deps r' + 1 := by rw [dep]
      have e2 : (wr (.b kk r')).length = (wrs r').length + 2 := by rw [wr]; simp
      exact ba_run hP k r' (by omega) h1 (by omega)
    have hlen := wrs_len r
    obtain ⟨v', e⟩ := ba_loop (C := runF P X k) (r0 := .list (encs r)) r.reverse [] none (fun t ht => (mem_facts r t (by simpa using ht) g).1) (fun kk r' hm => hin kk r' (by simpa using hm)) (by simp [maxLen]; omega)
    have he : exB (runF P X k) G.d__law_back.body ([W.d (.list (encs r))].map some ++ List.replicate (G.d__law_back.slots.length - 1) none) [] = .ret (.h 0) [.lst (encs (bks r))] := by
      rw [show G.d__law_back.body = [.asg (.name 1) (.new (.lst [])), .for_ (.name 2) (.each (.rev (.var 0))) baB, .ret (.var 1)] from rfl, b_cons, s_asg, e_new, n_lst, d_nil, HB.R.bind_ok, if_pos (by show 0 ≤ maxLen; exact Nat.zero_le _), alloc_ok, HB.R.toO_ok, t_name, if_pos (by show 1 < 3; omega), noEx_ok', HB.R.toO_ok, HB.O.bind_nx]
      have e0 : (([W.d (PyData.list (encs r))].map some ++ List.replicate (G.d__law_back.slots.length - 1) none).set 1 (some (W.h ([] : Sto).length)) : Env) = baE (.list (encs r)) none := rfl
      rw [e0, b_cons, s_for, i_each, e_rev]
      have h0 : ∀ s, evE (runF P X k) (.var 0) (baE (.list (encs r)) none) s = .ok (.d (.list (encs r))) s := fun s => by rw [e_var]; rfl
      rw [h0, HB.R.bind_ok, rd1_d]
      simp only [rev2]
      rw [map1_some, HB.R.bind_ok]
      show (O.bind (forL (fun s => Src.ok s []) (baF (runF P X k)) (encs r).reverse (baE (.list (encs r)) none) [.lst []]) _) = _
      rw [encs_map, ← List.map_reverse, ← encs_map r] 
      rw [e, HB.O.bind_nx, b_cons, s_ret, e_var, List.nil_append, encs_bks]
      rfl
    rw [show [W.d (PyData.list (encs r))].length = 1 from rfl, he]
    rfl
end
end M
end HB
/-! What is read: lists of one's own lists. -/
namespace HB
namespace M
open PySem PySem.W
mutual
/-- what a thing lays: its item, its cells from m on -/
def layT (m : Nat) : Th → W × Sto
  | .c n => (.d (.str (S [n])), [])
  | .b k r => (.h (m + 1), .lsw (layR (m + 2) r).1 :: .lsw [.d (.str (S [opn k])), .h m] :: (layR (m + 2) r).2)
def layR (m : Nat) : List Th → List W × Sto
  | [] => ([], [])
  | t :: r => ((layT m t).1 :: (layR (m + (layT m t).2.length) r).1, (layT m t).2 ++ (layR (m + (layT m t).2.length) r).2)
end
section
variable {P : List Def} {X : Ext} {k : Nat}
def rdB : List St := match G.d__law_read.body with
  | [_, .for_ _ _ b, _] => b
  | _ => []
theorem rdB_eq : rdB = [.ite (.cmp .isin (.var 2) (.lit (.str ")]"))) [.exp (.popW (.var 1))] [.ite (.cmp .isin (.var 2) (.lit (.str "(["))) [.exp (.appW (.idx (.var 1) (.neg (.lit (.int 1)))) (.newW [.var 2, .newW []])), .exp (.appW (.var 1) (.idx (.idx (.idx (.var 1) (.neg (.lit (.int 1)))) (.neg (.lit (.int 1)))) (.lit (.int 1))))] [.exp (.appW (.idx (.var 1) (.neg (.lit (.int 1)))) (.var 2))]]] := rfl
def rdE (T : List Nat) (v : Option W) : Env := [some (.d (.str (S T))), some (.h 1), v]
def rdF (C : Calls) (x : PyData) (e : Env) (s : Sto) : O := (noEx (asT C (.name 2) (.d x) e s)).toO e fun e s => exB C rdB e s
theorem s_cl : Str.ofString ")]" = S [41, 93] := by decide +kernel
theorem s_op : Str.ofString "([" = S [40, 91] := by decide +kernel
theorem in_two (c a b : Nat) : cmp2 .isin (.str (S [c])) (.str (S [a, b])) = some (decide (c = a ∨ c = b)) := by
  simp only [cmp2, S_len, List.length_cons, List.length_nil, S_cps]
  simp
theorem rd_beg {C : Calls} {T : List Nat} {v : Option W} {c : Nat} {s : Sto} : rdF C (.str (S [c])) (rdE T v) s = exB C rdB (rdE T (some (.d (.str (S [c]))))) s := by
  unfold rdF
  rw [t_name, if_pos (by show 2 < 3; omega), noEx_ok', HB.R.toO_ok]
  rfl
section
variable {C : Calls} {T : List Nat} {v : Option W} {c : Nat} {s : Sto} {st : List W} {q : Nat} {its : List W}
theorem r2 : evE C (.var 2) (rdE T (some (.d (.str (S [c]))))) s = .ok (.d (.str (S [c]))) s := by rw [e_var]; rfl
theorem r1 {w : Option W} : evE C (.var 1) (rdE T w) s = .ok (.h 1) s := by rw [e_var]; rfl
theorem t_cl : evT C (.cmp .isin (.var 2) (.lit (.str ")]"))) (rdE T (some (.d (.str (S [c]))))) s = .ok (decide (c = 41 ∨ c = 93)) s := by
  rw [ev_T, e_cmp, r2, HB.R.bind_ok, e_lit, HB.R.bind_ok, rd2_d, s_cl, in_two, Option.map_some, map1_some, HB.R.bind_ok, tst_b]
theorem t_op : evT C (.cmp .isin (.var 2) (.lit (.str "(["))) (rdE T (some (.d (.str (S [c]))))) s = .ok (decide (c = 40 ∨ c = 91)) s := by
  rw [ev_T, e_cmp, r2, HB.R.bind_ok, e_lit, HB.R.bind_ok, rd2_d, s_op, in_two, Option.map_some, map1_some, HB.R.bind_ok, tst_b]
theorem ix_last {i : Nat} {ws : List W} {w : W} (h : s[i]? = some (.lsw (ws ++ [w]))) : idxR s (.h i) (.d (.int (-1))) = .ok w s := by
  simp only [idxR, h, peek_d, last_at, HB.R.of_some]
theorem top_of {w : Option W} (h : s[1]? = some (.lsw (st ++ [.h q]))) : evE C (.idx (.var 1) (.neg (.lit (.int 1)))) (rdE T w) s = .ok (.h q) s := by
  rw [e_idx, r1, HB.R.bind_ok, e_neg, e_lit, HB.R.bind_ok, rd1_d, neg_i, map1_some, HB.R.bind_ok, ix_last h]
theorem app_w {y : W} (h : s[q]? = some (.lsw its)) (hl : its.length + 1 ≤ maxLen) : appR s (.h q) y = .ok (.d .none) (s.set q (.lsw (its ++ [y]))) := by
  simp only [appR, h]
  rw [if_pos hl]
theorem rd_let (hc : Lt c) (h1 : s[1]? = some (.lsw (st ++ [.h q]))) (h2 : s[q]? = some (.lsw its)) (hl : its.length + 1 ≤ maxLen) :
    rdF C (.str (S [c])) (rdE T v) s = .nx (rdE T (some (.d (.str (S [c]))))) (s.set q (.lsw (its ++ [.d (.str (S [c]))]))) := by
  have n1 : ¬ (c = 41 ∨ c = 93) := by rcases hc with h | h | h | h | h | h <;> omega
  rw [rd_beg, rdB_eq, b_cons, s_ite, t_cl, decide_eq_false n1, HB.R.toO_ok, if_neg (by simp), b_cons, s_ite, t_op, decide_eq_false (lt_not hc), HB.R.toO_ok, if_neg (by simp), b_cons, s_exp, e_appW, top_of h1, HB.R.bind_ok]
  simp only
  rw [r2, HB.R.bind_ok, app_w h2 hl, HB.R.toO_ok, HB.O.bind_nx, b_nil, HB.O.bind_nx, b_nil, HB.O.bind_nx, b_nil]
theorem rd_cls {b : Bool} {w : W} (h1 : s[1]? = some (.lsw (st ++ [w]))) : rdF C (.str (S [cls b])) (rdE T v) s = .nx (rdE T (some (.d (.str (S [cls b]))))) (s.set 1 (.lsw st)) := by
  have n1 : cls b = 41 ∨ cls b = 93 := by cases b <;> simp [cls]
  rw [rd_beg, rdB_eq, b_cons, s_ite, t_cl, decide_eq_true n1, HB.R.toO_ok, if_pos rfl, b_cons, s_exp, e_popW, r1, HB.R.bind_ok]
  have : popR s (.h 1) = .ok w (s.set 1 (.lsw st)) := by
    simp only [popR, h1]
    simp
  rw [this, HB.R.toO_ok, HB.O.bind_nx, b_nil, HB.O.bind_nx, b_nil]
/-- an opening sign: two new lists -/
theorem rd_opn {b : Bool} (h1 : s[1]? = some (.lsw (st ++ [.h q]))) (h2 : s[q]? = some (.lsw its)) (hq : q ≠ 1) (hl : its.length + 1 ≤ maxLen) (hl2 : st.length + 2 ≤ maxLen) :
    rdF C (.str (S [opn b])) (rdE T v) s = .nx (rdE T (some (.d (.str (S [opn b]))))) (((s.set q (.lsw (its ++ [.h (s.length + 1)]))).set 1 (.lsw (st ++ [.h q, .h s.length]))) ++ [.lsw [], .lsw [.d (.str (S [opn b])), .h s.length]]) := by
  have n1 : ¬ (opn b = 41 ∨ opn b = 93) := by cases b <;> simp [opn]
  have hq1 : q < s.length := (List.getElem?_eq_some_iff.mp h2).1
  have h11 : 1 < s.length := (List.getElem?_eq_some_iff.mp h1).1
  rw [rd_beg, rdB_eq, b_cons, s_ite, t_cl, decide_eq_false n1, HB.R.toO_ok, if_neg (by simp), b_cons, s_ite, t_op, decide_eq_true (opn_or b), HB.R.toO_ok, if_pos rfl, b_cons, s_exp, e_appW, top_of h1, HB.R.bind_ok]
  simp only
  have en : evE C (.newW [.var 2, .newW []]) (rdE T (some (.d (.str (S [opn b]))))) s = .ok (.h (s.length + 1)) (s ++ [.lsw [], .lsw [.d (.str (S [opn b])), .h s.length]]) := by
    rw [e_newW, es_cons, r2, HB.R.bind_ok, es_cons, e_newW, es_nil, HB.R.bind_ok, if_pos (by show 0 ≤ maxLen; exact Nat.zero_le _), HB.R.bind_ok, es_nil, HB.R.bind_ok, HB.R.bind_ok, HB.R.bind_ok, if_pos (by show 2 ≤ maxLen; unfold maxLen; omega)]
    simp
  have g2 : (s ++ [Cell.lsw [], .lsw [.d (.str (S [opn b])), .h s.length]])[q]? = some (.lsw its) := by rw [List.getElem?_append_left hq1]; exact h2
  rw [en, HB.R.bind_ok, app_w g2 hl, HB.R.toO_ok, HB.O.bind_nx]
  rw [List.set_append_left _ _ hq1]
  obtain ⟨s1, hs1⟩ : ∃ s1, s1 = s.set q (.lsw (its ++ [.h (s.length + 1)])) := ⟨_, rfl⟩
  have l1 : s1.length = s.length := by rw [hs1]; simp
  rw [← hs1]
  have k1 : (s1 ++ [Cell.lsw [], .lsw [.d (.str (S [opn b])), .h s.length]])[1]? = some (.lsw (st ++ [.h q])) := by
    rw [List.getElem?_append_left (by omega), hs1, List.getElem?_set_ne hq]; exact h1
  have k2 : (s1 ++ [Cell.lsw [], .lsw [.d (.str (S [opn b])), .h s.length]])[q]? = some (.lsw (its ++ [.h (s.length + 1)])) := by
    rw [List.getElem?_append_left (by omega), hs1, List.getElem?_set_self hq1]
  have k3 : (s1 ++ [Cell.lsw [], .lsw [.d (.str (S [opn b])), .h s.length]])[s.length + 1]? = some (.lsw [.d (.str (S [opn b])), .h s.length]) := by
    rw [List.getElem?_append_right (by omega), l1]
    simp
  rw [b_cons, s_exp, e_appW, r1, HB.R.bind_ok]
  simp only
  have ei : evE C (.idx (.idx (.idx (.var 1) (.neg (.lit (.int 1)))) (.neg (.lit (.int 1)))) (.lit (.int 1))) (rdE T (some (.d (.str (S [opn b]))))) (s1 ++ [Cell.lsw [], .lsw [.d (.str (S [opn b])), .h s.length]]) = .ok (.h s.length) (s1 ++ [Cell.lsw [], .lsw [.d (.str (S [opn b])), .h s.length]]) := by
    rw [e_idx, e_idx, top_of k1, HB.R.bind_ok, e_neg, e_lit, HB.R.bind_ok, rd1_d, neg_i, map1_some, HB.R.bind_ok, ix_last k2, HB.R.bind_ok, e_lit, HB.R.bind_ok]
    simp only [idxR, k3, peek_d]
    rfl
  rw [ei, HB.R.bind_ok, app_w k1 (by simp; omega), HB.R.toO_ok, HB.O.bind_nx, b_nil, HB.O.bind_nx, b_nil, HB.O.bind_nx, b_nil, List.set_append_left _ _ (by omega)]
  simp
end
def rdL (C : Calls) (l : List Nat) (e : Env) (s : Sto) : O := forL (fun s => Src.ok s []) (rdF C) (txts l) e s
theorem rdL_cons {C : Calls} {c : Nat} {l : List Nat} {e e' : Env} {s s' : Sto} (h : rdF C (.str (S [c])) e s = .nx e' s') : rdL C (c :: l) e s = rdL C l e' s' := for_cons rfl h
mutual
theorem rd_th {C : Calls} {T : List Nat} : ∀ (t : Th) (post : List Nat) (v : Option W) (s : Sto) (st its : List W) (q : Nat), gd t → s[1]? = some (.lsw (st ++ [.h q])) → s[q]? = some (.lsw its) → q ≠ 1 → its.length + 1 ≤ 1000 → st.length + dep t ≤ 1000 → (wr t).length ≤ 1000 →
    ∃ v', rdL C (wr t ++ post) (rdE T v) s = rdL C post (rdE T v') (s.set q (.lsw (its ++ [(layT s.length t).1])) ++ (layT s.length t).2)
  | .c n, post, v, s, st, its, q, g, h1, h2, hq, hl, hd, hw => by
    refine ⟨some (.d (.str (S [n]))), ?_⟩
    rw [show wr (.c n) = [n] by rw [wr], List.cons_append, List.nil_append, rdL_cons (rd_let g h1 h2 (by unfold maxLen; omega)), layT]
    simp
  | .b b r, post, v, s, st, its, q, g, h1, h2, hq, hl, hd, hw => by
    have hq1 : q < s.length := (List.getElem?_eq_some_iff.mp h2).1
    have h11 : 1 < s.length := (List.getElem?_eq_some_iff.mp h1).1
    have e1 : wr (.b b r) ++ post = opn b :: (wrs r ++ (cls b :: post)) := by rw [wr]; simp
    have hw' : (wrs r).length ≤ 1000 := by rw [wr] at hw; simp at hw; omega
    rw [dep] at hd
    rw [e1, rdL_cons (rd_opn h1 h2 hq (by unfold maxLen; omega) (by unfold maxLen; omega))]
    obtain ⟨s1, hs1⟩ : ∃ s1, s1 = (((s.set q (.lsw (its ++ [.h (s.length + 1)]))).set 1 (.lsw (st ++ [.h q, .h s.length]))) ++ [Cell.lsw [], .lsw [.d (.str (S [opn b])), .h s.length]]) := ⟨_, rfl⟩
    have l1 : s1.length = s.length + 2 := by rw [hs1]; simp
    have k1 : s1[1]? = some (.lsw ((st ++ [.h q]) ++ [.h s.length])) := by
      rw [hs1, List.getElem?_append_left (by simp; omega), List.getElem?_set_self (by simp; omega)]
      simp
    have k2 : s1[s.length]? = some (.lsw []) := by
      rw [hs1, List.getElem?_append_right (by simp)]
      simp
    rw [← hs1]
    obtain ⟨v1, e2⟩ := rd_ths (C := C) (T := T) r (cls b :: post) (some (.d (.str (S [opn b])))) s1 (st ++ [.h q]) [] s.length g k1 k2 (by omega) (by have := wrs_len r; simp; omega) (by simp; omega) hw'
    rw [e2]
    have l2 : (s1.set s.length (.lsw ([] ++ (layR s1.length r).1)) ++ (layR s1.length r).2)[1]? = some (.lsw ((st ++ [.h q]) ++ [.h s.length])) := by
      rw [List.getElem?_append_left (by simp; omega), List.getElem?_set_ne (by omega)]; exact k1
    rw [rdL_cons (rd_cls l2)]
    refine ⟨some (.d (.str (S [cls b]))), ?_⟩
    congr 1
    rw [l1, layT, hs1]
    apply List.ext_getElem?
    intro i
    simp only [List.nil_append, List.getElem?_set, List.getElem?_append, List.length_set, List.length_append, List.length_cons, List.length_nil]
    by_cases c1 : i < s.length
    · by_cases c2 : i = 1
      · subst c2
        simp [hq, h11, h1]
        exact ⟨by omega, (List.getElem?_eq_some_iff.mp h1).2.symm⟩
      · by_cases c3 : i = q
        · subst c3
          simp [c1, c2]
          have a1 : ¬ (1 = i) := by omega
          have a2 : ¬ (s.length = i) := by omega
          have a3 : i < s.length + 2 := by omega
          simp [a1, a2, a3]
        · have a1 : ¬ (1 = i) := by omega
          have a2 : ¬ (s.length = i) := by omega
          have a3 : i < s.length + 2 := by omega
          have a4 : ¬ (q = i) := by omega
          simp [c1, a1, a2, a3, a4]
    · by_cases c2 : i < s.length + 2
      · have a1 : ¬ (1 = i) := by omega
        rcases (by omega : i = s.length ∨ i = s.length + 1) with h | h
        · subst h
          simp [a1]
        · subst h
          have a0 : ¬ (s = []) := fun h => by rw [h] at h11; simp at h11
          have a2 : ¬ (s.length + 1 < s.length) := by omega
          simp [a0, a2]
      · obtain ⟨j, rfl⟩ : ∃ j, i = s.length + 2 + j := ⟨i - (s.length + 2), by omega⟩
        have a1 : ¬ (1 = s.length + 2 + j) := by omega
        have a2 : ¬ (s.length = s.length + 2 + j) := by omega
        have a3 : s.length + 2 + j - s.length = j + 2 := by omega
        simp [a1, a2, a3, c1]
        intro h
        omega
theorem rd_ths {C : Calls} {T : List Nat} : ∀ (r : List Th) (post : List Nat) (v : Option W) (s : Sto) (st its : List W) (q : Nat), gds r → s[1]? = some (.lsw (st ++ [.h q])) → s[q]? = some (.lsw its) → q ≠ 1 → its.length + r.length ≤ 1000 → st.length + deps r ≤ 1000 → (wrs r).length ≤ 1000 →
    ∃ v', rdL C (wrs r ++ post) (rdE T v) s = rdL C post (rdE T v') (s.set q (.lsw (its ++ (layR s.length r).1)) ++ (layR s.length r).2)
  | [], post, v, s, st, its, q, g, h1, h2, hq, hl, hd, hw => by
    refine ⟨v, ?_⟩
    rw [wrs, layR, List.nil_append]
    congr 1
    apply List.ext_getElem?
    intro i
    rw [List.append_nil, List.append_nil, List.getElem?_set]
    split
    · rename_i h
      subst h
      rw [if_pos (List.getElem?_eq_some_iff.mp h2).1, h2]
    · rfl
  | t :: r, post, v, s, st, its, q, g, h1, h2, hq, hl, hd, hw => by
    have hq1 : q < s.length := (List.getElem?_eq_some_iff.mp h2).1
    have h11 : 1 < s.length := (List.getElem?_eq_some_iff.mp h1).1
    rw [deps] at hd
    rw [wrs, List.length_append] at hw
    simp at hl
    obtain ⟨v1, e1⟩ := rd_th (C := C) (T := T) t (wrs r ++ post) v s st its q g.1 h1 h2 hq (by omega) (by omega) (by omega)
    rw [wrs, List.append_assoc, e1]
    obtain ⟨s1, hs1⟩ : ∃ s1, s1 = s.set q (.lsw (its ++ [(layT s.length t).1])) ++ (layT s.length t).2 := ⟨_, rfl⟩
    have l1 : s1.length = s.length + (layT s.length t).2.length := by rw [hs1]; simp
    have k1 : s1[1]? = some (.lsw (st ++ [.h q])) := by
      rw [hs1, List.getElem?_append_left (by simp; omega), List.getElem?_set_ne hq]; exact h1
    have k2 : s1[q]? = some (.lsw (its ++ [(layT s.length t).1])) := by
      rw [hs1, List.getElem?_append_left (by simp; omega), List.getElem?_set_self hq1]
    obtain ⟨v2, e2⟩ := rd_ths (C := C) (T := T) r post v1 s1 st _ q g.2 k1 k2 hq (by simp; omega) (by omega) (by omega)
    refine ⟨v2, ?_⟩
    rw [← hs1, e2]
    congr 1
    rw [l1, layR, hs1, List.set_append_left _ _ (by simp; omega), List.set_set]
    simp
end
end
end M
end HB
/-! What is read, as data. -/
namespace HB
namespace M
open PySem PySem.W
mutual
theorem frz_T : ∀ (t : Th) (m n : Nat) (S0 : Sto), (∀ i c, (layT m t).2[i]? = some c → S0[m + i]? = some c) → 2 * dep t ≤ n →
    ∃ S', frzN n S0 (layT m t).1 = some (enc t, S') ∧ ∀ i, (i < m ∨ m + (layT m t).2.length ≤ i) → S'[i]? = S0[i]?
  | .c c, m, n, S0, h, hn => by
    refine ⟨S0, ?_, fun _ _ => rfl⟩
    rw [layT, enc]
    cases n <;> rfl
  | .b b r, m, n, S0, h, hn => by
    rw [dep] at hn
    obtain ⟨n, rfl⟩ : ∃ j, n = j + 2 := ⟨n - 2, by omega⟩
    rw [layT] at h
    have h0 : S0[m]? = some (.lsw (layR (m + 2) r).1) := by
      have := h 0 _ rfl
      simpa using this
    have h1 : S0[m + 1]? = some (.lsw [.d (.str (S [opn b])), .h m]) := h 1 _ rfl
    obtain ⟨S1, e1, g1⟩ := frz_R r (m + 2) n S0 (fun i c hc => by
      have := h (i + 2) c (by simpa using hc)
      rw [show m + 2 + i = m + (i + 2) by omega]; exact this) (by omega)
    have k0 : S1[m]? = some (.lsw (layR (m + 2) r).1) := by rw [g1 m (by omega)]; exact h0
    have k1 : (S1.set m (.frz (encs r)))[m + 1]? = some (.lsw [.d (.str (S [opn b])), .h m]) := by
      rw [List.getElem?_set_ne (by omega), g1 (m + 1) (by omega)]; exact h1
    have f0 : frzN (n + 1) S0 (.h m) = some (.list (encs r), S1.set m (.frz (encs r))) := by
      simp only [frzN, h0, e1, k0]
    refine ⟨(S1.set m (.frz (encs r))).set (m + 1) (.frz [.str (S [opn b]), .list (encs r)]), ?_, fun i hi => ?_⟩
    · rw [layT, enc]
      have fd : frzN (n + 1) S0 (.d (.str (S [opn b]))) = some (.str (S [opn b]), S0) := rfl
      have ff : frzsBy (frzN (n + 1)) S0 [.d (.str (S [opn b])), .h m] = some ([.str (S [opn b]), .list (encs r)], S1.set m (.frz (encs r))) := by simp only [frzsBy, fd, f0]
      unfold frzN
      simp only [h1, ff, k1]
    · rw [layT] at hi
      simp only [List.length_cons] at hi
      rw [List.getElem?_set_ne (by omega), List.getElem?_set_ne (by omega)]
      exact g1 i (by omega)
theorem frz_R : ∀ (r : List Th) (m n : Nat) (S0 : Sto), (∀ i c, (layR m r).2[i]? = some c → S0[m + i]? = some c) → 2 * deps r ≤ n →
    ∃ S', frzsBy (frzN n) S0 (layR m r).1 = some (encs r, S') ∧ ∀ i, (i < m ∨ m + (layR m r).2.length ≤ i) → S'[i]? = S0[i]?
  | [], m, n, S0, h, hn => ⟨S0, by rw [layR, encs]; rfl, fun _ _ => rfl⟩
  | t :: r, m, n, S0, h, hn => by
    rw [deps] at hn
    rw [layR] at h
    simp only at h
    obtain ⟨S1, e1, g1⟩ := frz_T t m n S0 (fun i c hc => h i c (by
      rw [List.getElem?_append_left (List.getElem?_eq_some_iff.mp hc).1]; exact hc)) (by omega)
    obtain ⟨S2, e2, g2⟩ := frz_R r (m + (layT m t).2.length) n S1 (fun i c hc => by
      rw [g1 _ (by omega), Nat.add_assoc]
      refine h _ c ?_
      rw [List.getElem?_append_right (by omega)]
      rw [show (layT m t).2.length + i - (layT m t).2.length = i by omega]
      exact hc) (by omega)
    refine ⟨S2, ?_, fun i hi => ?_⟩
    · rw [layR, encs]
      simp only [frzsBy, e1, e2]
    · rw [layR] at hi
      simp only [List.length_append] at hi
      rw [g2 i (by omega), g1 i (by omega)]
end
section
variable {P : List Def} {X : Ext} {k : Nat}
theorem rd_run (hP : Fd P "_law_read" G.d__law_read) {r : List Th} (g : gds r) (hl : (wrs r).length ≤ 900) (hd : deps r ≤ 10) : runF P X (k + 1) "_law_read" [.d (.str (S (wrs r)))] [] = .ok (.d (.list (encs r))) [] := by
  rw [run_def hP rfl]
  obtain ⟨v, e⟩ := rd_ths (C := runF P X k) (T := wrs r) r [] none [.lsw [], .lsw [.h 0]] [] [] 0 g rfl rfl (by omega) (by have := wrs_len r; simp; omega) (by simp; omega) (by omega)
  rw [List.append_nil, show rdL (runF P X k) [] (rdE (wrs r) v) _ = _ from for_nil rfl] at e
  have he : exB (runF P X k) G.d__law_read.body ([W.d (.str (S (wrs r)))].map some ++ List.replicate (G.d__law_read.slots.length - 1) none) [] = .ret (.h 0) ([.lsw (layR 2 r).1, .lsw [.h 0]] ++ (layR 2 r).2) := by
    rw [show G.d__law_read.body = [.asg (.name 1) (.newW [.newW []]), .for_ (.name 2) (.each (.var 0)) rdB, .ret (.idx (.var 1) (.lit (.int 0)))] from rfl, b_cons, s_asg, e_newW, es_cons, e_newW, es_nil, HB.R.bind_ok, if_pos (by show 0 ≤ maxLen; exact Nat.zero_le _), HB.R.bind_ok, es_nil, HB.R.bind_ok, HB.R.bind_ok, if_pos (by show 1 ≤ maxLen; unfold maxLen; omega), HB.R.toO_ok, t_name, if_pos (by show 1 < 3; omega), noEx_ok', HB.R.toO_ok, HB.O.bind_nx, b_cons, s_for, i_each]
    have h0 : ∀ s, evE (runF P X k) (.var 0) (rdE (wrs r) none) s = .ok (.d (.str (S (wrs r)))) s := fun s => by rw [e_var]; rfl
    have e0 : (([W.d (PyData.str (S (wrs r)))].map some ++ List.replicate (G.d__law_read.slots.length - 1) none).set 1 (some (W.h (([] : Sto) ++ [Cell.lsw []]).length)) : Env) = rdE (wrs r) none := rfl
    rw [e0, h0, HB.R.bind_ok]
    show (O.bind (rdL (runF P X k) (wrs r) (rdE (wrs r) none) [.lsw [], .lsw [.h 0]]) _) = _
    rw [e, HB.O.bind_nx, b_cons, s_ret, e_idx]
    have r1' : ∀ s, evE (runF P X k) (.var 1) (rdE (wrs r) v) s = .ok (.h 1) s := fun s => by rw [e_var]; rfl
    rw [r1', HB.R.bind_ok, e_lit, HB.R.bind_ok]
    rfl
  rw [show [W.d (PyData.str (S (wrs r)))].length = 1 from rfl, he]
  obtain ⟨S1, f1, g1⟩ := frz_R r 2 29 ([.lsw (layR 2 r).1, .lsw [.h 0]] ++ (layR 2 r).2) (fun i c hc => by
    rw [List.getElem?_append_right (by simp)]
    simpa using hc) (by omega)
  have k0 : S1[0]? = some (.lsw (layR 2 r).1) := by rw [g1 0 (by omega)]; rfl
  have h0 : ([Cell.lsw (layR 2 r).1, .lsw [.h 0]] ++ (layR 2 r).2)[0]? = some (.lsw (layR 2 r).1) := rfl
  have ff : frz ([.lsw (layR 2 r).1, .lsw [.h 0]] ++ (layR 2 r).2) (.h 0) = some (.list (encs r), S1.set 0 (.frz (encs r))) := by
    unfold frz
    simp only [frzN, h0, f1, k0]
  show chkR 0 (toD _ (.h 0) fun d s => R.ok (W.d d) (s.take 0)) = _
  unfold toD
  rw [ff]
  simp
end
end M
end HB
/-! Rows drawn. -/
namespace HB
namespace M
open PySem PySem.W
theorem encs_app (a b : List Th) : encs (a ++ b) = encs a ++ encs b := by rw [encs_map, encs_map, encs_map, List.map_append]
theorem sms_app : ∀ {a b : List Th}, sms a → sms b → sms (a ++ b)
  | [], b, _, h => h
  | t :: a, b, g, h => ⟨g.1, sms_app g.2 h⟩
theorem szs_app : ∀ a b : List Th, szs (a ++ b) = szs a + szs b
  | [], b => by simp [szs]
  | t :: a, b => by rw [List.cons_append, szs, szs, szs_app a b]; omega
theorem deps_app : ∀ a b : List Th, deps (a ++ b) = max (deps a) (deps b)
  | [], b => by simp [deps]
  | t :: a, b => by rw [List.cons_append, deps, deps, deps_app a b]; omega
/-- what a row drawn is -/
structure Dr (deep : Nat) (b : Int) (r : List Th) (b' : Int) : Prop where
  gd : gds r
  sm : sms r
  row : r.length ≤ 6
  dep : deep + deps r ≤ 3
  sz : (szs r : Int) + b' = b
  pos : 0 ≤ b'
section
variable {P : List Def} {X : Ext} {k : Nat}
def rwB : List St := match G.d__law_row.body with
  | [_, .for_ _ _ b, _] => b
  | _ => []
def rwE (deep : Nat) (tn wy : Option W) : Env := [some (.h 0), some (.h 1), some (.d (.int deep)), some (.d (.int 6)), some (.h 2), tn, wy]
def rwS (p b : Int) (acc : List PyData) : Sto := [.lst [.int p], .lst [.int b], .lst acc]
def rwF (C : Calls) (x : PyData) (e : Env) (s : Sto) : O := (noEx (asT C (.name 5) (.d x) e s)).toO e fun e s => exB C rwB e s
abbrev rwDec : St := .asg (.ix (.var 1) (.lit (.int 0))) (.bin .sub (.idx (.var 1) (.lit (.int 0))) (.lit (.int 1)))
abbrev rwGt : Ex := .cmp .gt (.idx (.var 1) (.lit (.int 0))) (.lit (.int 0))
abbrev rwBox : Ex := .frs (.lst [.idx (.frs (.lst [.lit (.str "("), .lit (.str "("), .lit (.str "[")])) (.var 6), .call "_law_row" [.var 0, .var 1, .bin .add (.var 2) (.lit (.int 1)), .var 3]])
theorem rwB_eq : rwB = [.asg (.name 6) (.call "_law_take" [.var 0, .lit (.int 9)]), .ite (.and rwGt (.and (.cmp .lt (.var 6) (.lit (.int 3))) (.cmp .lt (.var 2) (.lit (.int 3))))) [rwDec, .exp (.mth .append "list" (.var 4) [rwBox])] [.ite rwGt [rwDec, .exp (.mth .append "list" (.var 4) [.idx (.lit (.str "bdpqoxbdp")) (.var 6)])] []]] := rfl
section
variable {C : Calls} {deep : Nat} {tn : Option W} {w : W} {p b : Int} {acc : List PyData} {s : Sto}
theorem w0 {wy : Option W} : evE C (.var 0) (rwE deep tn wy) s = .ok (.h 0) s := by rw [e_var]; rfl
theorem w1 {wy : Option W} : evE C (.var 1) (rwE deep tn wy) s = .ok (.h 1) s := by rw [e_var]; rfl
theorem w2 {wy : Option W} : evE C (.var 2) (rwE deep tn wy) s = .ok (.d (.int deep)) s := by rw [e_var]; rfl
theorem w3 {wy : Option W} : evE C (.var 3) (rwE deep tn wy) s = .ok (.d (.int 6)) s := by rw [e_var]; rfl
theorem w4 {wy : Option W} : evE C (.var 4) (rwE deep tn wy) s = .ok (.h 2) s := by rw [e_var]; rfl
theorem w6 : evE C (.var 6) (rwE deep tn (some w)) s = .ok w s := by rw [e_var]; rfl
theorem w_b0 {wy : Option W} : evE C (.idx (.var 1) (.lit (.int 0))) (rwE deep tn wy) (rwS p b acc) = .ok (.d (.int b)) (rwS p b acc) := by
  rw [e_idx, w1, HB.R.bind_ok, e_lit, HB.R.bind_ok]
  rfl
theorem w_gt {wy : Option W} : evE C rwGt (rwE deep tn wy) (rwS p b acc) = .ok (.d (.bool (decide (0 < b)))) (rwS p b acc) := by
  rw [e_cmp, w_b0, HB.R.bind_ok, e_lit, HB.R.bind_ok, rd2_d, gt_ii, Option.map_some, map1_some]
theorem w_dec {wy : Option W} : exS C rwDec (rwE deep tn wy) (rwS p b acc) = .nx (rwE deep tn wy) (rwS p (b - 1) acc) := by
  rw [s_asg, e_bin, w_b0, HB.R.bind_ok, e_lit, HB.R.bind_ok, rd2_d, sub_ii, map1_some, HB.R.toO_ok, t_ix, toD_d, w1, HB.R.bind_ok, e_lit, HB.R.bind_ok]
  rfl
theorem w_app {a : Ex} {x : PyData} {p' b' : Int} {wy : Option W} (h : evE C a (rwE deep tn wy) (rwS p b acc) = .ok (.d x) (rwS p' b' acc)) (hl : acc.length + 1 ≤ maxLen) :
    exS C (.exp (.mth .append "list" (.var 4) [a])) (rwE deep tn wy) (rwS p b acc) = .nx (rwE deep tn wy) (rwS p' b' (acc ++ [x])) := by
  rw [s_exp, e_mth, w4, HB.R.bind_ok]
  have hr : rd1 (rwS p b acc) (.h 2) = fun (g : PyData → HB.R W) => g (.list acc) := rfl
  rw [hr]
  simp only [hasTy, beq_self_eq_true, if_true, Mth.writes]
  rw [d_cons, h, HB.R.bind_ok, toD_d, d_nil, HB.R.bind_ok, HB.R.bind_ok, app_put (xs := acc) rfl hl, HB.R.bind_ok, HB.R.toO_ok]
  rfl
theorem call_row {d : PyData} {v : PyData} {p' b' : Int} (h : C "_law_row" [.h 0, .h 1, .d d, .d (.int 6)] [.lst [.int p], .lst [.int b]] = .ok (.d v) [.lst [.int p'], .lst [.int b']]) :
    callIn C "_law_row" [.h 0, .h 1, .d d, .d (.int 6)] (rwS p b acc) = .ok (.d v) (rwS p' b' acc) := by
  simp [callIn, gath, rwS, cellsAt, h, scat]
theorem s_nine : Str.ofString "bdpqoxbdp" = S [98, 100, 112, 113, 111, 120, 98, 100, 112] := by decide +kernel
theorem nine_at {w : Int} (h0 : 0 ≤ w) (h : w < 9) : ∃ c, Lt c ∧ idx2 (.str "bdpqoxbdp") (.int w) = some (.str (S [c])) := by
  rw [s_nine]
  rcases (by omega : w = 0 ∨ w = 1 ∨ w = 2 ∨ w = 3 ∨ w = 4 ∨ w = 5 ∨ w = 6 ∨ w = 7 ∨ w = 8) with h | h | h | h | h | h | h | h | h <;> subst h
  · exact ⟨98, by simp [Lt], by rfl⟩
  · exact ⟨100, by simp [Lt], by rfl⟩
  · exact ⟨112, by simp [Lt], by rfl⟩
  · exact ⟨113, by simp [Lt], by rfl⟩
  · exact ⟨111, by simp [Lt], by rfl⟩
  · exact ⟨120, by simp [Lt], by rfl⟩
  · exact ⟨98, by simp [Lt], by rfl⟩
  · exact ⟨100, by simp [Lt], by rfl⟩
  · exact ⟨112, by simp [Lt], by rfl⟩
theorem three_at {w : Int} (h0 : 0 ≤ w) (h : w < 3) : ∃ kk, idx2 (.list [.str "(", .str "(", .str "["]) (.int w) = some (.str (S [opn kk])) := by
  rw [s_po, s_bo]
  rcases (by omega : w = 0 ∨ w = 1 ∨ w = 2) with h | h | h <;> subst h
  · exact ⟨true, by rfl⟩
  · exact ⟨true, by rfl⟩
  · exact ⟨false, by rfl⟩
/-- what a turn may give -/
def Turn (deep : Nat) (acc : List PyData) (b : Int) (acc' : List PyData) (b' : Int) : Prop := 0 ≤ b' ∧ ((acc' = acc ∧ b' = b) ∨ ∃ t, acc' = acc ++ [enc t] ∧ gd t ∧ sm t ∧ deep + dep t ≤ 3 ∧ (sz t : Int) + b' = b)
theorem rw_turn {x : PyData} {wy : Option W} (hT : ∀ (n far : Int), 0 < far → far < 4294967296 → C "_law_take" [.h 0, .d (.int far)] [.lst [.int n]] = .ok (.d (.int (n % far))) [.lst [.int (n / far)]])
    (hR : deep < 3 → ∀ p b, 0 ≤ b → ∃ r p' b', C "_law_row" [.h 0, .h 1, .d (.int ((deep + 1 : Nat) : Int)), .d (.int 6)] [.lst [.int p], .lst [.int b]] = .ok (.d (.list (encs r))) [.lst [.int p'], .lst [.int b']] ∧ Dr (deep + 1) b r b')
    (hd : deep ≤ 3) (hb : 0 ≤ b) (hl : acc.length + 1 ≤ maxLen) : ∃ tn' wy' p' b' acc', rwF C x (rwE deep tn wy) (rwS p b acc) = .nx (rwE deep tn' wy') (rwS p' b' acc') ∧ Turn deep acc b acc' b' := by
  unfold rwF
  rw [t_name, if_pos (by show 5 < 7; omega), noEx_ok', HB.R.toO_ok, rwB_eq]
  rw [show (rwE deep tn wy).set 5 (some (W.d x)) = rwE deep (some (.d x)) wy from rfl]
  obtain ⟨y, hy⟩ : ∃ y, y = p % 9 := ⟨_, rfl⟩
  have hy0 : 0 ≤ y ∧ y < 9 := by rw [hy]; exact ⟨Int.emod_nonneg _ (by omega), Int.emod_lt_of_pos _ (by omega)⟩
  have ct : callIn C "_law_take" [.h 0, .d (.int 9)] (rwS p b acc) = .ok (.d (.int y)) (rwS (p / 9) b acc) := by
    rw [callH1 (xs := [.int p]) rfl (hT p 9 (by omega) (by omega)), hy]
    rfl
  rw [b_cons, s_asg, e_call, es_cons, w0, HB.R.bind_ok, es_cons, e_lit, HB.R.bind_ok, es_nil, HB.R.bind_ok, HB.R.bind_ok, HB.R.bind_ok, ct, HB.R.toO_ok, t_name, if_pos (by show 6 < 7; omega), noEx_ok', HB.R.toO_ok, HB.O.bind_nx]
  rw [show (rwE deep (some (.d x)) wy).set 6 (some (W.d (.int y))) = rwE deep (some (.d x)) (some (.d (.int y))) from rfl]
  rw [b_cons, s_ite, ev_T, e_and, w_gt, HB.R.bind_ok, tst_b]
  by_cases c1 : 0 < b
  · rw [decide_eq_true c1, if_pos rfl, e_and, e_cmp, w6, HB.R.bind_ok, e_lit, HB.R.bind_ok, rd2_d, lt_ii, Option.map_some, map1_some, HB.R.bind_ok, tst_b]
    have tail : ∃ tn' wy' p' b' acc', O.bind (exB C [.ite rwGt [rwDec, .exp (.mth .append "list" (.var 4) [.idx (.lit (.str "bdpqoxbdp")) (.var 6)])] []] (rwE deep (some (.d x)) (some (.d (.int y)))) (rwS (p / 9) b acc)) (fun e s => exB C [] e s) = .nx (rwE deep tn' wy') (rwS p' b' acc') ∧ Turn deep acc b acc' b' := by
      obtain ⟨c, hc, e1⟩ := nine_at hy0.1 hy0.2
      have ea : evE C (.idx (.lit (.str "bdpqoxbdp")) (.var 6)) (rwE deep (some (.d x)) (some (.d (.int y)))) (rwS (p / 9) (b - 1) acc) = .ok (.d (.str (S [c]))) (rwS (p / 9) (b - 1) acc) := by
        rw [e_idx, e_lit, HB.R.bind_ok, w6, HB.R.bind_ok, idxR_d, rd2_d, e1, map1_some]
      refine ⟨some (.d x), some (.d (.int y)), p / 9, b - 1, acc ++ [.str (S [c])], ?_, by omega, .inr ⟨.c c, by rw [enc], hc, trivial, ?_, ?_⟩⟩
      · rw [b_cons, s_ite, ev_T, w_gt, decide_eq_true c1, HB.R.bind_ok, tst_b, HB.R.toO_ok, if_pos rfl, b_cons, w_dec, HB.O.bind_nx, b_cons, w_app ea hl, HB.O.bind_nx, b_nil, HB.O.bind_nx, b_nil, HB.O.bind_nx, b_nil]
      · rw [dep]; omega
      · rw [sz]; omega
    by_cases c2 : y < 3
    · rw [decide_eq_true c2, if_pos rfl, e_cmp, w2, HB.R.bind_ok, e_lit, HB.R.bind_ok, rd2_d, lt_ii, Option.map_some, map1_some, HB.R.bind_ok, tst_b, HB.R.toO_ok]
      by_cases c3 : (deep : Int) < 3
      · obtain ⟨kk, e1⟩ := three_at hy0.1 c2
        obtain ⟨r, p2, b2, e2, dr⟩ := hR (by omega) (p / 9) (b - 1) (by omega)
        have ea : evE C rwBox (rwE deep (some (.d x)) (some (.d (.int y)))) (rwS (p / 9) (b - 1) acc) = .ok (.d (enc (.b kk r))) (rwS p2 b2 acc) := by
          rw [e_frs, n_lst, d_cons, e_idx, e_frs, n_lst, d_cons, e_lit, HB.R.bind_ok, toD_d, d_cons, e_lit, HB.R.bind_ok, toD_d, d_cons, e_lit, HB.R.bind_ok, toD_d, d_nil, HB.R.bind_ok, HB.R.bind_ok, HB.R.bind_ok, HB.R.bind_ok, if_pos (by show 3 ≤ maxLen; unfold maxLen; omega), HB.R.bind_ok, HB.R.bind_ok, w6, HB.R.bind_ok, idxR_d, rd2_d, e1, map1_some, HB.R.bind_ok, toD_d, d_cons, e_call, es_cons, w0, HB.R.bind_ok, es_cons, w1, HB.R.bind_ok, es_cons, e_bin, w2, HB.R.bind_ok, e_lit, HB.R.bind_ok, rd2_d, add_ii, map1_some, HB.R.bind_ok, es_cons, w3, HB.R.bind_ok, es_nil, HB.R.bind_ok, HB.R.bind_ok, HB.R.bind_ok, HB.R.bind_ok, HB.R.bind_ok]
          rw [show ((deep : Int) + 1) = ((deep + 1 : Nat) : Int) by omega, call_row e2, HB.R.bind_ok, toD_d, d_nil, HB.R.bind_ok, HB.R.bind_ok, HB.R.bind_ok, if_pos (by show 2 ≤ maxLen; unfold maxLen; omega), HB.R.bind_ok, enc]
        refine ⟨some (.d x), some (.d (.int y)), p2, b2, acc ++ [enc (.b kk r)], ?_, dr.pos, .inr ⟨.b kk r, rfl, dr.gd, ⟨dr.row, dr.sm⟩, ?_, ?_⟩⟩
        · rw [decide_eq_true c3, if_pos rfl, b_cons, w_dec, HB.O.bind_nx, b_cons, w_app ea hl, HB.O.bind_nx, b_nil, HB.O.bind_nx, b_nil]
        · rw [dep]; have := dr.dep; omega
        · rw [sz]; have := dr.sz; omega
      · rw [decide_eq_false c3, if_neg (by simp)]
        exact tail
    · rw [decide_eq_false c2, if_neg (by simp), HB.R.bind_ok, tst_b, HB.R.toO_ok, if_neg (by simp)]
      exact tail
  · rw [decide_eq_false c1, if_neg (by simp), HB.R.bind_ok, tst_b, HB.R.toO_ok, if_neg (by simp), b_cons, s_ite, ev_T, w_gt, decide_eq_false c1, HB.R.bind_ok, tst_b, HB.R.toO_ok, if_neg (by simp), b_nil, HB.O.bind_nx, b_nil, HB.O.bind_nx, b_nil]
    exact ⟨some (.d x), some (.d (.int y)), p / 9, b, acc, rfl, hb, .inl ⟨rfl, rfl⟩⟩
end
theorem rw_run1 (hT : Fd P "_law_take" G.d__law_take) (hP : Fd P "_law_row" G.d__law_row) (deep : Nat) (hd : deep ≤ 3) (k : Nat) (hk : 3 ≤ k) (hR : deep < 3 → ∀ p b, 0 ≤ b → ∃ r p' b', runF P X (k - 1) "_law_row" [.h 0, .h 1, .d (.int ((deep + 1 : Nat) : Int)), .d (.int 6)] [.lst [.int p], .lst [.int b]] = .ok (.d (.list (encs r))) [.lst [.int p'], .lst [.int b']] ∧ Dr (deep + 1) b r b') (p b : Int) (hb : 0 ≤ b) :
    ∃ r p' b', runF P X k "_law_row" [.h 0, .h 1, .d (.int deep), .d (.int 6)] [.lst [.int p], .lst [.int b]] = .ok (.d (.list (encs r))) [.lst [.int p'], .lst [.int b']] ∧ Dr deep b r b' := by
  obtain ⟨j, rfl⟩ : ∃ j, k = j + 2 := ⟨k - 2, by omega⟩
  have hTk : ∀ (n far : Int), 0 < far → far < 4294967296 → runF P X (j + 1) "_law_take" [.h 0, .d (.int far)] [.lst [.int n]] = .ok (.d (.int (n % far))) [.lst [.int (n / far)]] := fun n far h h2 => tk_run hT h h2
  obtain ⟨m, hm⟩ : ∃ m : Nat, (m : Int) = p % 7 := ⟨(p % 7).toNat, by have := Int.emod_nonneg p (show (7 : Int) ≠ 0 by omega); omega⟩
  have hm7 : m < 7 := by have := Int.emod_lt_of_pos p (show (0 : Int) < 7 by omega); omega
  obtain ⟨e', s', h1, h2⟩ := for_inv (keep := fun s => Src.ok s []) (f := rwF (runF P X (j + 1)))
    (fun i e s => ∃ tn wy p' b' r, e = rwE deep tn wy ∧ s = rwS p' b' (encs r) ∧ 0 ≤ b' ∧ gds r ∧ sms r ∧ r.length ≤ i ∧ i ≤ 6 ∧ deep + deps r ≤ 3 ∧ (szs r : Int) + b' = b) (rangeL 0 (m : Int)) 0 (rwE deep none none) (rwS (p / 7) b []) (fun i x e s hx hi => by
      obtain ⟨him, rfl⟩ := range_at hx
      obtain ⟨tn, wy, p1, b1, r, rfl, rfl, q1, q2, q3, q4, q4b, q5, q6⟩ := hi
      obtain ⟨tn', wy', p', b', acc', e1, t0, t1⟩ := rw_turn (C := runF P X (j + 1)) (deep := deep) (tn := tn) (p := p1) (b := b1) (acc := encs r) (x := .int i) (wy := wy) hTk (by simpa using hR) hd q1 (by rw [encs_map, List.length_map]; unfold maxLen; omega)
      refine ⟨_, _, e1, ?_⟩
      rcases t1 with ⟨rfl, rfl⟩ | ⟨t, rfl, g1, g2, g3, g4⟩
      · exact ⟨tn', wy', p', _, r, rfl, rfl, q1, q2, q3, by omega, by omega, q5, q6⟩
      · refine ⟨tn', wy', p', b', r ++ [t], rfl, by rw [encs_app]; rfl, t0, gds_app q2 ⟨g1, trivial⟩, sms_app q3 ⟨g2, trivial⟩, by simp; omega, by omega, ?_, ?_⟩
        · rw [deps_app, deps, deps]; omega
        · rw [szs_app, szs, szs]; omega) (fun _ _ _ _ => rfl) ⟨none, none, p / 7, b, [], rfl, rfl, hb, trivial, trivial, by simp, by omega, by rw [deps]; omega, by rw [szs]; omega⟩
  obtain ⟨tn, wy, p', b', r, rfl, rfl, q1, q2, q3, q4, q4b, q5, q6⟩ := h2
  rw [range_len] at q4
  refine ⟨r, p', b', ?_, q2, q3, by omega, q5, q6, q1⟩
  rw [run_def hP rfl]
  have he : exB (runF P X (j + 1)) G.d__law_row.body ([W.h 0, .h 1, .d (PyData.int deep), .d (PyData.int 6)].map some ++ List.replicate (G.d__law_row.slots.length - 4) none) [.lst [.int p], .lst [.int b]] = .ret (.h 2) (rwS p' b' (encs r)) := by
    rw [show G.d__law_row.body = [.asg (.name 4) (.new (.lst [])), .for_ (.name 5) (.range1 (.call "_law_take" [.var 0, .bin .add (.var 3) (.lit (.int 1))])) rwB, .ret (.var 4)] from rfl, b_cons, s_asg, e_new, n_lst, d_nil, HB.R.bind_ok, if_pos (by show 0 ≤ maxLen; exact Nat.zero_le _), alloc_ok, HB.R.toO_ok, t_name, if_pos (by show 4 < 7; omega), noEx_ok', HB.R.toO_ok, HB.O.bind_nx]
    have e0 : (([W.h 0, .h 1, .d (PyData.int deep), .d (PyData.int 6)].map some ++ List.replicate (G.d__law_row.slots.length - 4) none).set 4 (some (W.h ([Cell.lst [PyData.int p], .lst [PyData.int b]] : Sto).length)) : Env) = rwE deep none none := rfl
    rw [e0, b_cons, s_for, i_range1, e_call, es_cons, w0, HB.R.bind_ok, es_cons, e_bin, w3, HB.R.bind_ok, e_lit, HB.R.bind_ok, rd2_d, add_ii, map1_some, HB.R.bind_ok, es_nil, HB.R.bind_ok, HB.R.bind_ok, HB.R.bind_ok]
    have ct : callIn (runF P X (j + 1)) "_law_take" [.h 0, .d (.int (6 + 1))] ([Cell.lst [PyData.int p], .lst [PyData.int b]] ++ [Cell.lst []]) = .ok (.d (.int m)) (rwS (p / 7) b []) := by
      rw [show ((6 : Int) + 1) = 7 from rfl]
      have := callH1 (c := runF P X (j + 1)) (f := "_law_take") (i := 0) (xs := [.int p]) (s := [Cell.lst [PyData.int p], .lst [PyData.int b]] ++ [Cell.lst []]) rfl (hTk p 7 (by omega) (by omega))
      rw [this, hm]
      rfl
    rw [ct, HB.R.bind_ok, rd1_d, range1_nat (by unfold maxLen; omega), HB.R.of_some, HB.R.toO_ok]
    show (O.bind (forL (fun s => Src.ok s []) (rwF (runF P X (j + 1))) (rangeL 0 (m : Int)) (rwE deep none none) (rwS (p / 7) b [])) _) = _
    rw [h1, HB.O.bind_nx, b_cons, s_ret, w4]
    rfl
  rw [show [W.h 0, .h 1, .d (PyData.int deep), .d (PyData.int 6)].length = 4 from rfl, he]
  rfl
theorem rw_run (hT : Fd P "_law_take" G.d__law_take) (hP : Fd P "_law_row" G.d__law_row) : ∀ (n deep : Nat), n + deep = 3 → ∀ (k : Nat), n + 3 ≤ k → ∀ (p b : Int), 0 ≤ b →
    ∃ r p' b', runF P X k "_law_row" [.h 0, .h 1, .d (.int deep), .d (.int 6)] [.lst [.int p], .lst [.int b]] = .ok (.d (.list (encs r))) [.lst [.int p'], .lst [.int b']] ∧ Dr deep b r b' := by
  intro n
  induction n with
  | zero =>
    intro deep hd k hk p b hb
    exact rw_run1 hT hP deep (by omega) k (by omega) (fun h => by omega) p b hb
  | succ n ih =>
    intro deep hd k hk p b hb
    exact rw_run1 hT hP deep (by omega) k (by omega) (fun h p b hb => ih (deep + 1) (by omega) (k - 1) (by omega) p b hb) p b hb
end
end M
end HB
/-! The law of rows seen from behind. -/
namespace HB
namespace M
open PySem PySem.W
structure HasPot (P : List Def) : Prop where
  cell : Fd P "_law_cell_at" G.d__law_cell_at
  pot : Fd P "_law_pot" G.d__law_pot
  take : Fd P "_law_take" G.d__law_take
  row : Fd P "_law_row" G.d__law_row
  written : Fd P "_law_written" G.d__law_written
  shelf : Fd P "_law_shelf" G.d__law_shelf
section
variable {P : List Def} {X : Ext} {k : Nat}
theorem sh_run (hL : HasPot P) {p : Int} : ∃ r p', runF P X (k + 10) "_law_shelf" [.h 0, .d (.int 16), .d (.int 6)] [.lst [.int p]] = .ok (.d (.str (S (wrs r)))) [.lst [.int p']] ∧ Shf r := by
  obtain ⟨r, p', b', e, dr⟩ := rw_run (X := X) hL.take hL.row 3 0 rfl (k + 9) (by omega) p 16 (by omega)
  have hs : Shf r := ⟨dr.gd, dr.sm, dr.row, by have := dr.sz; have := dr.pos; omega, by have := dr.dep; omega⟩
  refine ⟨r, p', ?_, hs⟩
  have hw := wn_run (X := X) hL.written (k + 9) r (by have := hs.dep; omega) (by have := wrs_sz r; have := hs.sz; omega)
  rw [run_def hL.shelf rfl]
  have he : exB (runF P X (k + 9)) G.d__law_shelf.body ([W.h 0, .d (PyData.int 16), .d (PyData.int 6)].map some ++ List.replicate (G.d__law_shelf.slots.length - 3) none) [.lst [.int p]] = .ret (.d (.str (S (wrs r)))) [.lst [.int p'], .lst [.int b']] := by
    have e0 : (([W.h 0, .d (PyData.int 16), .d (PyData.int 6)].map some ++ List.replicate (G.d__law_shelf.slots.length - 3) none) : Env) = [some (.h 0), some (.d (.int 16)), some (.d (.int 6))] := rfl
    have v0 : ∀ s, evE (runF P X (k + 9)) (.var 0) [some (.h 0), some (.d (.int 16)), some (.d (.int 6))] s = .ok (.h 0) s := fun s => by rw [e_var]; rfl
    have v1 : ∀ s, evE (runF P X (k + 9)) (.var 1) [some (.h 0), some (.d (.int 16)), some (.d (.int 6))] s = .ok (.d (.int 16)) s := fun s => by rw [e_var]; rfl
    have v2 : ∀ s, evE (runF P X (k + 9)) (.var 2) [some (.h 0), some (.d (.int 16)), some (.d (.int 6))] s = .ok (.d (.int 6)) s := fun s => by rw [e_var]; rfl
    rw [e0, show G.d__law_shelf.body = [.ret (.call "_law_written" [.call "_law_row" [.var 0, .new (.lst [.var 1]), .lit (.int 0), .var 2]])] from rfl, b_cons, s_ret, e_call, es_cons, e_call, es_cons, v0, HB.R.bind_ok, es_cons, e_new, n_lst, d_cons, v1, HB.R.bind_ok, toD_d, d_nil, HB.R.bind_ok, HB.R.bind_ok, if_pos (by show 1 ≤ maxLen; unfold maxLen; omega), alloc_ok, HB.R.bind_ok, es_cons, e_lit, HB.R.bind_ok, es_cons, v2, HB.R.bind_ok, es_nil, HB.R.bind_ok, HB.R.bind_ok, HB.R.bind_ok, HB.R.bind_ok, HB.R.bind_ok]
    have cr : callIn (runF P X (k + 9)) "_law_row" [.h 0, .h ([Cell.lst [PyData.int p]] : Sto).length, .d (.int 0), .d (.int 6)] ([Cell.lst [PyData.int p]] ++ [Cell.lst [.int 16]]) = .ok (.d (.list (encs r))) [.lst [.int p'], .lst [.int b']] := by
      have e' : runF P X (k + 9) "_law_row" [.h 0, .h 1, .d (.int 0), .d (.int 6)] [.lst [.int p], .lst [.int 16]] = .ok (.d (.list (encs r))) [.lst [.int p'], .lst [.int b']] := e
      simp [callIn, gath, cellsAt, e', scat]
    rw [cr, HB.R.bind_ok, es_nil, HB.R.bind_ok, HB.R.bind_ok, call1 hw]
    rfl
  rw [show [W.h 0, .d (PyData.int 16), .d (PyData.int 6)].length = 3 from rfl, he]
  rfl
theorem list3_len (a b c : Str) : (listText [a, b, c]).length = a.length + b.length + c.length + 6 := by
  have ap : ∀ x y : Str, (x ++ y).length = x.length + y.length := fun x y => by
    show (Str.append x y).length = _
    simp [Str.append, Str.length]
  simp only [listText, textFrom, ap]
  have h1 : (("[" : Str)).length = 1 := by decide +kernel
  have h2 : ((("" : String) : Str)).length = 0 := by decide +kernel
  have h3 : (((", " : String) : Str)).length = 2 := by decide +kernel
  have h4 : (("]" : Str)).length = 1 := by decide +kernel
  simp [h1, h2, h3, h4]
  omega
mutual
theorem wr_sm : ∀ t : Th, gd t → ∀ c ∈ wr t, c < 128
  | .c n, g, c, h => by
    rw [wr] at h
    simp at h
    subst h
    rcases g with h | h | h | h | h | h <;> omega
  | .b k r, g, c, h => by
    rw [wr] at h
    simp at h
    rcases h with h | h | h
    · subst h; cases k <;> simp [opn]
    · exact wrs_sm r g c h
    · subst h; cases k <;> simp [cls]
theorem wrs_sm : ∀ r : List Th, gds r → ∀ c ∈ wrs r, c < 128
  | [], _, c, h => by simp [wrs] at h
  | t :: r, g, c, h => by
    rw [wrs] at h
    simp at h
    rcases h with h | h
    · exact wr_sm t g.1 c h
    · exact wrs_sm r g.2 c h
end
theorem repr_len {l : List Nat} (h : ∀ c ∈ l, c < 128) (hl : l.length ≤ 1000) : (reprText (S l)).length ≤ 10002 := by
  have := StrLaws.reprText_len (S l) (fun c hc => by
    have := h c hc
    have e : (16 : Nat) ^ 8 = 4294967296 := by decide
    omega)
  have e1 := S_len l
  have e2 : (reprText (S l)).length = (reprText (S l)).cps.toList.length := by simp [Str.length]
  have e3 : (reprText (S l)).cps.toList.length ≤ 10 * (S l).length + 2 := this
  rw [e2]
  omega
theorem repr3 {a b c : List Nat} (ha : (∀ x ∈ a, x < 128) ∧ a.length ≤ 1000) (hb : (∀ x ∈ b, x < 128) ∧ b.length ≤ 1000) (hc : (∀ x ∈ c, x < 128) ∧ c.length ≤ 1000) :
    ∃ z : Str, prim .repr [.list [.str (S a), .str (S b), .str (S c)]] = some (.str z) := by
  have h1 := repr_len ha.1 ha.2
  have h2 := repr_len hb.1 hb.2
  have h3 := repr_len hc.1 hc.2
  have e : (PyData.list [.str (S a), .str (S b), .str (S c)]).shown = listText [reprText (S a), reprText (S b), reprText (S c)] := by
    simp only [PyData.shown, PyData.shownAll]
  refine ⟨(PyData.list [.str (S a), .str (S b), .str (S c)]).shown, ?_⟩
  have hl : (PyData.list [.str (S a), .str (S b), .str (S c)]).shown.length ≤ maxLen := by
    rw [e, list3_len]; unfold maxLen; omega
  have hd : (PyData.list [.str (S a), .str (S b), .str (S c)]).depth ≤ 60 := by simp [PyData.depth, PyData.depthAll]
  have hp : (PyData.list [.str (S a), .str (S b), .str (S c)]).plain = true := rfl
  have hs : (PyData.list [.str (S a), .str (S b), .str (S c)]).showable = true := rfl
  simp only [prim, hp, hs, decide_eq_true hd, decide_eq_true hl, Bool.and_true, if_true]
theorem ne_self (z : Str) : cmp2 .ne (.str z) (.str z) = some false := by
  obtain ⟨⟨l⟩⟩ := z
  have := eq_ss l l
  simpa using this
end
theorem bks_length : ∀ r : List Th, (bks r).length = r.length
  | [] => rfl
  | t :: r => by rw [bks, List.length_append, bks_length r]; rfl
mutual
theorem bk_facts : ∀ t : Th, dep (bk t) = dep t ∧ sz (bk t) = sz t ∧ (sm t → sm (bk t))
  | .c n => ⟨rfl, rfl, fun _ => trivial⟩
  | .b b r => by
    obtain ⟨h1, h2, h3⟩ := bks_facts r
    refine ⟨by rw [bk, dep, dep, h1], by rw [bk, sz, sz, h2], fun h => ⟨by rw [bks_length]; exact h.1, h3 h.2⟩⟩
theorem bks_facts : ∀ r : List Th, deps (bks r) = deps r ∧ szs (bks r) = szs r ∧ (sms r → sms (bks r))
  | [] => ⟨rfl, rfl, fun _ => trivial⟩
  | t :: r => by
    obtain ⟨h1, h2, h3⟩ := bk_facts t
    obtain ⟨g1, g2, g3⟩ := bks_facts r
    refine ⟨?_, ?_, fun h => ?_⟩
    · rw [bks, deps_app, g1, deps, deps, deps, h1]; omega
    · rw [bks, szs_app, g2, szs, szs, szs, h2]; omega
    · rw [bks]; exact sms_app (g3 h.2) ⟨h3 h.1, trivial⟩
end
theorem shf_bks {r : List Th} (h : Shf r) : Shf (bks r) := by
  obtain ⟨h1, h2, h3⟩ := bks_facts r
  exact ⟨gds_bks r h.gd, h3 h.sm, by rw [bks_length]; exact h.row, by rw [h2]; exact h.sz, by rw [h1]; exact h.dep⟩
theorem callH2 {c : Calls} {f : Str} {i : Nat} {xs ys : List PyData} {a b v : PyData} {s : Sto} (h : s[i]? = some (.lst xs)) (q : c f [.h 0, .d a, .d b] [.lst xs] = .ok (.d v) [.lst ys]) : callIn c f [.h i, .d a, .d b] s = .ok (.d v) (s.set i (.lst ys)) := by
  simp [callIn, gath, h, cellsAt, q, scat]
theorem callNew {c : Calls} {f : Str} {xs : List PyData} {a : PyData} {s : Sto} (q : c f [.d a] [] = .ok (.h 0) [.lst xs]) : callIn c f [.d a] s = .ok (.h s.length) (s ++ [.lst xs]) := by
  simp [callIn, gath, cellsAt, q, scat]
end M
end HB
namespace HB
namespace G
open PySem PySem.W
def d_is_open : Def := ⟨"is_open", 1, ["thing"], false, [
  .ret (.cmp .eq (.idx (.var 0) (.lit (.int 0))) (.glb "OPEN" (.str "(")))]⟩
def d_is_whole : Def := ⟨"is_whole", 1, ["thing"], false, [
  .ret (.and (.prim (.isinst ["int"]) [.var 0]) (.not (.prim (.isinst ["bool"]) [.var 0])))]⟩
def d_is_path : Def := ⟨"is_path", 1, ["thing", "place"], false, [
  .ret (.and (.prim (.isinst ["tuple"]) [.var 0]) (.prim .all [.frs (.lc [1] (.and (.call "is_whole" [.var 1]) (.cmp .ge (.var 1) (.lit (.int 0)))) (.name 1) (.each (.var 0)) none)]))]⟩
def d_box_by : Def := ⟨"box_by", 2, ["shelf", "path", "place", "row", "found", "things"], false, [
  .par [.name 3, .name 4] [.var 0, .lit (.none)],
  .for_ (.name 2) (.each (.var 1)) [.asg (.name 5) (.call "things_in" [.var 3]), .ite (.or (.cmp .ge (.var 2) (.prim .len [.var 5])) (.not (.call "is_box" [.idx (.var 5) (.var 2)]))) [.ret (.lit (.none))] [], .asg (.name 4) (.idx (.var 5) (.var 2)), .asg (.name 3) (.call "inner" [.var 4])],
  .ret (.var 4)]⟩
def d_row_by : Def := ⟨"row_by", 2, ["shelf", "path", "box"], false, [
  .ite (.cmp .eq (.var 1) (.tup [])) [.ret (.var 0)] [],
  .asg (.name 2) (.call "box_by" [.var 0, .var 1]),
  .ret (.ife (.isN false (.var 2)) (.lit (.none)) (.call "inner" [.var 2]))]⟩
def d_with_box : Def := ⟨"with_box", 3, ["shelf", "path", "box", "things", "place"], false, [
  .par [.name 3, .name 4] [.new (.prm .list [.call "things_in" [.var 0]]), .idx (.var 1) (.lit (.int 0))],
  .ite (.cmp .eq (.prim .len [.var 1]) (.lit (.int 1))) [.asg (.ix (.var 3) (.var 4)) (.var 2)] [.asg (.ix (.var 3) (.var 4)) (.call "with_inner" [.idx (.var 3) (.var 4), .call "with_box" [.call "inner" [.idx (.var 3) (.var 4)], .slc (.var 1) (some (.lit (.int 1))) none, .var 2]])],
  .ret (.mth .join "str" (.lit (.str "")) [.var 3])]⟩
def d_with_row : Def := ⟨"with_row", 3, ["shelf", "path", "row"], false, [
  .ret (.ife (.cmp .eq (.var 1) (.tup [])) (.var 2) (.call "with_box" [.var 0, .var 1, .call "with_inner" [.call "box_by" [.var 0, .var 1], .var 2]]))]⟩
def d_paths_in : Def := ⟨"paths_in", 2, ["row", "path", "found", "place", "thing"], false, [
  .asg (.name 2) (.new (.lst [.var 1])),
  .for_ (.tup [.name 3, .name 4]) (.enum (.call "things_in" [.var 0])) [.ite (.call "is_open" [.var 4]) [.exp (.mth .extend "list" (.var 2) [.call "paths_in" [.call "inner" [.var 4], .bin .add (.var 1) (.tup [.var 3])]])] []],
  .ret (.var 2)]⟩
def d_turns_of : Def := ⟨"turns_of", 1, ["shelf", "found", "path", "place"], false, [
  .exp (.call "need_shelf" [.var 0]),
  .asg (.name 1) (.new (.lst [])),
  .for_ (.name 2) (.each (.call "paths_in" [.var 0, .tup []])) [.exp (.mth .extend "list" (.var 1) [.frs (.lc [3] (.tup [.var 2, .var 3]) (.name 3) (.range1 (.bin .sub (.prim .len [.call "things_in" [.call "row_by" [.var 0, .var 2]]]) (.lit (.int 1)))) none)])],
  .ret (.prim .tuple [.frs (.prm .sorted [.var 1])])]⟩
def d_free_row : Def := ⟨"free_row", 2, ["shelf", "path", "many", "box"], false, [
  .for_ (.name 2) (.range2 (.lit (.int 1)) (.bin .add (.prim .len [.var 1]) (.lit (.int 1)))) [.asg (.name 3) (.call "box_by" [.var 0, .slc (.var 1) none (some (.var 2))]), .ite (.or (.isN false (.var 3)) (.not (.call "is_open" [.var 3]))) [.ret (.lit (.none))] []],
  .ret (.call "row_by" [.var 0, .var 1])]⟩
def d_can_turn : Def := ⟨"can_turn", 2, ["shelf", "thing", "row"], false, [
  .ite (.or (.not (.prim (.isinst ["tuple"]) [.var 1])) (.or (.cmp .ne (.prim .len [.var 1]) (.lit (.int 2))) (.or (.not (.call "is_path" [.idx (.var 1) (.lit (.int 0))])) (.not (.call "is_whole" [.idx (.var 1) (.lit (.int 1))]))))) [.ret (.lit (.bool false))] [],
  .asg (.name 2) (.call "free_row" [.var 0, .idx (.var 1) (.lit (.int 0))]),
  .ret (.and (.isN true (.var 2)) (.chain .le .lt (.lit (.int 0)) (.idx (.var 1) (.lit (.int 1))) (.bin .sub (.prim .len [.call "things_in" [.var 2]]) (.lit (.int 1)))))]⟩
def d_turned_by : Def := ⟨"turned_by", 2, ["shelf", "turn", "things", "path", "place"], false, [
  .asg (.tup [.name 3, .name 4]) (.var 1),
  .asg (.name 2) (.new (.prm .list [.call "things_in" [.call "row_by" [.var 0, .var 3]]])),
  .asg (.sl (.var 2) (some (.var 4)) (some (.bin .add (.var 4) (.lit (.int 2))))) (.new (.lst [.call "behind_thing" [.idx (.var 2) (.bin .add (.var 4) (.lit (.int 1)))], .call "behind_thing" [.idx (.var 2) (.var 4)]])),
  .ret (.call "with_row" [.var 0, .var 3, .mth .join "str" (.lit (.str "")) [.var 2]])]⟩
def d_turned : Def := ⟨"turned", 2, ["shelf", "turn"], false, [
  .exp (.call "need_shelf" [.var 0]),
  .ite (.not (.call "can_turn" [.var 0, .var 1])) [.raise_ "NoTurn" []] [],
  .ret (.call "turned_by" [.var 0, .var 1])]⟩
def d_behind_by : Def := ⟨"behind_by", 2, ["shelf", "thing", "turn"], false, [
  .ite (.not (.prim (.isinst ["tuple"]) [.var 1])) [.ret (.lit (.none))] [],
  .for_ (.name 2) (.each (.var 1)) [.ite (.not (.call "can_turn" [.var 0, .var 2])) [.ret (.lit (.none))] [], .asg (.name 0) (.call "turned_by" [.var 0, .var 2])],
  .ret (.var 0)]⟩
def d_need_turns : Def := ⟨"need_turns", 2, ["shelf", "thing"], false, [
  .exp (.call "need_shelf" [.var 0]),
  .ite (.isN false (.call "behind_by" [.var 0, .var 1])) [.raise_ "NoTurns" []] []]⟩
def d_behind : Def := ⟨"behind", 2, ["shelf", "turns"], false, [
  .exp (.call "need_turns" [.var 0, .var 1]),
  .ret (.call "behind_by" [.var 0, .var 1])]⟩
def d_are_turns : Def := ⟨"are_turns", 2, ["shelf", "thing"], false, [
  .exp (.call "need_shelf" [.var 0]),
  .ret (.isN true (.call "behind_by" [.var 0, .var 1]))]⟩
end G
end HB
/-! The run by one tactic; boxes at paths. -/
namespace HB
namespace M
open PySem PySem.W
theorem getI0 {α : Type} (a : α) (l : List α) : (a :: l)[0]? = some a := rfl
theorem out_ret {x : D} {s : Sto} : chkR 0 (outF false 0 (.ret (.d x) s)) = .ok (.d x) [] := out_d
section
variable {P : List Def} {X : Ext} {k : Nat}
def isO : Th → Bool
  | .b true _ => true
  | _ => false
theorem eq_ss' (a b : List Nat) : cmp2 .eq (.str (S a)) (.str (S b)) = some (decide (a = b)) := by
  simp [cmp2, PyData.plain, PyData.depth, PyData.eqv]
  try (rw [Bool.eq_iff_iff]; simp)
theorem wr_hd (t : Th) : ∃ c l, wr t = c :: l ∧ (gd t → decide ([c] = [40]) = isO t) := by
  cases t with
  | c n => exact ⟨n, [], rfl, fun g => by rcases g with h | h | h | h | h | h <;> subst h <;> rfl⟩
  | b b r => exact ⟨opn b, wrs r ++ [cls b], by rw [wr], fun _ => by cases b <;> rfl⟩
theorem io_run (hP : Fd P "is_open" G.d_is_open) {t : Th} (g : gd t) (hl : (wr t).length ≤ maxLen) : runF P X (k + 1) "is_open" [.d (.str (S (wr t)))] [] = .ok (.d (.bool (isO t))) [] := by
  obtain ⟨c, l, e, h⟩ := wr_hd t
  rw [run_def hP rfl]
  have h0 : idx2 (.str (S (wr t))) (.int 0) = some (.str (S [c])) := by rw [e]; exact idx0 (by rw [← e]; exact hl)
  simp only [e_lit, e_glb, e_var, e_bin, e_neg, e_cmp, e_isN, e_and, e_or, e_not, e_ife, e_tup, e_idx, e_slc, e_rev, e_call, e_prim, e_mth, e_dlk, e_gin, e_git, e_frs, e_new, es_nil, es_cons, d_nil, d_cons, p_none, p_some, n_lst, n_slc, c_none, c_some, i_each, t_name, t_ix, ts_nil, ts_cons, s_asg, s_par, s_aug, s_augIx, s_exp, s_ite, s_ret, s_raise, s_nop, b_nil, b_cons, ev_T, peek_d, rd1_d, rd2_d, tst_b, toD_d, frz_d, map1_some, of_none, peeks_nil, rds_1, rds_2, noEx_ok', idxR_d, alloc_ok, src_ok_nil, HB.R.bind_ok, HB.R.toO_ok, HB.O.bind_nx, HB.O.bind_ret, HB.R.of_some, int1_i, neg_i, List.map_cons, List.map_nil, List.cons_append, List.nil_append, List.getElem?_cons_succ, List.getElem?_cons_zero, List.length_cons, List.length_nil, List.set_cons_succ, List.set_cons_zero, List.replicate, Nat.reduceAdd, Nat.reduceSub, Nat.reduceLT, if_true, if_false, ite_true, ite_false, Bool.false_eq_true, reduceIte, Bool.not_true, Bool.not_false, out_ret, Option.map_some, Option.map_none, decide_true, decide_false, G.d_is_open, h0, s_po, eq_ss', h g]

/-! ### boxes at paths -/
/-- a path -/
def pD (ps : List Nat) : D := .tuple (ps.map fun n => .int (n : Nat))
def oD : Option Th → D
  | none => .none
  | some t => .str (S (wr t))
/-- the walk to a box: none where it ends early -/
def bxL : List Th → List Nat → Option Th → Option (Option Th)
  | _, [], f => some f
  | r, p :: ps, _ => match r[p]? with
    | some (.b b r') => bxL r' ps (some (.b b r'))
    | _ => none
def boxAt (r : List Th) (ps : List Nat) : Option Th := (bxL r ps none).join
theorem len_t (xs : List D) : prim .len [.tuple xs] = some (.int xs.length) := rfl
theorem thD_len (r : List Th) : (thD r).length = r.length := by simp [thD]
theorem atI_nat {α : Type} (xs : List α) (p : Nat) : L2.atI xs (p : Int) = xs[p]? := by
  unfold L2.atI L2.ixN
  rw [if_pos (by omega)]
  by_cases h : p < xs.length
  · rw [if_pos (by omega)]
    simp
  · rw [if_neg (by omega)]
    simp at h
    simp [List.getElem?_eq_none h]
theorem idx_th {r : List Th} {p : Nat} {t : Th} (h : r[p]? = some t) : idx2 (.tuple (thD r)) (.int (p : Nat)) = some (.str (S (wr t))) := by
  show L2.atI (thD r) (p : Int) = _
  rw [atI_nat]
  simp [thD, h]
theorem gd_at {r : List Th} {p : Nat} {t : Th} (g : gds r) (h : r[p]? = some t) : gd t ∧ dep t ≤ deps r ∧ (wr t).length ≤ (wrs r).length := mem_facts r t (List.mem_of_getElem? h) g
theorem wr_b (b : Bool) (r : List Th) : (wr (.b b r)).length = (wrs r).length + 2 := by rw [wr]; simp
def bbB : List St := match G.d_box_by.body with
  | [_, .for_ _ _ b, _] => b
  | _ => []
theorem bbB_eq : bbB = [.asg (.name 5) (.call "things_in" [.var 3]), .ite (.or (.cmp .ge (.var 2) (.prim .len [.var 5])) (.not (.call "is_box" [.idx (.var 5) (.var 2)]))) [.ret (.lit (.none))] [], .asg (.name 4) (.idx (.var 5) (.var 2)), .asg (.name 3) (.call "inner" [.var 4])] := rfl
def bbE (sh ps : D) (pl : Option W) (row found : D) (th : Option W) : Env := [some (.d sh), some (.d ps), pl, some (.d row), some (.d found), th]
def bbL (C : Calls) (ps : List Nat) (e : Env) : O := forL (fun s => Src.ok s []) (fun x e s => (noEx (asT C (.name 2) (.d x) e s)).toO e fun e s => exB C bbB e s) (ps.map fun n => .int (n : Nat)) e []
theorem bb_turn (hS : HasSh P) {C : Calls} (hC : C = runF P X (k + 2)) {r : List Th} (g : gds r) (hl : (wrs r).length ≤ 1000) {p : Nat} {sh pd fo : D} {pl th : Option W} :
    (noEx (asT C (.name 2) (.d (.int (p : Nat))) (bbE sh pd pl (.str (S (wrs r))) fo th) [])).toO (bbE sh pd pl (.str (S (wrs r))) fo th) (fun e s => exB C bbB e s) =
      match r[p]? with
      | some (.b b r') => .nx (bbE sh pd (some (.d (.int (p : Nat)))) (.str (S (wrs r'))) (.str (S (wr (.b b r')))) (some (.d (.tuple (thD r))))) []
      | _ => .ret (.d .none) [] := by
  have ht : callIn C "things_in" [.d (.str (S (wrs r)))] [] = .ok (.d (.tuple (thD r))) [] := by rw [hC]; exact call1 (ti_run hS.things_in hS.end_of hl g)
  have hm : maxLen = 1000000 := rfl
  cases h : r[p]? with
  | none =>
    have hge : decide (((thD r).length : Int) ≤ (p : Nat)) = true := by
      rw [thD_len]
      have := List.getElem?_eq_none_iff.mp h
      exact decide_eq_true (by omega)
    simp only [e_lit, e_glb, e_var, e_bin, e_neg, e_cmp, e_isN, e_and, e_or, e_not, e_ife, e_tup, e_idx, e_slc, e_rev, e_call, e_prim, e_mth, e_dlk, e_gin, e_git, e_frs, e_new, es_nil, es_cons, d_nil, d_cons, p_none, p_some, n_lst, n_slc, c_none, c_some, i_each, t_name, t_ix, ts_nil, ts_cons, s_asg, s_par, s_aug, s_augIx, s_exp, s_ite, s_ret, s_raise, s_nop, b_nil, b_cons, ev_T, peek_d, rd1_d, rd2_d, tst_b, toD_d, frz_d, map1_some, of_none, peeks_nil, rds_1, rds_2, noEx_ok', idxR_d, alloc_ok, src_ok_nil, HB.R.bind_ok, HB.R.toO_ok, HB.O.bind_nx, HB.O.bind_ret, HB.R.of_some, int1_i, neg_i, List.map_cons, List.map_nil, List.cons_append, List.nil_append, List.getElem?_cons_succ, List.getElem?_cons_zero, List.length_cons, List.length_nil, List.set_cons_succ, List.set_cons_zero, List.replicate, Nat.reduceAdd, Nat.reduceSub, Nat.reduceLT, if_true, if_false, ite_true, ite_false, Bool.false_eq_true, reduceIte, Bool.not_true, Bool.not_false, out_ret, Option.map_some, Option.map_none, decide_true, decide_false, bbE, bbB_eq, ht, len_t, ge_ii, hge]
  | some t =>
    have hlt : decide (((thD r).length : Int) ≤ (p : Nat)) = false := by
      rw [thD_len]
      obtain ⟨q, _⟩ := List.getElem?_eq_some_iff.mp h
      exact decide_eq_false (by omega)
    obtain ⟨g1, g2, g3⟩ := gd_at g h
    have hb : callIn C "is_box" [.d (.str (S (wr t)))] [] = .ok (.d (.bool (isB t))) [] := by rw [hC]; exact call1 (ib_run hS.is_box g1 (by omega))
    cases t with
    | c n => simp only [e_lit, e_glb, e_var, e_bin, e_neg, e_cmp, e_isN, e_and, e_or, e_not, e_ife, e_tup, e_idx, e_slc, e_rev, e_call, e_prim, e_mth, e_dlk, e_gin, e_git, e_frs, e_new, es_nil, es_cons, d_nil, d_cons, p_none, p_some, n_lst, n_slc, c_none, c_some, i_each, t_name, t_ix, ts_nil, ts_cons, s_asg, s_par, s_aug, s_augIx, s_exp, s_ite, s_ret, s_raise, s_nop, b_nil, b_cons, ev_T, peek_d, rd1_d, rd2_d, tst_b, toD_d, frz_d, map1_some, of_none, peeks_nil, rds_1, rds_2, noEx_ok', idxR_d, alloc_ok, src_ok_nil, HB.R.bind_ok, HB.R.toO_ok, HB.O.bind_nx, HB.O.bind_ret, HB.R.of_some, int1_i, neg_i, List.map_cons, List.map_nil, List.cons_append, List.nil_append, List.getElem?_cons_succ, List.getElem?_cons_zero, List.length_cons, List.length_nil, List.set_cons_succ, List.set_cons_zero, List.replicate, Nat.reduceAdd, Nat.reduceSub, Nat.reduceLT, if_true, if_false, ite_true, ite_false, Bool.false_eq_true, reduceIte, Bool.not_true, Bool.not_false, out_ret, Option.map_some, Option.map_none, decide_true, decide_false, bbE, bbB_eq, ht, len_t, ge_ii, hlt, idx_th h, hb, isB]
    | b b r' =>
      have hi : callIn C "inner" [.d (.str (S (wr (.b b r'))))] [] = .ok (.d (.str (S (wrs r')))) [] := by rw [hC]; exact call1 (in_run hS.inner (by omega))
      simp only [e_lit, e_glb, e_var, e_bin, e_neg, e_cmp, e_isN, e_and, e_or, e_not, e_ife, e_tup, e_idx, e_slc, e_rev, e_call, e_prim, e_mth, e_dlk, e_gin, e_git, e_frs, e_new, es_nil, es_cons, d_nil, d_cons, p_none, p_some, n_lst, n_slc, c_none, c_some, i_each, t_name, t_ix, ts_nil, ts_cons, s_asg, s_par, s_aug, s_augIx, s_exp, s_ite, s_ret, s_raise, s_nop, b_nil, b_cons, ev_T, peek_d, rd1_d, rd2_d, tst_b, toD_d, frz_d, map1_some, of_none, peeks_nil, rds_1, rds_2, noEx_ok', idxR_d, alloc_ok, src_ok_nil, HB.R.bind_ok, HB.R.toO_ok, HB.O.bind_nx, HB.O.bind_ret, HB.R.of_some, int1_i, neg_i, List.map_cons, List.map_nil, List.cons_append, List.nil_append, List.getElem?_cons_succ, List.getElem?_cons_zero, List.length_cons, List.length_nil, List.set_cons_succ, List.set_cons_zero, List.replicate, Nat.reduceAdd, Nat.reduceSub, Nat.reduceLT, if_true, if_false, ite_true, ite_false, Bool.false_eq_true, reduceIte, Bool.not_true, Bool.not_false, out_ret, Option.map_some, Option.map_none, decide_true, decide_false, bbE, bbB_eq, ht, len_t, ge_ii, hlt, idx_th h, hb, isB, hi]
theorem bb_loop (hS : HasSh P) {C : Calls} (hC : C = runF P X (k + 2)) {sh pd : D} : ∀ (ps : List Nat) (r : List Th) (f : Option Th) (pl th : Option W), gds r → (wrs r).length ≤ 1000 →
    ∃ pl' row' th', bbL C ps (bbE sh pd pl (.str (S (wrs r))) (oD f) th) = match bxL r ps f with
      | none => .ret (.d .none) []
      | some f' => .nx (bbE sh pd pl' row' (oD f') th') []
  | [], r, f, pl, th, g, hl => ⟨pl, _, th, by unfold bbL; exact for_nil rfl⟩
  | p :: ps, r, f, pl, th, g, hl => by
    have ht := bb_turn hS hC g hl (p := p) (sh := sh) (pd := pd) (fo := oD f) (pl := pl) (th := th)
    have stop : (∀ b r', r[p]? ≠ some (.b b r')) → ∃ pl' row' th', bbL C (p :: ps) (bbE sh pd pl (.str (S (wrs r))) (oD f) th) = match bxL r (p :: ps) f with
      | none => .ret (.d .none) []
      | some f' => .nx (bbE sh pd pl' row' (oD f') th') [] := fun hn => by
      refine ⟨none, .none, none, ?_⟩
      have e1 : bxL r (p :: ps) f = none := by
        rw [bxL]
        split
        · rename_i b r' h; exact absurd h (hn b r')
        · rfl
      rw [e1]
      unfold bbL
      exact for_ret rfl (by
        rw [ht]
        split
        · rename_i b r' h; exact absurd h (hn b r')
        · rfl)
    cases h : r[p]? with
    | none => exact stop fun b r' q => by rw [h] at q; cases q
    | some t =>
      cases t with
      | c n => exact stop fun b r' q => by rw [h] at q; cases q
      | b b r' =>
        obtain ⟨g1, g2, g3⟩ := gd_at g h
        have := wr_b b r'
        obtain ⟨pl', row', th', e⟩ := bb_loop hS hC ps r' (some (.b b r')) (some (.d (.int (p : Nat)))) (some (.d (.tuple (thD r)))) g1 (by omega)
        refine ⟨pl', row', th', ?_⟩
        rw [h] at ht
        have e1 : bxL r (p :: ps) f = bxL r' ps (some (.b b r')) := by rw [bxL, h]
        rw [e1, ← e]
        unfold bbL
        exact for_cons rfl ht
theorem bb_run (hS : HasSh P) (hB : Fd P "box_by" G.d_box_by) {r : List Th} {ps : List Nat} (g : gds r) (hl : (wrs r).length ≤ 1000) :
    runF P X (k + 3) "box_by" [.d (.str (S (wrs r))), .d (pD ps)] [] = .ok (.d (oD (boxAt r ps))) [] := by
  rw [run_def hB rfl]
  obtain ⟨C, hC⟩ : ∃ C, C = runF P X (k + 2) := ⟨_, rfl⟩
  obtain ⟨pl', row', th', e⟩ := bb_loop hS hC (sh := .str (S (wrs r))) (pd := pD ps) ps r none none none g hl
  have hs : srcS [] (.d (pD ps)) = some ⟨[], ps.map fun n => .int (n : Nat)⟩ := rfl
  have hi : evI C (.each (.var 1)) (bbE (.str (S (wrs r))) (pD ps) none (.str (S (wrs r))) (oD none) none) [] = .ok ⟨[], ps.map fun n => .int (n : Nat)⟩ [] := by simp only [e_lit, e_glb, e_var, e_bin, e_neg, e_cmp, e_isN, e_and, e_or, e_not, e_ife, e_tup, e_idx, e_slc, e_rev, e_call, e_prim, e_mth, e_dlk, e_gin, e_git, e_frs, e_new, es_nil, es_cons, d_nil, d_cons, p_none, p_some, n_lst, n_slc, c_none, c_some, i_each, t_name, t_ix, ts_nil, ts_cons, s_asg, s_par, s_aug, s_augIx, s_exp, s_ite, s_ret, s_raise, s_nop, b_nil, b_cons, ev_T, peek_d, rd1_d, rd2_d, tst_b, toD_d, frz_d, map1_some, of_none, peeks_nil, rds_1, rds_2, noEx_ok', idxR_d, alloc_ok, src_ok_nil, HB.R.bind_ok, HB.R.toO_ok, HB.O.bind_nx, HB.O.bind_ret, HB.R.of_some, int1_i, neg_i, List.map_cons, List.map_nil, List.cons_append, List.nil_append, List.getElem?_cons_succ, List.getElem?_cons_zero, List.length_cons, List.length_nil, List.set_cons_succ, List.set_cons_zero, List.replicate, Nat.reduceAdd, Nat.reduceSub, Nat.reduceLT, if_true, if_false, ite_true, ite_false, Bool.false_eq_true, reduceIte, Bool.not_true, Bool.not_false, out_ret, Option.map_some, Option.map_none, decide_true, decide_false, bbE, hs]
  have hf : exS C (.for_ (.name 2) (.each (.var 1)) bbB) (bbE (.str (S (wrs r))) (pD ps) none (.str (S (wrs r))) (oD none) none) [] = match bxL r ps none with
      | none => .ret (.d .none) []
      | some f' => .nx (bbE (.str (S (wrs r))) (pD ps) pl' row' (oD f') th') [] := by
    rw [s_for, hi, HB.R.toO_ok]; exact e
  rw [bbB_eq, bbE, show oD none = .none from rfl] at hf
  rw [← hC]
  simp only [e_lit, e_glb, e_var, e_bin, e_neg, e_cmp, e_isN, e_and, e_or, e_not, e_ife, e_tup, e_idx, e_slc, e_rev, e_call, e_prim, e_mth, e_dlk, e_gin, e_git, e_frs, e_new, es_nil, es_cons, d_nil, d_cons, p_none, p_some, n_lst, n_slc, c_none, c_some, i_each, t_name, t_ix, ts_nil, ts_cons, s_asg, s_par, s_aug, s_augIx, s_exp, s_ite, s_ret, s_raise, s_nop, b_nil, b_cons, ev_T, peek_d, rd1_d, rd2_d, tst_b, toD_d, frz_d, map1_some, of_none, peeks_nil, rds_1, rds_2, noEx_ok', idxR_d, alloc_ok, src_ok_nil, HB.R.bind_ok, HB.R.toO_ok, HB.O.bind_nx, HB.O.bind_ret, HB.R.of_some, int1_i, neg_i, List.map_cons, List.map_nil, List.cons_append, List.nil_append, List.getElem?_cons_succ, List.getElem?_cons_zero, List.length_cons, List.length_nil, List.set_cons_succ, List.set_cons_zero, List.replicate, Nat.reduceAdd, Nat.reduceSub, Nat.reduceLT, if_true, if_false, ite_true, ite_false, Bool.false_eq_true, reduceIte, Bool.not_true, Bool.not_false, out_ret, Option.map_some, Option.map_none, decide_true, decide_false, G.d_box_by, hf]
  unfold boxAt
  cases bxL r ps none with
  | none => exact out_d
  | some f => exact out_d
end
end M
end HB
/-! Rows at paths, told and changed; a turn made. -/
namespace HB
namespace M
open PySem PySem.W
section
variable (c : Calls) (e : Env) (s : Sto)
theorem n_prm (p : PrimN) (es : List Ex) : evN c (.prm p es) e s = (evs c es e s).bind fun ws s => rds s ws fun ds => R.of s (small (primN p ds)) := by rw [evN]
theorem t_tup (ts : List Tg) (w : W) : asT c (.tup ts) w e s = match w with
    | .d (.tuple ds) => if ds.length = ts.length then asTs c ts (ds.map .d) e s else .bad
    | _ => .bad := by simp only [asT] <;> rfl
theorem t_sl (o : Ex) (lo hi : Option Ex) (w : W) : asT c (.sl o lo hi) w e s = (evE c o e s).bind fun o s => (evP c lo e s).bind fun l s => (evP c hi e s).bind fun h s => (setSl s o l h w).bind fun _ s => .ok e s := by rw [asT]
theorem e_chain (o o' : Cmp) (a b d : Ex) : evE c (.chain o o' a b d) e s = (evE c a e s).bind fun x s => (evE c b e s).bind fun y s => rd2 s x y fun u v => match cmp2 o u v with
    | some true => (evE c d e s).bind fun z s => rd2 s y z fun v w => R.map1 s ((cmp2 o' v w).map .bool)
    | some false => .ok (.d (.bool false)) s
    | none => .bad := by rw [evE] <;> rfl
end
theorem call3 {c : Calls} {f : Str} {a b d v : D} {s0 s : Sto} (h : c f [.d a, .d b, .d d] [] = .ok (.d v) s0) : callIn c f [.d a, .d b, .d d] s = .ok (.d v) s := by
  simp [callIn, gath, cellsAt, h, scat]
theorem ne_ii (a b : Int) : cmp2 .ne (.int a) (.int b) = some (!decide (a = b)) := by
  simp [cmp2, PyData.plain, PyData.depth, PyData.eqv]
  try (rw [Bool.eq_iff_iff]; simp)
theorem m0 : (0 ≤ maxLen) = True := by unfold maxLen; simp
theorem m1 : (1 ≤ maxLen) = True := by unfold maxLen; simp
theorem m2 : (2 ≤ maxLen) = True := by unfold maxLen; simp
theorem m3 : (3 ≤ maxLen) = True := by unfold maxLen; simp
theorem ty_tup (xs : List D) : prim (.isinst ["tuple"]) [.tuple xs] = some (.bool true) := rfl
theorem ty_int (n : Int) : prim (.isinst ["int"]) [.int n] = some (.bool true) := rfl
theorem ty_boo (n : Int) : prim (.isinst ["bool"]) [.int n] = some (.bool false) := rfl
theorem hasTy_s (x : Str) : hasTy (.str x) "str" = true := rfl
theorem hasTy_l (x : List D) : hasTy (.list x) "list" = true := rfl
theorem w_join : Mth.writes .join = false := rfl
theorem w_ext : Mth.writes .extend = true := rfl
theorem mw_app : Mth.writes .append = true := rfl
theorem plain_ints : ∀ ps : List Nat, PyData.plainAll (ps.map fun n => .int (n : Nat)) = true
  | [] => rfl
  | p :: ps => by show (true && PyData.plainAll (ps.map _)) = true; rw [plain_ints ps]; rfl
theorem eq_p (ps : List Nat) : cmp2 .eq (pD ps) (.tuple []) = some (decide (ps = [])) := by
  cases ps with
  | nil => rfl
  | cons p ps =>
    simp only [cmp2, pD, PyData.plain, plain_ints, PyData.plainAll, PyData.depth, PyData.depthAll]
    simp
    rfl
/-- the row at a path -/
def rwAt : List Th → List Nat → Option (List Th)
  | r, [] => some r
  | r, p :: ps => match r[p]? with
    | some (.b _ r') => rwAt r' ps
    | _ => none
def oR : Option (List Th) → D
  | none => .none
  | some r => .str (S (wrs r))
theorem bx_none : ∀ (ps : List Nat) (r : List Th) (f : Option Th), rwAt r ps = none → bxL r ps f = none
  | [], r, f, h => by cases h
  | p :: ps, r, f, h => by
    rw [rwAt] at h
    rw [bxL]
    split
    · rename_i b r' q; rw [q] at h; exact bx_none ps r' _ h
    · rfl
theorem bx_some : ∀ (ps : List Nat) (r : List Th) (f : Option Th) (r0 : List Th), rwAt r ps = some r0 → ps ≠ [] → ∃ b, bxL r ps f = some (some (.b b r0))
  | [], r, f, r0, h, hn => by cases hn rfl
  | p :: ps, r, f, r0, h, hn => by
    rw [rwAt] at h
    rw [bxL]
    split at h
    · rename_i b r' q
      try rw [q]
      cases ps with
      | nil => cases h; exact ⟨b, rfl⟩
      | cons q' ps' => exact bx_some (q' :: ps') r' _ r0 h (by simp)
    · cases h
theorem rw_facts : ∀ (ps : List Nat) (r r0 : List Th), gds r → rwAt r ps = some r0 → gds r0 ∧ (wrs r0).length + 2 * ps.length ≤ (wrs r).length ∧ deps r0 + ps.length ≤ deps r
  | [], r, r0, g, h => by cases h; exact ⟨g, by simp, by simp⟩
  | p :: ps, r, r0, g, h => by
    rw [rwAt] at h
    split at h
    · rename_i b r' q
      obtain ⟨g1, g2, g3⟩ := gd_at g q
      obtain ⟨a1, a2, a3⟩ := rw_facts ps r' r0 g1 h
      have := wr_b b r'
      rw [dep] at g2
      exact ⟨a1, by simp; omega, by simp; omega⟩
    · cases h
section
variable {P : List Def} {X : Ext} {k : Nat}
theorem rb_run (hS : HasSh P) (hB : Fd P "box_by" G.d_box_by) (hR : Fd P "row_by" G.d_row_by) {r : List Th} {ps : List Nat} (g : gds r) (hl : (wrs r).length ≤ 1000) :
    runF P X (k + 4) "row_by" [.d (.str (S (wrs r))), .d (pD ps)] [] = .ok (.d (oR (rwAt r ps))) [] := by
  rw [run_def hR rfl]
  obtain ⟨C, hC⟩ : ∃ C, C = runF P X (k + 3) := ⟨_, rfl⟩
  have hb : callIn C "box_by" [.d (.str (S (wrs r))), .d (pD ps)] [] = .ok (.d (oD (boxAt r ps))) [] := by rw [hC]; exact call2 (bb_run hS hB g hl)
  rw [← hC]
  cases ps with
  | nil =>
    have e := eq_p []
    simp only [e_lit, e_glb, e_var, e_bin, e_neg, e_cmp, e_isN, e_and, e_or, e_not, e_ife, e_tup, e_idx, e_slc, e_rev, e_call, e_prim, e_mth, e_dlk, e_gin, e_git, e_frs, e_new, es_nil, es_cons, d_nil, d_cons, p_none, p_some, n_lst, n_slc, c_none, c_some, i_each, t_name, t_ix, ts_nil, ts_cons, s_asg, s_par, s_aug, s_augIx, s_exp, s_ite, s_ret, s_raise, s_nop, b_nil, b_cons, ev_T, peek_d, rd1_d, rd2_d, tst_b, toD_d, frz_d, map1_some, of_none, peeks_nil, rds_1, rds_2, noEx_ok', idxR_d, alloc_ok, src_ok_nil, HB.R.bind_ok, HB.R.toO_ok, HB.O.bind_nx, HB.O.bind_ret, HB.R.of_some, int1_i, neg_i, List.map_cons, List.map_nil, List.cons_append, List.nil_append, List.getElem?_cons_succ, List.getElem?_cons_zero, List.length_cons, List.length_nil, List.set_cons_succ, List.set_cons_zero, List.replicate, Nat.reduceAdd, Nat.reduceSub, Nat.reduceLT, if_true, if_false, ite_true, ite_false, Bool.false_eq_true, reduceIte, Bool.not_true, Bool.not_false, out_ret, Option.map_some, Option.map_none, decide_true, decide_false, G.d_row_by, e, decide_true, m0]
    rfl
  | cons p ps =>
    have e := eq_p (p :: ps)
    cases hw : rwAt r (p :: ps) with
    | none =>
      have hx : boxAt r (p :: ps) = none := by unfold boxAt; rw [bx_none _ _ _ hw]; rfl
      rw [hx] at hb
      simp only [e_lit, e_glb, e_var, e_bin, e_neg, e_cmp, e_isN, e_and, e_or, e_not, e_ife, e_tup, e_idx, e_slc, e_rev, e_call, e_prim, e_mth, e_dlk, e_gin, e_git, e_frs, e_new, es_nil, es_cons, d_nil, d_cons, p_none, p_some, n_lst, n_slc, c_none, c_some, i_each, t_name, t_ix, ts_nil, ts_cons, s_asg, s_par, s_aug, s_augIx, s_exp, s_ite, s_ret, s_raise, s_nop, b_nil, b_cons, ev_T, peek_d, rd1_d, rd2_d, tst_b, toD_d, frz_d, map1_some, of_none, peeks_nil, rds_1, rds_2, noEx_ok', idxR_d, alloc_ok, src_ok_nil, HB.R.bind_ok, HB.R.toO_ok, HB.O.bind_nx, HB.O.bind_ret, HB.R.of_some, int1_i, neg_i, List.map_cons, List.map_nil, List.cons_append, List.nil_append, List.getElem?_cons_succ, List.getElem?_cons_zero, List.length_cons, List.length_nil, List.set_cons_succ, List.set_cons_zero, List.replicate, Nat.reduceAdd, Nat.reduceSub, Nat.reduceLT, if_true, if_false, ite_true, ite_false, Bool.false_eq_true, reduceIte, Bool.not_true, Bool.not_false, out_ret, Option.map_some, Option.map_none, decide_true, decide_false, G.d_row_by, e, hb, reduceCtorEq, decide_false, m0, oD, oR]
    | some r0 =>
      obtain ⟨b, hx⟩ := bx_some _ _ none _ hw (by simp)
      have hx : boxAt r (p :: ps) = some (.b b r0) := by unfold boxAt; rw [hx]; rfl
      obtain ⟨f1, f2, f3⟩ := rw_facts _ _ _ g hw
      have hi : callIn C "inner" [.d (.str (S (wr (.b b r0))))] [] = .ok (.d (.str (S (wrs r0)))) [] := by
        rw [hC]; exact call1 (in_run hS.inner (by rw [wr_b]; simp at f2; unfold maxLen; omega))
      rw [hx] at hb
      simp only [e_lit, e_glb, e_var, e_bin, e_neg, e_cmp, e_isN, e_and, e_or, e_not, e_ife, e_tup, e_idx, e_slc, e_rev, e_call, e_prim, e_mth, e_dlk, e_gin, e_git, e_frs, e_new, es_nil, es_cons, d_nil, d_cons, p_none, p_some, n_lst, n_slc, c_none, c_some, i_each, t_name, t_ix, ts_nil, ts_cons, s_asg, s_par, s_aug, s_augIx, s_exp, s_ite, s_ret, s_raise, s_nop, b_nil, b_cons, ev_T, peek_d, rd1_d, rd2_d, tst_b, toD_d, frz_d, map1_some, of_none, peeks_nil, rds_1, rds_2, noEx_ok', idxR_d, alloc_ok, src_ok_nil, HB.R.bind_ok, HB.R.toO_ok, HB.O.bind_nx, HB.O.bind_ret, HB.R.of_some, int1_i, neg_i, List.map_cons, List.map_nil, List.cons_append, List.nil_append, List.getElem?_cons_succ, List.getElem?_cons_zero, List.length_cons, List.length_nil, List.set_cons_succ, List.set_cons_zero, List.replicate, Nat.reduceAdd, Nat.reduceSub, Nat.reduceLT, if_true, if_false, ite_true, ite_false, Bool.false_eq_true, reduceIte, Bool.not_true, Bool.not_false, out_ret, Option.map_some, Option.map_none, decide_true, decide_false, G.d_row_by, e, hb, reduceCtorEq, decide_false, m0, oD, oR, hi]
/-- a row put at a path -/
def setR : List Th → List Nat → List Th → List Th
  | _, [], r1 => r1
  | r, p :: ps, r1 => match r[p]? with
    | some (.b b r') => r.set p (.b b (setR r' ps r1))
    | _ => r
theorem wrs_set : ∀ (r : List Th) (p : Nat) (t u : Th), r[p]? = some t → (wrs (r.set p u)).length + (wr t).length = (wrs r).length + (wr u).length
  | [], p, t, u, h => by simp at h
  | a :: r, 0, t, u, h => by
    simp at h; subst h
    simp [wrs]; omega
  | a :: r, p + 1, t, u, h => by
    have := wrs_set r p t u (by simpa using h)
    simp [wrs]; omega
theorem wrs_setR : ∀ (ps : List Nat) (r r0 r1 : List Th), rwAt r ps = some r0 → (wrs (setR r ps r1)).length + (wrs r0).length = (wrs r).length + (wrs r1).length
  | [], r, r0, r1, h => by cases h; simp [setR]; omega
  | p :: ps, r, r0, r1, h => by
    rw [rwAt] at h
    split at h
    · rename_i b r' q
      rw [setR, q]
      have e1 := wrs_set r p (.b b r') (.b b (setR r' ps r1)) q
      have e2 := wrs_setR ps r' r0 r1 h
      rw [wr_b, wr_b] at e1
      simp only
      omega
    · cases h
theorem thD_set (r : List Th) (p : Nat) (t : Th) : (thD r).set p (.str (S (wr t))) = thD (r.set p t) := by simp [thD, List.map_set]
theorem wrs_flat : ∀ r : List Th, (r.map wr).flatten = wrs r
  | [] => rfl
  | t :: r => by simp [wrs, wrs_flat r]
theorem join_th {r : List Th} (h : (wrs r).length ≤ 1000) : mthD .join (.str (S [])) [.list (thD r)] = some (.str (S (wrs r))) := by
  have := join_ok (ys := r.map wr) (by have := wrs_len r; simp; omega) (by rw [wrs_flat]; exact h)
  rw [wrs_flat] at this
  rw [← this, List.map_map]
  rfl
theorem new_list {xs : List D} (h : xs.length ≤ maxLen) : small (primN .list [.tuple xs]) = some xs := by simp [primN, small, h]
theorem setIx_h {xs : List D} {p : Nat} {x : D} (h : p < xs.length) (hl : xs.length ≤ maxLen) : setIx [.lst xs] (.h 0) (.d (.int (p : Nat))) x = .ok () [.lst (xs.set p x)] := by
  unfold setIx
  simp only [peek_d]
  have : L2.ixN xs.length (p : Int) = some p := by unfold L2.ixN; rw [if_pos (by omega), if_pos (by omega)]; simp
  simp only [put, this, List.getElem?_cons_zero, Option.map_some, List.length_set]
  rw [if_pos hl]
  rfl
theorem rds_h {α : Type} (xs : List D) (s : Sto) (g : List D → R α) : rds (.lst xs :: s) [.h 0] g = g [.list xs] := rfl
theorem idxR_h {xs : List D} {s : Sto} {p : Nat} {x : D} (h : xs[p]? = some x) : idxR (.lst xs :: s) (.h 0) (.d (.int (p : Nat))) = .ok (.d x) (.lst xs :: s) := by
  show R.map1 _ (L2.atI xs (p : Int)) = _
  rw [atI_nat, h]; rfl
theorem idx_p0 (p : Nat) (ps : List Nat) : idx2 (pD (p :: ps)) (.int 0) = some (.int (p : Nat)) := by
  show L2.atI _ ((0 : Nat) : Int) = _
  rw [atI_nat]; rfl
theorem len_p (ps : List Nat) : prim .len [pD ps] = some (.int ps.length) := by simp [pD, prim]
theorem slc_p1 (p : Nat) (ps : List Nat) : slc2 (pD (p :: ps)) (some 1) none = some (pD ps) := by
  simp only [pD, slc2, List.map_cons]
  simp [cutD, HT.sIx]
  rw [List.take_of_length_le (by simp)]
theorem th_get {r : List Th} {p : Nat} {t : Th} (h : r[p]? = some t) : (thD r)[p]? = some (.str (S (wr t))) := by simp [thD, h]
theorem wb_run (hS : HasSh P) (hW : Fd P "with_box" G.d_with_box) : ∀ (ps : List Nat) (k : Nat) (r : List Th) (f : Option Th) (b : Bool) (r0 r1 : List Th), ps.length + 2 ≤ k → gds r → (wrs r).length + (wrs r1).length ≤ 900 → ps ≠ [] → rwAt r ps = some r0 → bxL r ps f = some (some (.b b r0)) →
    runF P X k "with_box" [.d (.str (S (wrs r))), .d (pD ps), .d (.str (S (wr (.b b r1))))] [] = .ok (.d (.str (S (wrs (setR r ps r1))))) []
  | [], k, r, f, b, r0, r1, hk, g, hl, hn, hw, hb => by cases hn rfl
  | p :: ps, 0, r, f, b, r0, r1, hk, g, hl, hn, hw, hb => by omega
  | p :: ps, k + 1, r, f, b, r0, r1, hk, g, hl, hn, hw, hb => by
    rw [run_def hW rfl]
    simp only [List.length_cons] at hk
    obtain ⟨j, rfl⟩ : ∃ j, k = j + 2 := ⟨k - 2, by omega⟩
    obtain ⟨C, hC⟩ : ∃ C, C = runF P X (j + 2) := ⟨_, rfl⟩
    have ht : ∀ s, callIn C "things_in" [.d (.str (S (wrs r)))] s = .ok (.d (.tuple (thD r))) s := fun s => by rw [hC]; exact call1 (ti_run hS.things_in hS.end_of (by omega) g)
    have hr := wrs_len r
    have hm : maxLen = 1000000 := rfl
    have hnl : small (primN .list [.tuple (thD r)]) = some (thD r) := new_list (by rw [thD_len]; omega)
    have ew := wrs_setR _ _ _ r1 hw
    have hw' := hw
    rw [rwAt] at hw
    split at hw
    · rename_i b' r' q
      rw [bxL, q] at hb
      have e1 : setR r (p :: ps) r1 = r.set p (.b b' (setR r' ps r1)) := by rw [setR, q]
      have hp : p < (thD r).length := by rw [thD_len]; exact (List.getElem?_eq_some_iff.mp q).1
      have hj : mthD .join (.str (S [])) [.list (thD (r.set p (.b b' (setR r' ps r1))))] = some (.str (S (wrs (r.set p (.b b' (setR r' ps r1)))))) := join_th (by rw [← e1]; omega)
      have hlen : (thD r).length ≤ maxLen := by rw [thD_len]; omega
      have hset : ∀ u, setIx [.lst (thD r)] (.h 0) (.d (.int (p : Nat))) (.str (S (wr u))) = .ok () [.lst (thD (r.set p u))] := fun u => by rw [setIx_h hp hlen, thD_set]
      have hix : idxR [.lst (thD r)] (.h 0) (.d (.int (p : Nat))) = .ok (.d (.str (S (wr (.b b' r'))))) [.lst (thD r)] := idxR_h (th_get q)
      obtain ⟨g1, g2, g3⟩ := gd_at g q
      have wl := wr_b b' r'
      rw [e1, ← hC]
      cases ps with
      | nil =>
        cases hw
        cases hb
        obtain ⟨n, hn1, hone⟩ : ∃ n : Int, prim .len [pD [p]] = some (.int n) ∧ decide (n = 1) = true := ⟨1, rfl, rfl⟩
        have hs2 := hset (.b b r1)
        rw [setR] at hj ⊢
        simp only [e_lit, e_glb, e_var, e_bin, e_neg, e_cmp, e_isN, e_and, e_or, e_not, e_ife, e_tup, e_idx, e_slc, e_rev, e_call, e_prim, e_mth, e_dlk, e_gin, e_git, e_frs, e_new, es_nil, es_cons, d_nil, d_cons, p_none, p_some, n_lst, n_slc, c_none, c_some, i_each, t_name, t_ix, ts_nil, ts_cons, s_asg, s_par, s_aug, s_augIx, s_exp, s_ite, s_ret, s_raise, s_nop, b_nil, b_cons, ev_T, peek_d, rd1_d, rd2_d, tst_b, toD_d, frz_d, map1_some, of_none, peeks_nil, rds_1, rds_2, noEx_ok', idxR_d, alloc_ok, src_ok_nil, HB.R.bind_ok, HB.R.toO_ok, HB.O.bind_nx, HB.O.bind_ret, HB.R.of_some, int1_i, neg_i, List.map_cons, List.map_nil, List.cons_append, List.nil_append, List.getElem?_cons_succ, List.getElem?_cons_zero, List.length_cons, List.length_nil, List.set_cons_succ, List.set_cons_zero, List.replicate, Nat.reduceAdd, Nat.reduceSub, Nat.reduceLT, if_true, if_false, ite_true, ite_false, Bool.false_eq_true, reduceIte, Bool.not_true, Bool.not_false, out_ret, Option.map_some, Option.map_none, decide_true, decide_false, G.d_with_box, ht, n_prm, hnl, idx_p0, hn1, eq_ii, hone, hs2, s_e, hasTy_s, w_join, rds_h, hj]
      | cons p2 ps2 =>
        have ih := wb_run hS hW (p2 :: ps2) (j + 2) r' (some (.b b' r')) b r0 r1 (by simp at hk ⊢; omega) g1 (by omega) (by simp) hw hb
        have hwb : ∀ s, callIn C "with_box" [.d (.str (S (wrs r'))), .d (pD (p2 :: ps2)), .d (.str (S (wr (.b b r1))))] s = .ok (.d (.str (S (wrs (setR r' (p2 :: ps2) r1))))) s := fun s => by rw [hC]; exact call3 ih
        have hi : ∀ s, callIn C "inner" [.d (.str (S (wr (.b b' r'))))] s = .ok (.d (.str (S (wrs r')))) s := fun s => by rw [hC]; exact call1 (in_run hS.inner (by omega))
        have ew2 := wrs_setR _ _ _ r1 hw
        have hwi : ∀ s, callIn C "with_inner" [.d (.str (S (wr (.b b' r')))), .d (.str (S (wrs (setR r' (p2 :: ps2) r1))))] s = .ok (.d (.str (S (wr (.b b' (setR r' (p2 :: ps2) r1)))))) s := fun s => by
          rw [hC, show wr (.b b' (setR r' (p2 :: ps2) r1)) = opn b' :: (wrs (setR r' (p2 :: ps2) r1) ++ [cls b']) by rw [wr]]
          exact call2 (wi_run hS.with_inner (by omega) (by omega))
        obtain ⟨n, hn1, hone⟩ : ∃ n : Int, prim .len [pD (p :: p2 :: ps2)] = some (.int n) ∧ decide (n = 1) = false := ⟨_, len_p _, decide_eq_false (by simp; omega)⟩
        have hs2 := hset (.b b' (setR r' (p2 :: ps2) r1))
        simp only [e_lit, e_glb, e_var, e_bin, e_neg, e_cmp, e_isN, e_and, e_or, e_not, e_ife, e_tup, e_idx, e_slc, e_rev, e_call, e_prim, e_mth, e_dlk, e_gin, e_git, e_frs, e_new, es_nil, es_cons, d_nil, d_cons, p_none, p_some, n_lst, n_slc, c_none, c_some, i_each, t_name, t_ix, ts_nil, ts_cons, s_asg, s_par, s_aug, s_augIx, s_exp, s_ite, s_ret, s_raise, s_nop, b_nil, b_cons, ev_T, peek_d, rd1_d, rd2_d, tst_b, toD_d, frz_d, map1_some, of_none, peeks_nil, rds_1, rds_2, noEx_ok', idxR_d, alloc_ok, src_ok_nil, HB.R.bind_ok, HB.R.toO_ok, HB.O.bind_nx, HB.O.bind_ret, HB.R.of_some, int1_i, neg_i, List.map_cons, List.map_nil, List.cons_append, List.nil_append, List.getElem?_cons_succ, List.getElem?_cons_zero, List.length_cons, List.length_nil, List.set_cons_succ, List.set_cons_zero, List.replicate, Nat.reduceAdd, Nat.reduceSub, Nat.reduceLT, if_true, if_false, ite_true, ite_false, Bool.false_eq_true, reduceIte, Bool.not_true, Bool.not_false, out_ret, Option.map_some, Option.map_none, decide_true, decide_false, G.d_with_box, ht, n_prm, hnl, idx_p0, hn1, eq_ii, hone, hix, hi, slc_p1, hwb, hwi, hs2, s_e, hasTy_s, w_join, rds_h, hj]
    · cases hw
end
end M
end HB
/-! Which turns may be made; a turn made. -/
namespace HB
namespace M
open PySem PySem.W
/-- the row at a path of open boxes -/
def opAt : List Th → List Nat → Option (List Th)
  | r, [] => some r
  | r, p :: ps => match r[p]? with
    | some (.b true r') => opAt r' ps
    | _ => none
def opnB (r : List Th) (ps : List Nat) : Bool := match boxAt r ps with
  | some t => isO t
  | none => false
def opens (r : List Th) (ps : List Nat) : Bool := (List.range ps.length).all fun i => opnB r (ps.take (i + 1))
theorem bxL_f : ∀ (ps : List Nat) (r : List Th) (f f' : Option Th), ps ≠ [] → bxL r ps f = bxL r ps f'
  | [], _, _, _, h => by cases h rfl
  | p :: ps, r, f, f', _ => by rw [bxL, bxL]
theorem opnB_cons {r : List Th} {p : Nat} {b : Bool} {r' : List Th} (h : r[p]? = some (.b b r')) {qs : List Nat} (hn : qs ≠ []) : opnB r (p :: qs) = opnB r' qs := by
  unfold opnB boxAt
  rw [bxL, h]
  simp only
  rw [bxL_f qs r' _ none hn]
theorem op_eq : ∀ (ps : List Nat) (r : List Th), opAt r ps = if opens r ps then rwAt r ps else none
  | [], r => rfl
  | p :: ps, r => by
    have e : opens r (p :: ps) = (opnB r [p] && (List.range ps.length).all fun i => opnB r (p :: ps.take (i + 1))) := by
      unfold opens
      rw [List.length_cons, List.range_succ_eq_map, List.all_cons, List.all_map]
      rfl
    rw [opAt, rwAt, e]
    cases h : r[p]? with
    | none =>
      have : opnB r [p] = false := by unfold opnB boxAt; rw [bxL, h]; rfl
      rw [this]; rfl
    | some t =>
      cases t with
      | c n =>
        have : opnB r [p] = false := by unfold opnB boxAt; rw [bxL, h]; rfl
        rw [this]; rfl
      | b b r' =>
        have h1 : opnB r [p] = b := by
          unfold opnB boxAt
          simp only [bxL, h]
          cases b <;> rfl
        have h2 : ((List.range ps.length).all fun i => opnB r (p :: ps.take (i + 1))) = opens r' ps := by
          unfold opens
          have : ∀ l : List Nat, (∀ i ∈ l, i < ps.length) → (l.all fun i => opnB r (p :: ps.take (i + 1))) = l.all fun i => opnB r' (ps.take (i + 1)) := by
            intro l
            induction l with
            | nil => intro _; rfl
            | cons a l ih =>
              intro hl
              rw [List.all_cons, List.all_cons, ih fun i hi => hl i (List.mem_cons_of_mem _ hi), opnB_cons h (by
                have := hl a (List.mem_cons_self ..)
                intro q
                have q2 : (ps.take (a + 1)).length = 0 := by rw [q]; rfl
                rw [List.length_take] at q2
                omega)]
          exact this _ fun i hi => List.mem_range.mp hi
        rw [h1, h2]
        cases b with
        | true => simp only [Bool.true_and]; exact op_eq ps r'
        | false => rfl
theorem op_rw {r : List Th} {ps : List Nat} {r0 : List Th} (h : opAt r ps = some r0) : rwAt r ps = some r0 := by
  rw [op_eq] at h
  split at h
  · exact h
  · cases h
structure HasT (P : List Def) : Prop where
  is_open : Fd P "is_open" G.d_is_open
  is_whole : Fd P "is_whole" G.d_is_whole
  is_path : Fd P "is_path" G.d_is_path
  box_by : Fd P "box_by" G.d_box_by
  row_by : Fd P "row_by" G.d_row_by
  with_box : Fd P "with_box" G.d_with_box
  with_row : Fd P "with_row" G.d_with_row
  paths_in : Fd P "paths_in" G.d_paths_in
  turns_of : Fd P "turns_of" G.d_turns_of
  free_row : Fd P "free_row" G.d_free_row
  can_turn : Fd P "can_turn" G.d_can_turn
  turned_by : Fd P "turned_by" G.d_turned_by
  turned : Fd P "turned" G.d_turned
  behind_by : Fd P "behind_by" G.d_behind_by
  need_turns : Fd P "need_turns" G.d_need_turns
  behind : Fd P "behind" G.d_behind
  are_turns : Fd P "are_turns" G.d_are_turns
theorem slc_p (ps : List Nat) (i : Nat) : slc2 (pD ps) none (some (1 + (i : Nat) : Int)) = some (pD (ps.take (i + 1))) := by
  have e : (1 + (i : Nat) : Int) = ((i + 1 : Nat) : Int) := by omega
  rw [e]
  simp only [pD, slc2, cutD]
  rw [HT.sIx_nat]
  simp [HT.sIx, List.map_take]
section
variable {P : List Def} {X : Ext} {k : Nat}
theorem wr_run (hS : HasSh P) (hT : HasT P) {r : List Th} {ps : List Nat} {r0 r1 : List Th} (g : gds r) (hl : (wrs r).length + (wrs r1).length ≤ 900) (hd : ps.length ≤ 3) (hw : rwAt r ps = some r0) :
    runF P X (k + 7) "with_row" [.d (.str (S (wrs r))), .d (pD ps), .d (.str (S (wrs r1)))] [] = .ok (.d (.str (S (wrs (setR r ps r1))))) [] := by
  rw [run_def hT.with_row rfl]
  obtain ⟨C, hC⟩ : ∃ C, C = runF P X (k + 6) := ⟨_, rfl⟩
  rw [← hC]
  have e := eq_p ps
  cases ps with
  | nil => simp only [e_lit, e_glb, e_var, e_bin, e_neg, e_cmp, e_isN, e_and, e_or, e_not, e_ife, e_tup, e_idx, e_slc, e_rev, e_call, e_prim, e_mth, e_dlk, e_gin, e_git, e_frs, e_new, es_nil, es_cons, d_nil, d_cons, p_none, p_some, n_lst, n_slc, c_none, c_some, i_each, t_name, t_ix, ts_nil, ts_cons, s_asg, s_par, s_aug, s_augIx, s_exp, s_ite, s_ret, s_raise, s_nop, b_nil, b_cons, ev_T, peek_d, rd1_d, rd2_d, tst_b, toD_d, frz_d, map1_some, of_none, peeks_nil, rds_1, rds_2, noEx_ok', idxR_d, alloc_ok, src_ok_nil, HB.R.bind_ok, HB.R.toO_ok, HB.O.bind_nx, HB.O.bind_ret, HB.R.of_some, int1_i, neg_i, List.map_cons, List.map_nil, List.cons_append, List.nil_append, List.getElem?_cons_succ, List.getElem?_cons_zero, List.length_cons, List.length_nil, List.set_cons_succ, List.set_cons_zero, List.replicate, Nat.reduceAdd, Nat.reduceSub, Nat.reduceLT, if_true, if_false, ite_true, ite_false, Bool.false_eq_true, reduceIte, Bool.not_true, Bool.not_false, out_ret, Option.map_some, Option.map_none, decide_true, decide_false, G.d_with_row, e, decide_true, m0, setR]
  | cons p ps =>
    obtain ⟨b, hx⟩ := bx_some _ _ none _ hw (by simp)
    have hb : callIn C "box_by" [.d (.str (S (wrs r))), .d (pD (p :: ps))] [] = .ok (.d (oD (boxAt r (p :: ps)))) [] := by rw [hC]; exact call2 (bb_run (k := k + 3) hS hT.box_by g (by omega))
    have hx' : boxAt r (p :: ps) = some (.b b r0) := by unfold boxAt; rw [hx]; rfl
    rw [hx'] at hb
    obtain ⟨f1, f2, f3⟩ := rw_facts _ _ _ g hw
    have hwi : callIn C "with_inner" [.d (.str (S (wr (.b b r0)))), .d (.str (S (wrs r1)))] [] = .ok (.d (.str (S (wr (.b b r1))))) [] := by
      rw [hC, show wr (.b b r1) = opn b :: (wrs r1 ++ [cls b]) by rw [wr]]
      exact call2 (wi_run hS.with_inner (by rw [wr_b]; unfold maxLen; simp at f2; omega) (by unfold maxLen; omega))
    have hwb : callIn C "with_box" [.d (.str (S (wrs r))), .d (pD (p :: ps)), .d (.str (S (wr (.b b r1))))] [] = .ok (.d (.str (S (wrs (setR r (p :: ps) r1))))) [] := by
      rw [hC]; exact call3 (wb_run hS hT.with_box _ (k + 6) r none b r0 r1 (by omega) g hl (by simp) hw hx)
    simp only [e_lit, e_glb, e_var, e_bin, e_neg, e_cmp, e_isN, e_and, e_or, e_not, e_ife, e_tup, e_idx, e_slc, e_rev, e_call, e_prim, e_mth, e_dlk, e_gin, e_git, e_frs, e_new, es_nil, es_cons, d_nil, d_cons, p_none, p_some, n_lst, n_slc, c_none, c_some, i_each, t_name, t_ix, ts_nil, ts_cons, s_asg, s_par, s_aug, s_augIx, s_exp, s_ite, s_ret, s_raise, s_nop, b_nil, b_cons, ev_T, peek_d, rd1_d, rd2_d, tst_b, toD_d, frz_d, map1_some, of_none, peeks_nil, rds_1, rds_2, noEx_ok', idxR_d, alloc_ok, src_ok_nil, HB.R.bind_ok, HB.R.toO_ok, HB.O.bind_nx, HB.O.bind_ret, HB.R.of_some, int1_i, neg_i, List.map_cons, List.map_nil, List.cons_append, List.nil_append, List.getElem?_cons_succ, List.getElem?_cons_zero, List.length_cons, List.length_nil, List.set_cons_succ, List.set_cons_zero, List.replicate, Nat.reduceAdd, Nat.reduceSub, Nat.reduceLT, if_true, if_false, ite_true, ite_false, Bool.false_eq_true, reduceIte, Bool.not_true, Bool.not_false, out_ret, Option.map_some, Option.map_none, decide_true, decide_false, G.d_with_row, e, reduceCtorEq, decide_false, m0, hb, oD, hwi, hwb]
theorem iw_run (hT : HasT P) {n : Int} : runF P X (k + 1) "is_whole" [.d (.int n)] [] = .ok (.d (.bool true)) [] := by
  rw [run_def hT.is_whole rfl]
  simp only [e_lit, e_glb, e_var, e_bin, e_neg, e_cmp, e_isN, e_and, e_or, e_not, e_ife, e_tup, e_idx, e_slc, e_rev, e_call, e_prim, e_mth, e_dlk, e_gin, e_git, e_frs, e_new, es_nil, es_cons, d_nil, d_cons, p_none, p_some, n_lst, n_slc, c_none, c_some, i_each, t_name, t_ix, ts_nil, ts_cons, s_asg, s_par, s_aug, s_augIx, s_exp, s_ite, s_ret, s_raise, s_nop, b_nil, b_cons, ev_T, peek_d, rd1_d, rd2_d, tst_b, toD_d, frz_d, map1_some, of_none, peeks_nil, rds_1, rds_2, noEx_ok', idxR_d, alloc_ok, src_ok_nil, HB.R.bind_ok, HB.R.toO_ok, HB.O.bind_nx, HB.O.bind_ret, HB.R.of_some, int1_i, neg_i, List.map_cons, List.map_nil, List.cons_append, List.nil_append, List.getElem?_cons_succ, List.getElem?_cons_zero, List.length_cons, List.length_nil, List.set_cons_succ, List.set_cons_zero, List.replicate, Nat.reduceAdd, Nat.reduceSub, Nat.reduceLT, if_true, if_false, ite_true, ite_false, Bool.false_eq_true, reduceIte, Bool.not_true, Bool.not_false, out_ret, Option.map_some, Option.map_none, decide_true, decide_false, G.d_is_whole, ty_int, ty_boo]
theorem bools_true : ∀ ps : List Nat, boolsOf (ps.map fun _ => .bool true) = some (ps.map fun _ => true)
  | [] => rfl
  | p :: ps => by
    rw [List.map_cons, boolsOf, bools_true ps]; rfl
theorem ip_run (hT : HasT P) {ps : List Nat} (hl : ps.length ≤ 1000) : runF P X (k + 2) "is_path" [.d (pD ps)] [] = .ok (.d (.bool true)) [] := by
  rw [run_def hT.is_path rfl]
  obtain ⟨C, hC⟩ : ∃ C, C = runF P X (k + 1) := ⟨_, rfl⟩
  rw [← hC]
  have hw : ∀ n : Int, callIn C "is_whole" [.d (.int n)] [] = .ok (.d (.bool true)) [] := fun n => by rw [hC]; exact call1 (iw_run hT)
  have hn : evN C (.lc [1] (.and (.call "is_whole" [.var 1]) (.cmp .ge (.var 1) (.lit (.int 0)))) (.name 1) (.each (.var 0)) none) [some (.d (pD ps)), none] [] = .ok (ps.map fun _ => .bool true) [] := by
    rw [evN, i_each, e_var]
    show (R.bind (R.bind (.ok (W.d (pD ps)) []) _) _) = _
    rw [HB.R.bind_ok, show srcS [] (.d (pD ps)) = some ⟨[], ps.map fun n => .int (n : Nat)⟩ from rfl, HB.R.of_some, HB.R.bind_ok]
    simp only
    rw [lc_map (a := fun n : Nat => PyData.int (n : Nat)) (b := fun _ => PyData.bool true) rfl ps fun n hn => by
      have h0 : decide ((0 : Int) ≤ (n : Nat)) = true := decide_eq_true (by omega)
      simp only [e_lit, e_glb, e_var, e_bin, e_neg, e_cmp, e_isN, e_and, e_or, e_not, e_ife, e_tup, e_idx, e_slc, e_rev, e_call, e_prim, e_mth, e_dlk, e_gin, e_git, e_frs, e_new, es_nil, es_cons, d_nil, d_cons, p_none, p_some, n_lst, n_slc, c_none, c_some, i_each, t_name, t_ix, ts_nil, ts_cons, s_asg, s_par, s_aug, s_augIx, s_exp, s_ite, s_ret, s_raise, s_nop, b_nil, b_cons, ev_T, peek_d, rd1_d, rd2_d, tst_b, toD_d, frz_d, map1_some, of_none, peeks_nil, rds_1, rds_2, noEx_ok', idxR_d, alloc_ok, src_ok_nil, HB.R.bind_ok, HB.R.toO_ok, HB.O.bind_nx, HB.O.bind_ret, HB.R.of_some, int1_i, neg_i, List.map_cons, List.map_nil, List.cons_append, List.nil_append, List.getElem?_cons_succ, List.getElem?_cons_zero, List.length_cons, List.length_nil, List.set_cons_succ, List.set_cons_zero, List.replicate, Nat.reduceAdd, Nat.reduceSub, Nat.reduceLT, if_true, if_false, ite_true, ite_false, Bool.false_eq_true, reduceIte, Bool.not_true, Bool.not_false, out_ret, Option.map_some, Option.map_none, decide_true, decide_false, wipeE, hw, ge_ii, h0], HB.R.bind_ok, if_pos (by rw [List.length_map]; unfold maxLen; omega)]
  have ht : prim (.isinst ["tuple"]) [pD ps] = some (.bool true) := rfl
  have ha : prim .all [.list (ps.map fun _ => .bool true)] = some (.bool true) := by
    simp only [prim, bools_true]
    simp
  simp only [e_lit, e_glb, e_var, e_bin, e_neg, e_cmp, e_isN, e_and, e_or, e_not, e_ife, e_tup, e_idx, e_slc, e_rev, e_call, e_prim, e_mth, e_dlk, e_gin, e_git, e_frs, e_new, es_nil, es_cons, d_nil, d_cons, p_none, p_some, n_lst, n_slc, c_none, c_some, i_each, t_name, t_ix, ts_nil, ts_cons, s_asg, s_par, s_aug, s_augIx, s_exp, s_ite, s_ret, s_raise, s_nop, b_nil, b_cons, ev_T, peek_d, rd1_d, rd2_d, tst_b, toD_d, frz_d, map1_some, of_none, peeks_nil, rds_1, rds_2, noEx_ok', idxR_d, alloc_ok, src_ok_nil, HB.R.bind_ok, HB.R.toO_ok, HB.O.bind_nx, HB.O.bind_ret, HB.R.of_some, int1_i, neg_i, List.map_cons, List.map_nil, List.cons_append, List.nil_append, List.getElem?_cons_succ, List.getElem?_cons_zero, List.length_cons, List.length_nil, List.set_cons_succ, List.set_cons_zero, List.replicate, Nat.reduceAdd, Nat.reduceSub, Nat.reduceLT, if_true, if_false, ite_true, ite_false, Bool.false_eq_true, reduceIte, Bool.not_true, Bool.not_false, out_ret, Option.map_some, Option.map_none, decide_true, decide_false, G.d_is_path, ht, hn, ha]
/-! ### free_row -/
def frB : List St := match G.d_free_row.body with
  | [.for_ _ _ b, _] => b
  | _ => []
theorem frB_eq : frB = [.asg (.name 3) (.call "box_by" [.var 0, .slc (.var 1) none (some (.var 2))]), .ite (.or (.isN false (.var 3)) (.not (.call "is_open" [.var 3]))) [.ret (.lit (.none))] []] := rfl
theorem bx_gd : ∀ (ps : List Nat) (r : List Th) (f : Option Th), gds r → (∀ t, f = some t → gd t ∧ (wr t).length ≤ 500) → (wrs r).length ≤ 500 → ∀ t, bxL r ps f = some (some t) → gd t ∧ (wr t).length ≤ 500
  | [], r, f, g, hf, hl, t, h => hf t (by cases h; rfl)
  | p :: ps, r, f, g, hf, hl, t, h => by
    rw [bxL] at h
    split at h
    · rename_i b r' q
      obtain ⟨g1, g2, g3⟩ := gd_at g q
      have := wr_b b r'
      exact bx_gd ps r' _ g1 (fun t e => by cases e; exact ⟨g1, by omega⟩) (by omega) t h
    · cases h
theorem fr_loop (hS : HasSh P) (hT : HasT P) {C : Calls} (hC : C = runF P X (k + 3)) {r : List Th} {ps : List Nat} (g : gds r) (hl : (wrs r).length ≤ 500) : ∀ (l : List Nat) (m bx : Option W),
    ∃ m' bx', forL (fun s => Src.ok s []) (fun x e s => (noEx (asT C (.name 2) (.d x) e s)).toO e fun e s => exB C frB e s) (l.map fun i => .int (1 + (i : Nat))) [some (.d (.str (S (wrs r)))), some (.d (pD ps)), m, bx] [] =
      if (l.all fun i => opnB r (ps.take (i + 1))) then .nx [some (.d (.str (S (wrs r)))), some (.d (pD ps)), m', bx'] [] else .ret (.d .none) []
  | [], m, bx => ⟨m, bx, for_nil rfl⟩
  | i :: l, m, bx => by
    have hb : callIn C "box_by" [.d (.str (S (wrs r))), .d (pD (ps.take (i + 1)))] [] = .ok (.d (oD (boxAt r (ps.take (i + 1))))) [] := by rw [hC]; exact call2 (bb_run hS hT.box_by g (by omega))
    obtain ⟨m', bx', e⟩ := fr_loop hS hT hC g hl l (some (.d (.int (1 + (i : Nat))))) (some (.d (oD (boxAt r (ps.take (i + 1))))))
    have turn : (noEx (asT C (.name 2) (.d (.int (1 + (i : Nat)))) [some (.d (.str (S (wrs r)))), some (.d (pD ps)), m, bx] [])).toO [some (.d (.str (S (wrs r)))), some (.d (pD ps)), m, bx] (fun e s => exB C frB e s) =
        if opnB r (ps.take (i + 1)) then .nx [some (.d (.str (S (wrs r)))), some (.d (pD ps)), some (.d (.int (1 + (i : Nat)))), some (.d (oD (boxAt r (ps.take (i + 1)))))] [] else .ret (.d .none) [] := by
      unfold opnB
      cases h : boxAt r (ps.take (i + 1)) with
      | none =>
        rw [h] at hb
        simp only [e_lit, e_glb, e_var, e_bin, e_neg, e_cmp, e_isN, e_and, e_or, e_not, e_ife, e_tup, e_idx, e_slc, e_rev, e_call, e_prim, e_mth, e_dlk, e_gin, e_git, e_frs, e_new, es_nil, es_cons, d_nil, d_cons, p_none, p_some, n_lst, n_slc, c_none, c_some, i_each, t_name, t_ix, ts_nil, ts_cons, s_asg, s_par, s_aug, s_augIx, s_exp, s_ite, s_ret, s_raise, s_nop, b_nil, b_cons, ev_T, peek_d, rd1_d, rd2_d, tst_b, toD_d, frz_d, map1_some, of_none, peeks_nil, rds_1, rds_2, noEx_ok', idxR_d, alloc_ok, src_ok_nil, HB.R.bind_ok, HB.R.toO_ok, HB.O.bind_nx, HB.O.bind_ret, HB.R.of_some, int1_i, neg_i, List.map_cons, List.map_nil, List.cons_append, List.nil_append, List.getElem?_cons_succ, List.getElem?_cons_zero, List.length_cons, List.length_nil, List.set_cons_succ, List.set_cons_zero, List.replicate, Nat.reduceAdd, Nat.reduceSub, Nat.reduceLT, if_true, if_false, ite_true, ite_false, Bool.false_eq_true, reduceIte, Bool.not_true, Bool.not_false, out_ret, Option.map_some, Option.map_none, decide_true, decide_false, frB_eq, slc_p, hb, oD]
      | some t =>
        rw [h] at hb
        have h' : bxL r (ps.take (i + 1)) none = some (some t) := by
          unfold boxAt at h
          cases q : bxL r (ps.take (i + 1)) none with
          | none => rw [q] at h; cases h
          | some u => rw [q] at h; cases u <;> cases h; rfl
        obtain ⟨g1, g2⟩ := bx_gd _ _ _ g (fun _ q => by cases q) hl t h'
        have ho : callIn C "is_open" [.d (.str (S (wr t)))] [] = .ok (.d (.bool (isO t))) [] := by rw [hC]; exact call1 (io_run hT.is_open g1 (by unfold maxLen; omega))
        cases q : isO t with
        | true => rw [q] at ho; simp only [e_lit, e_glb, e_var, e_bin, e_neg, e_cmp, e_isN, e_and, e_or, e_not, e_ife, e_tup, e_idx, e_slc, e_rev, e_call, e_prim, e_mth, e_dlk, e_gin, e_git, e_frs, e_new, es_nil, es_cons, d_nil, d_cons, p_none, p_some, n_lst, n_slc, c_none, c_some, i_each, t_name, t_ix, ts_nil, ts_cons, s_asg, s_par, s_aug, s_augIx, s_exp, s_ite, s_ret, s_raise, s_nop, b_nil, b_cons, ev_T, peek_d, rd1_d, rd2_d, tst_b, toD_d, frz_d, map1_some, of_none, peeks_nil, rds_1, rds_2, noEx_ok', idxR_d, alloc_ok, src_ok_nil, HB.R.bind_ok, HB.R.toO_ok, HB.O.bind_nx, HB.O.bind_ret, HB.R.of_some, int1_i, neg_i, List.map_cons, List.map_nil, List.cons_append, List.nil_append, List.getElem?_cons_succ, List.getElem?_cons_zero, List.length_cons, List.length_nil, List.set_cons_succ, List.set_cons_zero, List.replicate, Nat.reduceAdd, Nat.reduceSub, Nat.reduceLT, if_true, if_false, ite_true, ite_false, Bool.false_eq_true, reduceIte, Bool.not_true, Bool.not_false, out_ret, Option.map_some, Option.map_none, decide_true, decide_false, frB_eq, slc_p, hb, oD, ho, q]
        | false => rw [q] at ho; simp only [e_lit, e_glb, e_var, e_bin, e_neg, e_cmp, e_isN, e_and, e_or, e_not, e_ife, e_tup, e_idx, e_slc, e_rev, e_call, e_prim, e_mth, e_dlk, e_gin, e_git, e_frs, e_new, es_nil, es_cons, d_nil, d_cons, p_none, p_some, n_lst, n_slc, c_none, c_some, i_each, t_name, t_ix, ts_nil, ts_cons, s_asg, s_par, s_aug, s_augIx, s_exp, s_ite, s_ret, s_raise, s_nop, b_nil, b_cons, ev_T, peek_d, rd1_d, rd2_d, tst_b, toD_d, frz_d, map1_some, of_none, peeks_nil, rds_1, rds_2, noEx_ok', idxR_d, alloc_ok, src_ok_nil, HB.R.bind_ok, HB.R.toO_ok, HB.O.bind_nx, HB.O.bind_ret, HB.R.of_some, int1_i, neg_i, List.map_cons, List.map_nil, List.cons_append, List.nil_append, List.getElem?_cons_succ, List.getElem?_cons_zero, List.length_cons, List.length_nil, List.set_cons_succ, List.set_cons_zero, List.replicate, Nat.reduceAdd, Nat.reduceSub, Nat.reduceLT, if_true, if_false, ite_true, ite_false, Bool.false_eq_true, reduceIte, Bool.not_true, Bool.not_false, out_ret, Option.map_some, Option.map_none, decide_true, decide_false, frB_eq, slc_p, hb, oD, ho, q]
    cases q : opnB r (ps.take (i + 1)) with
    | true =>
      rw [q, if_pos rfl] at turn
      exact ⟨m', bx', by rw [List.all_cons, q, Bool.true_and, ← e]; exact for_cons rfl turn⟩
    | false =>
      rw [q, if_neg (by simp)] at turn
      exact ⟨m', bx', by rw [List.all_cons, q, Bool.false_and, if_neg (by simp)]; exact for_ret rfl turn⟩
theorem it_range2 {C : Calls} {a b : Ex} {e : Env} {s : Sto} {m n : Int} {src : Src} (ha : evE C a e s = .ok (.d (.int m)) s) (hb : evE C b e s = .ok (.d (.int n)) s) (h : range2 (.int m) (.int n) = some src) : evI C (.range2 a b) e s = .ok src s := by
  rw [i_range2, ha, HB.R.bind_ok, hb, HB.R.bind_ok, rd2_d, h, HB.R.of_some]
theorem it_range1 {C : Calls} {a : Ex} {e : Env} {s : Sto} {m : Int} {src : Src} (ha : evE C a e s = .ok (.d (.int m)) s) (h : range1 (.int m) = some src) : evI C (.range1 a) e s = .ok src s := by
  rw [i_range1, ha, HB.R.bind_ok, rd1_d, h, HB.R.of_some]
theorem range_1 {n : Nat} (h : n ≤ 1000) : range2 (.int 1) (.int ((n : Int) + 1)) = some ⟨[], (List.range n).map fun i => .int (1 + (i : Nat))⟩ := by
  have := range2_nat (p := 1) (n := n + 1) (by omega) (by unfold maxLen; omega)
  rw [show ((n : Int) + 1) = ((n + 1 : Nat) : Int) by omega]
  refine this.trans ?_
  unfold rangeL
  rw [show (((n + 1 : Nat) : Int) - ((1 : Nat) : Int)).toNat = n by omega]
  rfl
theorem fr_run (hS : HasSh P) (hT : HasT P) {r : List Th} {ps : List Nat} (g : gds r) (hl : (wrs r).length ≤ 500) (hp : ps.length ≤ 1000) :
    runF P X (k + 5) "free_row" [.d (.str (S (wrs r))), .d (pD ps)] [] = .ok (.d (oR (opAt r ps))) [] := by
  rw [run_def hT.free_row rfl]
  obtain ⟨C, hC⟩ : ∃ C, C = runF P X (k + 4) := ⟨_, rfl⟩
  rw [← hC]
  obtain ⟨m', bx', e⟩ := fr_loop (k := k + 1) hS hT hC (ps := ps) g hl (List.range ps.length) none none
  have hrow : ∀ s, callIn C "row_by" [.d (.str (S (wrs r))), .d (pD ps)] s = .ok (.d (oR (rwAt r ps))) s := fun s => by rw [hC]; exact call2 (rb_run hS hT.box_by hT.row_by g (by omega))
  have hrg := range_1 hp
  have hf : exS C (.for_ (.name 2) (.range2 (.lit (.int 1)) (.bin .add (.prim .len [.var 1]) (.lit (.int 1)))) frB) [some (.d (.str (S (wrs r)))), some (.d (pD ps)), none, none] [] =
      if opens r ps then .nx [some (.d (.str (S (wrs r)))), some (.d (pD ps)), m', bx'] [] else .ret (.d .none) [] := by
    rw [s_for]
    have hi : evI C (.range2 (.lit (.int 1)) (.bin .add (.prim .len [.var 1]) (.lit (.int 1)))) [some (.d (.str (S (wrs r)))), some (.d (pD ps)), none, none] [] = .ok ⟨[], (List.range ps.length).map fun i => .int (1 + (i : Nat))⟩ [] := it_range2 (by simp only [e_lit, e_glb, e_var, e_bin, e_neg, e_cmp, e_isN, e_and, e_or, e_not, e_ife, e_tup, e_idx, e_slc, e_rev, e_call, e_prim, e_mth, e_dlk, e_gin, e_git, e_frs, e_new, es_nil, es_cons, d_nil, d_cons, p_none, p_some, n_lst, n_slc, c_none, c_some, i_each, t_name, t_ix, ts_nil, ts_cons, s_asg, s_par, s_aug, s_augIx, s_exp, s_ite, s_ret, s_raise, s_nop, b_nil, b_cons, ev_T, peek_d, rd1_d, rd2_d, tst_b, toD_d, frz_d, map1_some, of_none, peeks_nil, rds_1, rds_2, noEx_ok', idxR_d, alloc_ok, src_ok_nil, HB.R.bind_ok, HB.R.toO_ok, HB.O.bind_nx, HB.O.bind_ret, HB.R.of_some, int1_i, neg_i, List.map_cons, List.map_nil, List.cons_append, List.nil_append, List.getElem?_cons_succ, List.getElem?_cons_zero, List.length_cons, List.length_nil, List.set_cons_succ, List.set_cons_zero, List.replicate, Nat.reduceAdd, Nat.reduceSub, Nat.reduceLT, if_true, if_false, ite_true, ite_false, Bool.false_eq_true, reduceIte, Bool.not_true, Bool.not_false, out_ret, Option.map_some, Option.map_none, decide_true, decide_false]) (by simp only [e_lit, e_glb, e_var, e_bin, e_neg, e_cmp, e_isN, e_and, e_or, e_not, e_ife, e_tup, e_idx, e_slc, e_rev, e_call, e_prim, e_mth, e_dlk, e_gin, e_git, e_frs, e_new, es_nil, es_cons, d_nil, d_cons, p_none, p_some, n_lst, n_slc, c_none, c_some, i_each, t_name, t_ix, ts_nil, ts_cons, s_asg, s_par, s_aug, s_augIx, s_exp, s_ite, s_ret, s_raise, s_nop, b_nil, b_cons, ev_T, peek_d, rd1_d, rd2_d, tst_b, toD_d, frz_d, map1_some, of_none, peeks_nil, rds_1, rds_2, noEx_ok', idxR_d, alloc_ok, src_ok_nil, HB.R.bind_ok, HB.R.toO_ok, HB.O.bind_nx, HB.O.bind_ret, HB.R.of_some, int1_i, neg_i, List.map_cons, List.map_nil, List.cons_append, List.nil_append, List.getElem?_cons_succ, List.getElem?_cons_zero, List.length_cons, List.length_nil, List.set_cons_succ, List.set_cons_zero, List.replicate, Nat.reduceAdd, Nat.reduceSub, Nat.reduceLT, if_true, if_false, ite_true, ite_false, Bool.false_eq_true, reduceIte, Bool.not_true, Bool.not_false, out_ret, Option.map_some, Option.map_none, decide_true, decide_false, len_p, add_ii]) hrg
    rw [hi, HB.R.toO_ok]
    exact e
  rw [frB_eq] at hf
  rw [op_eq]
  cases q : opens r ps with
  | true => rw [q, if_pos rfl] at hf; simp only [e_lit, e_glb, e_var, e_bin, e_neg, e_cmp, e_isN, e_and, e_or, e_not, e_ife, e_tup, e_idx, e_slc, e_rev, e_call, e_prim, e_mth, e_dlk, e_gin, e_git, e_frs, e_new, es_nil, es_cons, d_nil, d_cons, p_none, p_some, n_lst, n_slc, c_none, c_some, i_each, t_name, t_ix, ts_nil, ts_cons, s_asg, s_par, s_aug, s_augIx, s_exp, s_ite, s_ret, s_raise, s_nop, b_nil, b_cons, ev_T, peek_d, rd1_d, rd2_d, tst_b, toD_d, frz_d, map1_some, of_none, peeks_nil, rds_1, rds_2, noEx_ok', idxR_d, alloc_ok, src_ok_nil, HB.R.bind_ok, HB.R.toO_ok, HB.O.bind_nx, HB.O.bind_ret, HB.R.of_some, int1_i, neg_i, List.map_cons, List.map_nil, List.cons_append, List.nil_append, List.getElem?_cons_succ, List.getElem?_cons_zero, List.length_cons, List.length_nil, List.set_cons_succ, List.set_cons_zero, List.replicate, Nat.reduceAdd, Nat.reduceSub, Nat.reduceLT, if_true, if_false, ite_true, ite_false, Bool.false_eq_true, reduceIte, Bool.not_true, Bool.not_false, out_ret, Option.map_some, Option.map_none, decide_true, decide_false, G.d_free_row, hf, hrow]
  | false => rw [q, if_neg (by simp)] at hf; simp only [e_lit, e_glb, e_var, e_bin, e_neg, e_cmp, e_isN, e_and, e_or, e_not, e_ife, e_tup, e_idx, e_slc, e_rev, e_call, e_prim, e_mth, e_dlk, e_gin, e_git, e_frs, e_new, es_nil, es_cons, d_nil, d_cons, p_none, p_some, n_lst, n_slc, c_none, c_some, i_each, t_name, t_ix, ts_nil, ts_cons, s_asg, s_par, s_aug, s_augIx, s_exp, s_ite, s_ret, s_raise, s_nop, b_nil, b_cons, ev_T, peek_d, rd1_d, rd2_d, tst_b, toD_d, frz_d, map1_some, of_none, peeks_nil, rds_1, rds_2, noEx_ok', idxR_d, alloc_ok, src_ok_nil, HB.R.bind_ok, HB.R.toO_ok, HB.O.bind_nx, HB.O.bind_ret, HB.R.of_some, int1_i, neg_i, List.map_cons, List.map_nil, List.cons_append, List.nil_append, List.getElem?_cons_succ, List.getElem?_cons_zero, List.length_cons, List.length_nil, List.set_cons_succ, List.set_cons_zero, List.replicate, Nat.reduceAdd, Nat.reduceSub, Nat.reduceLT, if_true, if_false, ite_true, ite_false, Bool.false_eq_true, reduceIte, Bool.not_true, Bool.not_false, out_ret, Option.map_some, Option.map_none, decide_true, decide_false, G.d_free_row, hf]; rfl
end
end M
end HB
/-! A turn: may it be made, made. -/
namespace HB
namespace M
open PySem PySem.W
abbrev Tn := List Nat × Nat
def tD (x : Tn) : D := .tuple [pD x.1, .int (x.2 : Nat)]
/-- two things beside exchanged and turned -/
def swp : List Th → Nat → List Th
  | a :: b :: r, 0 => bk b :: bk a :: r
  | a :: r, i + 1 => a :: swp r i
  | r, _ => r
theorem swp_eq : ∀ {r : List Th} {i : Nat} {a b : Th}, r[i]? = some a → r[i + 1]? = some b → swp r i = r.take i ++ [bk b, bk a] ++ r.drop (i + 2)
  | [], _, _, _, h, _ => by simp at h
  | [_], 0, _, _, _, h => by simp at h
  | x :: y :: r, 0, a, b, h1, h2 => by
    simp at h1 h2
    subst h1; subst h2
    rfl
  | [x], i + 1, a, b, h1, h2 => by simp at h1
  | x :: y :: r, i + 1, a, b, h1, h2 => by
    have := swp_eq (r := y :: r) (i := i) (a := a) (b := b) (by simpa using h1) (by simpa using h2)
    rw [swp, this]
    simp
def can (r : List Th) (x : Tn) : Bool := match opAt r x.1 with
  | some r0 => decide (x.2 + 1 < r0.length)
  | none => false
def trn (r : List Th) (x : Tn) : List Th := match rwAt r x.1 with
  | some r0 => setR r x.1 (swp r0 x.2)
  | none => r
theorem can_at {r : List Th} {x : Tn} (h : can r x = true) : ∃ r0, opAt r x.1 = some r0 ∧ rwAt r x.1 = some r0 ∧ x.2 + 1 < r0.length := by
  unfold can at h
  split at h
  · rename_i r0 q
    exact ⟨r0, q, op_rw q, of_decide_eq_true h⟩
  · cases h
theorem op_facts {ps : List Nat} {r r0 : List Th} (g : gds r) (h : opAt r ps = some r0) : gds r0 ∧ (wrs r0).length + 2 * ps.length ≤ (wrs r).length ∧ deps r0 + ps.length ≤ deps r := rw_facts ps r r0 g (op_rw h)
theorem idx_t0 (x : Tn) : idx2 (tD x) (.int 0) = some (pD x.1) := rfl
theorem idx_t1 (x : Tn) : idx2 (tD x) (.int 1) = some (.int (x.2 : Nat)) := rfl
theorem len_tD (x : Tn) : prim .len [tD x] = some (.int 2) := rfl
theorem ty_tD (x : Tn) : prim (.isinst ["tuple"]) [tD x] = some (.bool true) := rfl
theorem shf_len {r : List Th} (h : Shf r) : (wrs r).length ≤ 32 := by have := wrs_sz r; have := h.sz; omega
section
variable {P : List Def} {X : Ext} {k : Nat}
theorem ct_run (hS : HasSh P) (hT : HasT P) {r : List Th} (h : Shf r) {x : Tn} (hp : x.1.length ≤ 1000) :
    runF P X (k + 6) "can_turn" [.d (.str (S (wrs r))), .d (tD x)] [] = .ok (.d (.bool (can r x))) [] := by
  rw [run_def hT.can_turn rfl]
  have hl := shf_len h
  obtain ⟨C, hC⟩ : ∃ C, C = runF P X (k + 5) := ⟨_, rfl⟩
  rw [← hC]
  have hip : callIn C "is_path" [.d (pD x.1)] [] = .ok (.d (.bool true)) [] := by rw [hC]; exact call1 (ip_run (k := k + 3) hT hp)
  have hiw : ∀ n : Int, callIn C "is_whole" [.d (.int n)] [] = .ok (.d (.bool true)) [] := fun n => by rw [hC]; exact call1 (iw_run (k := k + 4) hT)
  have hfr : callIn C "free_row" [.d (.str (S (wrs r))), .d (pD x.1)] [] = .ok (.d (oR (opAt r x.1))) [] := by rw [hC]; exact call2 (fr_run hS hT h.gd (by omega) hp)
  have h22 : decide ((2 : Int) = 2) = true := rfl
  have h0 : decide ((0 : Int) ≤ ((x.2 : Nat) : Int)) = true := decide_eq_true (by omega)
  unfold can
  cases ho : opAt r x.1 with
  | none =>
    rw [ho] at hfr
    simp only [e_lit, e_glb, e_var, e_bin, e_neg, e_cmp, e_isN, e_and, e_or, e_not, e_ife, e_tup, e_idx, e_slc, e_rev, e_call, e_prim, e_mth, e_dlk, e_gin, e_git, e_frs, e_new, es_nil, es_cons, d_nil, d_cons, p_none, p_some, n_lst, n_slc, c_none, c_some, i_each, t_name, t_ix, ts_nil, ts_cons, s_asg, s_par, s_aug, s_augIx, s_exp, s_ite, s_ret, s_raise, s_nop, b_nil, b_cons, ev_T, peek_d, rd1_d, rd2_d, tst_b, toD_d, frz_d, map1_some, of_none, peeks_nil, rds_1, rds_2, noEx_ok', idxR_d, alloc_ok, src_ok_nil, HB.R.bind_ok, HB.R.toO_ok, HB.O.bind_nx, HB.O.bind_ret, HB.R.of_some, int1_i, neg_i, List.map_cons, List.map_nil, List.cons_append, List.nil_append, List.getElem?_cons_succ, List.getElem?_cons_zero, List.length_cons, List.length_nil, List.set_cons_succ, List.set_cons_zero, List.replicate, Nat.reduceAdd, Nat.reduceSub, Nat.reduceLT, if_true, if_false, ite_true, ite_false, Bool.false_eq_true, reduceIte, Bool.not_true, Bool.not_false, out_ret, Option.map_some, Option.map_none, decide_true, decide_false, G.d_can_turn, ty_tD, len_tD, ne_ii, h22, idx_t0, idx_t1, hip, hiw, hfr, oR]
  | some r0 =>
    rw [ho] at hfr
    obtain ⟨f1, f2, f3⟩ := op_facts h.gd ho
    have hti : callIn C "things_in" [.d (.str (S (wrs r0)))] [] = .ok (.d (.tuple (thD r0))) [] := by rw [hC]; exact call1 (ti_run (k := k + 3) hS.things_in hS.end_of (by omega) f1)
    have hlt : decide (((x.2 : Nat) : Int) < ((thD r0).length : Int) - 1) = decide (x.2 + 1 < r0.length) := by
      rw [thD_len]
      rw [Bool.eq_iff_iff]
      simp only [decide_eq_true_eq]
      omega
    simp only [e_lit, e_glb, e_var, e_bin, e_neg, e_cmp, e_isN, e_and, e_or, e_not, e_ife, e_tup, e_idx, e_slc, e_rev, e_call, e_prim, e_mth, e_dlk, e_gin, e_git, e_frs, e_new, es_nil, es_cons, d_nil, d_cons, p_none, p_some, n_lst, n_slc, c_none, c_some, i_each, t_name, t_ix, ts_nil, ts_cons, s_asg, s_par, s_aug, s_augIx, s_exp, s_ite, s_ret, s_raise, s_nop, b_nil, b_cons, ev_T, peek_d, rd1_d, rd2_d, tst_b, toD_d, frz_d, map1_some, of_none, peeks_nil, rds_1, rds_2, noEx_ok', idxR_d, alloc_ok, src_ok_nil, HB.R.bind_ok, HB.R.toO_ok, HB.O.bind_nx, HB.O.bind_ret, HB.R.of_some, int1_i, neg_i, List.map_cons, List.map_nil, List.cons_append, List.nil_append, List.getElem?_cons_succ, List.getElem?_cons_zero, List.length_cons, List.length_nil, List.set_cons_succ, List.set_cons_zero, List.replicate, Nat.reduceAdd, Nat.reduceSub, Nat.reduceLT, if_true, if_false, ite_true, ite_false, Bool.false_eq_true, reduceIte, Bool.not_true, Bool.not_false, out_ret, Option.map_some, Option.map_none, decide_true, decide_false, G.d_can_turn, ty_tD, len_tD, ne_ii, h22, idx_t0, idx_t1, hip, hiw, hfr, oR, e_chain, le_ii, lt_ii, h0, hti, len_t, sub_ii, hlt]
theorem setSl_h {xs ys : List D} {i : Nat} (h : i + 2 ≤ xs.length) (hl : xs.length + ys.length ≤ maxLen) (hy : ys.length = 2) :
    setSl [.lst xs, .lst ys] (.h 0) (some (i : Nat)) (some ((i : Nat) + 2)) (.h 1) = .ok () [.lst (xs.take i ++ ys ++ xs.drop (i + 2)), .lst ys] := by
  have hc : (0 : Int) ≤ (i : Nat) ∧ ((i : Nat) : Int) ≤ ((i : Nat) : Int) + 2 ∧ ((i : Nat) : Int) + 2 ≤ (xs.length : Int) ∧ xs.length + ys.length ≤ maxLen := ⟨by omega, by omega, by omega, hl⟩
  have hs : sameH (.h 0) 1 = false := rfl
  have e1 : ((i : Nat) : Int).toNat = i := by omega
  have e2 : (((i : Nat) : Int) + 2).toNat = i + 2 := by omega
  have hz : (xs.take i ++ ys ++ xs.drop (i + 2)).length ≤ maxLen := by simp; omega
  unfold setSl
  simp only [List.getElem?_cons_succ, List.getElem?_cons_zero, hs, put, Bool.false_eq_true, if_false]
  rw [if_pos hc]
  simp only [e1, e2]
  rw [if_pos hz]
  rfl
theorem swp_thD {r : List Th} {i : Nat} {a b : Th} (h1 : r[i]? = some a) (h2 : r[i + 1]? = some b) : (thD r).take i ++ [.str (S (wr (bk b))), .str (S (wr (bk a)))] ++ (thD r).drop (i + 2) = thD (swp r i) := by
  rw [swp_eq h1 h2]
  simp [thD, List.map_take, List.map_drop]
theorem wrs_swp : ∀ (r : List Th) (i : Nat), (wrs (swp r i)).length = (wrs r).length
  | [], _ => by cases ‹Nat› <;> rfl
  | [x], 0 => rfl
  | [x], i + 1 => by
    have := wrs_swp [] i
    simp [swp, wrs] at this ⊢
    try omega
  | x :: y :: r, 0 => by
    have := len_bk x
    have := len_bk y
    simp [swp, wrs]; omega
  | x :: y :: r, i + 1 => by
    have := wrs_swp (y :: r) i
    rw [swp, wrs, wrs, List.length_append, List.length_append, this]
theorem tb_run (hS : HasSh P) (hT : HasT P) {r : List Th} (h : Shf r) {x : Tn} (hc : can r x = true) :
    runF P X (k + 12) "turned_by" [.d (.str (S (wrs r))), .d (tD x)] [] = .ok (.d (.str (S (wrs (trn r x))))) [] := by
  rw [run_def hT.turned_by rfl]
  obtain ⟨r0, ho, hw, hx⟩ := can_at hc
  have hl := shf_len h
  have hdep := h.dep
  obtain ⟨f1, f2, f3⟩ := op_facts h.gd ho
  have hm : maxLen = 1000000 := rfl
  obtain ⟨ps, i⟩ := x
  simp only at ho hw hx f2 f3
  obtain ⟨a, ha⟩ : ∃ a, r0[i]? = some a := ⟨_, List.getElem?_eq_getElem (by omega)⟩
  obtain ⟨b, hb⟩ : ∃ b, r0[i + 1]? = some b := ⟨_, List.getElem?_eq_getElem (by omega)⟩
  obtain ⟨C, hC⟩ : ∃ C, C = runF P X (k + 11) := ⟨_, rfl⟩
  rw [← hC]
  have hrow : ∀ s, callIn C "row_by" [.d (.str (S (wrs r))), .d (pD ps)] s = .ok (.d (.str (S (wrs r0)))) s := fun s => by
    have := rb_run (X := X) (k := k + 7) hS hT.box_by hT.row_by (ps := ps) h.gd (by omega)
    rw [hw] at this
    rw [hC]; exact call2 this
  have hti : ∀ s, callIn C "things_in" [.d (.str (S (wrs r0)))] s = .ok (.d (.tuple (thD r0))) s := fun s => by rw [hC]; exact call1 (ti_run (k := k + 9) hS.things_in hS.end_of (by omega) f1)
  obtain ⟨a1, a2, a3⟩ := gd_at f1 ha
  obtain ⟨b1, b2, b3⟩ := gd_at f1 hb
  have hba : ∀ s, callIn C "behind_thing" [.d (.str (S (wr a)))] s = .ok (.d (.str (S (wr (bk a))))) s := fun s => by rw [hC]; exact call1 (bt_run hS a (k + 11) (by omega) a1 (by omega))
  have hbb : ∀ s, callIn C "behind_thing" [.d (.str (S (wr b)))] s = .ok (.d (.str (S (wr (bk b))))) s := fun s => by rw [hC]; exact call1 (bt_run hS b (k + 11) (by omega) b1 (by omega))
  have hr0 := wrs_len r0
  have hnl : small (primN .list [.tuple (thD r0)]) = some (thD r0) := new_list (by rw [thD_len]; omega)
  have ixa : ∀ s, idxR (.lst (thD r0) :: s) (.h 0) (.d (.int (i : Nat))) = .ok (.d (.str (S (wr a)))) (.lst (thD r0) :: s) := fun s => idxR_h (th_get ha)
  have ixb : ∀ s, idxR (.lst (thD r0) :: s) (.h 0) (.d (.int ((i : Nat) + 1))) = .ok (.d (.str (S (wr b)))) (.lst (thD r0) :: s) := fun s => by
    rw [show (((i : Nat) : Int) + 1) = ((i + 1 : Nat) : Int) by omega]; exact idxR_h (th_get hb)
  have hsl := setSl_h (xs := thD r0) (ys := [.str (S (wr (bk b))), .str (S (wr (bk a)))]) (i := i) (by rw [thD_len]; omega) (by rw [thD_len]; simp; omega) rfl
  rw [swp_thD ha hb] at hsl
  have hsw := wrs_swp r0 i
  have hj : mthD .join (.str (S [])) [.list (thD (swp r0 i))] = some (.str (S (wrs (swp r0 i)))) := join_th (by omega)
  have hwr : ∀ s, callIn C "with_row" [.d (.str (S (wrs r))), .d (pD ps), .d (.str (S (wrs (swp r0 i))))] s = .ok (.d (.str (S (wrs (setR r ps (swp r0 i)))))) s := fun s => by
    rw [hC]; exact call3 (wr_run (k := k + 4) hS hT h.gd (by omega) (by omega) hw)
  have ht : trn r (ps, i) = setR r ps (swp r0 i) := by unfold trn; simp only; rw [hw]
  rw [ht]
  have htd : tD (ps, i) = .tuple [pD ps, .int (i : Nat)] := rfl
  rw [htd]
  simp only [e_lit, e_glb, e_var, e_bin, e_neg, e_cmp, e_isN, e_and, e_or, e_not, e_ife, e_tup, e_idx, e_slc, e_rev, e_call, e_prim, e_mth, e_dlk, e_gin, e_git, e_frs, e_new, es_nil, es_cons, d_nil, d_cons, p_none, p_some, n_lst, n_slc, c_none, c_some, i_each, t_name, t_ix, ts_nil, ts_cons, s_asg, s_par, s_aug, s_augIx, s_exp, s_ite, s_ret, s_raise, s_nop, b_nil, b_cons, ev_T, peek_d, rd1_d, rd2_d, tst_b, toD_d, frz_d, map1_some, of_none, peeks_nil, rds_1, rds_2, noEx_ok', idxR_d, alloc_ok, src_ok_nil, HB.R.bind_ok, HB.R.toO_ok, HB.O.bind_nx, HB.O.bind_ret, HB.R.of_some, int1_i, neg_i, List.map_cons, List.map_nil, List.cons_append, List.nil_append, List.getElem?_cons_succ, List.getElem?_cons_zero, List.length_cons, List.length_nil, List.set_cons_succ, List.set_cons_zero, List.replicate, Nat.reduceAdd, Nat.reduceSub, Nat.reduceLT, if_true, if_false, ite_true, ite_false, Bool.false_eq_true, reduceIte, Bool.not_true, Bool.not_false, out_ret, Option.map_some, Option.map_none, decide_true, decide_false, G.d_turned_by, t_tup, hrow, hti, n_prm, hnl, t_sl, add_ii, ixa, ixb, hba, hbb, m2, hsl, s_e, hasTy_s, w_join, rds_h, hj, hwr]
end
end M
end HB
/-! Turns: plain facts. -/
namespace HB
namespace M
open PySem PySem.W
/-! ### what stays when two things are exchanged -/
theorem swp_facts : ∀ (r : List Th) (i : Nat), (swp r i).length = r.length ∧ deps (swp r i) = deps r ∧ szs (swp r i) = szs r ∧ (sms r → sms (swp r i)) ∧ (gds r → gds (swp r i))
  | [], i => by cases i <;> exact ⟨rfl, rfl, rfl, id, id⟩
  | [x], 0 => ⟨rfl, rfl, rfl, id, id⟩
  | x :: y :: r, 0 => by
    obtain ⟨a1, a2, a3⟩ := bk_facts x
    obtain ⟨b1, b2, b3⟩ := bk_facts y
    refine ⟨rfl, ?_, ?_, fun h => ⟨b3 h.2.1, a3 h.1, h.2.2⟩, fun h => ⟨gd_bk _ h.2.1, gd_bk _ h.1, h.2.2⟩⟩
    · simp only [swp, deps, a1, b1]; omega
    · simp only [swp, szs, a2, b2]; omega
  | [x], i + 1 => by
    obtain ⟨a1, a2, a3, a4, a5⟩ := swp_facts [] i
    exact ⟨by simp [swp, a1], by simp only [swp, deps, a2], by simp only [swp, szs, a3], fun h => ⟨h.1, a4 h.2⟩, fun h => ⟨h.1, a5 h.2⟩⟩
  | x :: y :: r, i + 1 => by
    obtain ⟨a1, a2, a3, a4, a5⟩ := swp_facts (y :: r) i
    exact ⟨by simp [swp, a1], by simp only [swp]; rw [deps, deps, a2], by simp only [swp]; rw [szs, szs, a3], fun h => ⟨h.1, a4 h.2⟩, fun h => ⟨h.1, a5 h.2⟩⟩
theorem swp_swp : ∀ (r : List Th) (i : Nat), gds r → i + 1 < r.length → swp (swp r i) i = r
  | [], i, g, h => by simp at h
  | [x], 0, g, h => by simp at h
  | x :: y :: r, 0, g, h => by
    simp only [swp]
    rw [bk_bk x g.1, bk_bk y g.2.1]
  | [x], i + 1, g, h => by simp at h
  | x :: y :: r, i + 1, g, h => by
    have ih := swp_swp (y :: r) i g.2 (by simpa using h)
    have e : swp (x :: y :: r) (i + 1) = x :: swp (y :: r) i := rfl
    rw [e]
    have l := (swp_facts (y :: r) i).1
    cases q : swp (y :: r) i with
    | nil => rw [q] at l; simp at l
    | cons z zs =>
      have e2 : swp (x :: z :: zs) (i + 1) = x :: swp (z :: zs) i := rfl
      rw [e2, ← q, ih]
/-! ### a row put at a path -/
theorem set_facts : ∀ (r : List Th) (p : Nat) (t u : Th), r[p]? = some t → dep u = dep t → sz u = sz t → (sm t → sm u) → (gd t → gd u) →
    (r.set p u).length = r.length ∧ deps (r.set p u) = deps r ∧ szs (r.set p u) = szs r ∧ (sms r → sms (r.set p u)) ∧ (gds r → gds (r.set p u))
  | [], p, t, u, h, _, _, _, _ => by simp at h
  | a :: r, 0, t, u, h, h1, h2, h3, h4 => by
    simp at h; subst h
    exact ⟨rfl, by simp only [List.set_cons_zero, deps, h1], by simp only [List.set_cons_zero, szs, h2], fun q => ⟨h3 q.1, q.2⟩, fun q => ⟨h4 q.1, q.2⟩⟩
  | a :: r, p + 1, t, u, h, h1, h2, h3, h4 => by
    obtain ⟨b1, b2, b3, b4, b5⟩ := set_facts r p t u (by simpa using h) h1 h2 h3 h4
    exact ⟨by simp, by simp only [List.set_cons_succ, deps, b2], by simp only [List.set_cons_succ, szs, b3], fun q => ⟨q.1, b4 q.2⟩, fun q => ⟨q.1, b5 q.2⟩⟩
theorem setR_facts : ∀ (ps : List Nat) (r r0 r1 : List Th), rwAt r ps = some r0 → r1.length = r0.length → deps r1 = deps r0 → szs r1 = szs r0 → (sms r0 → sms r1) → (gds r0 → gds r1) →
    (setR r ps r1).length = r.length ∧ deps (setR r ps r1) = deps r ∧ szs (setR r ps r1) = szs r ∧ (sms r → sms (setR r ps r1)) ∧ (gds r → gds (setR r ps r1))
  | [], r, r0, r1, h, h0, h1, h2, h3, h4 => by cases h; exact ⟨h0, h1, h2, h3, h4⟩
  | p :: ps, r, r0, r1, h, h0, h1, h2, h3, h4 => by
    rw [rwAt] at h
    split at h
    · rename_i b r' q
      obtain ⟨c0, c1, c2, c3, c4⟩ := setR_facts ps r' r0 r1 h h0 h1 h2 h3 h4
      rw [setR, q]
      exact set_facts r p (.b b r') (.b b (setR r' ps r1)) q (by rw [dep, dep, c1]) (by rw [sz, sz, c2]) (fun q => ⟨by rw [c0]; exact q.1, c3 q.2⟩) c4
    · cases h
theorem set_get {r : List Th} {p : Nat} {t u : Th} (h : r[p]? = some t) : (r.set p u)[p]? = some u := by
  obtain ⟨q, _⟩ := List.getElem?_eq_some_iff.mp h
  rw [List.getElem?_set]
  simp [q]
theorem rw_setR : ∀ (ps : List Nat) (r r0 r1 : List Th), rwAt r ps = some r0 → rwAt (setR r ps r1) ps = some r1
  | [], r, r0, r1, h => rfl
  | p :: ps, r, r0, r1, h => by
    rw [rwAt] at h
    split at h
    · rename_i b r' q
      rw [setR, q]
      simp only
      rw [rwAt, set_get q]
      exact rw_setR ps r' r0 r1 h
    · cases h
theorem op_setR : ∀ (ps : List Nat) (r r0 r1 : List Th), opAt r ps = some r0 → opAt (setR r ps r1) ps = some r1
  | [], r, r0, r1, h => rfl
  | p :: ps, r, r0, r1, h => by
    rw [opAt] at h
    split at h
    · rename_i r' q
      rw [setR, q]
      simp only
      rw [opAt, set_get q]
      exact op_setR ps r' r0 r1 h
    · cases h
theorem setR_setR : ∀ (ps : List Nat) (r r0 r1 : List Th), rwAt r ps = some r0 → setR (setR r ps r1) ps r0 = r
  | [], r, r0, r1, h => by cases h; rfl
  | p :: ps, r, r0, r1, h => by
    rw [rwAt] at h
    split at h
    · rename_i b r' q
      have e : setR r (p :: ps) r1 = r.set p (.b b (setR r' ps r1)) := by rw [setR, q]
      rw [e, setR, set_get q]
      simp only
      rw [setR_setR ps r' r0 r1 h, List.set_set]
      obtain ⟨hp, hv⟩ := List.getElem?_eq_some_iff.mp q
      rw [← hv, List.set_getElem_self]
    · cases h
theorem trn_eq {r : List Th} {x : Tn} {r0 : List Th} (h : rwAt r x.1 = some r0) : trn r x = setR r x.1 (swp r0 x.2) := by unfold trn; rw [h]
theorem shf_trn {r : List Th} (h : Shf r) {x : Tn} (hc : can r x = true) : Shf (trn r x) := by
  obtain ⟨r0, ho, hw, hx⟩ := can_at hc
  rw [trn_eq hw]
  obtain ⟨a1, a2, a3, a4, a5⟩ := swp_facts r0 x.2
  obtain ⟨b1, b2, b3, b4, b5⟩ := setR_facts x.1 r r0 (swp r0 x.2) hw a1 a2 a3 a4 a5
  exact ⟨b5 h.gd, b4 h.sm, by rw [b1]; exact h.row, by rw [b3]; exact h.sz, by rw [b2]; exact h.dep⟩
theorem can_trn {r : List Th} {x : Tn} (hc : can r x = true) : can (trn r x) x = true := by
  obtain ⟨r0, ho, hw, hx⟩ := can_at hc
  rw [trn_eq hw]
  unfold can
  rw [op_setR _ _ _ _ ho]
  simp only
  rw [(swp_facts r0 x.2).1]
  exact decide_eq_true hx
theorem trn_trn {r : List Th} (g : gds r) {x : Tn} (hc : can r x = true) : trn (trn r x) x = r := by
  obtain ⟨r0, ho, hw, hx⟩ := can_at hc
  rw [trn_eq hw, trn_eq (rw_setR _ _ _ _ hw), swp_swp r0 x.2 (rw_facts _ _ _ g hw).1 hx, setR_setR _ _ _ _ hw]
/-! ### turns one after another -/
def bhv : List Th → List Tn → Option (List Th)
  | r, [] => some r
  | r, x :: ts => if can r x then bhv (trn r x) ts else none
theorem bhv_app : ∀ (ts us : List Tn) (r : List Th), bhv r (ts ++ us) = (bhv r ts).bind fun r' => bhv r' us
  | [], us, r => rfl
  | x :: ts, us, r => by
    rw [List.cons_append, bhv, bhv]
    split
    · exact bhv_app ts us _
    · rfl
theorem bhv_shf : ∀ {ts : List Tn} {r r' : List Th}, Shf r → bhv r ts = some r' → Shf r'
  | [], r, r', h, e => by cases e; exact h
  | x :: ts, r, r', h, e => by
    rw [bhv] at e
    split at e
    · rename_i hc; exact bhv_shf (shf_trn h hc) e
    · cases e
theorem bhv_rev : ∀ {ts : List Tn} {r r' : List Th}, Shf r → bhv r ts = some r' → bhv r' ts.reverse = some r
  | [], r, r', h, e => by cases e; rfl
  | x :: ts, r, r', h, e => by
    rw [bhv] at e
    split at e
    · rename_i hc
      rw [List.reverse_cons, bhv_app, bhv_rev (shf_trn h hc) e]
      simp only [Option.bind]
      rw [bhv, if_pos (can_trn hc), trn_trn h.gd hc]
      rfl
    · cases e
theorem op_len : ∀ (ps : List Nat) (r r0 : List Th), opAt r ps = some r0 → ps.length + deps r0 ≤ deps r
  | [], r, r0, h => by cases h; simp
  | p :: ps, r, r0, h => by
    rw [opAt] at h
    split at h
    · rename_i r' q
      have := op_len ps r' r0 h
      have d : dep (.b true r') ≤ deps r := by
        have := List.mem_of_getElem? q
        clear q h
        induction r with
        | nil => simp at this
        | cons a r ih =>
          rw [deps]
          rcases List.mem_cons.mp this with h | h
          · rw [← h]; omega
          · have := ih h; omega
      rw [dep] at d
      simp; omega
    · cases h
end M
end HB
/-! Turns one after another. -/
namespace HB
namespace M
open PySem PySem.W
/-- turns told -/
def tsD (ts : List Tn) : D := .tuple (ts.map tD)
theorem out_nx {e : Env} {s : Sto} : chkR 0 (outF false 0 (.nx e s)) = .ok (.d .none) [] := by simp [outF]
def bhB : List St := match G.d_behind_by.body with
  | [_, .for_ _ _ b, _] => b
  | _ => []
theorem bhB_eq : bhB = [.ite (.not (.call "can_turn" [.var 0, .var 2])) [.ret (.lit (.none))] [], .asg (.name 0) (.call "turned_by" [.var 0, .var 2])] := rfl
section
variable {P : List Def} {X : Ext} {k : Nat}
theorem td_run (hS : HasSh P) (hT : HasT P) {r : List Th} (h : Shf r) {x : Tn} (hc : can r x = true) :
    runF P X (k + 13) "turned" [.d (.str (S (wrs r))), .d (tD x)] [] = .ok (.d (.str (S (wrs (trn r x))))) [] := by
  rw [run_def hT.turned rfl]
  obtain ⟨C, hC⟩ : ∃ C, C = runF P X (k + 12) := ⟨_, rfl⟩
  rw [← hC]
  have hp : x.1.length ≤ 1000 := by
    obtain ⟨r0, ho, hw, hx⟩ := can_at hc
    have := op_len _ _ _ ho
    have := h.dep
    omega
  have h1 : callIn C "need_shelf" [.d (.str (S (wrs r)))] [] = .ok (.d .none) [] := by rw [hC]; exact call1 (ns_run (k := k + 10) hS h)
  have h2 : callIn C "can_turn" [.d (.str (S (wrs r))), .d (tD x)] [] = .ok (.d (.bool true)) [] := by rw [← hc, hC]; exact call2 (ct_run (k := k + 6) hS hT h hp)
  have h3 : callIn C "turned_by" [.d (.str (S (wrs r))), .d (tD x)] [] = .ok (.d (.str (S (wrs (trn r x))))) [] := by rw [hC]; exact call2 (tb_run hS hT h hc)
  simp only [e_lit, e_glb, e_var, e_bin, e_neg, e_cmp, e_isN, e_and, e_or, e_not, e_ife, e_tup, e_idx, e_slc, e_rev, e_call, e_prim, e_mth, e_dlk, e_gin, e_git, e_frs, e_new, es_nil, es_cons, d_nil, d_cons, p_none, p_some, n_lst, n_slc, c_none, c_some, i_each, t_name, t_ix, ts_nil, ts_cons, s_asg, s_par, s_aug, s_augIx, s_exp, s_ite, s_ret, s_raise, s_nop, b_nil, b_cons, ev_T, peek_d, rd1_d, rd2_d, tst_b, toD_d, frz_d, map1_some, of_none, peeks_nil, rds_1, rds_2, noEx_ok', idxR_d, alloc_ok, src_ok_nil, HB.R.bind_ok, HB.R.toO_ok, HB.O.bind_nx, HB.O.bind_ret, HB.R.of_some, int1_i, neg_i, List.map_cons, List.map_nil, List.cons_append, List.nil_append, List.getElem?_cons_succ, List.getElem?_cons_zero, List.length_cons, List.length_nil, List.set_cons_succ, List.set_cons_zero, List.replicate, Nat.reduceAdd, Nat.reduceSub, Nat.reduceLT, if_true, if_false, ite_true, ite_false, Bool.false_eq_true, reduceIte, Bool.not_true, Bool.not_false, out_ret, Option.map_some, Option.map_none, decide_true, decide_false, G.d_turned, h1, h2, h3]
theorem bh_loop (hS : HasSh P) (hT : HasT P) {C : Calls} (hC : C = runF P X (k + 12)) {th : D} : ∀ (ts : List Tn) (r : List Th) (v : Option W), Shf r → (∀ x ∈ ts, x.1.length ≤ 1000) →
    ∃ v', forL (fun s => Src.ok s []) (fun x e s => (noEx (asT C (.name 2) (.d x) e s)).toO e fun e s => exB C bhB e s) (ts.map tD) [some (.d (.str (S (wrs r)))), some (.d th), v] [] =
      match bhv r ts with
      | some r' => .nx [some (.d (.str (S (wrs r')))), some (.d th), v'] []
      | none => .ret (.d .none) []
  | [], r, v, h, hp => ⟨v, for_nil rfl⟩
  | x :: ts, r, v, h, hp => by
    have h2 : callIn C "can_turn" [.d (.str (S (wrs r))), .d (tD x)] [] = .ok (.d (.bool (can r x))) [] := by rw [hC]; exact call2 (ct_run (k := k + 6) hS hT h (hp x (List.mem_cons_self ..)))
    rw [bhv]
    cases hc : can r x with
    | true =>
      have h3 : callIn C "turned_by" [.d (.str (S (wrs r))), .d (tD x)] [] = .ok (.d (.str (S (wrs (trn r x))))) [] := by rw [hC]; exact call2 (tb_run hS hT h hc)
      rw [hc] at h2
      obtain ⟨v', e⟩ := bh_loop hS hT hC (th := th) ts (trn r x) (some (.d (tD x))) (shf_trn h hc) fun y hy => hp y (List.mem_cons_of_mem _ hy)
      refine ⟨v', ?_⟩
      rw [if_pos rfl, ← e]
      exact for_cons rfl (by simp only [e_lit, e_glb, e_var, e_bin, e_neg, e_cmp, e_isN, e_and, e_or, e_not, e_ife, e_tup, e_idx, e_slc, e_rev, e_call, e_prim, e_mth, e_dlk, e_gin, e_git, e_frs, e_new, es_nil, es_cons, d_nil, d_cons, p_none, p_some, n_lst, n_slc, c_none, c_some, i_each, t_name, t_ix, ts_nil, ts_cons, s_asg, s_par, s_aug, s_augIx, s_exp, s_ite, s_ret, s_raise, s_nop, b_nil, b_cons, ev_T, peek_d, rd1_d, rd2_d, tst_b, toD_d, frz_d, map1_some, of_none, peeks_nil, rds_1, rds_2, noEx_ok', idxR_d, alloc_ok, src_ok_nil, HB.R.bind_ok, HB.R.toO_ok, HB.O.bind_nx, HB.O.bind_ret, HB.R.of_some, int1_i, neg_i, List.map_cons, List.map_nil, List.cons_append, List.nil_append, List.getElem?_cons_succ, List.getElem?_cons_zero, List.length_cons, List.length_nil, List.set_cons_succ, List.set_cons_zero, List.replicate, Nat.reduceAdd, Nat.reduceSub, Nat.reduceLT, if_true, if_false, ite_true, ite_false, Bool.false_eq_true, reduceIte, Bool.not_true, Bool.not_false, out_ret, Option.map_some, Option.map_none, decide_true, decide_false, bhB_eq, h2, h3])
    | false =>
      rw [hc] at h2
      refine ⟨v, ?_⟩
      rw [if_neg (by simp)]
      exact for_ret rfl (by simp only [e_lit, e_glb, e_var, e_bin, e_neg, e_cmp, e_isN, e_and, e_or, e_not, e_ife, e_tup, e_idx, e_slc, e_rev, e_call, e_prim, e_mth, e_dlk, e_gin, e_git, e_frs, e_new, es_nil, es_cons, d_nil, d_cons, p_none, p_some, n_lst, n_slc, c_none, c_some, i_each, t_name, t_ix, ts_nil, ts_cons, s_asg, s_par, s_aug, s_augIx, s_exp, s_ite, s_ret, s_raise, s_nop, b_nil, b_cons, ev_T, peek_d, rd1_d, rd2_d, tst_b, toD_d, frz_d, map1_some, of_none, peeks_nil, rds_1, rds_2, noEx_ok', idxR_d, alloc_ok, src_ok_nil, HB.R.bind_ok, HB.R.toO_ok, HB.O.bind_nx, HB.O.bind_ret, HB.R.of_some, int1_i, neg_i, List.map_cons, List.map_nil, List.cons_append, List.nil_append, List.getElem?_cons_succ, List.getElem?_cons_zero, List.length_cons, List.length_nil, List.set_cons_succ, List.set_cons_zero, List.replicate, Nat.reduceAdd, Nat.reduceSub, Nat.reduceLT, if_true, if_false, ite_true, ite_false, Bool.false_eq_true, reduceIte, Bool.not_true, Bool.not_false, out_ret, Option.map_some, Option.map_none, decide_true, decide_false, bhB_eq, h2])
theorem bh_run (hS : HasSh P) (hT : HasT P) {r : List Th} (h : Shf r) {ts : List Tn} (hp : ∀ x ∈ ts, x.1.length ≤ 1000) :
    runF P X (k + 13) "behind_by" [.d (.str (S (wrs r))), .d (tsD ts)] [] = .ok (.d (oR (bhv r ts))) [] := by
  rw [run_def hT.behind_by rfl]
  obtain ⟨C, hC⟩ : ∃ C, C = runF P X (k + 12) := ⟨_, rfl⟩
  rw [← hC]
  obtain ⟨v', e⟩ := bh_loop hS hT hC (th := tsD ts) ts r none h hp
  have hs : srcS [] (.d (tsD ts)) = some ⟨[], ts.map tD⟩ := rfl
  have hi : evI C (.each (.var 1)) [some (.d (.str (S (wrs r)))), some (.d (tsD ts)), none] [] = .ok ⟨[], ts.map tD⟩ [] := by simp only [e_lit, e_glb, e_var, e_bin, e_neg, e_cmp, e_isN, e_and, e_or, e_not, e_ife, e_tup, e_idx, e_slc, e_rev, e_call, e_prim, e_mth, e_dlk, e_gin, e_git, e_frs, e_new, es_nil, es_cons, d_nil, d_cons, p_none, p_some, n_lst, n_slc, c_none, c_some, i_each, t_name, t_ix, ts_nil, ts_cons, s_asg, s_par, s_aug, s_augIx, s_exp, s_ite, s_ret, s_raise, s_nop, b_nil, b_cons, ev_T, peek_d, rd1_d, rd2_d, tst_b, toD_d, frz_d, map1_some, of_none, peeks_nil, rds_1, rds_2, noEx_ok', idxR_d, alloc_ok, src_ok_nil, HB.R.bind_ok, HB.R.toO_ok, HB.O.bind_nx, HB.O.bind_ret, HB.R.of_some, int1_i, neg_i, List.map_cons, List.map_nil, List.cons_append, List.nil_append, List.getElem?_cons_succ, List.getElem?_cons_zero, List.length_cons, List.length_nil, List.set_cons_succ, List.set_cons_zero, List.replicate, Nat.reduceAdd, Nat.reduceSub, Nat.reduceLT, if_true, if_false, ite_true, ite_false, Bool.false_eq_true, reduceIte, Bool.not_true, Bool.not_false, out_ret, Option.map_some, Option.map_none, decide_true, decide_false, hs]
  have hf : exS C (.for_ (.name 2) (.each (.var 1)) bhB) [some (.d (.str (S (wrs r)))), some (.d (tsD ts)), none] [] = match bhv r ts with
      | some r' => .nx [some (.d (.str (S (wrs r')))), some (.d (tsD ts)), v'] []
      | none => .ret (.d .none) [] := by
    rw [s_for, hi, HB.R.toO_ok]; exact e
  rw [bhB_eq] at hf
  have ht : prim (.isinst ["tuple"]) [tsD ts] = some (.bool true) := rfl
  cases q : bhv r ts with
  | none => rw [q] at hf; simp only [e_lit, e_glb, e_var, e_bin, e_neg, e_cmp, e_isN, e_and, e_or, e_not, e_ife, e_tup, e_idx, e_slc, e_rev, e_call, e_prim, e_mth, e_dlk, e_gin, e_git, e_frs, e_new, es_nil, es_cons, d_nil, d_cons, p_none, p_some, n_lst, n_slc, c_none, c_some, i_each, t_name, t_ix, ts_nil, ts_cons, s_asg, s_par, s_aug, s_augIx, s_exp, s_ite, s_ret, s_raise, s_nop, b_nil, b_cons, ev_T, peek_d, rd1_d, rd2_d, tst_b, toD_d, frz_d, map1_some, of_none, peeks_nil, rds_1, rds_2, noEx_ok', idxR_d, alloc_ok, src_ok_nil, HB.R.bind_ok, HB.R.toO_ok, HB.O.bind_nx, HB.O.bind_ret, HB.R.of_some, int1_i, neg_i, List.map_cons, List.map_nil, List.cons_append, List.nil_append, List.getElem?_cons_succ, List.getElem?_cons_zero, List.length_cons, List.length_nil, List.set_cons_succ, List.set_cons_zero, List.replicate, Nat.reduceAdd, Nat.reduceSub, Nat.reduceLT, if_true, if_false, ite_true, ite_false, Bool.false_eq_true, reduceIte, Bool.not_true, Bool.not_false, out_ret, Option.map_some, Option.map_none, decide_true, decide_false, G.d_behind_by, ht, hf]; rfl
  | some r' => rw [q] at hf; simp only [e_lit, e_glb, e_var, e_bin, e_neg, e_cmp, e_isN, e_and, e_or, e_not, e_ife, e_tup, e_idx, e_slc, e_rev, e_call, e_prim, e_mth, e_dlk, e_gin, e_git, e_frs, e_new, es_nil, es_cons, d_nil, d_cons, p_none, p_some, n_lst, n_slc, c_none, c_some, i_each, t_name, t_ix, ts_nil, ts_cons, s_asg, s_par, s_aug, s_augIx, s_exp, s_ite, s_ret, s_raise, s_nop, b_nil, b_cons, ev_T, peek_d, rd1_d, rd2_d, tst_b, toD_d, frz_d, map1_some, of_none, peeks_nil, rds_1, rds_2, noEx_ok', idxR_d, alloc_ok, src_ok_nil, HB.R.bind_ok, HB.R.toO_ok, HB.O.bind_nx, HB.O.bind_ret, HB.R.of_some, int1_i, neg_i, List.map_cons, List.map_nil, List.cons_append, List.nil_append, List.getElem?_cons_succ, List.getElem?_cons_zero, List.length_cons, List.length_nil, List.set_cons_succ, List.set_cons_zero, List.replicate, Nat.reduceAdd, Nat.reduceSub, Nat.reduceLT, if_true, if_false, ite_true, ite_false, Bool.false_eq_true, reduceIte, Bool.not_true, Bool.not_false, out_ret, Option.map_some, Option.map_none, decide_true, decide_false, G.d_behind_by, ht, hf]; rfl
theorem bd_run (hS : HasSh P) (hT : HasT P) {r r' : List Th} (h : Shf r) {ts : List Tn} (hp : ∀ x ∈ ts, x.1.length ≤ 1000) (hb : bhv r ts = some r') :
    runF P X (k + 15) "behind" [.d (.str (S (wrs r))), .d (tsD ts)] [] = .ok (.d (.str (S (wrs r')))) [] := by
  rw [run_def hT.behind rfl]
  obtain ⟨C, hC⟩ : ∃ C, C = runF P X (k + 14) := ⟨_, rfl⟩
  rw [← hC]
  have hn : runF P X (k + 14) "need_turns" [.d (.str (S (wrs r))), .d (tsD ts)] [] = .ok (.d .none) [] := by
    rw [run_def hT.need_turns rfl]
    obtain ⟨C', hC'⟩ : ∃ C, C = runF P X (k + 13) := ⟨_, rfl⟩
    rw [← hC']
    have h1 : callIn C' "need_shelf" [.d (.str (S (wrs r)))] [] = .ok (.d .none) [] := by rw [hC']; exact call1 (ns_run (k := k + 11) hS h)
    have h2 : callIn C' "behind_by" [.d (.str (S (wrs r))), .d (tsD ts)] [] = .ok (.d (oR (bhv r ts))) [] := by rw [hC']; exact call2 (bh_run hS hT h hp)
    rw [hb] at h2
    simp only [e_lit, e_glb, e_var, e_bin, e_neg, e_cmp, e_isN, e_and, e_or, e_not, e_ife, e_tup, e_idx, e_slc, e_rev, e_call, e_prim, e_mth, e_dlk, e_gin, e_git, e_frs, e_new, es_nil, es_cons, d_nil, d_cons, p_none, p_some, n_lst, n_slc, c_none, c_some, i_each, t_name, t_ix, ts_nil, ts_cons, s_asg, s_par, s_aug, s_augIx, s_exp, s_ite, s_ret, s_raise, s_nop, b_nil, b_cons, ev_T, peek_d, rd1_d, rd2_d, tst_b, toD_d, frz_d, map1_some, of_none, peeks_nil, rds_1, rds_2, noEx_ok', idxR_d, alloc_ok, src_ok_nil, HB.R.bind_ok, HB.R.toO_ok, HB.O.bind_nx, HB.O.bind_ret, HB.R.of_some, int1_i, neg_i, List.map_cons, List.map_nil, List.cons_append, List.nil_append, List.getElem?_cons_succ, List.getElem?_cons_zero, List.length_cons, List.length_nil, List.set_cons_succ, List.set_cons_zero, List.replicate, Nat.reduceAdd, Nat.reduceSub, Nat.reduceLT, if_true, if_false, ite_true, ite_false, Bool.false_eq_true, reduceIte, Bool.not_true, Bool.not_false, out_ret, Option.map_some, Option.map_none, decide_true, decide_false, G.d_need_turns, h1, h2, oR, out_nx]
  have h1 : callIn C "need_turns" [.d (.str (S (wrs r))), .d (tsD ts)] [] = .ok (.d .none) [] := by rw [hC]; exact call2 hn
  have h2 : callIn C "behind_by" [.d (.str (S (wrs r))), .d (tsD ts)] [] = .ok (.d (oR (bhv r ts))) [] := by rw [hC]; exact call2 (bh_run (k := k + 1) hS hT h hp)
  rw [hb] at h2
  simp only [e_lit, e_glb, e_var, e_bin, e_neg, e_cmp, e_isN, e_and, e_or, e_not, e_ife, e_tup, e_idx, e_slc, e_rev, e_call, e_prim, e_mth, e_dlk, e_gin, e_git, e_frs, e_new, es_nil, es_cons, d_nil, d_cons, p_none, p_some, n_lst, n_slc, c_none, c_some, i_each, t_name, t_ix, ts_nil, ts_cons, s_asg, s_par, s_aug, s_augIx, s_exp, s_ite, s_ret, s_raise, s_nop, b_nil, b_cons, ev_T, peek_d, rd1_d, rd2_d, tst_b, toD_d, frz_d, map1_some, of_none, peeks_nil, rds_1, rds_2, noEx_ok', idxR_d, alloc_ok, src_ok_nil, HB.R.bind_ok, HB.R.toO_ok, HB.O.bind_nx, HB.O.bind_ret, HB.R.of_some, int1_i, neg_i, List.map_cons, List.map_nil, List.cons_append, List.nil_append, List.getElem?_cons_succ, List.getElem?_cons_zero, List.length_cons, List.length_nil, List.set_cons_succ, List.set_cons_zero, List.replicate, Nat.reduceAdd, Nat.reduceSub, Nat.reduceLT, if_true, if_false, ite_true, ite_false, Bool.false_eq_true, reduceIte, Bool.not_true, Bool.not_false, out_ret, Option.map_some, Option.map_none, decide_true, decide_false, G.d_behind, h1, h2, oR]
theorem at_run (hS : HasSh P) (hT : HasT P) {r : List Th} (h : Shf r) {ts : List Tn} (hp : ∀ x ∈ ts, x.1.length ≤ 1000) :
    runF P X (k + 14) "are_turns" [.d (.str (S (wrs r))), .d (tsD ts)] [] = .ok (.d (.bool (bhv r ts).isSome)) [] := by
  rw [run_def hT.are_turns rfl]
  obtain ⟨C, hC⟩ : ∃ C, C = runF P X (k + 13) := ⟨_, rfl⟩
  rw [← hC]
  have h1 : callIn C "need_shelf" [.d (.str (S (wrs r)))] [] = .ok (.d .none) [] := by rw [hC]; exact call1 (ns_run (k := k + 11) hS h)
  have h2 : callIn C "behind_by" [.d (.str (S (wrs r))), .d (tsD ts)] [] = .ok (.d (oR (bhv r ts))) [] := by rw [hC]; exact call2 (bh_run hS hT h hp)
  cases q : bhv r ts with
  | none => rw [q] at h2; simp only [e_lit, e_glb, e_var, e_bin, e_neg, e_cmp, e_isN, e_and, e_or, e_not, e_ife, e_tup, e_idx, e_slc, e_rev, e_call, e_prim, e_mth, e_dlk, e_gin, e_git, e_frs, e_new, es_nil, es_cons, d_nil, d_cons, p_none, p_some, n_lst, n_slc, c_none, c_some, i_each, t_name, t_ix, ts_nil, ts_cons, s_asg, s_par, s_aug, s_augIx, s_exp, s_ite, s_ret, s_raise, s_nop, b_nil, b_cons, ev_T, peek_d, rd1_d, rd2_d, tst_b, toD_d, frz_d, map1_some, of_none, peeks_nil, rds_1, rds_2, noEx_ok', idxR_d, alloc_ok, src_ok_nil, HB.R.bind_ok, HB.R.toO_ok, HB.O.bind_nx, HB.O.bind_ret, HB.R.of_some, int1_i, neg_i, List.map_cons, List.map_nil, List.cons_append, List.nil_append, List.getElem?_cons_succ, List.getElem?_cons_zero, List.length_cons, List.length_nil, List.set_cons_succ, List.set_cons_zero, List.replicate, Nat.reduceAdd, Nat.reduceSub, Nat.reduceLT, if_true, if_false, ite_true, ite_false, Bool.false_eq_true, reduceIte, Bool.not_true, Bool.not_false, out_ret, Option.map_some, Option.map_none, decide_true, decide_false, G.d_are_turns, h1, h2, oR]; rfl
  | some r' => rw [q] at h2; simp only [e_lit, e_glb, e_var, e_bin, e_neg, e_cmp, e_isN, e_and, e_or, e_not, e_ife, e_tup, e_idx, e_slc, e_rev, e_call, e_prim, e_mth, e_dlk, e_gin, e_git, e_frs, e_new, es_nil, es_cons, d_nil, d_cons, p_none, p_some, n_lst, n_slc, c_none, c_some, i_each, t_name, t_ix, ts_nil, ts_cons, s_asg, s_par, s_aug, s_augIx, s_exp, s_ite, s_ret, s_raise, s_nop, b_nil, b_cons, ev_T, peek_d, rd1_d, rd2_d, tst_b, toD_d, frz_d, map1_some, of_none, peeks_nil, rds_1, rds_2, noEx_ok', idxR_d, alloc_ok, src_ok_nil, HB.R.bind_ok, HB.R.toO_ok, HB.O.bind_nx, HB.O.bind_ret, HB.R.of_some, int1_i, neg_i, List.map_cons, List.map_nil, List.cons_append, List.nil_append, List.getElem?_cons_succ, List.getElem?_cons_zero, List.length_cons, List.length_nil, List.set_cons_succ, List.set_cons_zero, List.replicate, Nat.reduceAdd, Nat.reduceSub, Nat.reduceLT, if_true, if_false, ite_true, ite_false, Bool.false_eq_true, reduceIte, Bool.not_true, Bool.not_false, out_ret, Option.map_some, Option.map_none, decide_true, decide_false, G.d_are_turns, h1, h2, oR]; rfl
end
end M
end HB
/-! Which paths there are. -/
namespace HB
namespace M
open PySem PySem.W
mutual
/-- the paths of open boxes, within a thing at the path q -/
def pIn1 : Th → List Nat → List (List Nat)
  | .c _, _ => []
  | .b b r, q => if b then q :: pIns r q 0 else []
def pIns : List Th → List Nat → Nat → List (List Nat)
  | [], _, _ => []
  | t :: r, q, i => pIn1 t (q ++ [i]) ++ pIns r q (i + 1)
end
mutual
theorem pIn1_len : ∀ (t : Th) (q : List Nat), (pIn1 t q).length ≤ sz t
  | .c _, q => by simp [pIn1]
  | .b b r, q => by
    have := pIns_len r q 0
    rw [pIn1, sz]
    split
    · simp; omega
    · simp
theorem pIns_len : ∀ (r : List Th) (q : List Nat) (i : Nat), (pIns r q i).length ≤ szs r
  | [], q, i => by simp [pIns]
  | t :: r, q, i => by
    have := pIn1_len t (q ++ [i])
    have := pIns_len r q (i + 1)
    rw [pIns, szs, List.length_append]; omega
end
theorem add_tt {xs ys : List D} (h : (xs ++ ys).length ≤ maxLen) : bin2 .add (.tuple xs) (.tuple ys) = some (.tuple (xs ++ ys)) := by
  rw [List.length_append] at h
  simp [bin2, h]
theorem rd1_h {α : Type} (xs : List D) (s : Sto) (g : D → R α) : rd1 (.lst xs :: s) (.h 0) g = g (.list xs) := rfl
theorem ext_h {xs ys : List D} (h : (xs ++ ys).length ≤ maxLen) : mthW [.lst xs] .extend (.h 0) [.list ys] = .ok .none [.lst (xs ++ ys)] := by
  simp only [mthW, put, List.getElem?_cons_zero, mthF]
  rw [if_pos h]
  rfl
def ppB : List St := match G.d_paths_in.body with
  | [_, .for_ _ _ b, _] => b
  | _ => []
theorem ppB_eq : ppB = [.ite (.call "is_open" [.var 4]) [.exp (.mth .extend "list" (.var 2) [.call "paths_in" [.call "inner" [.var 4], .bin .add (.var 1) (.tup [.var 3])]])] []] := rfl
def pls (ps : List (List Nat)) : List D := ps.map pD
theorem pls_app (a b : List (List Nat)) : pls a ++ pls b = pls (a ++ b) := by simp [pls]
section
variable {P : List Def} {X : Ext} {k : Nat}
/-- one thing -/
theorem pp_turn (hS : HasSh P) (hT : HasT P) {C : Calls} (hC : C = runF P X (k + 2)) {t : Th} {q : List Nat} {i : Nat} {acc : List (List Nat)} {w : D} {a b : Option W} (g : gd t) (hl : (wr t).length ≤ 500) (hq : q.length ≤ 100) (ha : acc.length + (pIn1 t (q ++ [i])).length ≤ 1000)
    (hR : ∀ r', t = .b true r' → C "paths_in" [.d (.str (S (wrs r'))), .d (pD (q ++ [i]))] [] = .ok (.d (.list (pls ((q ++ [i]) :: pIns r' (q ++ [i]) 0)))) []) :
    (noEx (asT C (.tup [.name 3, .name 4]) (.d (.tuple [.int (i : Nat), .str (S (wr t))])) [some (.d w), some (.d (pD q)), some (.h 0), a, b] [.lst (pls acc)])).toO [some (.d w), some (.d (pD q)), some (.h 0), a, b] (fun e s => exB C ppB e s) =
      .nx [some (.d w), some (.d (pD q)), some (.h 0), some (.d (.int (i : Nat))), some (.d (.str (S (wr t))))] [.lst (pls (acc ++ pIn1 t (q ++ [i])))] := by
  have hm : maxLen = 1000000 := rfl
  have ho : ∀ s, callIn C "is_open" [.d (.str (S (wr t)))] s = .ok (.d (.bool (isO t))) s := fun s => by rw [hC]; exact call1 (io_run (k := k + 1) hT.is_open g (by omega))
  have no : isO t = false → pIn1 t (q ++ [i]) = [] := fun h => by
    cases t with
    | c n => rw [pIn1]
    | b b r => cases b with
      | true => cases h
      | false => rw [pIn1]; rfl
  cases h : isO t with
  | false =>
    rw [h] at ho
    rw [no h, List.append_nil]
    simp only [e_lit, e_glb, e_var, e_bin, e_neg, e_cmp, e_isN, e_and, e_or, e_not, e_ife, e_tup, e_idx, e_slc, e_rev, e_call, e_prim, e_mth, e_dlk, e_gin, e_git, e_frs, e_new, es_nil, es_cons, d_nil, d_cons, p_none, p_some, n_lst, n_slc, c_none, c_some, i_each, t_name, t_ix, ts_nil, ts_cons, s_asg, s_par, s_aug, s_augIx, s_exp, s_ite, s_ret, s_raise, s_nop, b_nil, b_cons, ev_T, peek_d, rd1_d, rd2_d, tst_b, toD_d, frz_d, map1_some, of_none, peeks_nil, rds_1, rds_2, noEx_ok', idxR_d, alloc_ok, src_ok_nil, HB.R.bind_ok, HB.R.toO_ok, HB.O.bind_nx, HB.O.bind_ret, HB.R.of_some, int1_i, neg_i, List.map_cons, List.map_nil, List.cons_append, List.nil_append, List.getElem?_cons_succ, List.getElem?_cons_zero, List.length_cons, List.length_nil, List.set_cons_succ, List.set_cons_zero, List.replicate, Nat.reduceAdd, Nat.reduceSub, Nat.reduceLT, if_true, if_false, ite_true, ite_false, Bool.false_eq_true, reduceIte, Bool.not_true, Bool.not_false, out_ret, Option.map_some, Option.map_none, decide_true, decide_false, t_tup, ppB_eq, ho]
  | true =>
    rw [h] at ho
    cases t with
    | c n => cases h
    | b b r =>
      cases b with
      | false => cases h
      | true =>
        have hi : ∀ s, callIn C "inner" [.d (.str (S (wr (.b true r))))] s = .ok (.d (.str (S (wrs r)))) s := fun s => by rw [hC]; exact call1 (in_run (k := k + 1) hS.inner (by omega))
        have hp : ∀ s, callIn C "paths_in" [.d (.str (S (wrs r))), .d (pD (q ++ [i]))] s = .ok (.d (.list (pls ((q ++ [i]) :: pIns r (q ++ [i]) 0)))) s := fun s => call2 (hR r rfl)
        have had : bin2 .add (pD q) (.tuple [.int (i : Nat)]) = some (pD (q ++ [i])) := by
          have := add_tt (xs := q.map fun n => .int (n : Nat)) (ys := [.int (i : Nat)]) (by simp; omega)
          refine this.trans ?_
          simp [pD]
        have e1 : pIn1 (.b true r) (q ++ [i]) = (q ++ [i]) :: pIns r (q ++ [i]) 0 := by rw [pIn1]; rfl
        rw [e1] at ha ⊢
        have hx : mthW [.lst (pls acc)] .extend (.h 0) [.list (pls ((q ++ [i]) :: pIns r (q ++ [i]) 0))] = .ok .none [.lst (pls (acc ++ ((q ++ [i]) :: pIns r (q ++ [i]) 0)))] := by
          rw [← pls_app]
          exact ext_h (by simp only [pls, List.length_append, List.length_map] at ha ⊢; omega)
        simp only [e_lit, e_glb, e_var, e_bin, e_neg, e_cmp, e_isN, e_and, e_or, e_not, e_ife, e_tup, e_idx, e_slc, e_rev, e_call, e_prim, e_mth, e_dlk, e_gin, e_git, e_frs, e_new, es_nil, es_cons, d_nil, d_cons, p_none, p_some, n_lst, n_slc, c_none, c_some, i_each, t_name, t_ix, ts_nil, ts_cons, s_asg, s_par, s_aug, s_augIx, s_exp, s_ite, s_ret, s_raise, s_nop, b_nil, b_cons, ev_T, peek_d, rd1_d, rd2_d, tst_b, toD_d, frz_d, map1_some, of_none, peeks_nil, rds_1, rds_2, noEx_ok', idxR_d, alloc_ok, src_ok_nil, HB.R.bind_ok, HB.R.toO_ok, HB.O.bind_nx, HB.O.bind_ret, HB.R.of_some, int1_i, neg_i, List.map_cons, List.map_nil, List.cons_append, List.nil_append, List.getElem?_cons_succ, List.getElem?_cons_zero, List.length_cons, List.length_nil, List.set_cons_succ, List.set_cons_zero, List.replicate, Nat.reduceAdd, Nat.reduceSub, Nat.reduceLT, if_true, if_false, ite_true, ite_false, Bool.false_eq_true, reduceIte, Bool.not_true, Bool.not_false, out_ret, Option.map_some, Option.map_none, decide_true, decide_false, t_tup, ppB_eq, ho, hi, m1, had, hp, rd1_h, hasTy_l, w_ext, hx]
theorem pp_loop (hS : HasSh P) (hT : HasT P) {C : Calls} (hC : C = runF P X (k + 2)) {w : D} {q : List Nat} (hq : q.length ≤ 100) : ∀ (r : List Th) (i : Nat) (acc : List (List Nat)) (a b : Option W), gds r → (wrs r).length ≤ 500 → acc.length + (pIns r q i).length ≤ 1000 →
    (∀ t ∈ r, ∀ r' j, t = .b true r' → C "paths_in" [.d (.str (S (wrs r'))), .d (pD (q ++ [j]))] [] = .ok (.d (.list (pls ((q ++ [j]) :: pIns r' (q ++ [j]) 0)))) []) →
    ∃ a' b', forL (fun s => Src.ok s []) (fun x e s => (noEx (asT C (.tup [.name 3, .name 4]) (.d x) e s)).toO e fun e s => exB C ppB e s) (enumL i (thD r)) [some (.d w), some (.d (pD q)), some (.h 0), a, b] [.lst (pls acc)] =
      .nx [some (.d w), some (.d (pD q)), some (.h 0), a', b'] [.lst (pls (acc ++ pIns r q i))]
  | [], i, acc, a, b, g, hl, ha, hR => ⟨a, b, by rw [pIns, List.append_nil]; exact for_nil rfl⟩
  | t :: r, i, acc, a, b, g, hl, ha, hR => by
    rw [pIns, List.length_append] at ha
    rw [wrs, List.length_append] at hl
    have e := pp_turn (k := k) hS hT hC (t := t) (q := q) (i := i) (acc := acc) (w := w) (a := a) (b := b) g.1 (by omega) hq (by omega) fun r' hr => hR t (List.mem_cons_self ..) r' i hr
    obtain ⟨a', b', e2⟩ := pp_loop hS hT hC hq r (i + 1) (acc ++ pIn1 t (q ++ [i])) (some (.d (.int (i : Nat)))) (some (.d (.str (S (wr t))))) g.2 (by omega) (by simp; omega) fun u hu => hR u (List.mem_cons_of_mem _ hu)
    refine ⟨a', b', ?_⟩
    rw [pIns, ← List.append_assoc, ← e2]
    exact for_cons rfl e
theorem sz_mem : ∀ (r : List Th) {r' : List Th} {b : Bool}, Th.b b r' ∈ r → szs r' ≤ szs r
  | [], _, _, h => by simp at h
  | t :: r, r', b, h => by
    rw [szs]
    rcases List.mem_cons.mp h with h | h
    · rw [← h, sz]; omega
    · have := sz_mem r h; omega
theorem pp_run1 (hS : HasSh P) (hT : HasT P) {n : Nat} {r : List Th} {q : List Nat} {k : Nat} (hk : n + 3 ≤ k) (hd : deps r ≤ n) (g : gds r) (hl : (wrs r).length ≤ 400) (hz : szs r ≤ 400) (hq : q.length + n ≤ 100)
    (hR : ∀ t ∈ r, ∀ r' j, t = .b true r' → runF P X (k - 1) "paths_in" [.d (.str (S (wrs r'))), .d (pD (q ++ [j]))] [] = .ok (.d (.list (pls ((q ++ [j]) :: pIns r' (q ++ [j]) 0)))) []) :
    runF P X k "paths_in" [.d (.str (S (wrs r))), .d (pD q)] [] = .ok (.d (.list (pls (q :: pIns r q 0)))) [] := by
  obtain ⟨j, rfl⟩ : ∃ j, k = j + 3 := ⟨k - 3, by omega⟩
  rw [run_def hT.paths_in rfl]
  obtain ⟨C, hC⟩ : ∃ C, C = runF P X (j + 2) := ⟨_, rfl⟩
  rw [show j + 3 - 1 = j + 2 from rfl, ← hC] at hR
  rw [← hC]
  have hpl := pIns_len r q 0
  obtain ⟨a', b', e⟩ := pp_loop (k := j) hS hT hC (w := .str (S (wrs r))) (q := q) (by omega) r 0 [q] none none g (by omega) (by simp; omega) hR
  have ht : ∀ s, callIn C "things_in" [.d (.str (S (wrs r)))] s = .ok (.d (.tuple (thD r))) s := fun s => by rw [hC]; exact call1 (ti_run hS.things_in hS.end_of (by omega) g)
  have hi : evI C (.enum (.call "things_in" [.var 0])) [some (.d (.str (S (wrs r)))), some (.d (pD q)), some (.h 0), none, none] [.lst [pD q]] = .ok ⟨[], enumL 0 (thD r)⟩ [.lst [pD q]] := by
    have hs : srcS [.lst [pD q]] (.d (.tuple (thD r))) = some ⟨[], thD r⟩ := rfl
    rw [evI]
    simp only [e_lit, e_glb, e_var, e_bin, e_neg, e_cmp, e_isN, e_and, e_or, e_not, e_ife, e_tup, e_idx, e_slc, e_rev, e_call, e_prim, e_mth, e_dlk, e_gin, e_git, e_frs, e_new, es_nil, es_cons, d_nil, d_cons, p_none, p_some, n_lst, n_slc, c_none, c_some, i_each, t_name, t_ix, ts_nil, ts_cons, s_asg, s_par, s_aug, s_augIx, s_exp, s_ite, s_ret, s_raise, s_nop, b_nil, b_cons, ev_T, peek_d, rd1_d, rd2_d, tst_b, toD_d, frz_d, map1_some, of_none, peeks_nil, rds_1, rds_2, noEx_ok', idxR_d, alloc_ok, src_ok_nil, HB.R.bind_ok, HB.R.toO_ok, HB.O.bind_nx, HB.O.bind_ret, HB.R.of_some, int1_i, neg_i, List.map_cons, List.map_nil, List.cons_append, List.nil_append, List.getElem?_cons_succ, List.getElem?_cons_zero, List.length_cons, List.length_nil, List.set_cons_succ, List.set_cons_zero, List.replicate, Nat.reduceAdd, Nat.reduceSub, Nat.reduceLT, if_true, if_false, ite_true, ite_false, Bool.false_eq_true, reduceIte, Bool.not_true, Bool.not_false, out_ret, Option.map_some, Option.map_none, decide_true, decide_false, ht, hs]
  have hf : exS C (.for_ (.tup [.name 3, .name 4]) (.enum (.call "things_in" [.var 0])) ppB) [some (.d (.str (S (wrs r)))), some (.d (pD q)), some (.h 0), none, none] [.lst [pD q]] = .nx [some (.d (.str (S (wrs r)))), some (.d (pD q)), some (.h 0), a', b'] [.lst (pls (q :: pIns r q 0))] := by
    rw [s_for, hi, HB.R.toO_ok]; exact e
  rw [ppB_eq] at hf
  simp only [e_lit, e_glb, e_var, e_bin, e_neg, e_cmp, e_isN, e_and, e_or, e_not, e_ife, e_tup, e_idx, e_slc, e_rev, e_call, e_prim, e_mth, e_dlk, e_gin, e_git, e_frs, e_new, es_nil, es_cons, d_nil, d_cons, p_none, p_some, n_lst, n_slc, c_none, c_some, i_each, t_name, t_ix, ts_nil, ts_cons, s_asg, s_par, s_aug, s_augIx, s_exp, s_ite, s_ret, s_raise, s_nop, b_nil, b_cons, ev_T, peek_d, rd1_d, rd2_d, tst_b, toD_d, frz_d, map1_some, of_none, peeks_nil, rds_1, rds_2, noEx_ok', idxR_d, alloc_ok, src_ok_nil, HB.R.bind_ok, HB.R.toO_ok, HB.O.bind_nx, HB.O.bind_ret, HB.R.of_some, int1_i, neg_i, List.map_cons, List.map_nil, List.cons_append, List.nil_append, List.getElem?_cons_succ, List.getElem?_cons_zero, List.length_cons, List.length_nil, List.set_cons_succ, List.set_cons_zero, List.replicate, Nat.reduceAdd, Nat.reduceSub, Nat.reduceLT, if_true, if_false, ite_true, ite_false, Bool.false_eq_true, reduceIte, Bool.not_true, Bool.not_false, out_ret, Option.map_some, Option.map_none, decide_true, decide_false, G.d_paths_in, m1, hf]
  rfl
theorem pp_run (hS : HasSh P) (hT : HasT P) (n : Nat) : ∀ (r : List Th) (q : List Nat) (k : Nat), deps r ≤ n → n + 3 ≤ k → gds r → (wrs r).length ≤ 400 → szs r ≤ 400 → q.length + n ≤ 100 →
    runF P X k "paths_in" [.d (.str (S (wrs r))), .d (pD q)] [] = .ok (.d (.list (pls (q :: pIns r q 0)))) [] := by
  induction n with
  | zero =>
    intro r q k hd hk g hl hz hq
    refine pp_run1 hS hT hk hd g hl hz hq fun t ht r' j e => ?_
    have := (mem_facts r t ht g).2.1
    rw [e, dep] at this; omega
  | succ n ih =>
    intro r q k hd hk g hl hz hq
    refine pp_run1 hS hT hk hd g hl hz hq fun t ht r' j e => ?_
    obtain ⟨h1, h2, h3⟩ := mem_facts r t ht g
    subst e
    rw [dep] at h2
    rw [wr_b] at h3
    have hs : szs r' ≤ szs r := sz_mem r ht
    exact ih r' (q ++ [j]) (k - 1) (by omega) (by omega) h1 (by omega) (by omega) (by simp; omega)
end
end M
end HB
/-! Which turns there are. -/
namespace HB
namespace M
open PySem PySem.W
/-- the turns of the row at a path -/
def tns (r : List Th) (q : List Nat) : List Tn := match rwAt r q with
  | some r0 => (List.range (r0.length - 1)).map fun i => (q, i)
  | none => []
def paths (r : List Th) : List (List Nat) := [] :: pIns r [] 0
def turns (r : List Th) : List Tn := (paths r).flatMap (tns r)
/-! ### paths are those of open boxes -/
mutual
theorem pIn1_mem : ∀ (t : Th) (q q' : List Nat), q' ∈ pIn1 t q ↔ ∃ r ps, t = .b true r ∧ q' = q ++ ps ∧ (opAt r ps).isSome = true
  | .c n, q, q' => by simp [pIn1]
  | .b b r, q, q' => by
    rw [pIn1]
    cases b with
    | false => simp
    | true =>
      rw [if_pos rfl, List.mem_cons, pIns_mem r q q' 0]
      constructor
      · rintro (h | ⟨j, ps, h1, h2⟩)
        · exact ⟨r, [], rfl, by simp [h], rfl⟩
        · exact ⟨r, j :: ps, rfl, by simpa using h1, h2⟩
      · rintro ⟨r', ps, h1, h2, h3⟩
        cases h1
        cases ps with
        | nil => exact .inl (by simpa using h2)
        | cons j ps => exact .inr ⟨j, ps, by simpa using h2, h3⟩
theorem pIns_mem : ∀ (r : List Th) (q q' : List Nat) (i : Nat), q' ∈ pIns r q i ↔ ∃ j ps, q' = q ++ (i + j) :: ps ∧ (opAt r (j :: ps)).isSome = true
  | [], q, q', i => by simp [pIns, opAt]
  | t :: r, q, q', i => by
    rw [pIns, List.mem_append, pIn1_mem t (q ++ [i]) q', pIns_mem r q q' (i + 1)]
    constructor
    · rintro (⟨r', ps, h1, h2, h3⟩ | ⟨j, ps, h1, h2⟩)
      · refine ⟨0, ps, by simp [h2], ?_⟩
        rw [opAt]
        simp only [List.getElem?_cons_zero, h1]
        exact h3
      · refine ⟨j + 1, ps, by rw [h1, show i + 1 + j = i + (j + 1) by omega], ?_⟩
        rw [opAt]
        simp only [List.getElem?_cons_succ]
        rw [opAt] at h2
        exact h2
    · rintro ⟨j, ps, h1, h2⟩
      cases j with
      | zero =>
        left
        rw [opAt] at h2
        simp only [List.getElem?_cons_zero] at h2
        cases t with
        | c n => cases h2
        | b b r' =>
          cases b with
          | false => cases h2
          | true => exact ⟨r', ps, rfl, by simp [h1], h2⟩
      | succ j =>
        right
        refine ⟨j, ps, by rw [h1, show i + 1 + j = i + (j + 1) by omega], ?_⟩
        rw [opAt] at h2 ⊢
        simpa only [List.getElem?_cons_succ] using h2
end
theorem paths_mem (r : List Th) (q : List Nat) : q ∈ paths r ↔ (opAt r q).isSome = true := by
  unfold paths
  rw [List.mem_cons, pIns_mem r [] q 0]
  cases q with
  | nil => simp [opAt]
  | cons p ps =>
    constructor
    · rintro (h | ⟨j, ps', h1, h2⟩)
      · cases h
      · simp at h1
        obtain ⟨rfl, rfl⟩ := h1
        exact h2
    · intro h
      exact .inr ⟨p, ps, by simp, h⟩
theorem turns_mem (r : List Th) (x : Tn) : x ∈ turns r ↔ can r x = true := by
  unfold turns
  rw [List.mem_flatMap]
  constructor
  · rintro ⟨q, h1, h2⟩
    rw [paths_mem] at h1
    cases ho : opAt r q with
    | none => rw [ho] at h1; cases h1
    | some r0 =>
      unfold tns at h2
      rw [op_rw ho] at h2
      simp only [List.mem_map, List.mem_range] at h2
      obtain ⟨i, hi, rfl⟩ := h2
      unfold can
      simp only
      rw [ho]
      exact decide_eq_true (by omega)
  · intro h
    obtain ⟨r0, ho, hw, hx⟩ := can_at h
    refine ⟨x.1, by rw [paths_mem, ho]; rfl, ?_⟩
    unfold tns
    rw [hw]
    simp only [List.mem_map, List.mem_range]
    exact ⟨x.2, by omega, rfl⟩
/-! ### how many turns -/
mutual
def cn : Th → Nat
  | .c _ => 0
  | .b b r => if b then (r.length - 1) + cns r else 0
def cns : List Th → Nat
  | [] => 0
  | t :: r => cn t + cns r
end
theorem rw_app : ∀ (q ps : List Nat) (r : List Th), rwAt r (q ++ ps) = (rwAt r q).bind fun r0 => rwAt r0 ps
  | [], ps, r => rfl
  | p :: q, ps, r => by
    rw [List.cons_append, rwAt, rwAt]
    split
    · exact rw_app q ps _
    · rfl
theorem tns_len {R : List Th} {q : List Nat} {r0 : List Th} (h : rwAt R q = some r0) : (tns R q).length = r0.length - 1 := by
  unfold tns; rw [h]; simp
mutual
theorem cn_len : ∀ (t : Th) (R : List Th) (q : List Nat) (i : Nat) (r0 : List Th), rwAt R q = some r0 → r0[i]? = some t → ((pIn1 t (q ++ [i])).flatMap (tns R)).length = cn t
  | .c n, R, q, i, r0, h, h2 => by simp [pIn1, cn]
  | .b b r, R, q, i, r0, h, h2 => by
    rw [pIn1, cn]
    cases b with
    | false => simp
    | true =>
      have hr : rwAt R (q ++ [i]) = some r := by
        rw [rw_app, h]
        simp only [Option.bind]
        rw [rwAt, h2]
        rfl
      rw [if_pos rfl, if_pos rfl, List.flatMap_cons, List.length_append, tns_len hr, cns_len r R (q ++ [i]) 0 r hr rfl]
theorem cns_len : ∀ (r : List Th) (R : List Th) (q : List Nat) (i : Nat) (r0 : List Th), rwAt R q = some r0 → r0.drop i = r → ((pIns r q i).flatMap (tns R)).length = cns r
  | [], R, q, i, r0, h, h2 => by simp [pIns, cns]
  | t :: r, R, q, i, r0, h, h2 => by
    have ht : r0[i]? = some t := by rw [← List.head?_drop, h2]; rfl
    have hd : r0.drop (i + 1) = r := by
      have : r0.drop (i + 1) = (r0.drop i).drop 1 := by rw [List.drop_drop]
      rw [this, h2]; rfl
    rw [pIns, List.flatMap_append, List.length_append, cn_len t R q i r0 h ht, cns_len r R q (i + 1) r0 h hd, cns]
end
theorem turns_len (r : List Th) : (turns r).length = (r.length - 1) + cns r := by
  unfold turns paths
  rw [List.flatMap_cons, List.length_append, tns_len (R := r) (q := []) rfl, cns_len r r [] 0 r rfl rfl]
theorem cns_app : ∀ a b : List Th, cns (a ++ b) = cns a + cns b
  | [], b => by simp [cns]
  | t :: a, b => by rw [List.cons_append, cns, cns, cns_app a b]; omega
mutual
theorem cn_bk : ∀ t : Th, cn (bk t) = cn t
  | .c n => rfl
  | .b b r => by rw [bk, cn, cn, cns_bks r, bks_length]
theorem cns_bks : ∀ r : List Th, cns (bks r) = cns r
  | [] => rfl
  | t :: r => by rw [bks, cns_app, cns_bks r, cns, cns, cns, cn_bk t]; omega
end
theorem cns_swp : ∀ (r : List Th) (i : Nat), cns (swp r i) = cns r
  | [], i => by cases i <;> rfl
  | [x], 0 => rfl
  | x :: y :: r, 0 => by simp only [swp, cns, cn_bk]; omega
  | [x], i + 1 => by
    have := cns_swp [] i
    simp only [swp, cns]
  | x :: y :: r, i + 1 => by
    have := cns_swp (y :: r) i
    simp only [swp]
    rw [cns, this, ← cns]
theorem cns_set : ∀ (r : List Th) (p : Nat) (t u : Th), r[p]? = some t → cn u = cn t → cns (r.set p u) = cns r
  | [], p, t, u, h, _ => by simp at h
  | a :: r, 0, t, u, h, e => by
    simp at h; subst h
    simp only [List.set_cons_zero, cns, e]
  | a :: r, p + 1, t, u, h, e => by
    simp only [List.set_cons_succ, cns, cns_set r p t u (by simpa using h) e]
theorem len_setR : ∀ (ps : List Nat) (r r0 r1 : List Th), rwAt r ps = some r0 → r1.length = r0.length → (setR r ps r1).length = r.length
  | [], r, r0, r1, h, e => by cases h; exact e
  | p :: ps, r, r0, r1, h, e => by
    rw [setR]
    split
    · simp
    · rfl
theorem cns_setR : ∀ (ps : List Nat) (r r0 r1 : List Th), rwAt r ps = some r0 → r1.length = r0.length → cns r1 = cns r0 → cns (setR r ps r1) = cns r
  | [], r, r0, r1, h, e, e2 => by cases h; exact e2
  | p :: ps, r, r0, r1, h, e, e2 => by
    rw [rwAt] at h
    split at h
    · rename_i b r' q
      rw [setR, q]
      exact cns_set r p (.b b r') _ q (by rw [cn, cn, cns_setR ps r' r0 r1 h e e2, len_setR ps r' r0 r1 h e])
    · cases h
theorem turns_trn {r : List Th} {x : Tn} (hc : can r x = true) : (turns (trn r x)).length = (turns r).length := by
  obtain ⟨r0, ho, hw, hx⟩ := can_at hc
  have l := (swp_facts r0 x.2).1
  rw [turns_len, turns_len, trn_eq hw, cns_setR _ _ _ _ hw l (cns_swp _ _), len_setR _ _ _ _ hw l]
theorem turns_bhv : ∀ {ts : List Tn} {r r' : List Th}, bhv r ts = some r' → (turns r').length = (turns r).length
  | [], r, r', e => by cases e; rfl
  | x :: ts, r, r', e => by
    rw [bhv] at e
    split at e
    · rename_i hc
      rw [turns_bhv e, turns_trn hc]
    · cases e
end M
end HB
/-! turns_of. -/
namespace HB
namespace M
open PySem PySem.W
def toB : List St := match G.d_turns_of.body with
  | [_, _, .for_ _ _ b, _] => b
  | _ => []
theorem toB_eq : toB = [.exp (.mth .extend "list" (.var 1) [.frs (.lc [3] (.tup [.var 2, .var 3]) (.name 3) (.range1 (.bin .sub (.prim .len [.call "things_in" [.call "row_by" [.var 0, .var 2]]]) (.lit (.int 1)))) none)])] := rfl
def tl (ts : List Tn) : List D := ts.map tD
theorem tl_app (a b : List Tn) : tl a ++ tl b = tl (a ++ b) := by simp [tl]
theorem range1_n {n : Nat} (h : n ≤ 1000) : range1 (.int ((n : Nat) - 1 : Int)) = some ⟨[], (List.range (n - 1)).map fun i => .int (i : Nat)⟩ := by
  have hb : -(2 ^ 62 : Int) ≤ (n : Int) - 1 ∧ (n : Int) - 1 < 2 ^ 62 := by omega
  simp only [range1]
  rw [if_pos hb]
  unfold rangeL
  rw [show (((n : Nat) : Int) - 1 - 0).toNat = n - 1 by omega]
  congr 3
  funext i
  congr 1
  omega
theorem out_l {xs : List D} {s : Sto} : True := trivial
section
variable {P : List Def} {X : Ext} {k : Nat}
theorem to_turn (hS : HasSh P) (hT : HasT P) {C : Calls} (hC : C = runF P X (k + 4)) {r : List Th} (h : Shf r) {q : List Nat} {r0 : List Th} (hw : rwAt r q = some r0) {acc : List Tn} {a b : Option W} (ha : acc.length + (tns r q).length ≤ 2000) :
    (noEx (asT C (.name 2) (.d (pD q)) [some (.d (.str (S (wrs r)))), some (.h 0), a, b] [.lst (tl acc)])).toO [some (.d (.str (S (wrs r)))), some (.h 0), a, b] (fun e s => exB C toB e s) =
      .nx [some (.d (.str (S (wrs r)))), some (.h 0), some (.d (pD q)), b] [.lst (tl (acc ++ tns r q))] := by
  have hl := shf_len h
  obtain ⟨f1, f2, f3⟩ := rw_facts _ _ _ h.gd hw
  have hr0 := wrs_len r0
  have hm : maxLen = 1000000 := rfl
  have hrow : ∀ s, callIn C "row_by" [.d (.str (S (wrs r))), .d (pD q)] s = .ok (.d (.str (S (wrs r0)))) s := fun s => by
    have := rb_run (X := X) (k := k) hS hT.box_by hT.row_by (ps := q) h.gd (by omega)
    rw [hw] at this
    rw [hC]; exact call2 this
  have hti : ∀ s, callIn C "things_in" [.d (.str (S (wrs r0)))] s = .ok (.d (.tuple (thD r0))) s := fun s => by rw [hC]; exact call1 (ti_run (k := k + 2) hS.things_in hS.end_of (by omega) f1)
  have hi : evI C (.range1 (.bin .sub (.prim .len [.call "things_in" [.call "row_by" [.var 0, .var 2]]]) (.lit (.int 1)))) [some (.d (.str (S (wrs r)))), some (.h 0), some (.d (pD q)), b] [.lst (tl acc)] = .ok ⟨[], (List.range (r0.length - 1)).map fun i => .int (i : Nat)⟩ [.lst (tl acc)] :=
    it_range1 (m := (r0.length : Nat) - 1) (by simp only [e_lit, e_glb, e_var, e_bin, e_neg, e_cmp, e_isN, e_and, e_or, e_not, e_ife, e_tup, e_idx, e_slc, e_rev, e_call, e_prim, e_mth, e_dlk, e_gin, e_git, e_frs, e_new, es_nil, es_cons, d_nil, d_cons, p_none, p_some, n_lst, n_slc, c_none, c_some, i_each, t_name, t_ix, ts_nil, ts_cons, s_asg, s_par, s_aug, s_augIx, s_exp, s_ite, s_ret, s_raise, s_nop, b_nil, b_cons, ev_T, peek_d, rd1_d, rd2_d, tst_b, toD_d, frz_d, map1_some, of_none, peeks_nil, rds_1, rds_2, noEx_ok', idxR_d, alloc_ok, src_ok_nil, HB.R.bind_ok, HB.R.toO_ok, HB.O.bind_nx, HB.O.bind_ret, HB.R.of_some, int1_i, neg_i, List.map_cons, List.map_nil, List.cons_append, List.nil_append, List.getElem?_cons_succ, List.getElem?_cons_zero, List.length_cons, List.length_nil, List.set_cons_succ, List.set_cons_zero, List.replicate, Nat.reduceAdd, Nat.reduceSub, Nat.reduceLT, if_true, if_false, ite_true, ite_false, Bool.false_eq_true, reduceIte, Bool.not_true, Bool.not_false, out_ret, Option.map_some, Option.map_none, decide_true, decide_false, hrow, hti, len_t, sub_ii, thD_len]) (range1_n (by omega))
  have hn : evN C (.lc [3] (.tup [.var 2, .var 3]) (.name 3) (.range1 (.bin .sub (.prim .len [.call "things_in" [.call "row_by" [.var 0, .var 2]]]) (.lit (.int 1)))) none) [some (.d (.str (S (wrs r)))), some (.h 0), some (.d (pD q)), b] [.lst (tl acc)] = .ok (tl (tns r q)) [.lst (tl acc)] := by
    rw [evN, hi, HB.R.bind_ok]
    simp only
    rw [lc_map (a := fun i : Nat => PyData.int (i : Nat)) (b := fun i : Nat => tD (q, i)) rfl _ fun i hi => by simp only [e_lit, e_glb, e_var, e_bin, e_neg, e_cmp, e_isN, e_and, e_or, e_not, e_ife, e_tup, e_idx, e_slc, e_rev, e_call, e_prim, e_mth, e_dlk, e_gin, e_git, e_frs, e_new, es_nil, es_cons, d_nil, d_cons, p_none, p_some, n_lst, n_slc, c_none, c_some, i_each, t_name, t_ix, ts_nil, ts_cons, s_asg, s_par, s_aug, s_augIx, s_exp, s_ite, s_ret, s_raise, s_nop, b_nil, b_cons, ev_T, peek_d, rd1_d, rd2_d, tst_b, toD_d, frz_d, map1_some, of_none, peeks_nil, rds_1, rds_2, noEx_ok', idxR_d, alloc_ok, src_ok_nil, HB.R.bind_ok, HB.R.toO_ok, HB.O.bind_nx, HB.O.bind_ret, HB.R.of_some, int1_i, neg_i, List.map_cons, List.map_nil, List.cons_append, List.nil_append, List.getElem?_cons_succ, List.getElem?_cons_zero, List.length_cons, List.length_nil, List.set_cons_succ, List.set_cons_zero, List.replicate, Nat.reduceAdd, Nat.reduceSub, Nat.reduceLT, if_true, if_false, ite_true, ite_false, Bool.false_eq_true, reduceIte, Bool.not_true, Bool.not_false, out_ret, Option.map_some, Option.map_none, decide_true, decide_false, wipeE, m2]; rfl, HB.R.bind_ok, if_pos (by simp; omega)]
    unfold tns tl
    rw [hw]
    simp
  have hx : mthW [.lst (tl acc)] .extend (.h 0) [.list (tl (tns r q))] = .ok .none [.lst (tl (acc ++ tns r q))] := by
    rw [← tl_app]
    exact ext_h (by simp only [tl, List.length_append, List.length_map]; omega)
  simp only [e_lit, e_glb, e_var, e_bin, e_neg, e_cmp, e_isN, e_and, e_or, e_not, e_ife, e_tup, e_idx, e_slc, e_rev, e_call, e_prim, e_mth, e_dlk, e_gin, e_git, e_frs, e_new, es_nil, es_cons, d_nil, d_cons, p_none, p_some, n_lst, n_slc, c_none, c_some, i_each, t_name, t_ix, ts_nil, ts_cons, s_asg, s_par, s_aug, s_augIx, s_exp, s_ite, s_ret, s_raise, s_nop, b_nil, b_cons, ev_T, peek_d, rd1_d, rd2_d, tst_b, toD_d, frz_d, map1_some, of_none, peeks_nil, rds_1, rds_2, noEx_ok', idxR_d, alloc_ok, src_ok_nil, HB.R.bind_ok, HB.R.toO_ok, HB.O.bind_nx, HB.O.bind_ret, HB.R.of_some, int1_i, neg_i, List.map_cons, List.map_nil, List.cons_append, List.nil_append, List.getElem?_cons_succ, List.getElem?_cons_zero, List.length_cons, List.length_nil, List.set_cons_succ, List.set_cons_zero, List.replicate, Nat.reduceAdd, Nat.reduceSub, Nat.reduceLT, if_true, if_false, ite_true, ite_false, Bool.false_eq_true, reduceIte, Bool.not_true, Bool.not_false, out_ret, Option.map_some, Option.map_none, decide_true, decide_false, toB_eq, rd1_h, hasTy_l, w_ext, hn, hx]
theorem to_loop (hS : HasSh P) (hT : HasT P) {C : Calls} (hC : C = runF P X (k + 4)) {r : List Th} (h : Shf r) : ∀ (qs : List (List Nat)) (acc : List Tn) (a b : Option W), (∀ q ∈ qs, (rwAt r q).isSome = true) → acc.length + (qs.flatMap (tns r)).length ≤ 2000 →
    ∃ a', forL (fun s => Src.ok s []) (fun x e s => (noEx (asT C (.name 2) (.d x) e s)).toO e fun e s => exB C toB e s) (pls qs) [some (.d (.str (S (wrs r)))), some (.h 0), a, b] [.lst (tl acc)] =
      .nx [some (.d (.str (S (wrs r)))), some (.h 0), a', b] [.lst (tl (acc ++ qs.flatMap (tns r)))]
  | [], acc, a, b, hq, ha => ⟨a, by rw [List.flatMap_nil, List.append_nil]; exact for_nil rfl⟩
  | q :: qs, acc, a, b, hq, ha => by
    rw [List.flatMap_cons, List.length_append] at ha
    obtain ⟨r0, hw⟩ := Option.isSome_iff_exists.mp (hq q (List.mem_cons_self ..))
    have e := to_turn (k := k) hS hT hC h hw (acc := acc) (a := a) (b := b) (by omega)
    obtain ⟨a', e2⟩ := to_loop hS hT hC h qs (acc ++ tns r q) (some (.d (pD q))) b (fun u hu => hq u (List.mem_cons_of_mem _ hu)) (by rw [List.length_append]; omega)
    refine ⟨a', ?_⟩
    rw [List.flatMap_cons, ← List.append_assoc, ← e2]
    exact for_cons rfl e
end
mutual
theorem cn_le : ∀ t : Th, cn t + 1 ≤ sz t
  | .c _ => by simp [cn, sz]
  | .b b r => by
    have := cns_le r
    rw [cn, sz]
    split <;> omega
theorem cns_le : ∀ r : List Th, cns r + r.length ≤ szs r
  | [] => by simp [cns, szs]
  | t :: r => by
    have := cn_le t
    have := cns_le r
    simp only [cns, szs, List.length_cons]; omega
end
theorem alike_p (q q' : List Nat) : alike (pD q) (pD q') = true := by
  unfold pD
  have e : ∀ l : List Nat, (l.map fun n : Nat => PyData.int (n : Nat)) = (l.map fun n : Nat => (n : Int)).map PyData.int := fun l => by simp
  rw [alike, e, e]
  exact PySem.W.alike_ints _ _
theorem alike_tD (x y : Tn) : alike (tD x) (tD y) = true := by
  unfold tD
  rw [alike, alikeAll, alike_p]
  simp [alikeAll, alike]
theorem depth_p (q : List Nat) : (pD q).depth ≤ 1 := by
  unfold pD
  have e : (q.map fun n : Nat => PyData.int (n : Nat)) = (q.map fun n : Nat => (n : Int)).map PyData.int := by simp
  rw [PyData.depth, e, depth_ints]
  exact Nat.le_refl _
theorem depth_tD (x : Tn) : (tD x).depth ≤ 2 := by
  have := depth_p x.1
  unfold tD
  simp only [PyData.depth, PyData.depthAll]
  omega
theorem depth_tl : ∀ ts : List Tn, PyData.depthAll (tl ts) ≤ 2
  | [] => by simp [tl, PyData.depthAll]
  | x :: ts => by
    have := depth_tD x
    have := depth_tl ts
    show PyData.depthAll (tD x :: tl ts) ≤ 2
    rw [PyData.depthAll]; omega
theorem sort_ok (ts : List Tn) : sortOk (tl ts) = true := by
  unfold sortOk
  have h1 : alikeAllB (tl ts) = true := by
    unfold alikeAllB
    rw [List.all_eq_true]
    intro a ha
    obtain ⟨x, hx, rfl⟩ := List.mem_map.mp ha
    rw [Bool.and_eq_true, List.all_eq_true]
    refine ⟨rfl, fun b hb => ?_⟩
    obtain ⟨y, hy, rfl⟩ := List.mem_map.mp hb
    exact alike_tD x y
  have h2 : depthOk (tl ts) = true := decide_eq_true (by have := depth_tl ts; omega)
  have h3 : (tl ts).all tupB = true := by
    rw [List.all_eq_true]
    intro a ha
    obtain ⟨x, hx, rfl⟩ := List.mem_map.mp ha
    rfl
  rw [h1, h2, h3]
  rfl
theorem sorted_tl (ts : List Tn) : ∃ us : List Tn, us.Perm ts ∧ (tl ts).mergeSort (dataLe false id) = tl us := by
  refine ⟨ts.mergeSort (fun a b => dataLe false id (tD a) (tD b)), List.mergeSort_perm _ _, ?_⟩
  exact (List.map_mergeSort (r := fun a b => dataLe false id (tD a) (tD b)) (s := dataLe false id) (f := tD) (l := ts) fun a _ b _ => rfl).symm
section
variable {P : List Def} {X : Ext} {k : Nat}
theorem to_run (hS : HasSh P) (hT : HasT P) {r : List Th} (h : Shf r) :
    ∃ us : List Tn, us.Perm (turns r) ∧ runF P X (k + 7) "turns_of" [.d (.str (S (wrs r)))] [] = .ok (.d (.tuple (tl us))) [] := by
  obtain ⟨us, hp, hs⟩ := sorted_tl (turns r)
  refine ⟨us, hp, ?_⟩
  rw [run_def hT.turns_of rfl]
  obtain ⟨C, hC⟩ : ∃ C, C = runF P X (k + 6) := ⟨_, rfl⟩
  rw [← hC]
  have hl := shf_len h
  have hm : maxLen = 1000000 := rfl
  have hsz := h.sz
  have htl := turns_len r
  have hcl := cns_le r
  have hrl := h.row
  have h1 : callIn C "need_shelf" [.d (.str (S (wrs r)))] [] = .ok (.d .none) [] := by rw [hC]; exact call1 (ns_run (k := k + 4) hS h)
  have h2 : ∀ s, callIn C "paths_in" [.d (.str (S (wrs r))), .d (pD [])] s = .ok (.d (.list (pls (paths r)))) s := fun s => by
    rw [hC]; exact call2 (pp_run hS hT 3 r [] (k + 6) h.dep (by omega) h.gd (by omega) (by omega) (by simp))
  obtain ⟨a', e⟩ := to_loop (k := k + 2) hS hT hC h (paths r) [] none none (fun q hq => by
    rw [paths_mem] at hq
    obtain ⟨r0, ho⟩ := Option.isSome_iff_exists.mp hq
    rw [op_rw ho]; rfl) (by
    have : (paths r).flatMap (tns r) = turns r := rfl
    rw [this, List.length_nil]; omega)
  have hs2 : ∀ s, srcS s (.d (.list (pls (paths r)))) = some ⟨[], pls (paths r)⟩ := fun s => rfl
  have hi : evI C (.each (.call "paths_in" [.var 0, .tup []])) [some (.d (.str (S (wrs r)))), some (.h 0), none, none] [.lst []] = .ok ⟨[], pls (paths r)⟩ [.lst []] := by
    have e0 : (PyData.tuple []) = pD [] := rfl
    simp only [e_lit, e_glb, e_var, e_bin, e_neg, e_cmp, e_isN, e_and, e_or, e_not, e_ife, e_tup, e_idx, e_slc, e_rev, e_call, e_prim, e_mth, e_dlk, e_gin, e_git, e_frs, e_new, es_nil, es_cons, d_nil, d_cons, p_none, p_some, n_lst, n_slc, c_none, c_some, i_each, t_name, t_ix, ts_nil, ts_cons, s_asg, s_par, s_aug, s_augIx, s_exp, s_ite, s_ret, s_raise, s_nop, b_nil, b_cons, ev_T, peek_d, rd1_d, rd2_d, tst_b, toD_d, frz_d, map1_some, of_none, peeks_nil, rds_1, rds_2, noEx_ok', idxR_d, alloc_ok, src_ok_nil, HB.R.bind_ok, HB.R.toO_ok, HB.O.bind_nx, HB.O.bind_ret, HB.R.of_some, int1_i, neg_i, List.map_cons, List.map_nil, List.cons_append, List.nil_append, List.getElem?_cons_succ, List.getElem?_cons_zero, List.length_cons, List.length_nil, List.set_cons_succ, List.set_cons_zero, List.replicate, Nat.reduceAdd, Nat.reduceSub, Nat.reduceLT, if_true, if_false, ite_true, ite_false, Bool.false_eq_true, reduceIte, Bool.not_true, Bool.not_false, out_ret, Option.map_some, Option.map_none, decide_true, decide_false, m0, e0, h2, hs2]
  have hf : exS C (.for_ (.name 2) (.each (.call "paths_in" [.var 0, .tup []])) toB) [some (.d (.str (S (wrs r)))), some (.h 0), none, none] [.lst []] = .nx [some (.d (.str (S (wrs r)))), some (.h 0), a', none] [.lst (tl (turns r))] := by
    rw [s_for, hi, HB.R.toO_ok]; exact e
  rw [toB_eq] at hf
  have hlen : (tl (turns r)).length ≤ maxLen := by simp only [tl, List.length_map]; omega
  have hso : small (primN .sorted [.list (tl (turns r))]) = some (tl us) := by
    have : primN .sorted [.list (tl (turns r))] = some (tl us) := by
      simp only [primN]
      rw [sort_ok, decide_eq_true hlen, hs]
      rfl
    rw [this]
    have hl2 : (tl us).length ≤ maxLen := by simp only [tl, List.length_map, hp.length_eq]; omega
    simp [small, hl2]
  have htp : prim .tuple [.list (tl us)] = some (.tuple (tl us)) := rfl
  simp only [e_lit, e_glb, e_var, e_bin, e_neg, e_cmp, e_isN, e_and, e_or, e_not, e_ife, e_tup, e_idx, e_slc, e_rev, e_call, e_prim, e_mth, e_dlk, e_gin, e_git, e_frs, e_new, es_nil, es_cons, d_nil, d_cons, p_none, p_some, n_lst, n_slc, c_none, c_some, i_each, t_name, t_ix, ts_nil, ts_cons, s_asg, s_par, s_aug, s_augIx, s_exp, s_ite, s_ret, s_raise, s_nop, b_nil, b_cons, ev_T, peek_d, rd1_d, rd2_d, tst_b, toD_d, frz_d, map1_some, of_none, peeks_nil, rds_1, rds_2, noEx_ok', idxR_d, alloc_ok, src_ok_nil, HB.R.bind_ok, HB.R.toO_ok, HB.O.bind_nx, HB.O.bind_ret, HB.R.of_some, int1_i, neg_i, List.map_cons, List.map_nil, List.cons_append, List.nil_append, List.getElem?_cons_succ, List.getElem?_cons_zero, List.length_cons, List.length_nil, List.set_cons_succ, List.set_cons_zero, List.replicate, Nat.reduceAdd, Nat.reduceSub, Nat.reduceLT, if_true, if_false, ite_true, ite_false, Bool.false_eq_true, reduceIte, Bool.not_true, Bool.not_false, out_ret, Option.map_some, Option.map_none, decide_true, decide_false, G.d_turns_of, h1, m0, hf, n_prm, rds_h, hso, htp]
end
end M
end HB
namespace HB
namespace Gk10
open PySem PySem.W
def d__law_right : Def := ⟨"_law_right", 2, ["_law_pot_here", "_law_shelf_here", "_law_lap", "_law_at", "_law_more", "_law_some", "_law_there", "_law_told", "_law_turn", "_law_later"], false, [
  .par [.name 5, .name 6] [.tup [], .var 1],
  .for_ (.name 2) (.range1 (.call "_law_take" [.var 0, .lit (.int 16)])) [.asg (.name 7) (.call "turns_of" [.var 6]), .ite (.cmp .ne (.prim .len [.var 7]) (.prim .len [.call "turns_of" [.var 1]])) [.ret (.lit (.bool false))] [], .ite (.cmp .ne (.var 7) (.tup [])) [.asg (.name 8) (.idx (.var 7) (.call "_law_take" [.var 0, .prim .len [.var 7]])), .asg (.name 9) (.call "turned" [.var 6, .var 8]), .ite (.or (.cmp .ne (.call "turned" [.var 9, .var 8]) (.var 6)) (.cmp .ne (.call "behind" [.var 6, .tup [.var 8, .var 8]]) (.var 6))) [.ret (.lit (.bool false))] [], .par [.name 5, .name 6] [.bin .add (.var 5) (.tup [.var 8]), .var 9]] []],
  .asg (.name 3) (.call "_law_take" [.var 0, .bin .add (.prim .len [.var 5]) (.lit (.int 1))]),
  .ite (.or (.cmp .ne (.call "behind" [.var 1, .var 5]) (.var 6)) (.cmp .ne (.call "behind" [.var 6, .rev (.var 5)]) (.var 1))) [.ret (.lit (.bool false))] [],
  .ite (.cmp .ne (.call "behind" [.call "behind" [.var 1, .slc (.var 5) none (some (.var 3))], .slc (.var 5) (some (.var 3)) none]) (.var 6)) [.ret (.lit (.bool false))] [],
  .asg (.name 4) (.idx (.tup [.tup [.tup [], .lit (.int 0)], .tup [.tup [.lit (.int 0)], .lit (.int 0)], .tup [.tup [.lit (.int 1)], .lit (.int 1)], .tup [.tup [.lit (.int 0), .lit (.int 0)], .lit (.int 0)], .tup [.tup [.lit (.int 2)], .lit (.int 0)], .tup [.tup [], .lit (.int 4)]]) (.call "_law_take" [.var 0, .lit (.int 6)])),
  .ret (.cmp .eq (.call "are_turns" [.var 1, .bin .add (.var 5) (.tup [.var 4])]) (.cmp .isin (.var 4) (.call "turns_of" [.var 6])))]⟩
def d_law : Def := ⟨"law", 1, ["_law_script", "_law_k", "_law_pot_here", "_law_lap"], false, [
  .for_ (.name 1) (.range1 (.prim .max2 [.lit (.int 1), .prim .min2 [.prim .len [.var 0], .lit (.int 4)]])) [.asg (.name 2) (.call "_law_pot" [.call "_law_cell_at" [.var 0, .var 1]]), .for_ (.name 3) (.range1 (.lit (.int 4))) [.ite (.not (.call "_law_right" [.var 2, .call "_law_shelf" [.var 2, .lit (.int 16), .lit (.int 6)]])) [.ret (.lit (.bool false))] []]],
  .ret (.lit (.bool true))]⟩
def prog : List Def := [G.d_is_shelf, G.d_need_shelf, G.d_end_of, G.d_things_in, G.d_is_box, G.d_is_open, G.d_inner, G.d_with_inner, G.d_behind_thing, G.d_behind_row, G.d_is_whole, G.d_is_path, G.d_box_by, G.d_row_by, G.d_with_box, G.d_with_row, G.d_paths_in, G.d_turns_of, G.d_free_row, G.d_can_turn, G.d_turned_by, G.d_turned, G.d_behind_by, G.d_need_turns, G.d_behind, G.d_are_turns, G.d__law_cell_at, G.d__law_pot, G.d__law_take, G.d__law_row, G.d__law_written, G.d__law_shelf, d__law_right, d_law]
end Gk10
end HB
/-! Turns done and undone: the law k10. -/
namespace HB
namespace M
open PySem PySem.W
/-! ### comparisons of turns -/
theorem plain_p (q : List Nat) : (pD q).plain = true := plain_ints q
theorem plain_tD (x : Tn) : (tD x).plain = true := by
  show (PyData.plainAll [pD x.1, .int (x.2 : Nat)]) = true
  simp [PyData.plainAll, plain_p, PyData.plain]
theorem plain_tl : ∀ ts : List Tn, PyData.plainAll (tl ts) = true
  | [] => rfl
  | x :: ts => by
    show PyData.plainAll (tD x :: tl ts) = true
    rw [PyData.plainAll, plain_tD, plain_tl ts]; rfl
theorem eqv_p : ∀ q q' : List Nat, PyData.eqvAll (q.map fun n : Nat => PyData.int (n : Nat)) (q'.map fun n : Nat => PyData.int (n : Nat)) = decide (q = q')
  | [], [] => rfl
  | [], _ :: _ => rfl
  | _ :: _, [] => rfl
  | a :: q, b :: q' => by
    rw [List.map_cons, List.map_cons, PyData.eqvAll, eqv_p q q', PyData.eqv, Bool.eq_iff_iff]
    simp
    omega
theorem eqv_tD (x y : Tn) : PyData.eqv (tD x) (tD y) = decide (x = y) := by
  obtain ⟨p, i⟩ := x
  obtain ⟨q, j⟩ := y
  unfold tD pD
  simp only [PyData.eqv, PyData.eqvAll, eqv_p]
  rw [Bool.eq_iff_iff]
  simp
  intro _
  omega
theorem in_tl (x : Tn) (us : List Tn) : cmp2 .isin (tD x) (.tuple (tl us)) = some (decide (x ∈ us)) := by
  have hd : min (PyData.depthAll (tl us)) (tD x).depth ≤ 60 := by have := depth_tl us; omega
  have e : cmp2 .isin (tD x) (.tuple (tl us)) = if PyData.plainAll (tl us) && (tD x).plain && decide (min (PyData.depthAll (tl us)) (tD x).depth ≤ 60) then some ((tl us).any fun y => PyData.eqv y (tD x)) else none := rfl
  rw [e, plain_tl, plain_tD, decide_eq_true hd]
  have : ((tl us).any fun y => PyData.eqv y (tD x)) = decide (x ∈ us) := by
    rw [Bool.eq_iff_iff, List.any_eq_true]
    simp only [tl, List.mem_map, decide_eq_true_eq]
    constructor
    · rintro ⟨d, ⟨y, hy, rfl⟩, h⟩
      rw [eqv_tD] at h
      have := of_decide_eq_true h
      subst this; exact hy
    · intro h
      exact ⟨tD x, ⟨x, h, rfl⟩, by rw [eqv_tD]; simp⟩
  rw [this]
  rfl
theorem ne_tl (us : List Tn) : cmp2 .ne (.tuple (tl us)) (.tuple []) = some (!decide (us = [])) := by
  cases us with
  | nil => rfl
  | cons x us =>
    have hp := plain_tl (x :: us)
    have e : cmp2 .ne (.tuple (tl (x :: us))) (.tuple []) = if (PyData.tuple (tl (x :: us))).plain && (PyData.tuple []).plain && decide (min (PyData.tuple (tl (x :: us))).depth (PyData.tuple []).depth ≤ 60) then some (!PyData.eqv (.tuple (tl (x :: us))) (.tuple [])) else none := rfl
    have h1 : (PyData.tuple (tl (x :: us))).plain = true := hp
    have h2 : min (PyData.tuple (tl (x :: us))).depth (PyData.tuple []).depth ≤ 60 := by
      have : (PyData.tuple []).depth ≤ 1 := by simp [PyData.depth, PyData.depthAll]
      omega
    rw [e, h1, decide_eq_true h2]
    rfl
theorem eq_bb (a b : Bool) : cmp2 .eq (.bool a) (.bool b) = some (decide (a = b)) := by
  cases a <;> cases b <;> rfl
theorem add_ts (ts : List Tn) (x : Tn) (h : ts.length ≤ 1000) : bin2 .add (tsD ts) (.tuple [tD x]) = some (tsD (ts ++ [x])) := by
  have := add_tt (xs := ts.map tD) (ys := [tD x]) (by simp [maxLen]; omega)
  refine this.trans ?_
  simp [tsD]
theorem len_ts (ts : List Tn) : prim .len [tsD ts] = some (.int ts.length) := by simp [tsD, prim]
theorem rev_ts (ts : List Tn) : rev2 (tsD ts) = some (tsD ts.reverse) := by simp [tsD, rev2]
theorem slc_to (ts : List Tn) (m : Nat) : slc2 (tsD ts) none (some (m : Nat)) = some (tsD (ts.take m)) := by
  simp only [tsD, slc2, cutD]
  rw [HT.sIx_nat]
  simp [HT.sIx, List.map_take]
theorem slc_fr (ts : List Tn) {m : Nat} (h : m ≤ ts.length) : slc2 (tsD ts) (some (m : Nat)) none = some (tsD (ts.drop m)) := by
  simp only [tsD, slc2, cutD]
  rw [HT.sIx_nat]
  simp [HT.sIx, List.map_drop, Nat.min_eq_left h]
  rw [List.take_of_length_le (by simp)]
theorem idx_tl {us : List Tn} {m : Nat} {x : Tn} (h : us[m]? = some x) : idx2 (.tuple (tl us)) (.int (m : Nat)) = some (tD x) := by
  show L2.atI _ _ = _
  rw [atI_nat]
  simp [tl, h]
/-! ### _law_right -/
namespace K10
open Gk10
def lp : List St := match d__law_right.body with
  | [_, .for_ _ _ b, _, _, _, _, _] => b
  | _ => []
theorem lp_eq : lp = [.asg (.name 7) (.call "turns_of" [.var 6]), .ite (.cmp .ne (.prim .len [.var 7]) (.prim .len [.call "turns_of" [.var 1]])) [.ret (.lit (.bool false))] [], .ite (.cmp .ne (.var 7) (.tup [])) [.asg (.name 8) (.idx (.var 7) (.call "_law_take" [.var 0, .prim .len [.var 7]])), .asg (.name 9) (.call "turned" [.var 6, .var 8]), .ite (.or (.cmp .ne (.call "turned" [.var 9, .var 8]) (.var 6)) (.cmp .ne (.call "behind" [.var 6, .tup [.var 8, .var 8]]) (.var 6))) [.ret (.lit (.bool false))] [], .par [.name 5, .name 6] [.bin .add (.var 5) (.tup [.var 8]), .var 9]] []] := rfl
def mores : List Tn := [([], 0), ([0], 0), ([1], 1), ([0, 0], 0), ([2], 0), ([], 4)]
theorem mores_ev (C : Calls) (e : Env) (s : Sto) : evE C (.tup [.tup [.tup [], .lit (.int 0)], .tup [.tup [.lit (.int 0)], .lit (.int 0)], .tup [.tup [.lit (.int 1)], .lit (.int 1)], .tup [.tup [.lit (.int 0), .lit (.int 0)], .lit (.int 0)], .tup [.tup [.lit (.int 2)], .lit (.int 0)], .tup [.tup [], .lit (.int 4)]]) e s = .ok (.d (tsD mores)) s := by kernel_rfl
def E (r : List Th) (lap at_ mo : Option W) (ts : List Tn) (r' : List Th) (a b c : Option W) : Env := [some (.h 0), some (.d (.str (S (wrs r)))), lap, at_, mo, some (.d (tsD ts)), some (.d (.str (S (wrs r')))), a, b, c]
/-- what stands at the loop's head -/
def Inv (r : List Th) (i : Nat) (e : Env) (s : Sto) : Prop := ∃ lap ts r' a b c p, e = E r lap none none ts r' a b c ∧ s = [.lst [.int p]] ∧ bhv r ts = some r' ∧ ts.length ≤ i
theorem tk {P : List Def} {X : Ext} {k : Nat} {C : Calls} (hL : HasPot P) (hC : C = runF P X (k + 1)) {n far : Int} (h : 0 < far) (h2 : far < 4294967296) : callIn C "_law_take" [.h 0, .d (.int far)] [.lst [.int n]] = .ok (.d (.int (n % far))) [.lst [.int (n / far)]] := by
  rw [hC]; exact callH1 (s := [.lst [.int n]]) rfl (tk_run hL.take h h2)
theorem can_len {r : List Th} (h : Shf r) {x : Tn} (hc : can r x = true) : x.1.length ≤ 3 := by
  obtain ⟨r0, ho, hw, hx⟩ := can_at hc
  have := op_len _ _ _ ho
  have := h.dep
  omega
theorem bhv_len : ∀ {ts : List Tn} {r r' : List Th}, Shf r → bhv r ts = some r' → ∀ x ∈ ts, x.1.length ≤ 1000
  | [], r, r', h, e, x, hx => by simp at hx
  | y :: ts, r, r', h, e, x, hx => by
    rw [bhv] at e
    split at e
    · rename_i hc
      rcases List.mem_cons.mp hx with rfl | hx
      · have := can_len h hc; omega
      · exact bhv_len (shf_trn h hc) e x hx
    · cases e
variable {P : List Def} {X : Ext} {k : Nat}
theorem turn (hS : HasSh P) (hT : HasT P) (hL : HasPot P) {C : Calls} (hC : C = runF P X (k + 15)) {r : List Th} (hr : Shf r) {i : Nat} (hi : i < 16) {e : Env} {s : Sto} (I : Inv r i e s) :
    ∃ e' s', (noEx (asT C (.name 2) (.d (.int (i : Nat))) e s)).toO e (fun e s => exB C lp e s) = .nx e' s' ∧ Inv r (i + 1) e' s' := by
  obtain ⟨lap, ts, r', a, b, c, p, rfl, rfl, hb, hts⟩ := I
  have hr' := bhv_shf hr hb
  obtain ⟨us, hp, h1⟩ := to_run (X := X) (k := k + 8) hS hT hr'
  obtain ⟨us0, hp0, h2⟩ := to_run (X := X) (k := k + 8) hS hT hr
  have t1 : ∀ s, callIn C "turns_of" [.d (.str (S (wrs r')))] s = .ok (.d (.tuple (tl us))) s := fun s => by rw [hC]; exact call1 h1
  have t2 : ∀ s, callIn C "turns_of" [.d (.str (S (wrs r)))] s = .ok (.d (.tuple (tl us0))) s := fun s => by rw [hC]; exact call1 h2
  have hlen : us.length = us0.length := by rw [hp.length_eq, hp0.length_eq, turns_bhv hb]
  obtain ⟨n, hn, l1, l2⟩ : ∃ n : Int, n = (us.length : Nat) ∧ prim .len [.tuple (tl us)] = some (.int n) ∧ prim .len [.tuple (tl us0)] = some (.int n) := ⟨_, rfl, by simp [prim, tl], by simp [prim, tl, hlen]⟩
  have hne := ne_tl us
  cases hz : decide (us = []) with
  | true =>
    rw [hz] at hne
    refine ⟨_, _, by simp only [e_lit, e_glb, e_var, e_bin, e_neg, e_cmp, e_isN, e_and, e_or, e_not, e_ife, e_tup, e_idx, e_slc, e_rev, e_call, e_prim, e_mth, e_dlk, e_gin, e_git, e_frs, e_new, es_nil, es_cons, d_nil, d_cons, p_none, p_some, n_lst, n_slc, c_none, c_some, i_each, t_name, t_ix, ts_nil, ts_cons, s_asg, s_par, s_aug, s_augIx, s_exp, s_ite, s_ret, s_raise, s_nop, b_nil, b_cons, ev_T, peek_d, rd1_d, rd2_d, tst_b, toD_d, frz_d, map1_some, of_none, peeks_nil, rds_1, rds_2, noEx_ok', idxR_d, alloc_ok, src_ok_nil, HB.R.bind_ok, HB.R.toO_ok, HB.O.bind_nx, HB.O.bind_ret, HB.R.of_some, int1_i, neg_i, List.map_cons, List.map_nil, List.cons_append, List.nil_append, List.getElem?_cons_succ, List.getElem?_cons_zero, List.length_cons, List.length_nil, List.set_cons_succ, List.set_cons_zero, List.replicate, Nat.reduceAdd, Nat.reduceSub, Nat.reduceLT, if_true, if_false, ite_true, ite_false, Bool.false_eq_true, reduceIte, Bool.not_true, Bool.not_false, out_ret, Option.map_some, Option.map_none, decide_true, decide_false, E, lp_eq, t1, t2, l1, l2, ne_ii, m0, hne]; rfl, ?_⟩
    exact ⟨some (.d (.int (i : Nat))), ts, r', some (.d (.tuple (tl us))), b, c, p, rfl, rfl, hb, by omega⟩
  | false =>
    rw [hz] at hne
    have hus : us ≠ [] := of_decide_eq_false hz
    have hpos : 0 < us.length := List.length_pos_iff.mpr hus
    have hul : us.length ≤ 1000 := by
      rw [hp.length_eq, turns_len]
      have := cns_le r'
      have := hr'.sz
      have := hr'.row
      omega
    have htk := tk (n := p) (far := n) hL (k := k + 14) hC (by omega) (by omega)
    obtain ⟨m, hm⟩ : ∃ m : Nat, p % n = (m : Nat) := ⟨(p % n).toNat, by have := Int.emod_nonneg p (show n ≠ 0 by omega); omega⟩
    have hml : m < us.length := by have := Int.emod_lt_of_pos p (show 0 < n by omega); omega
    rw [hm] at htk
    obtain ⟨x, hx⟩ : ∃ x, us[m]? = some x := ⟨_, List.getElem?_eq_getElem hml⟩
    have hc : can r' x = true := (turns_mem r' x).mp (hp.mem_iff.mp (List.mem_of_getElem? hx))
    have hix := idx_tl hx
    have d1 : ∀ s, callIn C "turned" [.d (.str (S (wrs r'))), .d (tD x)] s = .ok (.d (.str (S (wrs (trn r' x))))) s := fun s => by rw [hC]; exact call2 (td_run (k := k + 2) hS hT hr' hc)
    have d2 : ∀ s, callIn C "turned" [.d (.str (S (wrs (trn r' x)))), .d (tD x)] s = .ok (.d (.str (S (wrs r')))) s := fun s => by
      have := td_run (X := X) (k := k + 2) hS hT (shf_trn hr' hc) (can_trn hc)
      rw [trn_trn hr'.gd hc] at this
      rw [hC]; exact call2 this
    have hb2 : bhv r' [x, x] = some r' := by
      rw [bhv, if_pos hc, bhv, if_pos (can_trn hc), trn_trn hr'.gd hc]; rfl
    have hxl : x.1.length ≤ 1000 := by have := can_len hr' hc; omega
    have d3 : ∀ s, callIn C "behind" [.d (.str (S (wrs r'))), .d (.tuple [tD x, tD x])] s = .ok (.d (.str (S (wrs r')))) s := fun s => by
      rw [hC]; exact call2 (bd_run hS hT hr' (ts := [x, x]) (by intro y hy; simp at hy; subst hy; exact hxl) hb2)
    have hself : cmp2 .ne (.str (S (wrs r'))) (.str (S (wrs r'))) = some false := by rw [eq_ss]; simp
    have hadd := add_ts ts x (by omega)
    refine ⟨_, _, by simp only [e_lit, e_glb, e_var, e_bin, e_neg, e_cmp, e_isN, e_and, e_or, e_not, e_ife, e_tup, e_idx, e_slc, e_rev, e_call, e_prim, e_mth, e_dlk, e_gin, e_git, e_frs, e_new, es_nil, es_cons, d_nil, d_cons, p_none, p_some, n_lst, n_slc, c_none, c_some, i_each, t_name, t_ix, ts_nil, ts_cons, s_asg, s_par, s_aug, s_augIx, s_exp, s_ite, s_ret, s_raise, s_nop, b_nil, b_cons, ev_T, peek_d, rd1_d, rd2_d, tst_b, toD_d, frz_d, map1_some, of_none, peeks_nil, rds_1, rds_2, noEx_ok', idxR_d, alloc_ok, src_ok_nil, HB.R.bind_ok, HB.R.toO_ok, HB.O.bind_nx, HB.O.bind_ret, HB.R.of_some, int1_i, neg_i, List.map_cons, List.map_nil, List.cons_append, List.nil_append, List.getElem?_cons_succ, List.getElem?_cons_zero, List.length_cons, List.length_nil, List.set_cons_succ, List.set_cons_zero, List.replicate, Nat.reduceAdd, Nat.reduceSub, Nat.reduceLT, if_true, if_false, ite_true, ite_false, Bool.false_eq_true, reduceIte, Bool.not_true, Bool.not_false, out_ret, Option.map_some, Option.map_none, decide_true, decide_false, E, lp_eq, t1, t2, l1, l2, ne_ii, m0, m1, m2, hne, htk, hix, d1, d2, d3, hself, hadd]; rfl, ?_⟩
    exact ⟨some (.d (.int (i : Nat))), ts ++ [x], trn r' x, some (.d (.tuple (tl us))), some (.d (tD x)), some (.d (.str (S (wrs (trn r' x))))), p / n, rfl, rfl, by
      rw [bhv_app, hb]
      simp only [Option.bind]
      rw [bhv, if_pos hc]; rfl, by simp; omega⟩
theorem right_run (hS : HasSh P) (hT : HasT P) (hL : HasPot P) (hR : Fd P "_law_right" d__law_right) {r : List Th} (hr : Shf r) {p : Int} :
    ∃ p', runF P X (k + 16) "_law_right" [.h 0, .d (.str (S (wrs r)))] [.lst [.int p]] = .ok (.d (.bool true)) [.lst [.int p']] := by
  obtain ⟨C, hC⟩ : ∃ C, C = runF P X (k + 15) := ⟨_, rfl⟩
  have hlp := lp_eq
  obtain ⟨n, hn, hn16⟩ : ∃ n : Nat, p % 16 = (n : Nat) ∧ n < 16 := ⟨(p % 16).toNat, by have := Int.emod_nonneg p (show (16 : Int) ≠ 0 by omega); omega, by have := Int.emod_lt_of_pos p (show (0 : Int) < 16 by omega); omega⟩
  have tk0 := tk (n := p) (far := 16) hL (k := k + 14) hC (by omega) (by omega)
  rw [hn] at tk0
  obtain ⟨e', s', e1, e2⟩ := for_inv (keep := fun s => Src.ok s []) (f := fun x e s => (noEx (asT C (.name 2) (.d x) e s)).toO e fun e s => exB C lp e s)
    (Inv r) (rangeL 0 (n : Int)) 0 (E r none none none [] r none none none) [.lst [.int (p / 16)]] (fun i x e s hx hi => by
      obtain ⟨h1, rfl⟩ := range_at hx
      rw [Nat.zero_add] at hi ⊢
      exact turn hS hT hL hC hr (by omega) hi) (fun _ _ _ _ => rfl) ⟨none, [], r, none, none, none, p / 16, rfl, rfl, rfl, by simp⟩
  have hl0 : (rangeL 0 (n : Int)).length = n := by unfold rangeL; simp
  rw [hl0] at e2
  obtain ⟨lap, ts, r', a, b, c, q, rfl, rfl, hb, hts⟩ := e2
  have hr' := bhv_shf hr hb
  have hi : evI C (.range1 (.call "_law_take" [.var 0, .lit (.int 16)])) (E r none none none [] r none none none) [.lst [.int p]] = .ok ⟨[], rangeL 0 (n : Int)⟩ [.lst [.int (p / 16)]] := by
    have ha : evE C (.call "_law_take" [.var 0, .lit (.int 16)]) (E r none none none [] r none none none) [.lst [.int p]] = .ok (.d (.int (n : Nat))) [.lst [.int (p / 16)]] := by simp only [e_lit, e_glb, e_var, e_bin, e_neg, e_cmp, e_isN, e_and, e_or, e_not, e_ife, e_tup, e_idx, e_slc, e_rev, e_call, e_prim, e_mth, e_dlk, e_gin, e_git, e_frs, e_new, es_nil, es_cons, d_nil, d_cons, p_none, p_some, n_lst, n_slc, c_none, c_some, i_each, t_name, t_ix, ts_nil, ts_cons, s_asg, s_par, s_aug, s_augIx, s_exp, s_ite, s_ret, s_raise, s_nop, b_nil, b_cons, ev_T, peek_d, rd1_d, rd2_d, tst_b, toD_d, frz_d, map1_some, of_none, peeks_nil, rds_1, rds_2, noEx_ok', idxR_d, alloc_ok, src_ok_nil, HB.R.bind_ok, HB.R.toO_ok, HB.O.bind_nx, HB.O.bind_ret, HB.R.of_some, int1_i, neg_i, List.map_cons, List.map_nil, List.cons_append, List.nil_append, List.getElem?_cons_succ, List.getElem?_cons_zero, List.length_cons, List.length_nil, List.set_cons_succ, List.set_cons_zero, List.replicate, Nat.reduceAdd, Nat.reduceSub, Nat.reduceLT, if_true, if_false, ite_true, ite_false, Bool.false_eq_true, reduceIte, Bool.not_true, Bool.not_false, out_ret, Option.map_some, Option.map_none, decide_true, decide_false, E, tk0]
    rw [i_range1, ha, HB.R.bind_ok, rd1_d, range1_nat (by unfold maxLen; omega), HB.R.of_some]
  have hf : exS C (.for_ (.name 2) (.range1 (.call "_law_take" [.var 0, .lit (.int 16)])) lp) (E r none none none [] r none none none) [.lst [.int p]] = .nx (E r lap none none ts r' a b c) [.lst [.int q]] := by
    rw [s_for, hi, HB.R.toO_ok]; exact e1
  have ets : tsD [] = .tuple [] := rfl
  rw [lp_eq] at hf
  have hf0 := hf
  unfold E at hf0
  rw [ets] at hf0
  -- the place
  obtain ⟨l, hl, hl2⟩ : ∃ l : Int, prim .len [tsD ts] = some (.int l) ∧ l = (ts.length : Nat) := ⟨_, len_ts ts, rfl⟩
  have tk1 := tk (n := q) (far := l + 1) hL (k := k + 14) hC (by omega) (by omega)
  obtain ⟨m, hm, hml⟩ : ∃ m : Nat, q % (l + 1) = (m : Nat) ∧ m ≤ ts.length := ⟨(q % (l + 1)).toNat, by have := Int.emod_nonneg q (show l + 1 ≠ 0 by omega); omega, by have := Int.emod_lt_of_pos q (show 0 < l + 1 by omega); omega⟩
  rw [hm] at tk1
  have tk2 := tk (n := q / (l + 1)) (far := 6) hL (k := k + 14) hC (by omega) (by omega)
  obtain ⟨j, hj, hj6⟩ : ∃ j : Nat, q / (l + 1) % 6 = (j : Nat) ∧ j < 6 := ⟨(q / (l + 1) % 6).toNat, by have := Int.emod_nonneg (q / (l + 1)) (show (6 : Int) ≠ 0 by omega); omega, by have := Int.emod_lt_of_pos (q / (l + 1)) (show (0 : Int) < 6 by omega); omega⟩
  rw [hj] at tk2
  -- behind
  have len := bhv_len hr hb
  have hbr := bhv_rev hr hb
  have b1 : ∀ s, callIn C "behind" [.d (.str (S (wrs r))), .d (tsD ts)] s = .ok (.d (.str (S (wrs r')))) s := fun s => by rw [hC]; exact call2 (bd_run hS hT hr len hb)
  have b2 : ∀ s, callIn C "behind" [.d (.str (S (wrs r'))), .d (tsD ts.reverse)] s = .ok (.d (.str (S (wrs r)))) s := fun s => by rw [hC]; exact call2 (bd_run hS hT hr' (fun x hx => len x (List.mem_reverse.mp hx)) hbr)
  obtain ⟨r1, hb1, hb2⟩ : ∃ r1, bhv r (ts.take m) = some r1 ∧ bhv r1 (ts.drop m) = some r' := by
    have := hb
    rw [← List.take_append_drop m ts, bhv_app] at this
    cases h1 : bhv r (ts.take m) with
    | none => rw [h1] at this; cases this
    | some r1 => rw [h1] at this; exact ⟨r1, rfl, this⟩
  have hr1 := bhv_shf hr hb1
  have b3 : ∀ s, callIn C "behind" [.d (.str (S (wrs r))), .d (tsD (ts.take m))] s = .ok (.d (.str (S (wrs r1)))) s := fun s => by rw [hC]; exact call2 (bd_run hS hT hr (bhv_len hr hb1) hb1)
  have b4 : ∀ s, callIn C "behind" [.d (.str (S (wrs r1))), .d (tsD (ts.drop m))] s = .ok (.d (.str (S (wrs r')))) s := fun s => by rw [hC]; exact call2 (bd_run hS hT hr1 (bhv_len hr1 hb2) hb2)
  have sf : ∀ r : List Th, cmp2 .ne (.str (S (wrs r))) (.str (S (wrs r))) = some false := fun r => by rw [eq_ss]; simp
  -- one more
  obtain ⟨x, hx, hxl⟩ : ∃ x, mores[j]? = some x ∧ x.1.length ≤ 1000 := by
    obtain ⟨x, hx⟩ : ∃ x, mores[j]? = some x := ⟨_, List.getElem?_eq_getElem (show j < mores.length from hj6)⟩
    refine ⟨x, hx, ?_⟩
    have hmem := List.mem_of_getElem? hx
    have : ∀ y ∈ mores, y.1.length ≤ 1000 := by decide
    exact this x hmem
  have hix : idx2 (tsD mores) (.int (j : Nat)) = some (tD x) := idx_tl hx
  have hadd := add_ts ts x (by omega)
  have a1 : ∀ s, callIn C "are_turns" [.d (.str (S (wrs r))), .d (tsD (ts ++ [x]))] s = .ok (.d (.bool (bhv r (ts ++ [x])).isSome)) s := fun s => by
    rw [hC]; exact call2 (at_run (k := k + 1) hS hT hr (fun y hy => by
      rcases List.mem_append.mp hy with hy | hy
      · exact len y hy
      · simp at hy; subst hy; exact hxl))
  have hsome : (bhv r (ts ++ [x])).isSome = can r' x := by
    rw [bhv_app, hb]
    simp only [Option.bind]
    rw [bhv]
    cases can r' x <;> rfl
  obtain ⟨us, hp, h1⟩ := to_run (X := X) (k := k + 8) hS hT hr'
  have t1 : ∀ s, callIn C "turns_of" [.d (.str (S (wrs r')))] s = .ok (.d (.tuple (tl us))) s := fun s => by rw [hC]; exact call1 h1
  have hin : cmp2 .isin (tD x) (.tuple (tl us)) = some (can r' x) := by
    rw [in_tl]
    have : decide (x ∈ us) = can r' x := by
      rw [Bool.eq_iff_iff, decide_eq_true_eq, hp.mem_iff, turns_mem]
    rw [this]
  have heq : cmp2 .eq (.bool (can r' x)) (.bool (can r' x)) = some true := by rw [eq_bb]; simp
  rw [hsome] at a1
  refine ⟨q / (l + 1) / 6, ?_⟩
  rw [run_def hR rfl, ← hC]
  simp only [e_lit, e_glb, e_var, e_bin, e_neg, e_cmp, e_isN, e_and, e_or, e_not, e_ife, e_tup, e_idx, e_slc, e_rev, e_call, e_prim, e_mth, e_dlk, e_gin, e_git, e_frs, e_new, es_nil, es_cons, d_nil, d_cons, p_none, p_some, n_lst, n_slc, c_none, c_some, i_each, t_name, t_ix, ts_nil, ts_cons, s_asg, s_par, s_aug, s_augIx, s_exp, s_ite, s_ret, s_raise, s_nop, b_nil, b_cons, ev_T, peek_d, rd1_d, rd2_d, tst_b, toD_d, frz_d, map1_some, of_none, peeks_nil, rds_1, rds_2, noEx_ok', idxR_d, alloc_ok, src_ok_nil, HB.R.bind_ok, HB.R.toO_ok, HB.O.bind_nx, HB.O.bind_ret, HB.R.of_some, int1_i, neg_i, List.map_cons, List.map_nil, List.cons_append, List.nil_append, List.getElem?_cons_succ, List.getElem?_cons_zero, List.length_cons, List.length_nil, List.set_cons_succ, List.set_cons_zero, List.replicate, Nat.reduceAdd, Nat.reduceSub, Nat.reduceLT, if_true, if_false, ite_true, ite_false, Bool.false_eq_true, reduceIte, Bool.not_true, Bool.not_false, out_ret, Option.map_some, Option.map_none, decide_true, decide_false, d__law_right, m0, hf0, hl, add_ii, tk1, b1, b2, rev_ts, slc_to, slc_fr ts hml, b3, b4, sf, ↓mores_ev, tk2, hix, hadd, a1, m1, t1, hin, heq]
  rfl
end K10
end M
end HB
/-! Laws that ask _law_right of some shelves of each pot. -/
namespace HB
namespace M
open PySem PySem.W
def plI (B : Int) : List St := [.ite (.not (.call "_law_right" [.var 2, .call "_law_shelf" [.var 2, .lit (.int 16), .lit (.int 6)]])) [.ret (.lit (.bool false))] []]
def plB (B : Int) : List St := [.asg (.name 2) (.call "_law_pot" [.call "_law_cell_at" [.var 0, .var 1]]), .for_ (.name 3) (.range1 (.lit (.int B))) (plI B)]
def plBody (A B : Int) : List St := [.for_ (.name 1) (.range1 (.prim .max2 [.lit (.int 1), .prim .min2 [.prim .len [.var 0], .lit (.int A)]])) (plB B), .ret (.lit (.bool true))]
/-- what _law_right is to do -/
def RightOk (C : Calls) : Prop := ∀ (r : List Th) (p : Int), Shf r → ∃ p' : Int, C "_law_right" [.h 0, .d (.str (S (wrs r)))] [.lst [.int p]] = .ok (.d (.bool true)) [.lst [.int p']]
section
variable {P : List Def} {X : Ext} {k : Nat}
theorem pl_in (hL : HasPot P) {C : Calls} (hC : C = runF P X (k + 10)) (hR : RightOk C) {B : Int} {a b c d : Option W} {i : Nat} {s : Sto} {q : Int} {x : D} (h : s[i]? = some (.lst [.int q])) :
    ∃ q', (noEx (asT C (.name 3) (.d x) [a, b, some (.h i), d] s)).toO [a, b, some (.h i), d] (fun e s => exB C (plI B) e s) = .nx [a, b, some (.h i), some (.d x)] (s.set i (.lst [.int q'])) := by
  obtain ⟨r, q1, e1, hr⟩ := sh_run (X := X) (k := k) hL (p := q)
  obtain ⟨q2, e2⟩ := hR r q1 hr
  have cs : callIn C "_law_shelf" [.h i, .d (.int 16), .d (.int 6)] s = .ok (.d (.str (S (wrs r)))) (s.set i (.lst [.int q1])) := by rw [hC]; exact callH2 h e1
  have h' : (s.set i (.lst [.int q1]))[i]? = some (.lst [.int q1]) := by rw [List.getElem?_set_self (List.getElem?_eq_some_iff.mp h).1]
  have cr : callIn C "_law_right" [.h i, .d (.str (S (wrs r)))] (s.set i (.lst [.int q1])) = .ok (.d (.bool true)) (s.set i (.lst [.int q2])) := by
    have := callH1 h' e2
    rw [List.set_set] at this
    exact this
  exact ⟨q2, by simp only [e_lit, e_glb, e_var, e_bin, e_neg, e_cmp, e_isN, e_and, e_or, e_not, e_ife, e_tup, e_idx, e_slc, e_rev, e_call, e_prim, e_mth, e_dlk, e_gin, e_git, e_frs, e_new, es_nil, es_cons, d_nil, d_cons, p_none, p_some, n_lst, n_slc, c_none, c_some, i_each, t_name, t_ix, ts_nil, ts_cons, s_asg, s_par, s_aug, s_augIx, s_exp, s_ite, s_ret, s_raise, s_nop, b_nil, b_cons, ev_T, peek_d, rd1_d, rd2_d, tst_b, toD_d, frz_d, map1_some, of_none, peeks_nil, rds_1, rds_2, noEx_ok', idxR_d, alloc_ok, src_ok_nil, HB.R.bind_ok, HB.R.toO_ok, HB.O.bind_nx, HB.O.bind_ret, HB.R.of_some, int1_i, neg_i, List.map_cons, List.map_nil, List.cons_append, List.nil_append, List.getElem?_cons_succ, List.getElem?_cons_zero, List.length_cons, List.length_nil, List.set_cons_succ, List.set_cons_zero, List.replicate, Nat.reduceAdd, Nat.reduceSub, Nat.reduceLT, if_true, if_false, ite_true, ite_false, Bool.false_eq_true, reduceIte, Bool.not_true, Bool.not_false, out_ret, Option.map_some, Option.map_none, decide_true, decide_false, plI, cs, cr]⟩
theorem pl_out (hL : HasPot P) {C : Calls} (hC : C = runF P X (k + 10)) (hR : RightOk C) {B : Nat} (hB : B ≤ 1000) {ns : List Int} {b c d : Option W} {s : Sto} {j : Nat} :
    ∃ b' c' d' s', (noEx (asT C (.name 1) (.d (.int (j : Nat))) [some (.d (.list (ns.map .int))), b, c, d] s)).toO [some (.d (.list (ns.map .int))), b, c, d] (fun e s => exB C (plB (B : Nat)) e s) = .nx [some (.d (.list (ns.map .int))), b', c', d'] s' := by
  obtain ⟨cc, hc⟩ := ca_run (X := X) (k := k + 9) hL.cell (ns := ns) (i := j)
  obtain ⟨q, hq⟩ := po_run (X := X) (k := k + 9) hL.pot cc
  have c1 : ∀ s, callIn C "_law_cell_at" [.d (.list (ns.map .int)), .d (.int (j : Nat))] s = .ok (.d (.int cc)) s := fun s => by rw [hC]; exact call2 hc
  have c2 : ∀ s, callIn C "_law_pot" [.d (.int cc)] s = .ok (.h s.length) (s ++ [.lst [.int q]]) := fun s => by rw [hC]; exact callNew hq
  obtain ⟨e', s', h1, h2⟩ := for_inv (keep := fun s => Src.ok s []) (f := fun x e s => (noEx (asT C (.name 3) (.d x) e s)).toO e fun e s => exB C (plI (B : Nat)) e s)
    (fun _ e s1 => ∃ d q, e = [some (.d (.list (ns.map .int))), some (.d (.int (j : Nat))), some (.h s.length), d] ∧ s1[s.length]? = some (.lst [.int q])) (rangeL 0 (B : Int)) 0 [some (.d (.list (ns.map .int))), some (.d (.int (j : Nat))), some (.h s.length), d] (s ++ [.lst [.int q]]) (fun i x e s1 hx hi => by
      obtain ⟨d, q, rfl, hq⟩ := hi
      obtain ⟨q', h1⟩ := pl_in hL hC hR (B := (B : Nat)) (a := some (.d (.list (ns.map .int)))) (b := some (.d (.int (j : Nat)))) (c := none) (d := d) (x := x) hq
      exact ⟨_, _, h1, _, q', rfl, by rw [List.getElem?_set_self (List.getElem?_eq_some_iff.mp hq).1]⟩) (fun _ _ _ _ => rfl) ⟨d, q, rfl, by simp⟩
  obtain ⟨d', q', rfl, _⟩ := h2
  have hi : evI C (.range1 (.lit (.int (B : Nat)))) [some (.d (.list (ns.map .int))), some (.d (.int (j : Nat))), some (.h s.length), d] (s ++ [.lst [.int q]]) = .ok ⟨[], rangeL 0 (B : Int)⟩ (s ++ [.lst [.int q]]) := it_range1 (by simp only [e_lit, e_glb, e_var, e_bin, e_neg, e_cmp, e_isN, e_and, e_or, e_not, e_ife, e_tup, e_idx, e_slc, e_rev, e_call, e_prim, e_mth, e_dlk, e_gin, e_git, e_frs, e_new, es_nil, es_cons, d_nil, d_cons, p_none, p_some, n_lst, n_slc, c_none, c_some, i_each, t_name, t_ix, ts_nil, ts_cons, s_asg, s_par, s_aug, s_augIx, s_exp, s_ite, s_ret, s_raise, s_nop, b_nil, b_cons, ev_T, peek_d, rd1_d, rd2_d, tst_b, toD_d, frz_d, map1_some, of_none, peeks_nil, rds_1, rds_2, noEx_ok', idxR_d, alloc_ok, src_ok_nil, HB.R.bind_ok, HB.R.toO_ok, HB.O.bind_nx, HB.O.bind_ret, HB.R.of_some, int1_i, neg_i, List.map_cons, List.map_nil, List.cons_append, List.nil_append, List.getElem?_cons_succ, List.getElem?_cons_zero, List.length_cons, List.length_nil, List.set_cons_succ, List.set_cons_zero, List.replicate, Nat.reduceAdd, Nat.reduceSub, Nat.reduceLT, if_true, if_false, ite_true, ite_false, Bool.false_eq_true, reduceIte, Bool.not_true, Bool.not_false, out_ret, Option.map_some, Option.map_none, decide_true, decide_false]) (range1_nat (by unfold maxLen; omega))
  have hf : exS C (.for_ (.name 3) (.range1 (.lit (.int (B : Nat)))) (plI (B : Nat))) [some (.d (.list (ns.map .int))), some (.d (.int (j : Nat))), some (.h s.length), d] (s ++ [.lst [.int q]]) = .nx [some (.d (.list (ns.map .int))), some (.d (.int (j : Nat))), some (.h s.length), d'] s' := by
    rw [s_for, hi, HB.R.toO_ok]; exact h1
  refine ⟨some (.d (.int (j : Nat))), some (.h s.length), d', s', ?_⟩
  have hA : exS C (.asg (.name 2) (.call "_law_pot" [.call "_law_cell_at" [.var 0, .var 1]])) [some (.d (.list (ns.map .int))), some (.d (.int (j : Nat))), c, d] s = .nx [some (.d (.list (ns.map .int))), some (.d (.int (j : Nat))), some (.h s.length), d] (s ++ [.lst [.int q]]) := by simp only [e_lit, e_glb, e_var, e_bin, e_neg, e_cmp, e_isN, e_and, e_or, e_not, e_ife, e_tup, e_idx, e_slc, e_rev, e_call, e_prim, e_mth, e_dlk, e_gin, e_git, e_frs, e_new, es_nil, es_cons, d_nil, d_cons, p_none, p_some, n_lst, n_slc, c_none, c_some, i_each, t_name, t_ix, ts_nil, ts_cons, s_asg, s_par, s_aug, s_augIx, s_exp, s_ite, s_ret, s_raise, s_nop, b_nil, b_cons, ev_T, peek_d, rd1_d, rd2_d, tst_b, toD_d, frz_d, map1_some, of_none, peeks_nil, rds_1, rds_2, noEx_ok', idxR_d, alloc_ok, src_ok_nil, HB.R.bind_ok, HB.R.toO_ok, HB.O.bind_nx, HB.O.bind_ret, HB.R.of_some, int1_i, neg_i, List.map_cons, List.map_nil, List.cons_append, List.nil_append, List.getElem?_cons_succ, List.getElem?_cons_zero, List.length_cons, List.length_nil, List.set_cons_succ, List.set_cons_zero, List.replicate, Nat.reduceAdd, Nat.reduceSub, Nat.reduceLT, if_true, if_false, ite_true, ite_false, Bool.false_eq_true, reduceIte, Bool.not_true, Bool.not_false, out_ret, Option.map_some, Option.map_none, decide_true, decide_false, c1, c2]
  rw [t_name, if_pos (by show 1 < 4; omega), noEx_ok', HB.R.toO_ok, plB, b_cons]
  show (exS C (.asg (.name 2) (.call "_law_pot" [.call "_law_cell_at" [.var 0, .var 1]])) [some (.d (.list (ns.map .int))), some (.d (.int (j : Nat))), c, d] s).bind _ = _
  rw [hA, HB.O.bind_nx, b_cons, hf, HB.O.bind_nx, b_nil]
theorem pl_it {C : Calls} {ns : List Int} {A : Nat} (hA : A ≤ 1000) : ∃ n : Nat, n ≤ 1001 ∧ evI C (.range1 (.prim .max2 [.lit (.int 1), .prim .min2 [.prim .len [.var 0], .lit (.int (A : Nat))]])) [some (.d (.list (ns.map .int))), none, none, none] [] = .ok ⟨[], rangeL 0 (n : Int)⟩ [] := by
  obtain ⟨l, hl⟩ : ∃ l : Nat, prim .len [.list (ns.map .int)] = some (.int (l : Nat)) := ⟨ns.length, by simp [prim]⟩
  have e1 : ∀ a b : Int, prim .max2 [.int a, .int b] = some (.int (if b > a then b else a)) := fun _ _ => rfl
  have e2 : ∀ a b : Int, prim .min2 [.int a, .int b] = some (.int (if b < a then b else a)) := fun _ _ => rfl
  obtain ⟨m, hm, hm2⟩ : ∃ m : Nat, prim .min2 [.int (l : Nat), .int (A : Nat)] = some (.int (m : Nat)) ∧ m ≤ A := by
    rw [e2]
    split
    · exact ⟨A, rfl, Nat.le_refl _⟩
    · exact ⟨l, rfl, by omega⟩
  obtain ⟨n, hn, hn2⟩ : ∃ n : Nat, prim .max2 [.int 1, .int (m : Nat)] = some (.int (n : Nat)) ∧ n ≤ 1001 := by
    rw [e1]
    split
    · exact ⟨m, rfl, by omega⟩
    · exact ⟨1, rfl, by omega⟩
  exact ⟨n, hn2, it_range1 (by simp only [e_lit, e_glb, e_var, e_bin, e_neg, e_cmp, e_isN, e_and, e_or, e_not, e_ife, e_tup, e_idx, e_slc, e_rev, e_call, e_prim, e_mth, e_dlk, e_gin, e_git, e_frs, e_new, es_nil, es_cons, d_nil, d_cons, p_none, p_some, n_lst, n_slc, c_none, c_some, i_each, t_name, t_ix, ts_nil, ts_cons, s_asg, s_par, s_aug, s_augIx, s_exp, s_ite, s_ret, s_raise, s_nop, b_nil, b_cons, ev_T, peek_d, rd1_d, rd2_d, tst_b, toD_d, frz_d, map1_some, of_none, peeks_nil, rds_1, rds_2, noEx_ok', idxR_d, alloc_ok, src_ok_nil, HB.R.bind_ok, HB.R.toO_ok, HB.O.bind_nx, HB.O.bind_ret, HB.R.of_some, int1_i, neg_i, List.map_cons, List.map_nil, List.cons_append, List.nil_append, List.getElem?_cons_succ, List.getElem?_cons_zero, List.length_cons, List.length_nil, List.set_cons_succ, List.set_cons_zero, List.replicate, Nat.reduceAdd, Nat.reduceSub, Nat.reduceLT, if_true, if_false, ite_true, ite_false, Bool.false_eq_true, reduceIte, Bool.not_true, Bool.not_false, out_ret, Option.map_some, Option.map_none, decide_true, decide_false, hl, hm, hn]) (range1_nat (by unfold maxLen; omega))⟩
theorem pl_run (hL : HasPot P) {K : Nat} (hK : 11 ≤ K) (hR : RightOk (runF P X (K - 1))) {A B : Nat} (hA : A ≤ 1000) (hB : B ≤ 1000) {d : Def} (hd : Fd P "law" d) (hp : d.params = 1) (hs : d.slots.length = 4) (hk : d.keep = false) (hb : d.body = plBody (A : Nat) (B : Nat)) (ns : List Int) :
    ∃ s, runF P X K "law" [.d (.list (ns.map .int))] [] = .ok (.d (.bool true)) s := by
  obtain ⟨k, rfl⟩ : ∃ k, K = k + 11 := ⟨K - 11, by omega⟩
  obtain ⟨C, hC⟩ : ∃ C, C = runF P X (k + 10) := ⟨_, rfl⟩
  rw [show k + 11 - 1 = k + 10 from rfl, ← hC] at hR
  obtain ⟨n, hn, hi⟩ := pl_it (C := C) (ns := ns) hA
  obtain ⟨e', s', h1, h2⟩ := for_inv (keep := fun s => Src.ok s []) (f := fun x e s => (noEx (asT C (.name 1) (.d x) e s)).toO e fun e s => exB C (plB (B : Nat)) e s)
    (fun _ e _ => ∃ b c d, e = [some (W.d (.list (ns.map .int))), b, c, d]) (rangeL 0 (n : Int)) 0 [some (.d (.list (ns.map .int))), none, none, none] [] (fun i x e s hx hi => by
      obtain ⟨b, c, d, rfl⟩ := hi
      obtain ⟨_, rfl⟩ := range_at hx
      obtain ⟨b', c', d', s', h⟩ := pl_out hL hC hR hB (ns := ns) (b := b) (c := c) (d := d) (s := s) (j := i)
      exact ⟨_, _, h, _, _, _, rfl⟩) (fun _ _ _ _ => rfl) ⟨_, _, _, rfl⟩
  obtain ⟨b', c', d', rfl⟩ := h2
  have hf : exS C (.for_ (.name 1) (.range1 (.prim .max2 [.lit (.int 1), .prim .min2 [.prim .len [.var 0], .lit (.int (A : Nat))]])) (plB (B : Nat))) [some (.d (.list (ns.map .int))), none, none, none] [] = .nx [some (.d (.list (ns.map .int))), b', c', d'] s' := by
    rw [s_for, hi, HB.R.toO_ok]; exact h1
  refine ⟨[], ?_⟩
  rw [run_def hd (by rw [hp]; rfl), ← hC, hk, hb, hs]
  simp only [e_lit, e_glb, e_var, e_bin, e_neg, e_cmp, e_isN, e_and, e_or, e_not, e_ife, e_tup, e_idx, e_slc, e_rev, e_call, e_prim, e_mth, e_dlk, e_gin, e_git, e_frs, e_new, es_nil, es_cons, d_nil, d_cons, p_none, p_some, n_lst, n_slc, c_none, c_some, i_each, t_name, t_ix, ts_nil, ts_cons, s_asg, s_par, s_aug, s_augIx, s_exp, s_ite, s_ret, s_raise, s_nop, b_nil, b_cons, ev_T, peek_d, rd1_d, rd2_d, tst_b, toD_d, frz_d, map1_some, of_none, peeks_nil, rds_1, rds_2, noEx_ok', idxR_d, alloc_ok, src_ok_nil, HB.R.bind_ok, HB.R.toO_ok, HB.O.bind_nx, HB.O.bind_ret, HB.R.of_some, int1_i, neg_i, List.map_cons, List.map_nil, List.cons_append, List.nil_append, List.getElem?_cons_succ, List.getElem?_cons_zero, List.length_cons, List.length_nil, List.set_cons_succ, List.set_cons_zero, List.replicate, Nat.reduceAdd, Nat.reduceSub, Nat.reduceLT, if_true, if_false, ite_true, ite_false, Bool.false_eq_true, reduceIte, Bool.not_true, Bool.not_false, out_ret, Option.map_some, Option.map_none, decide_true, decide_false, plBody, hf]
end
end M
end HB
/-! The law k10 holds of its run. -/
namespace HB
namespace M
open PySem PySem.W
theorem sh10 : HasSh Gk10.prog := by constructor <;> (unfold Fd; kernel_rfl)
theorem pot10 : HasPot Gk10.prog := by constructor <;> (unfold Fd; kernel_rfl)
theorem t10 : HasT Gk10.prog := by constructor <;> (unfold Fd; kernel_rfl)
theorem right10 : Fd Gk10.prog "_law_right" Gk10.d__law_right := by unfold Fd; kernel_rfl
theorem law10 : Fd Gk10.prog "law" Gk10.d_law := by unfold Fd; kernel_rfl
theorem run10 (ns : List Int) : ∃ s, runF Gk10.prog [] 40 "law" [.d (.list (ns.map .int))] [] = .ok (.d (.bool true)) s :=
  pl_run (P := Gk10.prog) (X := []) pot10 (K := 40) (by omega) (fun r p h => K10.right_run (k := 23) sh10 t10 pot10 right10 h) (A := 4) (B := 4) (by omega) (by omega) law10 rfl rfl rfl rfl ns
end M
end HB
namespace HB
namespace Gk10
open PySem PySem.W PySem.Spec PyProof.Rows L2
def tab : Tab := ⟨prog, ["all", "bool", "enumerate", "int", "isinstance", "len", "list", "max", "min", "range", "sorted", "str", "tuple"], [("MOST_DEEP", .int 3), ("MOST_IN_ROW", .int 6), ("MOST_THINGS", .int 16), ("OPEN", .str "(")], [("BEHIND", [("b", .str "d"), ("d", .str "b"), ("p", .str "q"), ("q", .str "p"), ("o", .str "o"), ("x", .str "x")]), ("ENDS", [("(", .str ")"), ("[", .str "]")])], ["NoShelf", "NoTurn", "NoTurns"], []⟩
abbrev row : PySem.W.OpenRow := PySem.W.OpenLaw.row PySem.Challenge.rw_handboxes_k10_whole_turns_undone
def top (i : Nat) : Stmt := PySem.Challenge.pw_handboxes_k10_whole_turns_undone.main.body.getD i (.Pass ⟨0, 0, 0, 0⟩)
def p_is_shelf : Pl := ⟨G.d_is_shelf, top 12, ["thing"]⟩
theorem b_is_shelf : BindOk p_is_shelf := fun _ _ _ _ _ _ us hl => match us, hl with | [_], _ => rfl
def p_need_shelf : Pl := ⟨G.d_need_shelf, top 13, ["thing"]⟩
theorem b_need_shelf : BindOk p_need_shelf := fun _ _ _ _ _ _ us hl => match us, hl with | [_], _ => rfl
def p_end_of : Pl := ⟨G.d_end_of, top 14, ["row", "at"]⟩
theorem b_end_of : BindOk p_end_of := fun _ _ _ _ _ _ us hl => match us, hl with | [_, _], _ => rfl
def p_things_in : Pl := ⟨G.d_things_in, top 15, ["row"]⟩
theorem b_things_in : BindOk p_things_in := fun _ _ _ _ _ _ us hl => match us, hl with | [_], _ => rfl
def p_is_box : Pl := ⟨G.d_is_box, top 16, ["thing"]⟩
theorem b_is_box : BindOk p_is_box := fun _ _ _ _ _ _ us hl => match us, hl with | [_], _ => rfl
def p_is_open : Pl := ⟨G.d_is_open, top 17, ["thing"]⟩
theorem b_is_open : BindOk p_is_open := fun _ _ _ _ _ _ us hl => match us, hl with | [_], _ => rfl
def p_inner : Pl := ⟨G.d_inner, top 18, ["box"]⟩
theorem b_inner : BindOk p_inner := fun _ _ _ _ _ _ us hl => match us, hl with | [_], _ => rfl
def p_with_inner : Pl := ⟨G.d_with_inner, top 19, ["box", "row"]⟩
theorem b_with_inner : BindOk p_with_inner := fun _ _ _ _ _ _ us hl => match us, hl with | [_, _], _ => rfl
def p_behind_thing : Pl := ⟨G.d_behind_thing, top 20, ["thing"]⟩
theorem b_behind_thing : BindOk p_behind_thing := fun _ _ _ _ _ _ us hl => match us, hl with | [_], _ => rfl
def p_behind_row : Pl := ⟨G.d_behind_row, top 21, ["row"]⟩
theorem b_behind_row : BindOk p_behind_row := fun _ _ _ _ _ _ us hl => match us, hl with | [_], _ => rfl
def p_is_whole : Pl := ⟨G.d_is_whole, top 22, ["thing"]⟩
theorem b_is_whole : BindOk p_is_whole := fun _ _ _ _ _ _ us hl => match us, hl with | [_], _ => rfl
def p_is_path : Pl := ⟨G.d_is_path, top 23, ["thing"]⟩
theorem b_is_path : BindOk p_is_path := fun _ _ _ _ _ _ us hl => match us, hl with | [_], _ => rfl
def p_box_by : Pl := ⟨G.d_box_by, top 24, ["shelf", "path"]⟩
theorem b_box_by : BindOk p_box_by := fun _ _ _ _ _ _ us hl => match us, hl with | [_, _], _ => rfl
def p_row_by : Pl := ⟨G.d_row_by, top 25, ["shelf", "path"]⟩
theorem b_row_by : BindOk p_row_by := fun _ _ _ _ _ _ us hl => match us, hl with | [_, _], _ => rfl
def p_with_box : Pl := ⟨G.d_with_box, top 26, ["shelf", "path", "box"]⟩
theorem b_with_box : BindOk p_with_box := fun _ _ _ _ _ _ us hl => match us, hl with | [_, _, _], _ => rfl
def p_with_row : Pl := ⟨G.d_with_row, top 27, ["shelf", "path", "row"]⟩
theorem b_with_row : BindOk p_with_row := fun _ _ _ _ _ _ us hl => match us, hl with | [_, _, _], _ => rfl
def p_paths_in : Pl := ⟨G.d_paths_in, top 29, ["row", "path"]⟩
theorem b_paths_in : BindOk p_paths_in := fun _ _ _ _ _ _ us hl => match us, hl with | [_, _], _ => rfl
def p_turns_of : Pl := ⟨G.d_turns_of, top 30, ["shelf"]⟩
theorem b_turns_of : BindOk p_turns_of := fun _ _ _ _ _ _ us hl => match us, hl with | [_], _ => rfl
def p_free_row : Pl := ⟨G.d_free_row, top 31, ["shelf", "path"]⟩
theorem b_free_row : BindOk p_free_row := fun _ _ _ _ _ _ us hl => match us, hl with | [_, _], _ => rfl
def p_can_turn : Pl := ⟨G.d_can_turn, top 32, ["shelf", "thing"]⟩
theorem b_can_turn : BindOk p_can_turn := fun _ _ _ _ _ _ us hl => match us, hl with | [_, _], _ => rfl
def p_turned_by : Pl := ⟨G.d_turned_by, top 33, ["shelf", "turn"]⟩
theorem b_turned_by : BindOk p_turned_by := fun _ _ _ _ _ _ us hl => match us, hl with | [_, _], _ => rfl
def p_turned : Pl := ⟨G.d_turned, top 34, ["shelf", "turn"]⟩
theorem b_turned : BindOk p_turned := fun _ _ _ _ _ _ us hl => match us, hl with | [_, _], _ => rfl
def p_behind_by : Pl := ⟨G.d_behind_by, top 35, ["shelf", "thing"]⟩
theorem b_behind_by : BindOk p_behind_by := fun _ _ _ _ _ _ us hl => match us, hl with | [_, _], _ => rfl
def p_need_turns : Pl := ⟨G.d_need_turns, top 36, ["shelf", "thing"]⟩
theorem b_need_turns : BindOk p_need_turns := fun _ _ _ _ _ _ us hl => match us, hl with | [_, _], _ => rfl
def p_behind : Pl := ⟨G.d_behind, top 37, ["shelf", "turns"]⟩
theorem b_behind : BindOk p_behind := fun _ _ _ _ _ _ us hl => match us, hl with | [_, _], _ => rfl
def p_are_turns : Pl := ⟨G.d_are_turns, top 38, ["shelf", "thing"]⟩
theorem b_are_turns : BindOk p_are_turns := fun _ _ _ _ _ _ us hl => match us, hl with | [_, _], _ => rfl
def p__law_cell_at : Pl := ⟨G.d__law_cell_at, top 40, ["_law_script", "_law_k"]⟩
theorem b__law_cell_at : BindOk p__law_cell_at := fun _ _ _ _ _ _ us hl => match us, hl with | [_, _], _ => rfl
def p__law_pot : Pl := ⟨G.d__law_pot, top 41, ["_law_cell"]⟩
theorem b__law_pot : BindOk p__law_pot := fun _ _ _ _ _ _ us hl => match us, hl with | [_], _ => rfl
def p__law_take : Pl := ⟨G.d__law_take, top 42, ["_law_pot_here", "_law_far"]⟩
theorem b__law_take : BindOk p__law_take := fun _ _ _ _ _ _ us hl => match us, hl with | [_, _], _ => rfl
def p__law_row : Pl := ⟨G.d__law_row, top 43, ["_law_pot_here", "_law_box", "_law_deep", "_law_most"]⟩
theorem b__law_row : BindOk p__law_row := fun _ _ _ _ _ _ us hl => match us, hl with | [_, _, _, _], _ => rfl
def p__law_written : Pl := ⟨G.d__law_written, top 44, ["_law_row_here"]⟩
theorem b__law_written : BindOk p__law_written := fun _ _ _ _ _ _ us hl => match us, hl with | [_], _ => rfl
def p__law_shelf : Pl := ⟨G.d__law_shelf, top 45, ["_law_pot_here", "_law_many", "_law_most"]⟩
theorem b__law_shelf : BindOk p__law_shelf := fun _ _ _ _ _ _ us hl => match us, hl with | [_, _, _], _ => rfl
def p__law_right : Pl := ⟨d__law_right, top 46, ["_law_pot_here", "_law_shelf_here"]⟩
theorem b__law_right : BindOk p__law_right := fun _ _ _ _ _ _ us hl => match us, hl with | [_, _], _ => rfl
def p_law : Pl := ⟨d_law, top 47, ["_law_script"]⟩
theorem b_law : BindOk p_law := fun _ _ _ _ _ _ us hl => match us, hl with | [_], _ => rfl
def pls : List Pl := [p_is_shelf, p_need_shelf, p_end_of, p_things_in, p_is_box, p_is_open, p_inner, p_with_inner, p_behind_thing, p_behind_row, p_is_whole, p_is_path, p_box_by, p_row_by, p_with_box, p_with_row, p_paths_in, p_turns_of, p_free_row, p_can_turn, p_turned_by, p_turned, p_behind_by, p_need_turns, p_behind, p_are_turns, p__law_cell_at, p__law_pot, p__law_take, p__law_row, p__law_written, p__law_shelf, p__law_right, p_law]
def xs : List He.DefD := []
theorem ready : Ready tab pls := ⟨rfl, by decide +kernel, by decide +kernel, by decide +kernel, by
  intro p hp
  simp only [pls, List.mem_cons, List.not_mem_nil, or_false] at hp
  rcases hp with rfl | rfl | rfl | rfl | rfl | rfl | rfl | rfl | rfl | rfl | rfl | rfl | rfl | rfl | rfl | rfl | rfl | rfl | rfl | rfl | rfl | rfl | rfl | rfl | rfl | rfl | rfl | rfl | rfl | rfl | rfl | rfl | rfl | rfl
  · exact b_is_shelf
  · exact b_need_shelf
  · exact b_end_of
  · exact b_things_in
  · exact b_is_box
  · exact b_is_open
  · exact b_inner
  · exact b_with_inner
  · exact b_behind_thing
  · exact b_behind_row
  · exact b_is_whole
  · exact b_is_path
  · exact b_box_by
  · exact b_row_by
  · exact b_with_box
  · exact b_with_row
  · exact b_paths_in
  · exact b_turns_of
  · exact b_free_row
  · exact b_can_turn
  · exact b_turned_by
  · exact b_turned
  · exact b_behind_by
  · exact b_need_turns
  · exact b_behind
  · exact b_are_turns
  · exact b__law_cell_at
  · exact b__law_pot
  · exact b__law_take
  · exact b__law_row
  · exact b__law_written
  · exact b__law_shelf
  · exact b__law_right
  · exact b_law⟩
def loose : List Str := (["BoxError", "NoShelf", "NoTurn", "NoTurns", "BEHIND", "ENDS", "OPEN", "MOST_IN_ROW", "MOST_THINGS", "MOST_DEEP", "is_shelf", "need_shelf", "end_of", "things_in", "is_box", "is_open", "inner", "with_inner", "behind_thing", "behind_row"] : List Str) ++ (["is_whole", "is_path", "box_by", "row_by", "with_box", "with_row", "paths_in", "turns_of", "free_row", "can_turn", "turned_by", "turned", "behind_by", "need_turns", "behind", "are_turns", "_law_cell_at", "_law_pot", "_law_take", "_law_row"] : List Str) ++ (["_law_written", "_law_shelf", "_law_right"] : List Str)
abbrev fn : List He.DefD := pls.map Pl.dd ++ xs
theorem runs : RunOk tab 63 40 := fun ns _ _ => M.run10 ns
end Gk10
end HB
open PySem PySem.W PySem.W.X PySem.Calls PyProof.Rows
theorem PySem.Challenge.cw_handboxes_k10_whole_turns_undone_holds : PySem.Challenge.rw_handboxes_k10_whole_turns_undone.Holds := by
  w_on; o_law; k_head; (case hw => w_witness2)
  k_fill
  refine HB.walk_by (l := PySem.Challenge.rw_handboxes_k10_whole_turns_undone) (n := 63) (fuel := 40) (kx := 4) (T := HB.Gk10.tab) (pls := HB.Gk10.pls) (xs := HB.Gk10.xs) rfl (by decide) (by kernel_rfl) ⟨rfl, by decide, by decide⟩ (by kernel_rfl) (by decide +kernel) HB.Gk10.ready HB.Gk10.runs
    (fun w h Y => HB.says_of (PySem.W.kIn_of Y) (by kernel_rfl)) (fun _ _ _ _ _ _ _ p hp => nomatch hp)
