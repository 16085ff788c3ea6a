import PyProof.Rows.All
import Wide.All
import OpenK.AllK
import Wide.FinOn
import HandS.ForMost
import HandS.ForExc
import HandS.Wide
import HandS.TupAny
import HandS.Deep
import HandS.SortInts
import HandS.RaiseMore
import HandS.IsInst
import HandS.Style
import KE.OsSort
import HandS.Words
import HandS.Flow
import HandS.Walk
import HandS.Star
import KE.GoesEnum
import KE.GoesMore
import HandS.Zip
import HandS.NoneIn
import HandS.Comp
import HandS.Strs
import HandS.Conv
import HandS.OwnEq
import KE.KCallOwn
import KE.KRevSl
import HandS.Ends
import PySem.Challenge.RW_lotrounds_k02_distances_made
set_option Elab.async false
set_option linter.all false
/-! Ev: data, owned values, the little language (slots in place of names) and its evaluator by values. -/
namespace MP
open PySem L2

/-- data: what a value is worth once nobody changes it -/
inductive D where
  | non | bl (b : Bool) | int (i : Int) | str (s : Str)
  | tup (xs : List D) | lst (xs : List D) | obj (c : Nat) (xs : List D)
  /-- a list of ints that stands still (the script) -/
  | arr (ns : List Int)
  deriving Inhabited

/-- a value with what we own of it -/
inductive O where
  | sh (d : D) | lst (xs : List O) | ins (c : Nat) (fs : List (Str × D))
  deriving Inhabited

mutual
def O.view : O → D
  | .sh d => d
  | .lst xs => .lst (views xs)
  | .ins c fs => .obj c (fs.map (·.2))
def views : List O → List D
  | [] => []
  | x :: xs => x.view :: views xs
end
theorem views_map : ∀ xs : List O, views xs = xs.map O.view
  | [] => rfl
  | x :: xs => by rw [views, views_map xs, List.map_cons]
theorem views_sh (ds : List D) : views (ds.map O.sh) = ds := by
  rw [views_map, List.map_map]
  induction ds with
  | nil => rfl
  | cons d ds ih => rw [List.map_cons, ih]; rfl

/-- the items of a list are all shared -/
def shAll : List O → Option (List D)
  | [] => some []
  | .sh d :: xs => (shAll xs).map (d :: ·)
  | _ :: _ => none
@[simp] theorem shAll_map : ∀ ds : List D, shAll (ds.map O.sh) = some ds
  | [] => rfl
  | d :: ds => by rw [List.map_cons, shAll, shAll_map ds]; rfl
/-- a value, nothing within which is owned -/
def O.flat : O → Option D
  | .sh d => some d
  | .lst xs => (shAll xs).map D.lst
  | .ins .. => none

mutual
/-- no object in the making within -/
def noIns : O → Bool
  | .sh _ => true
  | .lst xs => noInss xs
  | .ins .. => false
def noInss : List O → Bool
  | [] => true
  | x :: xs => noIns x && noInss xs
end

/-! ### outcomes -/
inductive R (α : Type) where
  | ok (a : α) | exc (c : Nat) (fs : List D) | bad
def R.bind {α β : Type} (r : R α) (f : α → R β) : R β := match r with
  | .ok a => f a
  | .exc c fs => .exc c fs
  | .bad => .bad
instance : Monad R where
  pure := R.ok
  bind := R.bind
@[simp] theorem R.ok_bind {α β : Type} (a : α) (f : α → R β) : ((R.ok a : R α) >>= f) = f a := rfl
@[simp] theorem R.bad_bind {α β : Type} (f : α → R β) : ((R.bad : R α) >>= f) = .bad := rfl
@[simp] theorem R.exc_bind {α β : Type} (c : Nat) (fs : List D) (f : α → R β) : ((R.exc c fs : R α) >>= f) = .exc c fs := rfl
@[simp] theorem R.pure_ok {α : Type} (a : α) : (pure a : R α) = .ok a := rfl
theorem R.bind_ok {α β : Type} {r : R α} {f : α → R β} {b : β} (h : (r >>= f) = .ok b) : ∃ a, r = .ok a ∧ f a = .ok b := by
  cases r with
  | ok a => exact ⟨a, rfl, h⟩
  | exc c fs => cases h
  | bad => cases h
def R.of {α : Type} : Option α → R α
  | some a => .ok a
  | none => .bad
@[simp] theorem R.of_some {α : Type} (a : α) : R.of (some a) = .ok a := rfl
@[simp] theorem R.of_none {α : Type} : R.of (none : Option α) = .bad := rfl
theorem R.of_ok {α : Type} {o : Option α} {a : α} (h : R.of o = .ok a) : o = some a := by
  cases o with
  | none => cases h
  | some b => cases h; rfl
/-- go on only if -/
def R.need {α : Type} (b : Bool) (k : R α) : R α := if b = true then k else .bad
@[simp] theorem R.need_true {α : Type} (k : R α) : R.need true k = k := rfl
theorem R.need_of {α : Type} {b : Bool} (k : R α) (h : b = true) : R.need b k = k := by subst h; rfl
theorem R.need_ok {α : Type} {b : Bool} {k : R α} {a : α} (h : R.need b k = .ok a) : b = true ∧ k = .ok a := by
  unfold R.need at h
  split at h
  · exact ⟨by assumption, h⟩
  · cases h

abbrev lim : Nat := 16777216

abbrev En := List (Option O)
def En.get (e : En) (i : Nat) : R O := match e[i]? with
  | some (some o) => .ok o
  | _ => .bad

/-- an argument: what stands in a slot, or a value -/
inductive AV where
  | at (i : Nat) | val (o : O)
def AV.see (e : En) : AV → R O
  | .at i => e.get i
  | .val o => .ok o
def seeAll (e : En) : List AV → R (List O)
  | [] => .ok []
  | a :: as => do
    let o ← a.see e
    let os ← seeAll e as
    pure (o :: os)
/-- the values at the places told -/
def pick {α : Type} (xs : List α) : List Nat → Option (List α)
  | [] => some []
  | i :: is => match xs[i]?, pick xs is with
    | some x, some ys => some (x :: ys)
    | _, _ => none

/-! ### operations on data -/
/-- data without objects -/
def D.py : D → Option PyData
  | .non => some .none
  | .bl b => some (.bool b)
  | .int i => some (.int i)
  | .str s => some (.str s)
  | .tup xs => (pys xs).map .tuple
  | .lst xs => (pys xs).map .list
  | .obj .. => none
  | .arr _ => none
where pys : List D → Option (List PyData)
  | [] => some []
  | x :: xs => match x.py, pys xs with
    | some y, some ys => some (y :: ys)
    | _, _ => none

inductive Cm where
  | eq | ne | lt | le | gt | ge | isIn | notIn | isN | notN
  deriving DecidableEq

def flatD : D → Bool
  | .non | .bl _ | .int _ | .str _ => true
  | _ => false
def eqF : D → D → Bool
  | .non, .non => true
  | .bl a, .bl b => a == b
  | .bl a, .int b => (if a then 1 else 0) == b
  | .int a, .bl b => a == (if b then 1 else 0)
  | .int a, .int b => a == b
  | .str a, .str b => a == b
  | _, _ => false
def eqD (a b : D) : R Bool := match a, b with
  | .int i, .int j => .ok (decide (i = j))
  | .str i, .str j => .ok (decide (i = j))
  | .bl i, .bl j => .ok (decide (i = j))
  | a, b => do
    let x ← R.of a.py
    let y ← R.of b.py
    R.need (SeqAt.shaped x && SeqAt.shaped y) (.ok (PyData.eqv x y))
def inD (x y : D) : R Bool := match y with
  | .str z => match x with
    | .str t => match t.cps.toList with
      | [c] => .ok (decide (c ∈ z.cps.toList))
      | _ => .bad
    | _ => .bad
  | .lst ys => if flatD x && ys.all flatD then .ok (ys.any fun y => eqF y x) else do
    let a ← R.of x.py
    let b ← R.of (D.lst ys).py
    R.need (SeqAt.shaped a && SeqAt.shaped b) (match b with
      | .list bs => .ok (bs.any fun z => PyData.eqv z a)
      | _ => .bad)
  | .tup ys => R.need (flatD x && ys.all flatD) (.ok (ys.any fun y => eqF y x))
  | _ => .bad
def cmpI (f : Int → Int → Bool) (a b : D) : R Bool := match a, b with
  | .int i, .int j => .ok (f i j)
  | _, _ => .bad
def cmD : Cm → D → D → R Bool
  | .eq, a, b => eqD a b
  | .ne, a, b => do let r ← eqD a b; pure (!r)
  | .lt, a, b => cmpI (fun i j => decide (i < j)) a b
  | .le, a, b => cmpI (fun i j => decide (i ≤ j)) a b
  | .gt, a, b => cmpI (fun i j => decide (j < i)) a b
  | .ge, a, b => cmpI (fun i j => decide (j ≤ i)) a b
  | .isIn, a, b => inD a b
  | .notIn, a, b => do let r ← inD a b; pure (!r)
  | .isN, a, .non => .ok (match a with | .non => true | _ => false)
  | .notN, a, .non => .ok (match a with | .non => false | _ => true)
  | _, _, _ => .bad

inductive Op where
  | add | sub | mul | fdiv | mod | pow
  deriving DecidableEq
def mulOk (i j : Int) : Bool := decide (-(2 ^ 64) < i ∧ i < 2 ^ 64) || decide (-(2 ^ 64) < j ∧ j < 2 ^ 64) || decide (i.natAbs.log2 + j.natAbs.log2 < 1000000)
def divOk (j : Int) : Bool := decide (0 < j) && decide (j.natAbs.log2 < 9000)
def opD (o : Op) (a b : O) : R O := match o with
  | .add => match a.flat, b.flat with
    | some (.int i), some (.int j) => .ok (.sh (.int (i + j)))
    | some (.str x), some (.str y) => R.need (decide (x.length + y.length ≤ lim)) (.ok (.sh (.str (x ++ y))))
    | some (.lst xs), some (.lst ys) => R.need (decide (xs.length + ys.length ≤ lim)) (.ok (.lst ((xs ++ ys).map O.sh)))
    | some (.tup xs), some (.tup ys) => R.need (decide (xs.length + ys.length ≤ lim)) (.ok (.sh (.tup (xs ++ ys))))
    | _, _ => .bad
  | .sub => match a.flat, b.flat with
    | some (.int i), some (.int j) => .ok (.sh (.int (i - j)))
    | _, _ => .bad
  | .mul => match a.flat, b.flat with
    | some (.int i), some (.int j) => R.need (mulOk i j) (.ok (.sh (.int (i * j))))
    | some (.lst xs), some (.int k) => R.need (decide (-(2 ^ 63) ≤ k) && decide (k < 2 ^ 63) && decide (xs.length * k.toNat ≤ lim)) (.ok (.lst ((List.replicate k.toNat xs).flatten.map O.sh)))
    | _, _ => .bad
  | .fdiv => match a.flat, b.flat with
    | some (.int i), some (.int j) => R.need (divOk j) (.ok (.sh (.int (i / j))))
    | _, _ => .bad
  | .mod => match a.flat, b.flat with
    | some (.int i), some (.int j) => R.need (decide (0 < j)) (.ok (.sh (.int (i % j))))
    | _, _ => .bad
  | .pow => match a.flat, b.flat with
    | some (.int i), some (.int j) => R.need (decide (0 ≤ j) && decide (j ≤ 1000000) && decide (i.natAbs < 2 ^ 64)) (.ok (.sh (.int (i ^ j.toNat))))
    | _, _ => .bad
def negD (a : D) : R D := match a with
  | .int i => .ok (.int (-i))
  | _ => .bad

def cut {α : Type} (xs : List α) (lo hi : Option Int) : List α := (xs.drop (HT.sIx xs.length 0 lo)).take (HT.sIx xs.length xs.length hi - HT.sIx xs.length 0 lo)
def ixD (a i : D) : R D := match a, i with
  | .lst xs, .int i => R.of (atI xs i)
  | .arr ns, .int i => (R.of (atI ns i)).bind fun k => .ok (.int k)
  | .tup xs, .int i => R.of (atI xs i)
  | .str z, .int i => R.need (decide (z.length ≤ lim)) ((R.of (atI z.cps.toList i)).bind fun c => .ok (.str ⟨#[c]⟩))
  | _, _ => .bad
def slD (a : O) (lo hi : Option Int) : R O := match a.flat with
  | some (.lst xs) => .ok (.lst ((cut xs lo hi).map O.sh))
  | some (.tup xs) => .ok (.sh (.tup (cut xs lo hi)))
  | some (.str z) => R.need (decide (z.length ≤ lim)) (.ok (.sh (.str (cutS z lo hi))))
  | some (.arr ns) => .ok (.lst ((cut (ns.map D.int) lo hi).map O.sh))
  | _ => .bad
def revD (a : O) : R O := match a.flat with
  | some (.lst xs) => .ok (.lst (xs.reverse.map O.sh))
  | some (.tup xs) => .ok (.sh (.tup xs.reverse))
  | _ => .bad
def truD : D → R Bool
  | .non => .ok false
  | .bl b => .ok b
  | .int i => .ok (i != 0)
  | .str y => R.need (decide (y.length ≤ lim)) (.ok ((y.length : Int) != 0))
  | .lst xs => .ok (!xs.isEmpty)
  | .tup xs => .ok (!xs.isEmpty)
  | .obj .. => .bad
  | .arr _ => .bad
/-- the items of a list, of a tuple -/
def seqD : D → R (List D)
  | .lst xs => .ok xs
  | .tup xs => .ok xs
  | _ => .bad
/-- what a loop walks -/
def itemsD : D → R (List D)
  | .lst xs => .ok xs
  | .tup xs => .ok xs
  | .str z => .ok (z.cps.toList.map fun c => .str ⟨#[c]⟩)
  | _ => .bad

inductive Bl where
  | len | tuple | list | sorted | sum | min | max | abs | int | str | bool | all | any | divmod | repr
  deriving DecidableEq
inductive Ty where
  | str | int | bool | list | tuple
  deriving DecidableEq
def isTy : Ty → D → Bool
  | .str, .str _ => true
  | .int, .int _ => true
  | .int, .bl _ => true
  | .bool, .bl _ => true
  | .list, .lst _ => true
  | .tuple, .tup _ => true
  | _, _ => false
def hasTy : D → Bool
  | .obj .. => false
  | .arr _ => false
  | _ => true
def intsD : List D → Option (List Int)
  | [] => some []
  | .int i :: xs => (intsD xs).map (i :: ·)
  | _ :: _ => none
def blsD : List D → Option (List Bool)
  | [] => some []
  | .bl i :: xs => (blsD xs).map (i :: ·)
  | _ :: _ => none
def strsD : List D → Option (List Str)
  | [] => some []
  | .str i :: xs => (strsD xs).map (i :: ·)
  | _ :: _ => none
@[simp] theorem intsD_map : ∀ ns : List Int, intsD (ns.map D.int) = some ns
  | [] => rfl
  | n :: ns => by rw [List.map_cons, intsD, intsD_map ns]; rfl
@[simp] theorem blsD_map : ∀ ns : List Bool, blsD (ns.map D.bl) = some ns
  | [] => rfl
  | n :: ns => by rw [List.map_cons, blsD, blsD_map ns]; rfl
@[simp] theorem strsD_map : ∀ ns : List Str, strsD (ns.map D.str) = some ns
  | [] => rfl
  | n :: ns => by rw [List.map_cons, strsD, strsD_map ns]; rfl
theorem intsD_some : ∀ {xs : List D} {ns : List Int}, intsD xs = some ns → xs = ns.map D.int
  | [], ns, h => by cases h; rfl
  | x :: xs, ns, h => by
    cases x <;> simp only [intsD, Option.map_eq_some_iff, reduceCtorEq] at h
    obtain ⟨ms, h1, rfl⟩ := h
    rw [intsD_some h1]; rfl
theorem blsD_some : ∀ {xs : List D} {ns : List Bool}, blsD xs = some ns → xs = ns.map D.bl
  | [], ns, h => by cases h; rfl
  | x :: xs, ns, h => by
    cases x <;> simp only [blsD, Option.map_eq_some_iff, reduceCtorEq] at h
    obtain ⟨ms, h1, rfl⟩ := h
    rw [blsD_some h1]; rfl
theorem strsD_some : ∀ {xs : List D} {ns : List Str}, strsD xs = some ns → xs = ns.map D.str
  | [], ns, h => by cases h; rfl
  | x :: xs, ns, h => by
    cases x <;> simp only [strsD, Option.map_eq_some_iff, reduceCtorEq] at h
    obtain ⟨ms, h1, rfl⟩ := h
    rw [strsD_some h1]; rfl

def sortI (ns : List Int) : List Int := ns.mergeSort fun a b => decide (a ≤ b)
def reprD (d : D) : R Str := do
  let p ← R.of d.py
  R.need (PyData.showable p && decide (p.depth ≤ 64) && decide (p.shown.length ≤ lim)) (.ok p.shown)
/-- built-in functions, by their arguments' values -/
def blD (b : Bl) (os : List O) : R O := match b, os with
  | .len, [o] => match o.view with
    | .lst xs => .ok (.sh (.int xs.length))
    | .tup xs => .ok (.sh (.int xs.length))
    | .arr xs => .ok (.sh (.int xs.length))
    | .str z => R.need (decide (z.length ≤ lim)) (.ok (.sh (.int z.length)))
    | _ => .bad
  | .tuple, [o] => match o.flat with
    | some (.lst xs) => .ok (.sh (.tup xs))
    | some (.tup xs) => .ok (.sh (.tup xs))
    | _ => .bad
  | .list, [o] => match o.flat with
    | some (.lst xs) => .ok (.lst (xs.map O.sh))
    | some (.tup xs) => .ok (.lst (xs.map O.sh))
    | _ => .bad
  | .sorted, [o] => match o.view with
    | .lst xs => do
      let ns ← R.of (intsD xs)
      .ok (.lst ((sortI ns).map fun i => .sh (.int i)))
    | _ => .bad
  | .sum, [o] => match o.view with
    | .lst xs => do
      let ns ← R.of (intsD xs)
      .ok (.sh (.int ns.sum))
    | _ => .bad
  | .all, [o] => match o.view with
    | .lst xs => do
      let ns ← R.of (blsD xs)
      .ok (.sh (.bl (ns.all id)))
    | _ => .bad
  | .any, [o] => match o.view with
    | .lst xs => do
      let ns ← R.of (blsD xs)
      .ok (.sh (.bl (ns.any id)))
    | _ => .bad
  | .min, [o] => match o.view with
    | .lst xs => do
      let ns ← R.of (intsD xs)
      let m ← R.of ns.min?
      .ok (.sh (.int m))
    | _ => .bad
  | .max, [o] => match o.view with
    | .lst xs => do
      let ns ← R.of (intsD xs)
      let m ← R.of ns.max?
      .ok (.sh (.int m))
    | _ => .bad
  | .min, [a, b] => match a.view, b.view with
    | .int i, .int j => .ok (.sh (.int (if j < i then j else i)))
    | _, _ => .bad
  | .max, [a, b] => match a.view, b.view with
    | .int i, .int j => .ok (.sh (.int (if j > i then j else i)))
    | _, _ => .bad
  | .abs, [a] => match a.view with
    | .int i => .ok (.sh (.int (if i < 0 then -i else i)))
    | _ => .bad
  | .int, [a] => match a.view with
    | .int i => .ok (.sh (.int i))
    | .bl k => .ok (.sh (.int (if k then 1 else 0)))
    | .str z => R.need (decide (z.length ≤ 640)) (do
      let n ← R.of (PySem.intText? z)
      .ok (.sh (.int n)))
    | _ => .bad
  | .str, [a] => match a.view with
    | .int i => R.need (decide (i.natAbs.log2 < 1920)) (.ok (.sh (.str (toString i))))
    | .str z => .ok (.sh (.str z))
    | _ => .bad
  | .divmod, [a, b] => match a.view, b.view with
    | .int i, .int j => R.need (divOk j) (.ok (.sh (.tup [.int (i / j), .int (i % j)])))
    | _, _ => .bad
  | .repr, [a] => do
    let z ← reprD a.view
    .ok (.sh (.str z))
  | _, _ => .bad
/-- methods of str, list, tuple that only read -/
inductive Mt where
  | join | split
  deriving DecidableEq
def mtD (m : Mt) (a b : O) : R O := match m with
  | .join => match a.view, b.view with
    | .str s, .lst xs => do
      let ys ← R.of (strsD xs)
      R.need (decide ((ys.map (·.length)).sum + ys.length * s.length ≤ lim)) (.ok (.sh (.str (Txt.join s ys))))
    | _, _ => .bad
  | .split => match a.view, b.view with
    | .str s, .str t => R.need (!(t.length == 0) && decide (s.length + 2 ≤ lim)) (.ok (.lst ((Txt.split s t).map fun z => .sh (.str z))))
    | _, _ => .bad
/-- the receiver is of the method's kind -/
def mtOk (m : Mt) (a : D) : Bool := match m, a with
  | .join, .str _ => true
  | .split, .str _ => true
  | _, _ => false
def isLst : O → Bool
  | .lst _ => true
  | _ => false

/-- what an own class may answer by its own def -/
inductive Ow where
  | len | str | bool
  deriving DecidableEq
def owNm : Ow → Str
  | .len => "__len__"
  | .str => "__str__"
  | .bool => "__len__"
def owD (w : Ow) (o : O) : R O := match w, o with
  | .len, .sh (.int n) => R.need (decide (0 ≤ n) && decide (n < 2 ^ 63)) (.ok (.sh (.int n)))
  | .str, .sh (.str s) => .ok (.sh (.str s))
  | .bool, .sh (.int n) => R.need (decide (0 ≤ n) && decide (n < 2 ^ 63)) (.ok (.sh (.bl (n != 0))))
  | _, _ => .bad
def eqOD (ne : Bool) (o : O) : R O := match o with
  | .sh (.bl b) => .ok (.sh (.bl (if ne then !b else b)))
  | _ => .bad

/-! ### the language -/
inductive E where
  | non | bl (b : Bool) | int (i : Int) | str (s : Str)
  | var (i : Nat) | glb (g : Nat)
  | op (o : Op) (a b : E) | neg (a : E)
  | cm (c : Cm) (a b : E) | ch (c1 c2 : Cm) (a b c : E)
  | and (a b : E) | or (a b : E) | not (a : E) | ite (c a b : E)
  | ix (a i : E) | sl (a lo hi : E) | rev (a : E)
  | nil | cons (a r : E) | star (a r : E)
  | tup (l : E) | lst (l : E)
  | call (f : Nat) (l : E) | callK (f : Nat) (l : E) (ks : List Str) (g : List Nat) (kl : E)
  | bl1 (b : Bl) (l : E) | mt (m : Mt) (a b : E) | isTy (t : Ty) (a : E)
  | pop (x : Nat) (i : E)
  | range1 (a : E) | range2 (a b : E) | enum (a : E) | zip (a b : E)
  | comp (t : List Nat) (tt : Bool) (elt it cnd : E)
  | att (a : E) (f : Str)
  | make (k f : Nat) (l : E) | makeK (k f : Nat) (l : E) (ks : List Str) (g : List Nat) (kl : E)
  | meth (k f : Nat) (m : Str) (a l : E) | methK (k f : Nat) (m : Str) (a l : E) (ks : List Str) (g : List Nat) (kl : E)
  | own (w : Ow) (k f : Nat) (a : E) | eqO (k f : Nat) (ne : Bool) (a b : E) | isCl (k : Nat) (a : E)
  | comp2 (t : List Nat) (tt : Bool) (it cnd : E) (t2 : List Nat) (tt2 : Bool) (it2 cnd2 elt : E)
  | revR (a : E) | lrange (a : E) | bor (a : E) | idx (t : Bool) (a b : E)
  deriving Inhabited

/-- what an expression means: as a value that is taken, as an argument, as a test, as what is walked, as a list of values, of arguments -/
structure Sm where
  val : En → R (O × En) := fun _ => .bad
  arg : En → R (AV × En) := fun _ => .bad
  tru : En → R (Bool × En) := fun _ => .bad
  itr : En → R (List D × En) := fun _ => .bad
  tks : En → R (List O × En) := fun _ => .bad
  ags : En → R (List AV × En) := fun _ => .bad

/-- taken out of a slot: from then on it is shared -/
def take (i : Nat) (e : En) : R (O × En) := do
  let o ← e.get i
  match o with
  | .sh d => .ok (.sh d, e)
  | o => R.need (noIns o) (.ok (.sh o.view, e.set i (some (.sh o.view))))
def argAt (i : Nat) (e : En) : R (AV × En) := do
  let o ← e.get i
  match o with
  | .sh d => .ok (.val (.sh d), e)
  | _ => .ok (.at i, e)
/-- an expression's meaning from its value -/
def Sm.mk1 (v : En → R (O × En)) : Sm where
  val := v
  arg := fun e => do let (o, e) ← v e; pure (.val o, e)
  tru := fun e => do let (o, e) ← v e; let b ← truD o.view; pure (b, e)
  itr := fun e => do let (o, e) ← v e; R.need (noIns o) (do let xs ← itemsD o.view; pure (xs, e))
/-- .. by its arguments' values -/
def Sm.mkA (a : En → R (List AV × En)) (f : List O → R O) : Sm := Sm.mk1 fun e => do
  let (as, e) ← a e
  let os ← seeAll e as
  let o ← f os
  pure (o, e)
def one (a : Sm) (f : O → R O) : Sm := Sm.mk1 fun e => do
  let (x, e) ← a.arg e
  let o ← x.see e
  let r ← f o
  pure (r, e)
def two (a b : Sm) (f : O → O → R O) : Sm := Sm.mk1 fun e => do
  let (x, e) ← a.arg e
  let (y, e) ← b.arg e
  let o ← x.see e
  let p ← y.see e
  let r ← f o p
  pure (r, e)
def optI (a : Sm) (isNone : Bool) (e : En) : R (Option Int × En) :=
  if isNone then .ok (none, e) else do
    let (x, e) ← a.arg e
    let o ← x.see e
    match o.view with
    | .int i => pure (some i, e)
    | _ => .bad
def shB (b : Bool) : O := .sh (.bl b)

/-- names bound by a loop or a comprehension -/
def bindT (t : List Nat) (tt : Bool) (d : D) (e : En) : R En :=
  if tt then (match d with
    | .tup ds => if ds.length = t.length then .ok ((t.zip ds).foldl (fun e p => e.set p.1 (some (.sh p.2))) e) else .bad
    | .lst ds => if ds.length = t.length then .ok ((t.zip ds).foldl (fun e p => e.set p.1 (some (.sh p.2))) e) else .bad
    | _ => .bad)
  else (match t with
    | [i] => .ok (e.set i (some (.sh d)))
    | _ => .bad)
def wipeE (e : En) : List Nat → En
  | [] => e
  | i :: is => (wipeE e is).set i none
/-- the items of a comprehension -/
def runC (bd : D → En → R (Option O × En)) : List D → En → R (List O × En)
  | [], e => .ok ([], e)
  | d :: ds, e => do
    let (r, e) ← bd d e
    let (rs, e) ← runC bd ds e
    pure (match r with | some o => o :: rs | none => rs, e)

/-- .. of two clauses -/
def runC2 (bd : D → En → R (List O × En)) : List D → En → R (List O × En)
  | [], e => .ok ([], e)
  | d :: ds, e => do
    let (r, e) ← bd d e
    let (rs, e) ← runC2 bd ds e
    pure (r ++ rs, e)

/-- all that is owned is read as if it were shared -/
def shareO : Option O → Option O
  | some (.sh d) => some (.sh d)
  | some o => if noIns o then some (.sh o.view) else none
  | none => none
def shareAll (e : En) : En := e.map shareO
mutual
/-- no list within, nor the script -/
def D.lf : D → Bool
  | .non | .bl _ | .int _ | .str _ => true
  | .tup xs => lfs xs
  | .obj _ xs => lfs xs
  | .lst _ => false
  | .arr _ => false
def lfs : List D → Bool
  | [] => true
  | x :: xs => x.lf && lfs xs
end
mutual
/-- nothing that was there before is held, but what never changes -/
def indep : O → Bool
  | .sh d => d.lf
  | .lst xs => indeps xs
  | .ins .. => false
def indeps : List O → Bool
  | [] => true
  | x :: xs => indep x && indeps xs
end

structure Cfg where
  glob : Nat → D
  call : Nat → List O → R (O × List O)
  /-- parameters that the def stores to: what is given for them is shared ahead -/
  asg : Nat → List Nat
  /-- a call, one step of depth less -/
  low : Nat → List O → R (O × List O)
  flds : Nat → List Str
  cls : List Nat

/-- the arguments' values for a call; slots that are lent are emptied -/
def lend (asg : List Nat) : Nat → List AV → En → R (List O × En)
  | _, [], e => .ok ([], e)
  | k, .val o :: as, e => do
    let (os, e) ← lend asg (k + 1) as e
    pure (o :: os, e)
  | k, .at i :: as, e => do
    let o ← e.get i
    if asg.contains k then R.need (noIns o) (do
      let (os, e) ← lend asg (k + 1) as (e.set i (some (.sh o.view)))
      pure (.sh o.view :: os, e))
    else do
      let (os, e) ← lend asg (k + 1) as (e.set i none)
      pure (o :: os, e)
/-- what the callee left goes back to the slots -/
def giveBack (asg : List Nat) : Nat → List AV → List O → En → En
  | k, .at i :: as, o :: os, e => giveBack asg (k + 1) as os (if asg.contains k then e else e.set i (some o))
  | k, .val _ :: as, _ :: os, e => giveBack asg (k + 1) as os e
  | _, _, _, e => e
def callWith (c : Cfg) (f : Nat) (as : List AV) (e : En) : R (O × En) := do
  let (os, e) ← lend (c.asg f) 0 as e
  let (r, os') ← c.call f os
  pure (r, giveBack (c.asg f) 0 as os' e)

def callM (c : Cfg) (f : Nat) (as : List AV) (e : En) : R (O × En) := do
  let (os, e) ← lend (c.asg f) 0 as e
  let (r, os') ← c.low f os
  pure (r, giveBack (c.asg f) 0 as os' e)
/-- a shared object of the class k -/
def isSh (k : Nat) (o : O) : Bool := match o with
  | .sh (.obj j _) => decide (j = k)
  | _ => false
def allSh : List O → Bool
  | [] => true
  | .sh _ :: os => allSh os
  | _ => false
def ownF (c : Cfg) (w : Ow) (k f : Nat) (x : O) : R O := R.need (isSh k x) ((c.low f [x]).bind fun p => R.need (allSh p.2) (owD w p.1))
def eqOF (c : Cfg) (k f : Nat) (ne : Bool) (x y : O) : R O := R.need (isSh k x && isSh k y) ((c.low f [x, y]).bind fun p => R.need (allSh p.2) (eqOD ne p.1))
/-- a new instance, its __init__ called; shared from then on -/
def makeW (c : Cfg) (k f : Nat) (as : List AV) (e : En) : R (O × En) := do
  let (os, e) ← lend (c.asg f) 1 as e
  let (r, os') ← c.low f (.ins k [] :: os)
  match r, os' with
  | .sh .non, .ins j fs :: os'' => R.need (decide (j = k) && decide (fs.map (·.1) = c.flds k)) (pure (.sh (.obj k (fs.map (·.2))), giveBack (c.asg f) 1 as os'' e))
  | _, _ => .bad
/-- an attribute -/
def attD (flds : Nat → List Str) (f : Str) (o : O) : R O := match o with
  | .sh (.obj k xs) => (R.of (((flds k).zip xs).lookup f)).bind fun d => .ok (.sh d)
  | .ins k fs => R.need ((flds k).contains f) ((R.of (fs.lookup f)).bind fun d => .ok (.sh d))
  | _ => .bad
/-- an instance of the class k, which has no attribute of that name -/
def isO (flds : Nat → List Str) (k : Nat) (m : Str) (o : O) : Bool := match o with
  | .sh (.obj j _) => decide (j = k) && !(flds k).contains m
  | .ins j fs => decide (j = k) && (fs.lookup m).isNone
  | _ => false
def isClD (ks : List Nat) (k : Nat) (o : O) : R O := match o with
  | .sh (.obj j _) => R.need (ks.contains j) (.ok (.sh (.bl (decide (j = k)))))
  | .sh d => R.need (hasTy d) (.ok (.sh (.bl false)))
  | .lst _ => .ok (.sh (.bl false))
  | _ => .bad
/-- t.index(x): the first place -/
def idxD (t : Bool) (a b : D) : R D := match t, a, b with
  | true, .tup xs, .str z => (R.of (strsD xs)).bind fun ys => (R.of (ys.findIdx? fun y => decide (y = z))).bind fun j => .ok (.int (j : Nat))
  | false, .lst xs, b => R.need (flatD b && xs.all flatD) ((R.of (xs.findIdx? fun y => eqF y b)).bind fun j => .ok (.int (j : Nat)))
  | _, _, _ => .bad
def isSeqD (t : Bool) (a : D) : Bool := match t, a with
  | true, .tup _ => true
  | false, .lst _ => true
  | _, _ => false
def revRD (a : O) : R O := match a.flat with
  | some (.lst xs) => .ok (.lst ((xs.drop 1).reverse.map O.sh))
  | _ => .bad

def rangeD (a b : Int) : List D := (List.range (b - a).toNat).map fun (k : Nat) => D.int (a + (k : Int))
def rangeOk (a b : Int) : Bool := decide (-(2 ^ 62) ≤ a ∧ a < 2 ^ 62 ∧ -(2 ^ 62) ≤ b ∧ b < 2 ^ 62)
def enumD (xs : List D) : List D := xs.zipIdx.map fun p => .tup [.int p.2, p.1]
def zipD (xs ys : List D) : List D := (xs.zip ys).map fun p => .tup [p.1, p.2]
def isNil : E → Bool
  | .nil => true
  | _ => false

def sem (c : Cfg) : E → Sm
  | .non => Sm.mk1 fun e => .ok (.sh .non, e)
  | .bl b => Sm.mk1 fun e => .ok (shB b, e)
  | .int i => Sm.mk1 fun e => .ok (.sh (.int i), e)
  | .str s => Sm.mk1 fun e => .ok (.sh (.str s), e)
  | .glb g => Sm.mk1 fun e => .ok (.sh (c.glob g), e)
  | .var i => { Sm.mk1 (take i) with
      arg := argAt i
      tru := fun e => do let o ← e.get i; let b ← truD o.view; pure (b, e) }
  | .op o a b => two (sem c a) (sem c b) (opD o)
  | .neg a => one (sem c a) fun x => do let d ← negD x.view; pure (.sh d)
  | .cm k a b => two (sem c a) (sem c b) fun x y => do let r ← cmD k x.view y.view; pure (shB r)
  | .ch k l a b d =>
    let v : En → R (Bool × En) := fun e => do
      let (x, e) ← (sem c a).arg e
      let (y, e) ← (sem c b).arg e
      let o ← x.see e
      let p ← y.see e
      let r ← cmD k o.view p.view
      if r = true then do
        let (z, e) ← (sem c d).arg e
        let p ← y.see e
        let q ← z.see e
        let r ← cmD l p.view q.view
        pure (r, e)
      else pure (false, e)
    Sm.mk1 fun e => do let (r, e) ← v e; pure (shB r, e)
  | .and a b => { Sm.mk1 (fun e => do
      let (o, e) ← (sem c a).val e
      let r ← truD o.view
      if r = true then (sem c b).val e else pure (o, e)) with
      tru := fun e => do
        let (r, e) ← (sem c a).tru e
        if r = true then (sem c b).tru e else pure (false, e) }
  | .or a b => { Sm.mk1 (fun e => do
      let (o, e) ← (sem c a).val e
      let r ← truD o.view
      if r = true then pure (o, e) else (sem c b).val e) with
      tru := fun e => do
        let (r, e) ← (sem c a).tru e
        if r = true then pure (true, e) else (sem c b).tru e }
  | .not a => { Sm.mk1 (fun e => do
      let (o, e) ← (sem c a).val e
      let r ← truD o.view
      pure (shB (!r), e)) with
      tru := fun e => do
        let (r, e) ← (sem c a).tru e
        pure (!r, e) }
  | .ite t a b => { Sm.mk1 (fun e => do
      let (r, e) ← (sem c t).tru e
      if r = true then (sem c a).val e else (sem c b).val e) with
      tru := fun _ => .bad }
  | .ix a i => two (sem c a) (sem c i) fun x y => do let d ← ixD x.view y.view; R.need (match x.flat with | some _ => true | none => match d with | .int _ | .str _ | .bl _ | .non => true | _ => false) (pure (.sh d))
  | .sl a lo hi => Sm.mk1 fun e => do
      let (x, e) ← (sem c a).arg e
      let (l, e) ← optI (sem c lo) (isNil lo) e
      let (h, e) ← optI (sem c hi) (isNil hi) e
      let o ← x.see e
      let r ← slD o l h
      pure (r, e)
  | .rev a => one (sem c a) revD
  | .nil => { tks := fun e => .ok ([], e), ags := fun e => .ok ([], e) }
  | .cons a r => {
      tks := fun e => do let (o, e) ← (sem c a).val e; let (os, e) ← (sem c r).tks e; pure (o :: os, e)
      ags := fun e => do let (o, e) ← (sem c a).arg e; let (os, e) ← (sem c r).ags e; pure (o :: os, e) }
  | .star a r => {
      tks := fun e => do let (o, e) ← (sem c a).val e; R.need (noIns o) (do let xs ← seqD o.view; let (os, e) ← (sem c r).tks e; pure (xs.map O.sh ++ os, e)) }
  | .tup l => Sm.mk1 fun e => do let (os, e) ← (sem c l).tks e; R.need (noInss os && decide (os.length ≤ lim)) (pure (.sh (.tup (views os)), e))
  | .lst l => Sm.mk1 fun e => do let (os, e) ← (sem c l).tks e; R.need (decide (os.length ≤ lim)) (pure (.lst os, e))
  | .call f l => Sm.mk1 fun e => do let (as, e) ← (sem c l).ags e; callWith c f as e
  | .callK f l _ g kl => Sm.mk1 fun e => do
      let (as, e) ← (sem c l).ags e
      let (bs, e) ← (sem c kl).ags e
      R.need (decide g.Nodup) (do
        let xs ← R.of (pick (as ++ bs) g)
        callWith c f xs e)
  | .bl1 b l => Sm.mkA (sem c l).ags (blD b)
  | .mt m a b => Sm.mk1 fun e => do
      let (x, e) ← (sem c a).arg e
      let o ← x.see e
      R.need (mtOk m o.view) (do
        let (y, e) ← (sem c b).arg e
        let o ← x.see e
        let p ← y.see e
        let r ← mtD m o p
        pure (r, e))
  | .isTy t a => one (sem c a) fun x => R.need (hasTy x.view) (pure (shB (MP.isTy t x.view)))
  | .pop x i => Sm.mk1 fun e => do
      let o ← e.get x
      R.need (isLst o) (do
      let (y, e) ← (sem c i).arg e
      let p ← y.see e
      let o ← e.get x
      match o, p.view with
      | .lst xs, .int k => R.need (decide (-(2 ^ 63) ≤ k) && decide (k < 2 ^ 63)) (do
        let j ← R.of (seqIndex? k xs.length)
        let v ← R.of (xs[j]?)
        pure (v, e.set x (some (.lst (xs.eraseIdx j)))))
      | _, _ => .bad)
  | .range1 a => { itr := fun e => do
      let (x, e) ← (sem c a).arg e
      let o ← x.see e
      match o.view with
      | .int n => R.need (rangeOk 0 n) (pure (rangeD 0 n, e))
      | _ => .bad }
  | .range2 a b => { itr := fun e => do
      let (x, e) ← (sem c a).arg e
      let (y, e) ← (sem c b).arg e
      let o ← x.see e
      let p ← y.see e
      match o.view, p.view with
      | .int m, .int n => R.need (rangeOk m n) (pure (rangeD m n, e))
      | _, _ => .bad }
  | .enum a => { itr := fun e => do
      let (o, e) ← (sem c a).val e
      R.need (noIns o) (match o.view with
      | .lst xs => pure (enumD xs, e)
      | .tup xs => pure (enumD xs, e)
      | _ => .bad) }
  | .zip a b => { itr := fun e => do
      let (o, e) ← (sem c a).val e
      let (p, e) ← (sem c b).val e
      R.need (noIns o && noIns p) (match o.view, p.view with
      | .lst xs, .lst ys => pure (zipD xs ys, e)
      | .tup xs, .tup ys => pure (zipD xs ys, e)
      | .tup xs, .lst ys => pure (zipD xs ys, e)
      | _, _ => .bad) }
  | .comp t tt elt it cnd => Sm.mk1 fun e => do
      let (xs, e) ← (sem c it).itr e
      let (os, e) ← runC (fun d e => do
        let e ← bindT t tt d e
        let (b, e) ← (if isNil cnd then R.ok (true, e) else (sem c cnd).tru e)
        if b = true then do
          let (o, e) ← (sem c elt).val e
          pure (some o, wipeE e t)
        else pure (none, wipeE e t)) xs (wipeE e t)
      R.need (decide (xs.length ≤ lim)) (pure (.lst os, e))
  | .att a f => one (sem c a) (attD c.flds f)
  | .make k f l => Sm.mk1 fun e => do let (as, e) ← (sem c l).ags e; makeW c k f as e
  | .makeK k f l _ g kl => Sm.mk1 fun e => do
      let (as, e) ← (sem c l).ags e
      let (bs, e) ← (sem c kl).ags e
      R.need (decide g.Nodup) (do
        let xs ← R.of (pick (as ++ bs) g)
        makeW c k f xs e)
  | .meth k f m a l => Sm.mk1 fun e => do
      let (x, e) ← (sem c a).arg e
      let o ← x.see e
      R.need (isO c.flds k m o) (do
        let (as, e) ← (sem c l).ags e
        callWith c f (x :: as) e)
  | .methK k f m a l _ g kl => Sm.mk1 fun e => do
      let (x, e) ← (sem c a).arg e
      let o ← x.see e
      R.need (isO c.flds k m o) (do
        let (as, e) ← (sem c l).ags e
        let (bs, e) ← (sem c kl).ags e
        R.need (decide g.Nodup) (do
          let xs ← R.of (pick (as ++ bs) g)
          callWith c f (x :: xs) e))
  | .own w k f a => one (sem c a) (ownF c w k f)
  | .eqO k f ne a b => two (sem c a) (sem c b) (eqOF c k f ne)
  | .isCl k a => one (sem c a) (isClD c.cls k)
  | .comp2 t tt it cnd t2 tt2 it2 cnd2 elt => Sm.mk1 fun e => do
      let (xs, e) ← (sem c it).itr e
      let (os, e) ← runC2 (fun d e => do
        let e ← bindT t tt d e
        let (b, e) ← (if isNil cnd then R.ok (true, e) else (sem c cnd).tru e)
        if b = true then do
          let (ys, e) ← (sem c it2).itr e
          let (os, e) ← runC (fun d e => do
            let e ← bindT t2 tt2 d e
            let (b, e) ← (if isNil cnd2 then R.ok (true, e) else (sem c cnd2).tru e)
            if b = true then do
              let (o, e) ← (sem c elt).val e
              pure (some o, wipeE e t2)
            else pure (none, wipeE e t2)) ys (wipeE e t2)
          R.need (decide (ys.length ≤ lim)) (pure (os, wipeE e t))
        else pure ([], wipeE (wipeE e t2) t)) xs (wipeE (wipeE e t2) t)
      R.need (decide (os.length ≤ lim)) (pure (.lst os, e))
  | .idx t a b => Sm.mk1 fun e => do
      let (x, e) ← (sem c a).arg e
      let o ← x.see e
      R.need (isSeqD t o.view) (do
        let (y, e) ← (sem c b).arg e
        let o ← x.see e
        let p ← y.see e
        let d ← idxD t o.view p.view
        pure (.sh d, e))
  | .bor a => Sm.mk1 fun e => do
      let (o, _) ← (sem c a).val (shareAll e)
      R.need (indep o) (pure (o, e))
  | .revR a => one (sem c a) revRD
  | .lrange it => Sm.mk1 fun e => do
      let (xs, e) ← (sem c it).itr e
      R.need (decide (xs.length ≤ lim)) (pure (.lst (xs.map O.sh), e))

/-! ### statements -/
inductive Tg where
  | var (i : Nat) | ix (x : Nat) (i : E) | ix2 (x i j : Nat) | att (x : Nat) (f : Str)
  | nil | cons (a r : Tg) | tup (l : Tg)
  deriving Inhabited
inductive S where
  | nil | seq (a r : S)
  | expr (e : E) | app (x : Nat) (e : E)
  | asg (t : Tg) (e : E) | par (ts : Tg) (es : E)
  | ifs (c : E) (a b : S) | loop (t : List Nat) (tt : Bool) (it : E) (b : S)
  | ret (e : E) | retN
  | never
  deriving Inhabited

inductive Fl where
  | nx | rt (o : O)

def intAt (c : Cfg) (i : E) (e : En) : R (Int × En) := do
  let (x, e) ← (sem c i).arg e
  let o ← x.see e
  match o.view with
  | .int k => pure (k, e)
  | _ => .bad
def putD (f : Str) (v : D) : List (Str × D) → List (Str × D)
  | [] => [(f, v)]
  | (g, x) :: r => if g = f then (g, v) :: r else (g, x) :: putD f v r
/-- a value goes to a target -/
def asgT (c : Cfg) : Tg → O → En → R En
  | .var i, o, e => if i < e.length then .ok (e.set i (some o)) else .bad
  | .ix x i, o, e => do
    let _ ← e.get x
    let (k, e) ← intAt c i e
    let p ← e.get x
    match p with
    | .lst xs => do
      let j ← R.of (ixN xs.length k)
      pure (e.set x (some (.lst (xs.set j o))))
    | _ => .bad
  | .ix2 x i j, o, e => do
    let a ← e.get i
    let b ← e.get j
    let p ← e.get x
    match a, b, p with
    | .sh (.int k), .sh (.int l), .lst xs => do
      let m ← R.of (ixN xs.length k)
      let q ← R.of (xs[m]?)
      match q with
      | .lst ys => do
        let n ← R.of (ixN ys.length l)
        pure (e.set x (some (.lst (xs.set m (.lst (ys.set n o))))))
      | _ => .bad
    | _, _, _ => .bad
  | .att x f, o, e => do
    let p ← e.get x
    match p with
    | .ins k fs => R.need ((c.flds k).contains f && noIns o && decide (fs.length < 100)) (pure (e.set x (some (.ins k (putD f o.view fs)))))
    | _ => .bad
  | .tup l, o, e => match o with
    | .sh (.tup ds) => asgL l ds e
    | .sh (.lst ds) => asgL l ds e
    | .lst xs => (R.of (shAll xs)).bind fun ds => asgL l ds e
    | _ => .bad
  | _, _, _ => .bad
where asgL : Tg → List D → En → R En
  | .nil, [], e => .ok e
  | .cons t r, d :: ds, e => do
    let e ← asgT c t (.sh d) e
    asgL r ds e
  | _, _, _ => .bad
def asgO (c : Cfg) : Tg → List O → En → R En
  | .nil, [], e => .ok e
  | .cons t r, o :: os, e => do
    let e ← asgT c t o e
    asgO c r os e
  | _, _, _ => .bad

/-- the turns of a loop -/
def runF (bd : D → En → R (Fl × En)) : List D → En → R (Fl × En)
  | [], e => .ok (.nx, e)
  | d :: ds, e => do
    let (f, e) ← bd d e
    match f with
    | .nx => runF bd ds e
    | .rt o => pure (.rt o, e)

/-- np: the number of parameters -/
def exe (c : Cfg) (np : Nat) : S → En → R (Fl × En)
  | .nil, e => .ok (.nx, e)
  | .seq a r, e => do
    let (f, e) ← exe c np a e
    match f with
    | .nx => exe c np r e
    | .rt o => pure (.rt o, e)
  | .expr x, e => do let (_, e) ← (sem c x).val e; pure (.nx, e)
  | .app x y, e => do
    let p ← e.get x
    R.need (isLst p) (do
      let (o, e) ← (sem c y).val e
      let p ← e.get x
      match p with
      | .lst xs => R.need (decide (xs.length < lim)) (pure (.nx, e.set x (some (.lst (xs ++ [o])))))
      | _ => .bad)
  | .asg t x, e => do
    let (o, e) ← (sem c x).val e
    let e ← asgT c t o e
    pure (.nx, e)
  | .par ts xs, e => do
    let (os, e) ← (sem c xs).tks e
    let e ← asgO c ts os e
    pure (.nx, e)
  | .ifs t a b, e => do
    let (r, e) ← (sem c t).tru e
    if r = true then exe c np a e else exe c np b e
  | .loop t tt it b, e => do
    let (xs, e) ← (sem c it).itr e
    runF (fun d e => do let e ← bindT t tt d e; exe c np b e) xs e
  | .ret (.var i), e => do
    let o ← e.get i
    if i < np then do
      let (o, e) ← take i e
      pure (.rt o, e)
    else pure (.rt o, e.set i none)
  | .ret x, e => do let (o, e) ← (sem c x).val e; pure (.rt o, e)
  | .retN, e => .ok (.rt (.sh .non), e)
  | .never, _ => .bad

structure Fn where
  np : Nat
  n : Nat
  asg : List Nat
  body : S

/-- what the callee leaves in its parameters -/
def leftOver (asg : List Nat) (e : En) : Nat → List O → R (List O)
  | _, [] => .ok []
  | k, o :: os => do
    let r ← leftOver asg e (k + 1) os
    if asg.contains k then pure (o :: r) else do
      let p ← e.get k
      pure (p :: r)
/-- parameters that are stored to are given shared values -/
def okArgs (asg : List Nat) : Nat → List O → Bool
  | _, [] => true
  | k, o :: os => (!asg.contains k || match o with | .sh _ => true | _ => false) && okArgs asg (k + 1) os
def runFn (c : Cfg) (f : Fn) (os : List O) : R (O × List O) :=
  R.need (decide (os.length = f.np) && okArgs f.asg 0 os) (do
    let (r, e) ← exe c f.np f.body (os.map some ++ List.replicate (f.n - f.np) none)
    let l ← leftOver f.asg e 0 os
    match r with
    | .rt o => pure (o, l)
    | .nx => pure (.sh .non, l))

structure Prg where
  glob : List (Nat × D)
  fns : List (Nat × Fn)
  flds : Nat → List Str
  cls : List Nat
def Prg.cfg (P : Prg) (call low : Nat → List O → R (O × List O)) : Cfg where
  glob := fun g => (P.glob.lookup g).getD .non
  call := call
  asg := fun f => match P.fns.lookup f with | some x => x.asg | none => []
  low := low
  flds := P.flds
  cls := P.cls
def evC (P : Prg) : Nat → Nat → List O → R (O × List O)
  | 0, _, _ => .bad
  | 1, f, os => match P.fns.lookup f with
    | some x => runFn (P.cfg (fun _ _ => .bad) fun _ _ => .bad) x os
    | none => .bad
  | k + 2, f, os => match P.fns.lookup f with
    | some x => runFn (P.cfg (evC P (k + 1)) (evC P k)) x os
    | none => .bad
/-- one step of depth less -/
def evM (P : Prg) : Nat → Nat → List O → R (O × List O)
  | 0, _, _ => .bad
  | k + 1, f, os => evC P k f os
theorem evC_zero (P : Prg) : evC P 0 = fun _ _ => .bad := by
  funext f os
  rfl
theorem evM_zero (P : Prg) : evM P 0 = fun _ _ => .bad := by
  funext f os
  rfl
theorem evM_succ (P : Prg) (k : Nat) : evM P (k + 1) = evC P k := by
  funext f os
  rfl
theorem evC_succ {P : Prg} {k f : Nat} {x : Fn} {os : List O} (h : P.fns.lookup f = some x) : evC P (k + 1) f os = runFn (P.cfg (evC P k) (evM P k)) x os := by
  cases k with
  | zero =>
    rw [evC_zero, evM_zero]
    show (match P.fns.lookup f with | some x => runFn (P.cfg (fun _ _ => .bad) fun _ _ => .bad) x os | none => .bad : R (O × List O)) = _
    rw [h]
  | succ k =>
    rw [evM_succ]
    show (match P.fns.lookup f with | some x => runFn (P.cfg (evC P (k + 1)) (evC P k)) x os | none => .bad : R (O × List O)) = _
    rw [h]
end MP

set_option Elab.async false
set_option linter.all false
/-! Rep: what a value stands for in the abstract heap; what is owned; steps of the heap. -/
namespace MP
open PySem L2

/-- the world of a row: its written part, its classes -/
structure Wd where
  K : PySem.W.Frag
  cls : Nat → Addr
  flds : Nat → List Str

def Sub (F H : Hp) : Prop := ∀ a o, F a = some o → H a = some o
theorem Sub.refl (F : Hp) : Sub F F := fun _ _ h => h
theorem Sub.trans {F G H : Hp} (a : Sub F G) (b : Sub G H) : Sub F H := fun x o h => b x o (a x o h)
theorem Sub.sql {K : PySem.W.Frag} {F H : Hp} {a : Addr} {xs : List V} (s : Sub F H) (h : SqL K F a xs) : SqL K H a xs := by
  rcases h with (h | ⟨o, h⟩) | h
  · exact .inl (.inl (s _ _ h))
  · exact .inl (.inr ⟨o, s _ _ h⟩)
  · exact .inr h

/-- a tuple that is known -/
def Tu (F : Hp) (a : Addr) (vs : List V) : Prop := ∃ o : Obj, F a = some (.frz o (.tup vs)) ∧ o.dict = none
theorem Tu.mono {F G : Hp} {a : Addr} {vs : List V} (s : Sub F G) (h : Tu F a vs) : Tu G a vs := let ⟨o, h1, h2⟩ := h; ⟨o, s _ _ h1, h2⟩
theorem Tu.sq {K : PySem.W.Frag} {F H : Hp} {a : Addr} {vs : List V} (s : Sub F H) (h : Tu F a vs) : SqT K H a vs := let ⟨o, h1, _⟩ := h; .inl (.inr ⟨o, s _ _ h1⟩)
mutual
/-- v is the datum, in F (what is shared) -/
def Rep (W : Wd) (F : Hp) : D → V → Prop
  | .non, v => v = .non
  | .bl b, v => v = .bl b
  | .int i, v => v = .int i
  | .str s, v => v = .str s
  | .tup xs, v => ∃ a vs, v = .ref a ∧ Tu F a vs ∧ Reps W F xs vs
  | .lst xs, v => ∃ a vs, v = .ref a ∧ F a = some (.lst vs) ∧ Reps W F xs vs
  | .obj c xs, v => ∃ a dx vs, v = .ref a ∧ F a = some (.ins (W.cls c) dx ((W.flds c).zip vs)) ∧ vs.length = (W.flds c).length ∧ Reps W F xs vs
  | .arr ns, v => ∃ a, v = .ref a ∧ SqL W.K F a (ns.map V.int)
def Reps (W : Wd) (F : Hp) : List D → List V → Prop
  | [], vs => vs = []
  | x :: xs, vs => ∃ v ws, vs = v :: ws ∧ Rep W F x v ∧ Reps W F xs ws
end
section
variable {W : Wd} {F G H : Hp}
mutual
theorem Rep.mono (s : Sub F G) : ∀ {d : D} {v : V}, Rep W F d v → Rep W G d v
  | .non, _, h => h
  | .bl _, _, h => h
  | .int _, _, h => h
  | .str _, _, h => h
  | .tup xs, _, h => by
    obtain ⟨a, vs, h1, h2, h3⟩ := h
    exact ⟨a, vs, h1, h2.mono s, Reps.mono s h3⟩
  | .lst xs, _, h => by
    obtain ⟨a, vs, h1, h2, h3⟩ := h
    exact ⟨a, vs, h1, s _ _ h2, Reps.mono s h3⟩
  | .obj c xs, _, h => by
    obtain ⟨a, dx, vs, h1, h2, h3, h4⟩ := h
    exact ⟨a, dx, vs, h1, s _ _ h2, h3, Reps.mono s h4⟩
  | .arr ns, _, h => by
    obtain ⟨a, h1, h2⟩ := h
    exact ⟨a, h1, s.sql h2⟩
theorem Reps.mono (s : Sub F G) : ∀ {xs : List D} {vs : List V}, Reps W F xs vs → Reps W G xs vs
  | [], _, h => h
  | x :: xs, _, h => by
    obtain ⟨v, ws, h1, h2, h3⟩ := h
    exact ⟨v, ws, h1, Rep.mono s h2, Reps.mono s h3⟩
end
theorem Reps.len : ∀ {xs : List D} {vs : List V}, Reps W F xs vs → vs.length = xs.length
  | [], _, h => by cases h; rfl
  | x :: xs, _, h => by
    obtain ⟨v, ws, rfl, _, h3⟩ := h
    rw [List.length_cons, List.length_cons, h3.len]
theorem Reps.get : ∀ {xs : List D} {vs : List V}, Reps W F xs vs → ∀ {i : Nat} {d : D}, xs[i]? = some d → ∃ v, vs[i]? = some v ∧ Rep W F d v
  | [], _, _, i, d, e => by simp at e
  | x :: xs, _, h, 0, d, e => by
    obtain ⟨v, ws, rfl, h2, _⟩ := h
    simp at e
    subst e
    exact ⟨v, rfl, h2⟩
  | x :: xs, _, h, i + 1, d, e => by
    obtain ⟨v, ws, rfl, _, h3⟩ := h
    obtain ⟨u, h4, h5⟩ := h3.get (i := i) (d := d) (by simpa using e)
    exact ⟨u, by simpa using h4, h5⟩
theorem Reps.getV {xs : List D} {vs : List V} (h : Reps W F xs vs) {i : Nat} {v : V} (e : vs[i]? = some v) : ∃ d, xs[i]? = some d ∧ Rep W F d v := by
  have hl := h.len
  have hi : i < vs.length := (List.getElem?_eq_some_iff.mp e).1
  obtain ⟨u, h1, h2⟩ := h.get (i := i) (d := xs[i]'(by omega)) (by simp [show i < xs.length by omega])
  rw [e] at h1
  cases h1
  exact ⟨_, by simp [show i < xs.length by omega], h2⟩
theorem Reps.app : ∀ {xs ys : List D} {vs ws : List V}, Reps W F xs vs → Reps W F ys ws → Reps W F (xs ++ ys) (vs ++ ws)
  | [], _, _, _, h, g => by cases h; exact g
  | x :: xs, _, _, _, h, g => by
    obtain ⟨v, us, rfl, h2, h3⟩ := h
    exact ⟨v, us ++ _, rfl, h2, h3.app g⟩
theorem Reps.one {d : D} {v : V} (h : Rep W F d v) : Reps W F [d] [v] := ⟨v, [], rfl, h, rfl⟩
theorem Reps.take : ∀ {xs : List D} {vs : List V} (n : Nat), Reps W F xs vs → Reps W F (xs.take n) (vs.take n)
  | [], _, n, h => by cases h; rw [List.take_nil, List.take_nil]; rfl
  | x :: xs, _, 0, h => by rw [List.take_zero, List.take_zero]; rfl
  | x :: xs, _, n + 1, h => by
    obtain ⟨v, us, rfl, h2, h3⟩ := h
    rw [List.take_succ_cons, List.take_succ_cons]
    exact ⟨v, _, rfl, h2, h3.take n⟩
theorem Reps.drop : ∀ {xs : List D} {vs : List V} (n : Nat), Reps W F xs vs → Reps W F (xs.drop n) (vs.drop n)
  | [], _, n, h => by cases h; rw [List.drop_nil, List.drop_nil]; rfl
  | x :: xs, _, 0, h => h
  | x :: xs, _, n + 1, h => by
    obtain ⟨v, us, rfl, h2, h3⟩ := h
    rw [List.drop_succ_cons, List.drop_succ_cons]
    exact h3.drop n
theorem Reps.rev : ∀ {xs : List D} {vs : List V}, Reps W F xs vs → Reps W F xs.reverse vs.reverse
  | [], _, h => by cases h; rfl
  | x :: xs, _, h => by
    obtain ⟨v, us, rfl, h2, h3⟩ := h
    rw [List.reverse_cons, List.reverse_cons]
    exact h3.rev.app (Reps.one h2)
theorem Reps.rep {xs : List D} {vs : List V} (h : Reps W F xs vs) : ∀ n, Reps W F (List.replicate n xs).flatten (List.replicate n vs).flatten
  | 0 => rfl
  | n + 1 => by
    rw [List.replicate_succ, List.replicate_succ, List.flatten_cons, List.flatten_cons]
    exact h.app (h.rep n)
theorem Reps.cut {xs : List D} {vs : List V} (h : Reps W F xs vs) (lo hi : Option Int) : Reps W F (MP.cut xs lo hi) (cutV vs lo hi) := by
  unfold MP.cut cutV
  rw [h.len]
  exact (h.drop _).take _
theorem Reps.at {xs : List D} {vs : List V} (h : Reps W F xs vs) {i : Int} {d : D} (e : atI xs i = some d) : ∃ v, atI vs i = some v ∧ Rep W F d v := by
  unfold atI at e ⊢
  rw [h.len]
  cases q : ixN xs.length i with
  | none => rw [q] at e; cases e
  | some j =>
    rw [q] at e
    exact h.get e
theorem reps_ints : ∀ {ns : List Int} {vs : List V}, Reps W F (ns.map D.int) vs → vs = ns.map V.int
  | [], _, h => h
  | n :: ns, _, h => by
    obtain ⟨v, us, rfl, h2, h3⟩ := h
    rw [reps_ints h3, List.map_cons]
    exact congrArg (· :: _) h2
theorem reps_strs : ∀ {ns : List Str} {vs : List V}, Reps W F (ns.map D.str) vs → vs = ns.map V.str
  | [], _, h => h
  | n :: ns, _, h => by
    obtain ⟨v, us, rfl, h2, h3⟩ := h
    rw [reps_strs h3, List.map_cons]
    exact congrArg (· :: _) h2
theorem reps_bls : ∀ {ns : List Bool} {vs : List V}, Reps W F (ns.map D.bl) vs → vs = ns.map V.bl
  | [], _, h => h
  | n :: ns, _, h => by
    obtain ⟨v, us, rfl, h2, h3⟩ := h
    rw [reps_bls h3, List.map_cons]
    exact congrArg (· :: _) h2
theorem reps_of_ints : ∀ (ns : List Int), Reps W F (ns.map D.int) (ns.map V.int)
  | [] => rfl
  | n :: ns => ⟨_, _, rfl, rfl, reps_of_ints ns⟩
theorem reps_of_strs : ∀ (ns : List Str), Reps W F (ns.map D.str) (ns.map V.str)
  | [] => rfl
  | n :: ns => ⟨_, _, rfl, rfl, reps_of_strs ns⟩
end

mutual
/-- v is the value, the objects at L are its own -/
def Own (W : Wd) (F H : Hp) : O → V → List Addr → Prop
  | .sh d, v, L => L = [] ∧ Rep W F d v
  | .lst xs, v, L => ∃ a vs M, v = .ref a ∧ H a = some (.lst vs) ∧ L = a :: M ∧ Owns W F H xs vs M
  | .ins c fs, v, L => ∃ a dx ws, v = .ref a ∧ H a = some (.ins (W.cls c) dx ws) ∧ L = [a] ∧ ws.map (·.1) = fs.map (·.1) ∧ Reps W F (fs.map (·.2)) (ws.map (·.2))
def Owns (W : Wd) (F H : Hp) : List O → List V → List Addr → Prop
  | [], vs, L => vs = [] ∧ L = []
  | x :: xs, vs, L => ∃ v ws A B, vs = v :: ws ∧ L = A ++ B ∧ Own W F H x v A ∧ Owns W F H xs ws B
end
/-- H' keeps what H has at L -/
def Kp (H H' : Hp) (L : List Addr) : Prop := ∀ a ∈ L, ∀ o, H a = some o → H' a = some o
theorem Kp.sub {H H' : Hp} {L M : List Addr} (k : Kp H H' L) (s : ∀ a ∈ M, a ∈ L) : Kp H H' M := fun a h => k a (s a h)
section
variable {W : Wd} {F F' H H' : Hp}
mutual
theorem Own.keep (s : Sub F F') : ∀ {o : O} {v : V} {L : List Addr}, Own W F H o v L → Kp H H' L → Own W F' H' o v L
  | .sh d, _, _, h, _ => ⟨h.1, h.2.mono s⟩
  | .lst xs, _, _, h, k => by
    obtain ⟨a, vs, M, h1, h2, rfl, h4⟩ := h
    exact ⟨a, vs, M, h1, k a (by simp) _ h2, rfl, Owns.keep s h4 (k.sub fun b hb => List.mem_cons_of_mem _ hb)⟩
  | .ins c fs, _, _, h, k => by
    obtain ⟨a, dx, ws, h1, h2, rfl, h4, h5⟩ := h
    exact ⟨a, dx, ws, h1, k a (by simp) _ h2, rfl, h4, h5.mono s⟩
theorem Owns.keep (s : Sub F F') : ∀ {xs : List O} {vs : List V} {L : List Addr}, Owns W F H xs vs L → Kp H H' L → Owns W F' H' xs vs L
  | [], _, _, h, _ => h
  | x :: xs, _, _, h, k => by
    obtain ⟨v, ws, A, B, h1, rfl, h3, h4⟩ := h
    exact ⟨v, ws, A, B, h1, rfl, Own.keep s h3 (k.sub fun b hb => List.mem_append_left _ hb), Owns.keep s h4 (k.sub fun b hb => List.mem_append_right _ hb)⟩
end
mutual
theorem Own.def_ : ∀ {o : O} {v : V} {L : List Addr}, Own W F H o v L → ∀ a ∈ L, H a ≠ none
  | .sh d, _, _, h, a, ha => by rw [h.1] at ha; cases ha
  | .lst xs, _, _, h, a, ha => by
    obtain ⟨b, vs, M, h1, h2, rfl, h4⟩ := h
    rcases List.mem_cons.mp ha with rfl | ha
    · rw [h2]; simp
    · exact Owns.def_ h4 a ha
  | .ins c fs, _, _, h, a, ha => by
    obtain ⟨b, dx, ws, h1, h2, rfl, h4⟩ := h
    rcases List.mem_cons.mp ha with rfl | ha
    · rw [h2]; simp
    · cases ha
theorem Owns.def_ : ∀ {xs : List O} {vs : List V} {L : List Addr}, Owns W F H xs vs L → ∀ a ∈ L, H a ≠ none
  | [], _, _, h, a, ha => by rw [h.2] at ha; cases ha
  | x :: xs, _, _, h, a, ha => by
    obtain ⟨v, ws, A, B, h1, rfl, h3, h4⟩ := h
    rcases List.mem_append.mp ha with ha | ha
    · exact Own.def_ h3 a ha
    · exact Owns.def_ h4 a ha
end
theorem Owns.len : ∀ {xs : List O} {vs : List V} {L : List Addr}, Owns W F H xs vs L → vs.length = xs.length
  | [], _, _, h => by rw [h.1]; rfl
  | x :: xs, _, _, h => by
    obtain ⟨v, ws, A, B, rfl, rfl, h3, h4⟩ := h
    rw [List.length_cons, List.length_cons, h4.len]
/-- what is owned may be read -/
def Sees (W : Wd) (F H : Hp) (o : O) (v : V) : Prop := ∃ L, Own W F H o v L
theorem Own.sees {o : O} {v : V} {L : List Addr} (h : Own W F H o v L) : Sees W F H o v := ⟨L, h⟩
theorem owns_sh : ∀ {ds : List D} {vs : List V}, Reps W F ds vs → Owns W F H (ds.map O.sh) vs []
  | [], _, h => ⟨h, rfl⟩
  | d :: ds, _, h => by
    obtain ⟨v, ws, rfl, h2, h3⟩ := h
    exact ⟨v, ws, [], [], rfl, rfl, ⟨rfl, h2⟩, owns_sh h3⟩
theorem owns_shAll : ∀ {xs : List O} {ds : List D} {vs : List V} {L : List Addr}, shAll xs = some ds → Owns W F H xs vs L → L = [] ∧ Reps W F ds vs
  | [], ds, vs, L, e, h => by cases e; exact ⟨h.2, h.1⟩
  | .sh d :: xs, ds, vs, L, e, h => by
    simp only [shAll, Option.map_eq_some_iff] at e
    obtain ⟨es, e1, rfl⟩ := e
    obtain ⟨v, ws, A, B, rfl, rfl, h3, h4⟩ := h
    obtain ⟨h5, h6⟩ := owns_shAll e1 h4
    exact ⟨by rw [h3.1, h5]; rfl, v, ws, rfl, h3.2, h6⟩
  | .lst _ :: xs, _, _, _, e, _ => by cases e
  | .ins .. :: xs, _, _, _, e, _ => by cases e
/-- a value nothing within which is owned: its object in H, its items shared -/
theorem Own.flat_lst {o : O} {v : V} {L : List Addr} {xs : List D} (s : Sub F H) (h : Own W F H o v L) (e : o.flat = some (.lst xs)) : ∃ a vs, v = .ref a ∧ H a = some (.lst vs) ∧ Reps W F xs vs := by
  cases o with
  | sh d =>
    cases e
    obtain ⟨a, vs, h1, h2, h3⟩ := h.2
    exact ⟨a, vs, h1, s _ _ h2, h3⟩
  | lst ys =>
    simp only [O.flat, Option.map_eq_some_iff] at e
    obtain ⟨zs, e1, e2⟩ := e
    cases e2
    obtain ⟨a, vs, M, h1, h2, _, h4⟩ := h
    exact ⟨a, vs, h1, h2, (owns_shAll e1 h4).2⟩
  | ins c fs => cases e
theorem Own.flat_sh {o : O} {v : V} {L : List Addr} {d : D} (h : Own W F H o v L) (e : o.flat = some d) (nl : ∀ xs, d ≠ .lst xs) : Rep W F d v := by
  cases o with
  | sh d => cases e; exact h.2
  | lst ys =>
    simp only [O.flat, Option.map_eq_some_iff] at e
    obtain ⟨zs, e1, e2⟩ := e
    exact absurd e2.symm (nl _)
  | ins c fs => cases e
/-- the view of a value that is no object in the making: as data of the whole heap -/
theorem Own.view_sh {o : O} {v : V} {L : List Addr} {d : D} (h : Own W F H o v L) (e : o.view = d) (nl : ∀ xs, d ≠ .lst xs) (no : ∀ c fs, d ≠ .obj c fs) : Rep W F d v := by
  cases o with
  | sh d => cases e; exact h.2
  | lst ys => exact absurd e.symm (nl _)
  | ins c fs => exact absurd e.symm (no _ _)
end

/-! ### freezing -/
/-- what is owned is shared from now on -/
def frz (F H : Hp) (L : List Addr) : Hp := fun a => if a ∈ L then H a else F a
section
variable {W : Wd} {F H : Hp}
theorem frz_nil : frz F H [] = F := by funext a; simp [frz]
theorem frz_sub {L : List Addr} (d : ∀ a ∈ L, F a = none) : Sub F (frz F H L) := fun a o h => by
  unfold frz
  rw [if_neg fun z => by rw [d a z] at h; cases h]
  exact h
theorem frz_in {L : List Addr} (s : Sub F H) : Sub (frz F H L) H := fun a o h => by
  unfold frz at h
  split at h
  · exact h
  · exact s a o h
theorem frz_from {L : List Addr} {a : Addr} {o : HO} (h : frz F H L a = some o) : F a = some o ∨ a ∈ L := by
  unfold frz at h
  split at h
  · exact .inr (by assumption)
  · exact .inl h
mutual
theorem Own.frz {L0 : List Addr} (d0 : ∀ a ∈ L0, F a = none) : ∀ {o : O} {v : V} {L : List Addr}, Own W F H o v L → noIns o = true → (∀ a ∈ L, a ∈ L0) → Rep W (MP.frz F H L0) o.view v
  | .sh d, _, _, h, _, _ => h.2.mono (frz_sub d0)
  | .lst xs, _, _, h, n, i => by
    obtain ⟨a, vs, M, h1, h2, rfl, h4⟩ := h
    refine ⟨a, vs, h1, ?_, Owns.frz d0 h4 n fun b hb => i b (List.mem_cons_of_mem _ hb)⟩
    unfold MP.frz
    rw [if_pos (i a (by simp))]
    exact h2
  | .ins c fs, _, _, h, n, i => by cases n
theorem Owns.frz {L0 : List Addr} (d0 : ∀ a ∈ L0, F a = none) : ∀ {xs : List O} {vs : List V} {L : List Addr}, Owns W F H xs vs L → noInss xs = true → (∀ a ∈ L, a ∈ L0) → Reps W (MP.frz F H L0) (views xs) vs
  | [], _, _, h, _, _ => h.1
  | x :: xs, _, _, h, n, i => by
    obtain ⟨v, ws, A, B, h1, rfl, h3, h4⟩ := h
    rw [noInss, Bool.and_eq_true] at n
    exact ⟨v, ws, h1, Own.frz d0 h3 n.1 fun b hb => i b (List.mem_append_left _ hb), Owns.frz d0 h4 n.2 fun b hb => i b (List.mem_append_right _ hb)⟩
end
end

/-! ### a step of the heap: from F (shared), H (all), L (owned by whom it concerns) -/
structure Stp (F H : Hp) (L : List Addr) (F' H' : Hp) (L' : List Addr) : Prop where
  fs : Sub F F'
  kp : ∀ a o, H a = some o → a ∉ L → H' a = some o
  ow : ∀ a ∈ L', a ∈ L ∨ H a = none
  fr : ∀ a o, F' a = some o → F a = some o ∨ a ∈ L ∨ H a = none
theorem Stp.refl {F H : Hp} {L : List Addr} : Stp F H L F H L := ⟨Sub.refl F, fun _ _ h _ => h, fun _ h => .inl h, fun _ _ h => .inl h⟩
theorem Stp.trans {F H F' H' F2 H2 : Hp} {L L' L2 : List Addr} (a : Stp F H L F' H' L') (b : Stp F' H' L' F2 H2 L2) : Stp F H L F2 H2 L2 := by
  have lem : ∀ x, H' x = none → x ∈ L ∨ H x = none := fun x h => by
    cases q : H x with
    | none => exact .inr rfl
    | some o =>
      refine .inl (Classical.byContradiction fun n => ?_)
      rw [a.kp x o q n] at h
      cases h
  refine ⟨a.fs.trans b.fs, fun x o h n => b.kp x o (a.kp x o h n) fun m => ?_, fun x h => ?_, fun x o h => ?_⟩
  · rcases a.ow x m with z | z
    · exact n z
    · rw [h] at z; cases z
  · rcases b.ow x h with z | z
    · exact a.ow x z
    · exact lem x z
  · rcases b.fr x o h with z | z | z
    · exact a.fr x o z
    · exact .inr (a.ow x z)
    · exact .inr (lem x z)
/-- more is owned around, and stays -/
theorem Stp.frame {F H F' H' : Hp} {L L' T : List Addr} (a : Stp F H L F' H' L') : Stp F H (L ++ T) F' H' (L' ++ T) :=
  ⟨a.fs, fun x o h n => a.kp x o h fun m => n (List.mem_append_left _ m), fun x h => by
    rcases List.mem_append.mp h with h | h
    · rcases a.ow x h with z | z
      · exact .inl (List.mem_append_left _ z)
      · exact .inr z
    · exact .inl (List.mem_append_right _ h), fun x o h => by
    rcases a.fr x o h with z | z | z
    · exact .inl z
    · exact .inr (.inl (List.mem_append_left _ z))
    · exact .inr (.inr z)⟩
theorem Stp.mono {F H F' H' : Hp} {L L' M M' : List Addr} (a : Stp F H L F' H' L') (h : ∀ x ∈ L, x ∈ M) (h' : ∀ x ∈ M', x ∈ L' ∨ x ∈ M ∨ H x = none) : Stp F H M F' H' M' :=
  ⟨a.fs, fun x o e n => a.kp x o e fun m => n (h x m), fun x e => by
    rcases h' x e with z | z
    · rcases a.ow x z with z | z
      · exact .inl (h x z)
      · exact .inr z
    · exact z, fun x o e => by
    rcases a.fr x o e with z | z | z
    · exact .inl z
    · exact .inr (.inl (h x z))
    · exact .inr (.inr z)⟩
/-- what others own stays -/
theorem Stp.kept {F H F' H' : Hp} {L L' T : List Addr} (a : Stp F H L F' H' L') (d : ∀ x ∈ T, x ∉ L) : Kp H H' T := fun x h o e => a.kp x o e (d x h)
theorem Stp.apart {F H F' H' : Hp} {L L' T : List Addr} (a : Stp F H L F' H' L') (d : ∀ x ∈ T, x ∉ L) (t : ∀ x ∈ T, H x ≠ none) : ∀ x ∈ T, x ∉ L' := fun x h m => by
  rcases a.ow x m with z | z
  · exact d x h z
  · exact t x h z
theorem Stp.unsh {F H F' H' : Hp} {L L' T : List Addr} (a : Stp F H L F' H' L') (d : ∀ x ∈ T, x ∉ L) (t : ∀ x ∈ T, H x ≠ none) (f : ∀ x ∈ T, F x = none) : ∀ x ∈ T, F' x = none := fun x h => by
  cases q : F' x with
  | none => rfl
  | some o =>
    rcases a.fr x o q with z | z | z
    · rw [f x h] at z; cases z
    · exact (d x h z).elim
    · exact (t x h z).elim

/-! ### slots -/
def OwnS (W : Wd) (F H : Hp) (x : Option O) (s : Option V) (L : List Addr) : Prop := match x with
  | none => L = []
  | some o => ∃ v, s = some v ∧ Own W F H o v L
def Envs (W : Wd) (F H : Hp) : En → St → List Addr → Prop
  | [], σ, L => σ = [] ∧ L = []
  | x :: e, σ, L => ∃ s τ A B, σ = s :: τ ∧ L = A ++ B ∧ OwnS W F H x s A ∧ Envs W F H e τ B
section
variable {W : Wd} {F F' H H' : Hp}
theorem OwnS.keep (s : Sub F F') {x : Option O} {t : Option V} {L : List Addr} (h : OwnS W F H x t L) (k : Kp H H' L) : OwnS W F' H' x t L := by
  cases x with
  | none => exact h
  | some o =>
    obtain ⟨v, h1, h2⟩ := h
    exact ⟨v, h1, h2.keep s k⟩
theorem OwnS.def_ {x : Option O} {t : Option V} {L : List Addr} (h : OwnS W F H x t L) : ∀ a ∈ L, H a ≠ none := by
  cases x with
  | none =>
    have h : L = [] := h
    subst h
    intro a ha; cases ha
  | some o =>
    obtain ⟨v, h1, h2⟩ := h
    exact h2.def_
theorem Envs.keep (s : Sub F F') : ∀ {e : En} {σ : St} {L : List Addr}, Envs W F H e σ L → Kp H H' L → Envs W F' H' e σ L
  | [], _, _, h, _ => h
  | x :: e, _, _, h, k => by
    obtain ⟨t, τ, A, B, h1, rfl, h3, h4⟩ := h
    exact ⟨t, τ, A, B, h1, rfl, h3.keep s (k.sub fun b hb => List.mem_append_left _ hb), h4.keep s (k.sub fun b hb => List.mem_append_right _ hb)⟩
theorem Envs.len : ∀ {e : En} {σ : St} {L : List Addr}, Envs W F H e σ L → σ.length = e.length
  | [], _, _, h => by rw [h.1]; rfl
  | x :: e, _, _, h => by
    obtain ⟨t, τ, A, B, rfl, rfl, h3, h4⟩ := h
    rw [List.length_cons, List.length_cons, h4.len]
theorem Envs.def_ : ∀ {e : En} {σ : St} {L : List Addr}, Envs W F H e σ L → ∀ a ∈ L, H a ≠ none
  | [], _, _, h, a, ha => by rw [h.2] at ha; cases ha
  | x :: e, _, _, h, a, ha => by
    obtain ⟨t, τ, A, B, rfl, rfl, h3, h4⟩ := h
    rcases List.mem_append.mp ha with ha | ha
    · exact h3.def_ a ha
    · exact h4.def_ a ha
/-- one slot apart -/
theorem Envs.at : ∀ {e : En} {σ : St} {L : List Addr} {i : Nat}, Envs W F H e σ L → i < e.length → ∃ x s A M B, e[i]? = some x ∧ σ[i]? = some s ∧ L = A ++ M ++ B ∧ OwnS W F H x s M ∧
    ∀ (F' H' : Hp) (x' : Option O) (s' : Option V) (M' : List Addr), Sub F F' → Kp H H' (A ++ B) → OwnS W F' H' x' s' M' → Envs W F' H' (e.set i x') (σ.set i s') (A ++ M' ++ B)
  | [], _, _, i, _, hi => absurd hi (Nat.not_lt_zero _)
  | x :: e, _, _, 0, h, _ => by
    obtain ⟨t, τ, A, B, rfl, rfl, h3, h4⟩ := h
    refine ⟨x, t, [], A, B, rfl, rfl, rfl, h3, fun F' H' x' s' M' s k h' => ?_⟩
    exact ⟨s', τ, M', B, rfl, rfl, h', h4.keep s k⟩
  | x :: e, _, _, i + 1, h, hi => by
    obtain ⟨t, τ, A, B, rfl, rfl, h3, h4⟩ := h
    obtain ⟨y, s, A1, M, B1, e1, e2, rfl, h5, h6⟩ := h4.at (i := i) (by simpa using hi)
    refine ⟨y, s, A ++ A1, M, B1, by simpa using e1, by simpa using e2, by simp, h5, fun F' H' x' s' M' sb k h' => ?_⟩
    refine ⟨t, τ.set i s', A, A1 ++ M' ++ B1, rfl, by simp, h3.keep sb (k.sub fun b hb => by simp [hb]), h6 F' H' x' s' M' sb (k.sub fun b hb => ?_) h'⟩
    rcases List.mem_append.mp hb with hb | hb <;> simp [hb]
theorem Envs.slot {e : En} {σ : St} {L : List Addr} {i : Nat} {o : O} (h : Envs W F H e σ L) (g : e.get i = .ok o) : ∃ v A M B, σ[i]? = some (some v) ∧ L = A ++ M ++ B ∧ Own W F H o v M ∧
    ∀ (F' H' : Hp) (x' : Option O) (s' : Option V) (M' : List Addr), Sub F F' → Kp H H' (A ++ B) → OwnS W F' H' x' s' M' → Envs W F' H' (e.set i x') (σ.set i s') (A ++ M' ++ B) := by
  unfold En.get at g
  split at g
  · rename_i p q
    cases g
    have hi : i < e.length := (List.getElem?_eq_some_iff.mp q).1
    obtain ⟨x, s, A, M, B, e1, e2, e3, h5, h6⟩ := h.at hi
    rw [q] at e1
    cases e1
    obtain ⟨v, rfl, h7⟩ := h5
    exact ⟨v, A, M, B, e2, e3, h7, h6⟩
  · cases g
theorem set_self {α : Type} : ∀ {l : List α} {i : Nat} {x : α}, l[i]? = some x → l.set i x = l
  | [], _, _, h => by simp at h
  | y :: l, 0, x, h => by simp at h; rw [h]; rfl
  | y :: l, i + 1, x, h => by
    have := set_self (l := l) (i := i) (x := x) (by simpa using h)
    rw [List.set_cons_succ, this]
end

/-- the state of a frame -/
structure Ok (W : Wd) (F H : Hp) (e : En) (σ : St) (L : List Addr) : Prop where
  sub : Sub F H
  nd : L.Nodup
  dj : ∀ a ∈ L, F a = none
  en : Envs W F H e σ L
/-- a value that has come: its own objects are new or were the frame's -/
structure Got (W : Wd) (F H : Hp) (o : O) (v : V) (M L : List Addr) : Prop where
  own : Own W F H o v M
  nd : (M ++ L).Nodup
  dj : ∀ a ∈ M, F a = none
end MP

set_option Elab.async false
set_option linter.all false
/-! Tup: tuples that are known to have no dict. -/
namespace MP
open PySem PySem.Spec PyProof.Rows L2
section
variable {X : Cx} {pins : List (Addr × Obj)} {σ : L2.St} {H : Hp} {s : Shared} {Q : VK}
/-- a new tuple, its object known -/
def NewT (H : Hp) (xs : List V) (Q : VK) : Prop := ∀ p o, H p = none → o.dict = none → Q (.ref p) (upd H p (.frz o (.tup xs)))
theorem laidT {xs : List V} {its : List Value} (I : L2.Inv X pins σ H s) (r : Vals xs its) (hz : xs.length ≤ sizeLine) (q : NewT H xs Q) (t : Nat) :
    EP X pins σ Q (.ref s.heap.objs.size) { s with heap := s.heap.push ({ cls := .type "tuple", data := .seq its.toArray } : Obj), toks := t } := by
  have hn := I.hok.fresh (Nat.le_refl s.heap.objs.size)
  refine ⟨.ref s.heap.objs.size, _, I.laid (o := .frz ({ cls := .type "tuple", data := .seq its.toArray } : Obj) (.tup xs)) (fun b o e => Heap.get?_push_of_some _ e) (Nat.le_refl _) ?_, rfl, q _ _ hn rfl⟩
  have e := Heap.get?_push_size s.heap (o := ({ cls := .type "tuple", data := .seq its.toArray } : Obj)) rfl
  exact ⟨e, hz, its, r, ⟨_, e, rfl, 0, rfl⟩⟩
/-- (a, b, ..) -/
def tTupF (t : TA) : TE := fun σ H Q => t σ H fun xs H1 => xs.length ≤ sizeLine ∧ NewT H1 xs Q
theorem pe_tupF {es : List Expr} {t : TA} {k : Nat} {pos : Pos} (h : PA X es t) : PE X (.Tuple es k pos) (tTupF t) := by
  constructor
  intro pins s σ H Q I hq
  refine wpAny_Tuple_spliced (thn (h.run pos pins s σ H _ I hq) ?_)
  rintro us s1 ⟨xs, H1, I1, r, z, q⟩
  exact ⟨by rw [← r.length]; exact z, laidT I1 r z q s1.toks⟩
/-- t + u -/
def rCatF (K : PySem.W.Frag) : R2 := fun x y H Q => ∃ a b xs ys, x = .ref a ∧ y = .ref b ∧ SqT K H a xs ∧ SqT K H b ys ∧ xs.length + ys.length ≤ sizeLine ∧
  (xs = [] → Q (.ref b) H) ∧ (xs ≠ [] → ys = [] → Q (.ref a) H) ∧ (xs ≠ [] → ys ≠ [] → NewT H (xs ++ ys) Q)
theorem op_catF : OpR X (binaryOp .Add) (rCatF X.K) := by
  intro pins s σ H x y v u Q I rx ry h
  obtain ⟨a, b, xs, ys, rfl, rfl, ha, hb, hz, q0, q1, q2⟩ := h
  by_cases hx : xs = []
  · exact op_catA pins s σ H _ _ v u Q I rx ry ⟨a, b, xs, ys, rfl, rfl, ha, hb, hz, q0, q1, fun z => absurd hx z⟩
  · by_cases hy : ys = []
    · exact op_catA pins s σ H _ _ v u Q I rx ry ⟨a, b, xs, ys, rfl, rfl, ha, hb, hz, q0, q1, fun _ z => absurd hy z⟩
    · cases rx
      cases ry
      obtain ⟨its, r1, p1, z1⟩ := I.tuple ha
      obtain ⟨its2, r2, p2, z2⟩ := I.tuple hb
      refine HT.cat_tup p1 p2 (fun z => hx (r1.nil_iff.mp z)) (fun z => absurd (r2.nil_iff.mp z) hy) (fun _ => ?_) (by
        have e1 := r1.length
        have e2 := r2.length
        omega)
      exact laidT I (r1.append r2) (by rw [List.length_append]; exact hz) (q2 hx hy) s.toks
/-- t[lo:hi] -/
def rSlF (K : PySem.W.Frag) : V → Option Int → Option Int → Hp → VK → Prop := fun x lo hi H Q => ∃ a xs, x = .ref a ∧ SqT K H a xs ∧
  (HT.sIx xs.length 0 lo = 0 ∧ HT.sIx xs.length xs.length hi = xs.length → Q (.ref a) H) ∧ (¬ (HT.sIx xs.length 0 lo = 0 ∧ HT.sIx xs.length xs.length hi = xs.length) → NewT H (cutV xs lo hi) Q)
theorem sl_tupF : SlR X (rSlF X.K) := by
  intro pins s σ H x v vl vu lo hi sl Q I rx hs pl pu h
  obtain ⟨a, xs, rfl, hx, q1, q2⟩ := h
  by_cases hw : HT.sIx xs.length 0 lo = 0 ∧ HT.sIx xs.length xs.length hi = xs.length
  · exact sl_tupA pins s σ H _ v vl vu lo hi sl Q I rx hs pl pu ⟨a, xs, rfl, hx, q1, fun z => absurd hw z⟩
  · cases rx
    obtain ⟨its, r, ht, hz⟩ := I.tuple hx
    have hl : its.toArray.size = xs.length := by
      rw [List.size_toArray]
      exact r.length.symm
    refine ⟨"tuple", _, PyProof.Rows.slot_tuple_getitem.lookup, ht.typeIs, HT.getItem_tuple_cut ht hs pl pu (by rw [hl]; exact hw) ?_ (by rw [hl]; exact hz)⟩
    rw [hl]
    exact laidT I ((r.drop _).take _) (Nat.le_trans (cutV_length xs lo hi) hz) (q2 hw) s.toks
/-- tuple(xs) -/
theorem call_tupF : CallR X (.type "tuple") (fun xs H Q => ∃ p ys, xs = [.ref p] ∧ ((SqL X.K H p ys ∧ NewT H ys Q) ∨ (SqT X.K H p ys ∧ Q (.ref p) H))) := by
  intro pins s σ H xs us Q I r h
  obtain ⟨p, ys, rfl, h⟩ := h
  rcases h with ⟨hq, q⟩ | ⟨hq, q⟩
  · obtain ⟨u, rfl, rx⟩ := vals1 r
    cases rx
    obtain ⟨its, r', pl, hz⟩ := I.list hq
    have hl := r'.length
    refine call_tuple_list pl.isList (fun h' kp => ?_) (by simp only [List.size_toArray] <;> omega)
    have I1 : L2.Inv X pins σ H { s with heap := h' } := I.kept (t' := s.toks) kp
    exact laidT I1 r' hz q s.toks
  · exact call_tuple_of pins s σ H [.ref p] us Q I r ⟨p, ys, rfl, .inr ⟨hq, q⟩⟩
end
end MP

set_option Elab.async false
set_option linter.all false
/-! Snd1: the readings of the language's meanings, and how they are put together. -/
namespace MP
open PySem L2

/-! ### weaker readings -/
theorem PE.imp {X : Cx} {e : Expr} {t t' : TE} (h : PE X e t) (i : ∀ σ H Q, t' σ H Q → t σ H Q) : PE X e t' := ⟨fun pins s σ H Q I q => h.run pins s σ H Q I (i σ H Q q)⟩
theorem PT.imp {X : Cx} {e : Expr} {t t' : TT} (h : PT X e t) (i : ∀ σ H Q, t' σ H Q → t σ H Q) : PT X e t' := ⟨fun pins s σ H Q I q => h.run pins s σ H Q I (i σ H Q q)⟩
theorem PA.imp {X : Cx} {e : List Expr} {t t' : TA} (h : PA X e t) (i : ∀ σ H Q, t' σ H Q → t σ H Q) : PA X e t' := ⟨fun pos pins s σ H Q I q => h.run pos pins s σ H Q I (i σ H Q q)⟩
theorem PS.imp {X : Cx} {e : Stmt} {t t' : TS} (h : PS X e t) (i : ∀ D σ H, t' D σ H → t D σ H) : PS X e t' := ⟨fun pins s σ H D I q => h.run pins s σ H D I (i D σ H q)⟩
theorem PSs.imp {X : Cx} {e : List Stmt} {t t' : TS} (h : PSs X e t) (i : ∀ D σ H, t' D σ H → t D σ H) : PSs X e t' := ⟨fun pins s σ H D I q => h.run pins s σ H D I (i D σ H q)⟩
theorem PI.imp {X : Cx} {tg l : Expr} {t t' : TI} (h : PI X tg l t) (i : ∀ σ H R, t' σ H R → t σ H R) : PI X tg l t' := ⟨fun pins s σ H R I q => h.run pins s σ H R I (i σ H R q)⟩
theorem PG.imp {X : Cx} {e : Expr} {t t' : TG} (h : PG X e t) (i : ∀ v σ H Q, t' v σ H Q → t v σ H Q) : PG X e t' := ⟨fun pins s σ H v u Q I r q => h.run pins s σ H v u Q I r (i v σ H Q q)⟩

/-! ### readings -/
section
variable (W : Wd)
def GotA (F H : Hp) (σ : St) (a : AV) (v : V) (M L : List Addr) : Prop := match a with
  | .val o => Got W F H o v M L
  | .at i => M = [] ∧ L.Nodup ∧ σ[i]? = some (some v)
/-- a value comes, out of the state e of the frame -/
def trV (f : En → R (O × En)) : TE := fun σ H Q => ∃ F L e o e', Ok W F H e σ L ∧ f e = .ok (o, e') ∧
  ∀ F' H' M L' v, Stp F H L F' H' (M ++ L') → Ok W F' H' e' σ L' → Got W F' H' o v M L' → Q v H'
def trA (f : En → R (AV × En)) : TE := fun σ H Q => ∃ F L e o e', Ok W F H e σ L ∧ f e = .ok (o, e') ∧
  ∀ F' H' M L' v, Stp F H L F' H' (M ++ L') → Ok W F' H' e' σ L' → GotA W F' H' σ o v M L' → Q v H'
def trT (f : En → R (Bool × En)) : TT := fun σ H Q => ∃ F L e b e', Ok W F H e σ L ∧ f e = .ok (b, e') ∧
  ∀ F' H' L', Stp F H L F' H' L' → Ok W F' H' e' σ L' → Q b H'
/-- values, from the left -/
def Gots (F H : Hp) : List O → List V → List Addr → List Addr → Prop := fun os vs M L => Owns W F H os vs M ∧ (M ++ L).Nodup ∧ ∀ a ∈ M, F a = none
def OwnsA (F H : Hp) (σ : St) : List AV → List V → List Addr → Prop
  | [], vs, M => vs = [] ∧ M = []
  | .val o :: as, vs, M => ∃ v ws A B, vs = v :: ws ∧ M = A ++ B ∧ Own W F H o v A ∧ OwnsA F H σ as ws B
  | .at i :: as, vs, M => ∃ v ws, vs = v :: ws ∧ σ[i]? = some (some v) ∧ OwnsA F H σ as ws M
def trO (f : En → R (List O × En)) : TA := fun σ H Q => ∃ F L e os e', Ok W F H e σ L ∧ f e = .ok (os, e') ∧
  ∀ F' H' M L' vs, Stp F H L F' H' (M ++ L') → Ok W F' H' e' σ L' → Owns W F' H' os vs M → (M ++ L').Nodup → (∀ a ∈ M, F' a = none) → Q vs H'
def trL (f : En → R (List AV × En)) : TA := fun σ H Q => ∃ F L e os e', Ok W F H e σ L ∧ f e = .ok (os, e') ∧
  ∀ F' H' M L' vs, Stp F H L F' H' (M ++ L') → Ok W F' H' e' σ L' → OwnsA W F' H' σ os vs M → (M ++ L').Nodup → (∀ a ∈ M, F' a = none) → Q vs H'
/-- what an operation makes: objects of its own, all else as it was -/
structure New (F H : Hp) (q : O) (v : V) (M : List Addr) (F' H' : Hp) : Prop where
  st : Stp F H [] F' H' M
  sub : Sub F' H'
  own : Own W F' H' q v M
  nd : M.Nodup
  dj : ∀ a ∈ M, F' a = none
end
section
variable {W : Wd} {F F' H H' : Hp} {e : En} {σ : St} {L M : List Addr} {q : O} {v : V}
theorem nodup_app {A B : List Addr} (a : A.Nodup) (b : B.Nodup) (d : ∀ x ∈ A, x ∉ B) : (A ++ B).Nodup := List.nodup_append.mpr ⟨a, b, fun x hx y hy e => d x hx (e ▸ hy)⟩
theorem nodup_l {A B : List Addr} (h : (A ++ B).Nodup) : A.Nodup := (List.nodup_append.mp h).1
theorem nodup_r {A B : List Addr} (h : (A ++ B).Nodup) : B.Nodup := (List.nodup_append.mp h).2.1
theorem nodup_d {A B : List Addr} (h : (A ++ B).Nodup) : ∀ x ∈ A, x ∉ B := fun x hx hy => (List.nodup_append.mp h).2.2 x hx x hy rfl
/-- a scalar, or a value that is shared already: nothing is made -/
theorem New.sh {d : D} (s : Sub F H) (r : Rep W F d v) : New W F H (.sh d) v [] F H := ⟨Stp.refl, s, ⟨rfl, r⟩, List.nodup_nil, fun a h => (by cases h)⟩
/-- a new list of shared items -/
theorem New.lst {p : Addr} {ds : List D} {vs : List V} (s : Sub F H) (hp : H p = none) (r : Reps W F ds vs) : New W F H (.lst (ds.map O.sh)) (.ref p) [p] F (upd H p (.lst vs)) := by
  refine ⟨⟨Sub.refl F, fun a o h _ => ?_, fun a h => ?_, fun a o h => .inl h⟩, fun a o h => ?_, ⟨p, vs, [], rfl, upd_same, rfl, owns_sh r⟩, (by simp), fun a h => ?_⟩
  · rw [upd_ne (ne_of_none h hp)]; exact h
  · rcases List.mem_singleton.mp h with rfl; exact .inr hp
  · rw [upd_ne (ne_of_none (s a o h) hp)]; exact s a o h
  · rcases List.mem_singleton.mp h with rfl
    cases z : F a with
    | none => rfl
    | some o => rw [s a o z] at hp; cases hp
theorem New.tup {p : Addr} {o : Obj} {ds : List D} {vs : List V} (s : Sub F H) (hp : H p = none) (ho : o.dict = none) (r : Reps W F ds vs) : New W F H (.sh (.tup ds)) (.ref p) [] (upd F p (.frz o (.tup vs))) (upd H p (.frz o (.tup vs))) := by
  have fp : F p = none := by
    cases z : F p with
    | none => rfl
    | some o => rw [s p o z] at hp; cases hp
  have sf : Sub F (upd F p (.frz o (.tup vs))) := fun a o' h => by rw [upd_ne (ne_of_none h fp)]; exact h
  refine ⟨⟨sf, fun a o' h _ => ?_, fun a h => (by cases h), fun a o' h => ?_⟩, fun a o' h => ?_, ⟨rfl, p, vs, rfl, ⟨o, upd_same, ho⟩, r.mono sf⟩, List.nodup_nil, fun a h => (by cases h)⟩
  · rw [upd_ne (ne_of_none h hp)]; exact h
  · by_cases z : a = p
    · subst z; exact .inr (.inr hp)
    · rw [upd_ne z] at h; exact .inl h
  · by_cases z : a = p
    · subst z; rw [upd_same] at h ⊢; exact h
    · rw [upd_ne z] at h ⊢; exact s a o' h
/-- a new shared object -/
theorem New.put {p : Addr} {d : D} {o : HO} (s : Sub F H) (hp : H p = none) (r : Rep W (upd F p o) d (.ref p)) : New W F H (.sh d) (.ref p) [] (upd F p o) (upd H p o) := by
  have fp : F p = none := by
    cases z : F p with
    | none => rfl
    | some o => rw [s p o z] at hp; cases hp
  refine ⟨⟨fun a o' h => ?_, fun a o' h _ => ?_, fun a h => (by cases h), fun a o' h => ?_⟩, fun a o' h => ?_, ⟨rfl, r⟩, List.nodup_nil, fun a h => (by cases h)⟩
  · rw [upd_ne (ne_of_none h fp)]; exact h
  · rw [upd_ne (ne_of_none h hp)]; exact h
  · by_cases z : a = p
    · subst z; exact .inr (.inr hp)
    · rw [upd_ne z] at h; exact .inl h
  · by_cases z : a = p
    · subst z; rw [upd_same] at h ⊢; exact h
    · rw [upd_ne z] at h ⊢; exact s a o' h
theorem sub_upd {p : Addr} {o : HO} (fp : F p = none) : Sub F (upd F p o) := fun a o' h => by rw [upd_ne (ne_of_none h fp)]; exact h
theorem Sub.none (s : Sub F H) {p : Addr} (h : H p = none) : F p = none := by
  cases z : F p with
  | none => rfl
  | some o => rw [s p o z] at h; cases h
/-- the frame's state behind an operation -/
theorem Ok.new (k : Ok W F H e σ L) (n : New W F H q v M F' H') : Stp F H L F' H' (M ++ L) ∧ Ok W F' H' e σ L ∧ Got W F' H' q v M L := by
  have d0 := k.en.def_
  have no : ∀ x ∈ L, x ∉ ([] : List Addr) := fun x _ h => (by cases h)
  refine ⟨⟨n.st.fs, fun a o h _ => n.st.kp a o h (by simp), fun a h => ?_, fun a o h => ?_⟩, ⟨n.sub, k.nd, n.st.unsh no d0 k.dj, k.en.keep n.st.fs (n.st.kept no)⟩, n.own, nodup_app n.nd k.nd fun x hx hy => ?_, n.dj⟩
  · rcases List.mem_append.mp h with h | h
    · rcases n.st.ow a h with z | z
      · cases z
      · exact .inr z
    · exact .inl h
  · rcases n.st.fr a o h with z | z | z
    · exact .inl z
    · cases z
    · exact .inr (.inr z)
  · rcases n.st.ow x hx with z | z
    · cases z
    · exact d0 x hy z
theorem Stp.drop {F H F' H' : Hp} {L M L' : List Addr} (a : Stp F H L F' H' (M ++ L')) : Stp F H L F' H' L' := ⟨a.fs, a.kp, fun x h => a.ow x (List.mem_append_right _ h), a.fr⟩
/-- a value that came stays, while the frame goes on -/
theorem Got.keep {F2 H2 : Hp} {L2 : List Addr} (g : Got W F H q v M L) (st : Stp F H L F2 H2 L2) (nd : L2.Nodup) : Got W F2 H2 q v M L2 :=
  have d := nodup_d g.nd
  ⟨g.own.keep st.fs (st.kept d), nodup_app (nodup_l g.nd) nd (st.apart d g.own.def_), st.unsh d g.own.def_ g.dj⟩
theorem GotA.keep {F2 H2 : Hp} {L2 : List Addr} {a : AV} (g : GotA W F H σ a v M L) (st : Stp F H L F2 H2 L2) (nd : L2.Nodup) : GotA W F2 H2 σ a v M L2 := by
  cases a with
  | val o => exact Got.keep g st nd
  | «at» i => exact ⟨g.1, nd, g.2.2⟩
theorem GotA.sees {F2 H2 : Hp} {L2 : List Addr} {a : AV} {o : O} (g : GotA W F H σ a v M L) (k : Ok W F H e σ L) (s : a.see e = .ok o) : Sees W F H o v := by
  cases a with
  | val o' => cases s; exact ⟨M, g.own⟩
  | «at» i =>
    obtain ⟨w, A, M', B, e1, e2, h, _⟩ := k.en.slot s
    have z := g.2.2
    rw [e1] at z
    cases z
    exact ⟨M', h⟩
end

/-! ### one and two arguments -/
/-- an operation on values is served by the rule r -/
def OpS (W : Wd) (f : O → O → R O) (r : R2) : Prop := ∀ (F H : Hp) (o p : O) (x y : V) (q : O) (Q : VK), Sub F H → Sees W F H o x → Sees W F H p y → f o p = .ok q → (∀ F' H' M v, New W F H q v M F' H' → Q v H') → r x y H Q
def UnS (W : Wd) (f : O → R O) (r : V → Hp → VK → Prop) : Prop := ∀ (F H : Hp) (o : O) (x : V) (q : O) (Q : VK), Sub F H → Sees W F H o x → f o = .ok q → (∀ F' H' M v, New W F H q v M F' H' → Q v H') → r x H Q
section
variable {W : Wd}
/-- the end of an expression: an operation has made its value -/
theorem fin_new {F H F2 H2 : Hp} {e e2 : En} {σ : St} {L L2 : List Addr} {q : O} {Q : VK} (st : Stp F H L F2 H2 L2) (k2 : Ok W F2 H2 e2 σ L2)
    (k : ∀ F' H' M L' v, Stp F H L F' H' (M ++ L') → Ok W F' H' e2 σ L' → Got W F' H' q v M L' → Q v H') : ∀ F' H' M v, New W F2 H2 q v M F' H' → Q v H' := fun F' H' M v n => by
  obtain ⟨a, b, c⟩ := k2.new n
  exact k F' H' M L2 v (st.trans a) b c
theorem two_ent {sa sb : Sm} {f : O → O → R O} {r : R2} (hr : OpS W f r) {σ : St} {H : Hp} {Q : VK} (h : trV W (two sa sb f).val σ H Q) : tOp r (trA W sa.arg) (trA W sb.arg) σ H Q := by
  obtain ⟨F, L, e, o, e', ok, hf, k⟩ := h
  obtain ⟨⟨x, e1⟩, ha, hf⟩ := R.bind_ok hf
  obtain ⟨⟨y, e2⟩, hb, hf⟩ := R.bind_ok hf
  obtain ⟨ox, hx, hf⟩ := R.bind_ok hf
  obtain ⟨oy, hy, hf⟩ := R.bind_ok hf
  obtain ⟨q, hq, hf⟩ := R.bind_ok hf
  cases hf
  refine ⟨F, L, e, x, e1, ok, ha, fun F1 H1 M1 L1 v1 st1 ok1 got1 => ⟨F1, L1, e1, y, e', ok1, hb, fun F2 H2 M2 L2 v2 st2 ok2 got2 => ?_⟩⟩
  have g1 := got1.keep st2.drop ok2.nd
  exact hr F2 H2 ox oy v1 v2 o Q ok2.sub (g1.sees (F2 := F2) (H2 := H2) (L2 := L2) ok2 hx) (got2.sees (F2 := F2) (H2 := H2) (L2 := L2) ok2 hy) hq (fin_new (e := e) (st1.drop.trans st2.drop) ok2 k)
theorem one_ent {sa : Sm} {f : O → R O} {r : V → Hp → VK → Prop} (hr : UnS W f r) {σ : St} {H : Hp} {Q : VK} (h : trV W (one sa f).val σ H Q) : tUn r (trA W sa.arg) σ H Q := by
  obtain ⟨F, L, e, o, e', ok, hf, k⟩ := h
  obtain ⟨⟨x, e1⟩, ha, hf⟩ := R.bind_ok hf
  obtain ⟨ox, hx, hf⟩ := R.bind_ok hf
  obtain ⟨q, hq, hf⟩ := R.bind_ok hf
  cases hf
  refine ⟨F, L, e, x, e', ok, ha, fun F1 H1 M1 L1 v1 st1 ok1 got1 => ?_⟩
  exact hr F1 H1 ox v1 o Q ok1.sub (got1.sees (F2 := F1) (H2 := H1) (L2 := L1) ok1 hx) hq (fin_new (e := e) st1.drop ok1 k)
/-- from a value's reading: as an argument -/
theorem arg_of_val {f : En → R (O × En)} {σ : St} {H : Hp} {Q : VK} (h : trA W (Sm.mk1 f).arg σ H Q) : trV W f σ H Q := by
  obtain ⟨F, L, e, a, e', ok, hf, k⟩ := h
  obtain ⟨⟨o, e1⟩, ha, hf⟩ := R.bind_ok hf
  cases hf
  exact ⟨F, L, e, o, e', ok, ha, fun F' H' M L' v st ok' got => k F' H' M L' v st ok' got⟩
/-- as a test: a bool -/
theorem truD_ok {K : PySem.W.Frag} (hK : K = W.K) {F H : Hp} {o : O} {v : V} {b : Bool} (s : Sub F H) (g : Sees W F H o v) (h : truD o.view = .ok b) : TruV K v H b := by
  obtain ⟨M, g⟩ := g
  cases e : o.view with
  | non =>
    rw [e] at h; cases h
    have r : v = .non := g.view_sh e (fun _ z => by cases z) (fun _ _ z => by cases z)
    subst r; exact rfl
  | bl c =>
    rw [e] at h; cases h
    have r : v = .bl b := g.view_sh e (fun _ z => by cases z) (fun _ _ z => by cases z)
    subst r; exact rfl
  | int i =>
    rw [e] at h; cases h
    have r : v = .int i := g.view_sh e (fun _ z => by cases z) (fun _ _ z => by cases z)
    subst r; exact rfl
  | str z =>
    rw [e] at h
    obtain ⟨h1, h2⟩ := R.need_ok h
    cases h2
    have r : v = .str z := g.view_sh e (fun _ z => by cases z) (fun _ _ z => by cases z)
    subst r
    exact ⟨by rw [sizeLine_eq]; exact of_decide_eq_true h1, rfl⟩
  | tup xs =>
    rw [e] at h; cases h
    obtain ⟨a, vs, rfl, h2, h3⟩ := g.view_sh e (fun _ z => by cases z) (fun _ _ z => by cases z)
    refine .inr (.inl ⟨vs, h2.sq s, ?_⟩)
    have hl := h3.len
    cases xs <;> cases vs <;> simp_all
  | lst xs =>
    rw [e] at h; cases h
    cases o with
    | sh d =>
      have e' : d = .lst xs := e
      subst e'
      obtain ⟨a, vs, rfl, h2, h3⟩ := g.2
      refine .inl ⟨vs, SqL.of (s _ _ h2), ?_⟩
      have hl := h3.len
      cases xs <;> cases vs <;> simp_all
    | lst ys =>
      obtain ⟨a, vs, M', rfl, h2, _, h4⟩ := g
      have e' : views ys = xs := by
        have := e
        simp only [O.view] at this
        injection this
      refine .inl ⟨vs, SqL.of h2, ?_⟩
      have hl := h4.len
      subst e'
      rw [views_map]
      cases ys <;> cases vs <;> simp_all
    | ins c fs => cases e
  | obj c xs => rw [e] at h; cases h
  | arr ns => rw [e] at h; cases h
end
end MP

set_option Elab.async false
set_option linter.all false
/-! Snd2: operators, comparisons. -/
namespace MP
open PySem L2
section
variable {W : Wd} {F H : Hp} {o p : O} {x y : V}
theorem Sees.int {i : Int} (s : Sees W F H o x) (e : o.flat = some (.int i)) : x = .int i := let ⟨_, g⟩ := s; g.flat_sh e fun _ z => by cases z
theorem Sees.str {i : Str} (s : Sees W F H o x) (e : o.flat = some (.str i)) : x = .str i := let ⟨_, g⟩ := s; g.flat_sh e fun _ z => by cases z
theorem Sees.vint {i : Int} (s : Sees W F H o x) (e : o.view = .int i) : x = .int i := let ⟨_, g⟩ := s; g.view_sh e (fun _ z => by cases z) fun _ _ z => by cases z
theorem Sees.vstr {i : Str} (s : Sees W F H o x) (e : o.view = .str i) : x = .str i := let ⟨_, g⟩ := s; g.view_sh e (fun _ z => by cases z) fun _ _ z => by cases z
theorem Sees.vbl {i : Bool} (s : Sees W F H o x) (e : o.view = .bl i) : x = .bl i := let ⟨_, g⟩ := s; g.view_sh e (fun _ z => by cases z) fun _ _ z => by cases z
theorem Sees.vnon (s : Sees W F H o x) (e : o.view = .non) : x = .non := let ⟨_, g⟩ := s; g.view_sh e (fun _ z => by cases z) fun _ _ z => by cases z
theorem Sees.vtup {xs : List D} (s : Sees W F H o x) (e : o.view = .tup xs) : ∃ a vs, x = .ref a ∧ Tu F a vs ∧ Reps W F xs vs := let ⟨_, g⟩ := s; g.view_sh e (fun _ z => by cases z) fun _ _ z => by cases z
theorem Sees.ftup {xs : List D} (s : Sees W F H o x) (e : o.flat = some (.tup xs)) : ∃ a vs, x = .ref a ∧ Tu F a vs ∧ Reps W F xs vs := let ⟨_, g⟩ := s; g.flat_sh e fun _ z => by cases z
theorem Sees.flst {xs : List D} (s : Sees W F H o x) (sb : Sub F H) (e : o.flat = some (.lst xs)) : ∃ a vs, x = .ref a ∧ H a = some (.lst vs) ∧ Reps W F xs vs := let ⟨_, g⟩ := s; g.flat_lst sb e
theorem Sees.varr {ns : List Int} (s : Sees W F H o x) (e : o.view = .arr ns) : ∃ a, x = .ref a ∧ SqL W.K F a (ns.map V.int) := let ⟨_, g⟩ := s; g.view_sh e (fun _ z => by cases z) fun _ _ z => by cases z
/-- a list that is seen: its object and its items, seen -/
theorem Sees.vlst {xs : List D} (s : Sees W F H o x) (sb : Sub F H) (e : o.view = .lst xs) : ∃ a vs, x = .ref a ∧ H a = some (.lst vs) ∧ vs.length = xs.length ∧
    ((∀ ns : List Int, xs = ns.map D.int → vs = ns.map V.int) ∧ (∀ ns : List Str, xs = ns.map D.str → vs = ns.map V.str) ∧ (∀ ns : List Bool, xs = ns.map D.bl → vs = ns.map V.bl)) := by
  obtain ⟨M, g⟩ := s
  cases o with
  | sh d =>
    have e' : d = .lst xs := e
    subst e'
    obtain ⟨a, vs, rfl, h2, h3⟩ := g.2
    exact ⟨a, vs, rfl, sb _ _ h2, h3.len, fun ns z => by subst z; exact reps_ints h3, fun ns z => by subst z; exact reps_strs h3, fun ns z => by subst z; exact reps_bls h3⟩
  | lst ys =>
    obtain ⟨a, vs, M', rfl, h2, _, h4⟩ := g
    have e' : views ys = xs := by
      simp only [O.view] at e
      injection e
    refine ⟨a, vs, rfl, h2, by rw [h4.len, ← e', views_map, List.length_map], ?_⟩
    subst e'
    have key : ∀ {α : Type} (f : α → D) (g : α → V), (∀ a v, Rep W F (f a) v → v = g a) → (∀ a xs, f a ≠ .lst xs) → (∀ a c fs, f a ≠ .obj c fs) →
        ∀ (ys : List O) (vs : List V) (M : List Addr) (ns : List α), Owns W F H ys vs M → views ys = ns.map f → vs = ns.map g := by
      intro α f g h1 h5 h6 ys
      induction ys with
      | nil =>
        intro vs M ns h z
        cases ns with
        | nil => exact h.1
        | cons n ns => cases z
      | cons y ys ih =>
        intro vs M ns h z
        obtain ⟨v, ws, A, B, rfl, rfl, h7, h8⟩ := h
        cases ns with
        | nil => cases z
        | cons n ns =>
          rw [views, List.map_cons] at z
          injection z with z1 z2
          rw [List.map_cons, ih ws B ns h8 z2, h1 n v (h7.view_sh z1 (h5 n) (h6 n))]
    exact ⟨fun ns z => key D.int V.int (fun _ _ h => h) (fun _ _ z => by cases z) (fun _ _ _ z => by cases z) ys vs M' ns h4 z,
      fun ns z => key D.str V.str (fun _ _ h => h) (fun _ _ z => by cases z) (fun _ _ _ z => by cases z) ys vs M' ns h4 z,
      fun ns z => key D.bl V.bl (fun _ _ h => h) (fun _ _ z => by cases z) (fun _ _ _ z => by cases z) ys vs M' ns h4 z⟩
  | ins c fs => cases e

mutual
theorem Rep.dp (sb : Sub F H) : ∀ {d : D} {v : V} {q : PyData}, Rep W F d v → d.py = some q → Dp W.K H v q
  | .non, _, _, h, e => by cases e; cases h; exact .non
  | .bl b, _, _, h, e => by cases e; cases h; exact .bl b
  | .int i, _, _, h, e => by cases e; cases h; exact .int i
  | .str s, _, _, h, e => by cases e; cases h; exact .str s
  | .tup xs, _, _, h, e => by
    simp only [D.py, Option.map_eq_some_iff] at e
    obtain ⟨qs, e1, rfl⟩ := e
    obtain ⟨a, vs, rfl, h2, h3⟩ := h
    exact .tup (h2.sq sb) (Reps.dp sb h3 e1)
  | .lst xs, _, _, h, e => by
    simp only [D.py, Option.map_eq_some_iff] at e
    obtain ⟨qs, e1, rfl⟩ := e
    obtain ⟨a, vs, rfl, h2, h3⟩ := h
    exact .lst (SqL.of (sb _ _ h2)) (Reps.dp sb h3 e1)
  | .obj c xs, _, _, h, e => by cases e
  | .arr ns, _, _, h, e => by cases e
theorem Reps.dp (sb : Sub F H) : ∀ {xs : List D} {vs : List V} {qs : List PyData}, Reps W F xs vs → D.py.pys xs = some qs → DpAll W.K H vs qs
  | [], _, _, h, e => by cases e; cases h; exact .nil
  | d :: ds, _, _, h, e => by
    obtain ⟨v, ws, rfl, h2, h3⟩ := h
    simp only [D.py.pys] at e
    split at e
    · rename_i q qs e1 e2
      cases e
      exact .cons (Rep.dp sb h2 e1) (Reps.dp sb h3 e2)
    · cases e
end
mutual
theorem Own.dp (sb : Sub F H) : ∀ {o : O} {v : V} {L : List Addr} {q : PyData}, Own W F H o v L → o.view.py = some q → Dp W.K H v q
  | .sh d, _, _, _, h, e => Rep.dp sb h.2 e
  | .lst xs, _, _, _, h, e => by
    simp only [O.view, D.py, Option.map_eq_some_iff] at e
    obtain ⟨qs, e1, rfl⟩ := e
    obtain ⟨a, vs, M, rfl, h2, _, h4⟩ := h
    exact .lst (SqL.of h2) (Owns.dp sb h4 e1)
  | .ins c fs, _, _, _, h, e => by cases e
theorem Owns.dp (sb : Sub F H) : ∀ {xs : List O} {vs : List V} {L : List Addr} {qs : List PyData}, Owns W F H xs vs L → D.py.pys (views xs) = some qs → DpAll W.K H vs qs
  | [], _, _, _, h, e => by cases e; rw [h.1]; exact .nil
  | x :: xs, _, _, _, h, e => by
    obtain ⟨v, ws, A, B, rfl, rfl, h2, h3⟩ := h
    simp only [views, D.py.pys] at e
    split at e
    · rename_i q qs e1 e2
      cases e
      exact .cons (Own.dp sb h2 e1) (Owns.dp sb h3 e2)
    · cases e
end
theorem Sees.dp {q : PyData} (s : Sees W F H o x) (sb : Sub F H) (e : o.view.py = some q) : Dp W.K H x q := let ⟨_, g⟩ := s; g.dp sb e
end

def opr : Op → Operator
  | .add => .Add
  | .sub => .Sub
  | .mul => .Mult
  | .fdiv => .FloorDiv
  | .mod => .Mod
  | .pow => .Pow
theorem OpS.of {W : Wd} {f : O → O → R O} {r r' : R2} (h : OpS W f r) (i : ∀ x y H Q, r x y H Q → r' x y H Q) : OpS W f r' := fun F H o p x y q Q sb s1 s2 e k => i _ _ _ _ (h F H o p x y q Q sb s1 s2 e k)
section
variable {X : Cx} {W : Wd}
theorem op_snd (hK : X.K = W.K) (o : Op) : ∃ r, OpR X (binaryOp (opr o)) r ∧ OpS W (opD o) r := by
  have line : (sizeLine : Nat) = 16777216 := sizeLine_eq
  cases o with
  | add =>
    refine ⟨_, OpR.or op_add (OpR.or op_add_str (OpR.or op_cat (op_catF (X := X)))), ?_⟩
    intro F H a b x y q Q sb s1 s2 e k
    simp only [opD] at e
    split at e
    · rename_i i j ea eb
      cases e
      exact .inl ⟨i, j, s1.int ea, s2.int eb, k F H [] _ (New.sh sb rfl)⟩
    · rename_i i j ea eb
      obtain ⟨h1, h2⟩ := R.need_ok e
      cases h2
      exact .inr (.inl ⟨i, j, s1.str ea, s2.str eb, by rw [line]; exact of_decide_eq_true h1, k F H [] _ (New.sh sb rfl)⟩)
    · rename_i xs ys ea eb
      obtain ⟨h1, h2⟩ := R.need_ok e
      cases h2
      obtain ⟨l, vs, rfl, h3, h4⟩ := s1.flst sb ea
      obtain ⟨m, ws, rfl, h5, h6⟩ := s2.flst sb eb
      refine .inr (.inr (.inl ⟨l, m, vs, ws, rfl, rfl, h3, h5, by rw [line, h4.len, h6.len]; exact of_decide_eq_true h1, fun p hp => k _ _ _ _ (New.lst sb hp (h4.app h6))⟩))
    · rename_i xs ys ea eb
      obtain ⟨h1, h2⟩ := R.need_ok e
      cases h2
      obtain ⟨l, vs, rfl, h3, h4⟩ := s1.ftup ea
      obtain ⟨m, ws, rfl, h5, h6⟩ := s2.ftup eb
      have l4 := h4.len
      have l6 := h6.len
      refine .inr (.inr (.inr ⟨l, m, vs, ws, rfl, rfl, h3.sq sb, h5.sq sb, by rw [line, l4, l6]; exact of_decide_eq_true h1, fun z => ?_, fun z1 z2 => ?_, fun z1 z2 p o hp ho => ?_⟩))
      · subst z
        have : xs = [] := by cases xs with | nil => rfl | cons => simp at l4
        subst this
        exact k F H [] _ (New.sh sb ⟨m, ws, rfl, h5, by simpa using h6⟩)
      · subst z2
        have : ys = [] := by cases ys with | nil => rfl | cons => simp at l6
        subst this
        exact k F H [] _ (New.sh sb ⟨l, vs, rfl, h3, by simpa using h4⟩)
      · exact k _ _ _ _ (New.tup sb hp ho (h4.app h6))
    · cases e
  | sub =>
    refine ⟨_, op_sub, ?_⟩
    intro F H a b x y q Q sb s1 s2 e k
    simp only [opD] at e
    split at e
    · rename_i i j ea eb
      cases e
      exact ⟨i, j, s1.int ea, s2.int eb, k F H [] _ (New.sh sb rfl)⟩
    · cases e
  | mul =>
    refine ⟨_, OpR.or op_mul (OpR.or op_mulW op_rep), ?_⟩
    intro F H a b x y q Q sb s1 s2 e k
    simp only [opD] at e
    split at e
    · rename_i i j ea eb
      obtain ⟨h1, h2⟩ := R.need_ok e
      cases h2
      simp only [mulOk, Bool.or_eq_true, decide_eq_true_eq] at h1
      rcases h1 with h1 | h1
      · exact .inl ⟨i, j, s1.int ea, s2.int eb, h1, k F H [] _ (New.sh sb rfl)⟩
      · exact .inr (.inl ⟨i, j, s1.int ea, s2.int eb, h1, k F H [] _ (New.sh sb rfl)⟩)
    · rename_i xs n ea eb
      obtain ⟨h1, h2⟩ := R.need_ok e
      cases h2
      simp only [Bool.and_eq_true, decide_eq_true_eq] at h1
      obtain ⟨l, vs, rfl, h3, h4⟩ := s1.flst sb ea
      exact .inr (.inr ⟨l, n, vs, rfl, s2.int eb, h3, h1.1.1, h1.1.2, by rw [line, h4.len]; exact h1.2, fun p hp => k _ _ _ _ (New.lst sb hp (h4.rep _))⟩)
    · cases e
  | fdiv =>
    refine ⟨_, op_fdivW, ?_⟩
    intro F H a b x y q Q sb s1 s2 e k
    simp only [opD] at e
    split at e
    · rename_i i j ea eb
      obtain ⟨h1, h2⟩ := R.need_ok e
      cases h2
      simp only [divOk, Bool.and_eq_true, decide_eq_true_eq] at h1
      exact ⟨i, j, s1.int ea, s2.int eb, h1, k F H [] _ (New.sh sb rfl)⟩
    · cases e
  | mod =>
    refine ⟨_, op_mod, ?_⟩
    intro F H a b x y q Q sb s1 s2 e k
    simp only [opD] at e
    split at e
    · rename_i i j ea eb
      obtain ⟨h1, h2⟩ := R.need_ok e
      cases h2
      exact ⟨i, j, s1.int ea, s2.int eb, of_decide_eq_true h1, k F H [] _ (New.sh sb rfl)⟩
    · cases e
  | pow =>
    refine ⟨_, op_pow, ?_⟩
    intro F H a b x y q Q sb s1 s2 e k
    simp only [opD] at e
    split at e
    · rename_i i j ea eb
      obtain ⟨h1, h2⟩ := R.need_ok e
      cases h2
      simp only [Bool.and_eq_true, decide_eq_true_eq] at h1
      exact ⟨i, j, s1.int ea, s2.int eb, ⟨h1.1.1, h1.1.2, h1.2⟩, k F H [] _ (New.sh sb rfl)⟩
    · cases e

/-! ### comparisons -/
def cmo : Cm → CmpOp
  | .eq => .Eq
  | .ne => .NotEq
  | .lt => .Lt
  | .le => .LtE
  | .gt => .Gt
  | .ge => .GtE
  | .isIn => .In
  | .notIn => .NotIn
  | .isN => .Is
  | .notN => .IsNot
/-- a comparison is served by a rule (isN, notN: the right one is None) -/
def CmS (W : Wd) (c : Cm) (r : R2) : Prop := ∀ (F H : Hp) (o p : O) (x y : V) (b : Bool) (Q : VK), Sub F H → Sees W F H o x → Sees W F H p y → cmD c o.view p.view = .ok b → Q (.bl b) H → r x y H Q
theorem flat_v {F : Hp} {d : D} {v : V} (r : Rep W F d v) (h : flatD d = true) : flatV v = true := by
  cases d with
  | non => cases r; rfl
  | bl b => cases r; rfl
  | int i => cases r; rfl
  | str s => cases r; rfl
  | _ => cases h
theorem eqF_v {F : Hp} {d c : D} {v w : V} (r : Rep W F d v) (q : Rep W F c w) (h : flatD d = true) (g : flatD c = true) : eqF d c = eqV v w := by
  cases d <;> cases c <;> first
    | exact absurd h Bool.false_ne_true
    | exact absurd g Bool.false_ne_true
    | (cases r; cases q; rfl)
theorem flats_v {F : Hp} : ∀ {xs : List D} {vs : List V}, Reps W F xs vs → xs.all flatD = true → vs.all flatV = true
  | [], _, h, _ => by cases h; rfl
  | x :: xs, _, h, g => by
    obtain ⟨v, ws, rfl, h2, h3⟩ := h
    rw [List.all_cons, Bool.and_eq_true] at g ⊢
    exact ⟨flat_v h2 g.1, flats_v h3 g.2⟩
theorem anyF_v {F : Hp} {c : D} {w : V} (q : Rep W F c w) (hc : flatD c = true) : ∀ {xs : List D} {vs : List V}, Reps W F xs vs → xs.all flatD = true → (xs.any fun y => eqF y c) = vs.any fun y => eqV y w
  | [], _, h, _ => by cases h; rfl
  | x :: xs, _, h, g => by
    obtain ⟨v, ws, rfl, h2, h3⟩ := h
    rw [List.all_cons, Bool.and_eq_true] at g
    rw [List.any_cons, List.any_cons, anyF_v q hc h3 g.2, eqF_v h2 q g.1 hc]
/-- a flat value that is seen -/
theorem Sees.flatRep {F H : Hp} {o : O} {x : V} (s : Sees W F H o x) (h : flatD o.view = true) : Rep W F o.view x := by
  obtain ⟨M, g⟩ := s
  refine g.view_sh rfl (fun xs z => ?_) fun c fs z => ?_
  · rw [z] at h; cases h
  · rw [z] at h; cases h
theorem owns_flat {F H : Hp} : ∀ {xs : List O} {vs : List V} {M : List Addr}, Owns W F H xs vs M → (views xs).all flatD = true → Reps W F (views xs) vs
  | [], _, _, h, _ => h.1
  | x :: xs, _, _, h, g => by
    obtain ⟨v, ws, A, B, rfl, rfl, h2, h3⟩ := h
    rw [views, List.all_cons, Bool.and_eq_true] at g
    exact ⟨v, ws, rfl, Sees.flatRep ⟨A, h2⟩ g.1, owns_flat h3 g.2⟩
theorem Sees.vlstF {F H : Hp} {o : O} {x : V} {xs : List D} (s : Sees W F H o x) (sb : Sub F H) (e : o.view = .lst xs) (h : xs.all flatD = true) : ∃ a vs, x = .ref a ∧ H a = some (.lst vs) ∧ Reps W F xs vs := by
  obtain ⟨M, g⟩ := s
  cases o with
  | sh d =>
    have e' : d = .lst xs := e
    subst e'
    obtain ⟨a, vs, rfl, h2, h3⟩ := g.2
    exact ⟨a, vs, rfl, sb _ _ h2, h3⟩
  | lst ys =>
    obtain ⟨a, vs, M', rfl, h2, _, h4⟩ := g
    have e' : views ys = xs := by
      simp only [O.view] at e
      injection e
    subst e'
    exact ⟨a, vs, rfl, h2, owns_flat h4 h⟩
  | ins c fs => cases e

theorem eqD_snd (hK : X.K = W.K) (hu : X.A.units + 64 < cLine) {F H : Hp} {o p : O} {x y : V} {b : Bool} (sb : Sub F H) (s1 : Sees W F H o x) (s2 : Sees W F H p y) (h : eqD o.view p.view = .ok b) :
    (scal x y = true ∧ decide (x = y) = b) ∨ ∃ d e, Dp X.K H x d ∧ Dp X.K H y e ∧ SeqAt.shaped d = true ∧ SeqAt.shaped e = true ∧ PyData.eqv d e = b := by
  unfold eqD at h
  split at h
  · rename_i i j e1 e2
    cases h
    rw [s1.vint e1, s2.vint e2]
    exact .inl ⟨rfl, by simp⟩
  · rename_i i j e1 e2
    cases h
    rw [s1.vstr e1, s2.vstr e2]
    exact .inl ⟨rfl, by simp⟩
  · rename_i i j e1 e2
    cases h
    rw [s1.vbl e1, s2.vbl e2]
    exact .inl ⟨rfl, by simp⟩
  · obtain ⟨d, hd, h⟩ := R.bind_ok h
    obtain ⟨e, he, h⟩ := R.bind_ok h
    obtain ⟨h1, h2⟩ := R.need_ok h
    rw [Bool.and_eq_true] at h1
    cases h2
    rw [hK]
    exact .inr ⟨d, e, s1.dp sb (R.of_ok hd), s2.dp sb (R.of_ok he), h1.1, h1.2, rfl⟩
theorem cmpI_ok {f : Int → Int → Bool} {a b : D} {r : Bool} (h : cmpI f a b = .ok r) : ∃ i j, a = .int i ∧ b = .int j ∧ f i j = r := by
  unfold cmpI at h
  split at h
  · rename_i i j
    cases h
    exact ⟨i, j, rfl, rfl, rfl⟩
  · cases h
theorem not_ok {r : R Bool} {b : Bool} (h : (do let x ← r; pure (!x) : R Bool) = .ok b) : r = .ok (!b) := by
  obtain ⟨c, h1, h2⟩ := R.bind_ok h
  cases h2
  rw [h1, Bool.not_not]
theorem in_snd (hK : X.K = W.K) {F H : Hp} {o p : O} {x y : V} {b : Bool} (sb : Sub F H) (s1 : Sees W F H o x) (s2 : Sees W F H p y) (h : inD o.view p.view = .ok b) :
    (∃ (c : Nat) (z : Str), x = .str ⟨#[c]⟩ ∧ y = .str z ∧ decide (c ∈ z.cps.toList) = b) ∨ (∃ a vs, y = .ref a ∧ (SqL X.K H a vs ∨ SqT X.K H a vs) ∧ flatV x = true ∧ vs.all flatV = true ∧ inV x vs = b) ∨
      ∃ d ds, Dp X.K H x d ∧ Dp X.K H y (.list ds) ∧ SeqAt.shaped d = true ∧ SeqAt.shaped (.list ds) = true ∧ (ds.any fun z => PyData.eqv z d) = b := by
  unfold inD at h
  split at h
  · rename_i z ez
    split at h
    · rename_i t et
      split at h
      · rename_i c ec
        cases h
        have e3 : t = ⟨#[c]⟩ := by
          obtain ⟨⟨l⟩⟩ := t
          have ec : l = [c] := ec
          subst ec
          rfl
        subst e3
        exact .inl ⟨c, z, s1.vstr et, s2.vstr ez, rfl⟩
      · cases h
    · cases h
  · rename_i ys ey
    split at h
    · rename_i hf
      rw [Bool.and_eq_true] at hf
      cases h
      obtain ⟨a, vs, rfl, h2, h3⟩ := s2.vlstF sb ey hf.2
      exact .inr (.inl ⟨a, vs, rfl, .inl (SqL.of h2), flat_v (s1.flatRep hf.1) hf.1, flats_v h3 hf.2, (anyF_v (s1.flatRep hf.1) hf.1 h3 hf.2).symm⟩)
    · obtain ⟨d, hd, h⟩ := R.bind_ok h
      obtain ⟨e, he, h⟩ := R.bind_ok h
      obtain ⟨h1, h2⟩ := R.need_ok h
      rw [Bool.and_eq_true] at h1
      split at h2
      · rename_i ds
        cases h2
        rw [hK]
        exact .inr (.inr ⟨d, ds, s1.dp sb (R.of_ok hd), s2.dp sb (by rw [ey]; exact R.of_ok he), h1.1, h1.2, rfl⟩)
      · cases h2
  · rename_i ys ey
    obtain ⟨h1, h2⟩ := R.need_ok h
    rw [Bool.and_eq_true] at h1
    cases h2
    obtain ⟨a, vs, rfl, h2, h3⟩ := s2.vtup ey
    exact .inr (.inl ⟨a, vs, rfl, .inr (h2.sq sb), flat_v (s1.flatRep h1.1) h1.1, flats_v h3 h1.2, (anyF_v (s1.flatRep h1.1) h1.1 h3 h1.2).symm⟩)
  · cases h
theorem non_is {F H : Hp} {o : O} {x : V} (s : Sees W F H o x) : decide (x = .non) = (match o.view with | .non => true | _ => false) := by
  obtain ⟨M, g⟩ := s
  cases e : o.view with
  | non => rw [Sees.vnon ⟨M, g⟩ e]; rfl
  | bl b => rw [Sees.vbl ⟨M, g⟩ e]; rfl
  | int b => rw [Sees.vint ⟨M, g⟩ e]; rfl
  | str b => rw [Sees.vstr ⟨M, g⟩ e]; rfl
  | tup b => obtain ⟨a, vs, rfl, _⟩ := Sees.vtup ⟨M, g⟩ e; rfl
  | arr b => obtain ⟨a, rfl, _⟩ := Sees.varr ⟨M, g⟩ e; rfl
  | lst b =>
    cases o with
    | sh d =>
      have e' : d = .lst b := e
      subst e'
      obtain ⟨a, vs, rfl, _⟩ := g.2; rfl
    | lst ys => obtain ⟨a, vs, _, rfl, _⟩ := g; rfl
    | ins c fs => cases e
  | obj c b =>
    cases o with
    | sh d =>
      have e' : d = .obj c b := e
      subst e'
      obtain ⟨a, dx, vs, rfl, _⟩ := g.2; rfl
    | lst ys => cases e
    | ins c fs => obtain ⟨a, dx, ws, rfl, _⟩ := g; rfl
theorem cm_snd (hK : X.K = W.K) (hu : X.A.units + 65 < cLine) (c : Cm) : ∃ r, OpR X (compareOp (cmo c)) r ∧ CmS W c r := by
  have hu' : X.A.units + 64 < cLine := by omega
  cases c with
  | eq =>
    refine ⟨_, OpR.or op_eq (op_eqD hu'), ?_⟩
    intro F H o p x y b Q sb s1 s2 h k
    rcases eqD_snd hK hu' sb s1 s2 h with ⟨h1, h2⟩ | ⟨d, e, h1, h2, h3, h4, h5⟩
    · exact .inl ⟨h1, by rw [h2]; exact k⟩
    · exact .inr ⟨d, e, h1, h2, h3, h4, by rw [h5]; exact k⟩
  | ne =>
    refine ⟨_, OpR.or op_ne (op_neD hu'), ?_⟩
    intro F H o p x y b Q sb s1 s2 h k
    rcases eqD_snd hK hu' sb s1 s2 (not_ok h) with ⟨h1, h2⟩ | ⟨d, e, h1, h2, h3, h4, h5⟩
    · exact .inl ⟨h1, by rw [h2, Bool.not_not]; exact k⟩
    · exact .inr ⟨d, e, h1, h2, h3, h4, by rw [h5, Bool.not_not]; exact k⟩
  | lt =>
    refine ⟨_, op_lt, ?_⟩
    intro F H o p x y b Q sb s1 s2 h k
    obtain ⟨i, j, e1, e2, e3⟩ := cmpI_ok h
    exact ⟨i, j, s1.vint e1, s2.vint e2, by subst e3; exact k⟩
  | le =>
    refine ⟨_, op_le, ?_⟩
    intro F H o p x y b Q sb s1 s2 h k
    obtain ⟨i, j, e1, e2, e3⟩ := cmpI_ok h
    exact ⟨i, j, s1.vint e1, s2.vint e2, by subst e3; exact k⟩
  | gt =>
    refine ⟨_, op_gt, ?_⟩
    intro F H o p x y b Q sb s1 s2 h k
    obtain ⟨i, j, e1, e2, e3⟩ := cmpI_ok h
    exact ⟨i, j, s1.vint e1, s2.vint e2, by subst e3; exact k⟩
  | ge =>
    refine ⟨_, op_ge, ?_⟩
    intro F H o p x y b Q sb s1 s2 h k
    obtain ⟨i, j, e1, e2, e3⟩ := cmpI_ok h
    exact ⟨i, j, s1.vint e1, s2.vint e2, by subst e3; exact k⟩
  | isIn =>
    refine ⟨_, OpR.or op_in_sign (OpR.or op_in_seq (op_inD hu)), ?_⟩
    intro F H o p x y b Q sb s1 s2 h k
    rcases in_snd hK sb s1 s2 h with ⟨c, z, h1, h2, h3⟩ | ⟨a, vs, h1, h2, h3, h4, h5⟩ | ⟨d, ds, h1, h2, h3, h4, h5⟩
    · exact .inl ⟨c, z, h1, h2, by rw [h3]; exact k⟩
    · exact .inr (.inl ⟨a, vs, h1, h2, h3, h4, by simp only [Bool.false_eq_true, if_false]; rw [h5]; exact k⟩)
    · exact .inr (.inr ⟨d, ds, h1, h2, h3, h4, by rw [h5]; exact k⟩)
  | notIn =>
    refine ⟨_, OpR.or op_notIn_sign (OpR.or op_notIn_seq (op_notInD hu)), ?_⟩
    intro F H o p x y b Q sb s1 s2 h k
    rcases in_snd hK sb s1 s2 (not_ok h) with ⟨c, z, h1, h2, h3⟩ | ⟨a, vs, h1, h2, h3, h4, h5⟩ | ⟨d, ds, h1, h2, h3, h4, h5⟩
    · exact .inl ⟨c, z, h1, h2, by rw [h3, Bool.not_not]; exact k⟩
    · exact .inr (.inl ⟨a, vs, h1, h2, h3, h4, by simp only [if_true]; rw [h5, Bool.not_not]; exact k⟩)
    · exact .inr (.inr ⟨d, ds, h1, h2, h3, h4, by rw [h5, Bool.not_not]; exact k⟩)
  | isN =>
    refine ⟨_, op_isN, ?_⟩
    intro F H o p x y b Q sb s1 s2 h k
    simp only [cmD] at h
    split at h <;> first | (rename_i z; cases z) | skip
    all_goals first | contradiction | skip
    rename_i e1 e2
    refine ⟨s2.vnon (by assumption), ?_⟩
    cases h
    rw [non_is s1]
    exact k
  | notN =>
    refine ⟨_, op_notN, ?_⟩
    intro F H o p x y b Q sb s1 s2 h k
    simp only [cmD] at h
    split at h <;> first | (rename_i z; cases z) | skip
    all_goals first | contradiction | skip
    refine ⟨s2.vnon (by assumption), ?_⟩
    cases h
    rw [non_is s1]
    cases e : o.view <;> rw [e] at k <;> exact k
end
end MP

set_option Elab.async false
set_option linter.all false
/-! Snd3: built-in functions and methods, subscripts, slices. -/
namespace MP
open PySem L2
def SeesL (W : Wd) (F H : Hp) : List O → List V → Prop
  | [], vs => vs = []
  | o :: os, vs => ∃ v ws, vs = v :: ws ∧ Sees W F H o v ∧ SeesL W F H os ws
def CallS (W : Wd) (f : List O → R O) (r : List V → Hp → VK → Prop) : Prop :=
  ∀ (F H : Hp) (os : List O) (xs : List V) (q : O) (Q : VK), Sub F H → SeesL W F H os xs → f os = .ok q → (∀ F' H' M v, New W F H q v M F' H' → Q v H') → r xs H Q
section
variable {W : Wd} {F H : Hp} {o : O} {x : V} {xs : List V}
theorem SeesL.one (s : SeesL W F H [o] xs) : ∃ v, xs = [v] ∧ Sees W F H o v := by
  obtain ⟨v, ws, rfl, h, rfl⟩ := s
  exact ⟨v, rfl, h⟩
theorem SeesL.two {p : O} (s : SeesL W F H [o, p] xs) : ∃ v w, xs = [v, w] ∧ Sees W F H o v ∧ Sees W F H p w := by
  obtain ⟨v, ws, rfl, h, w, us, rfl, g, rfl⟩ := s
  exact ⟨v, w, rfl, h, g⟩
theorem view_of_flat {d : D} (h : o.flat = some d) : o.view = d := by
  cases o with
  | sh c => cases h; rfl
  | lst ys =>
    simp only [O.flat, Option.map_eq_some_iff] at h
    obtain ⟨ds, h1, rfl⟩ := h
    have key : ∀ (ys : List O) (ds : List D), shAll ys = some ds → views ys = ds := by
      intro ys
      induction ys with
      | nil => intro ds h; cases h; rfl
      | cons y ys ih =>
        intro ds h
        cases y with
        | sh d =>
          simp only [shAll, Option.map_eq_some_iff] at h
          obtain ⟨es, e1, rfl⟩ := h
          rw [views, ih es e1]
          rfl
        | lst _ => cases h
        | ins _ _ => cases h
    rw [O.view, key ys ds h1]
  | ins c fs => cases h
/-- the items of a list that is seen -/
theorem owns_at : ∀ {ys : List O} {vs : List V} {M : List Addr}, Owns W F H ys vs M → ∀ {j : Nat} {d : D}, (views ys)[j]? = some d → ∃ v y, vs[j]? = some v ∧ Sees W F H y v ∧ y.view = d
  | [], _, _, _, j, d, e => by simp [views] at e
  | y :: ys, _, _, h, 0, d, e => by
    obtain ⟨v, ws, A, B, rfl, rfl, h2, h3⟩ := h
    simp [views] at e
    exact ⟨v, y, rfl, ⟨A, h2⟩, e⟩
  | y :: ys, _, _, h, j + 1, d, e => by
    obtain ⟨v, ws, A, B, rfl, rfl, h2, h3⟩ := h
    obtain ⟨u, z, h4, h5, h6⟩ := owns_at h3 (j := j) (d := d) (by simpa [views] using e)
    exact ⟨u, z, by simpa using h4, h5, h6⟩
def isSc : D → Bool
  | .int _ | .str _ | .bl _ | .non => true
  | _ => false
end
section
variable {X : Cx} {W : Wd}
def blId : Bl → Str
  | .len => "len" | .tuple => "tuple" | .list => "list" | .sorted => "sorted" | .sum => "sum" | .min => "min" | .max => "max" | .abs => "abs" | .int => "int"
  | .str => "str" | .bool => "bool" | .all => "all" | .any => "any" | .divmod => "divmod" | .repr => "repr"
def blV : Bl → Value
  | .len => .builtin "len" | .tuple => .type "tuple" | .list => .type "list" | .sorted => .builtin "sorted" | .sum => .builtin "sum" | .min => .builtin "min" | .max => .builtin "max"
  | .abs => .builtin "abs" | .int => .type "int" | .str => .type "str" | .bool => .type "bool" | .all => .builtin "all" | .any => .builtin "any" | .divmod => .builtin "divmod" | .repr => .builtin "repr"
theorem bl_boot (b : Bl) : bootBuiltins (blId b) = some (blV b) := by cases b <;> decide +kernel

theorem call_divmodW : CallR X (.builtin "divmod") (fun xs H Q => ∃ i j, xs = [.int i, .int j] ∧ CDivW i j ∧ NewT H [.int (i / j), .int (i % j)] Q) := by
  intro pins s σ H xs us Q I r h
  obtain ⟨i, j, rfl, ⟨h1, h2⟩, q⟩ := h
  obtain ⟨u, w', rfl, ⟨t, rfl⟩, ⟨t', rfl⟩⟩ := vals2 r
  refine PyProof.Rows.divmod_int (by omega) ?_ (.inl (PyProof.noPylong_of_log2 h2))
  rw [Int.fdiv_eq_ediv_of_nonneg i (by omega), Int.fmod_eq_emod_of_nonneg i (by omega)]
  exact laidT I (xs := [.int (i / j), .int (i % j)]) (its := [.int (i / j) s.toks, .int (i % j) (s.toks + 1)]) (.cons ⟨_, rfl⟩ (.cons ⟨_, rfl⟩ .nil)) (by simp only [List.length_cons, List.length_nil]; rw [sizeLine_eq]; decide) q _

mutual
theorem dp_noDict {K : PySem.W.Frag} {H : Hp} : ∀ (d : PyData) {x : V}, Dp K H x d → d.hasDict = false
  | .none, _, _ => rfl
  | .bool _, _, _ => rfl
  | .int _, _, _ => rfl
  | .str _, _, _ => rfl
  | .list ds, _, h => by
    cases h with
    | lst _ h2 => exact dps_noDict ds h2
  | .tuple ds, _, h => by
    cases h with
    | tup _ h2 => exact dps_noDict ds h2
  | .dict _, _, h => by cases h
theorem dps_noDict {K : PySem.W.Frag} {H : Hp} : ∀ (ds : List PyData) {xs : List V}, DpAll K H xs ds → PyData.hasDictAll ds = false
  | [], _, _ => rfl
  | d :: ds, _, h => by
    cases h with
    | cons h1 h2 => rw [PyData.hasDictAll, dp_noDict d h1, dps_noDict ds h2]; rfl
end
/-- repr of data -/
theorem call_reprD (hg : X.A.guards = some []) (hu : X.A.units + 70 < cLine) : CallR X (.builtin "repr") (fun xs H Q => ∃ x d, xs = [x] ∧ Dp X.K H x d ∧ d.showable = true ∧ d.depth ≤ 64 ∧ d.shown.length ≤ sizeLine ∧ Q (.str d.shown) H) := by
  intro pins s σ H xs us Q I r h
  obtain ⟨x, d, rfl, hd, h1, h2, h3, q⟩ := h
  obtain ⟨u, rfl, rx⟩ := vals1 r
  have nd := dp_noDict d hd
  obtain ⟨as, rd⟩ := Dp.reads I d x u hd rx
  have big : ∀ a, u = .ref a → wpAny (model X.prog X.w) X.A (call (.builtin "repr") [u]) (EP X pins σ Q) X.xe s := fun a e => by
    subst e
    exact repr_of_reads' rd h1 (PyData.noDict_hsm nd) hg (by omega) (fun _ _ e => e) (fun h' u tk hk => ⟨.str _, H, I.kept (t' := tk) hk, ⟨u, rfl⟩, q⟩) h3
  cases hd with
  | non => cases rx; exact P.repr_of_none ⟨.str _, H, I.tok _, ⟨_, rfl⟩, q⟩
  | bl b => cases rx; exact P.repr_of_bool ⟨.str _, H, I.tok _, ⟨_, rfl⟩, q⟩
  | int i =>
    obtain ⟨t, rfl⟩ := rx
    exact P.repr_of_int (of_decide_eq_true h1) ⟨.str _, H, I.tok _, ⟨_, rfl⟩, q⟩
  | str z =>
    obtain ⟨t, rfl⟩ := rx
    exact P.repr_of_str ⟨.str _, H, I.tok _, ⟨_, rfl⟩, q⟩ h3
  | lst _ _ => exact big _ rx
  | tup _ _ => exact big _ rx

theorem CallR.or {f : Value} {r r' : List V → Hp → VK → Prop} (h : CallR X f r) (g : CallR X f r') : CallR X f (fun vs H Q => r vs H Q ∨ r' vs H Q) := fun pins s σ H xs us Q I rv q => q.elim (h pins s σ H xs us Q I rv) (g pins s σ H xs us Q I rv)
theorem bl_snd (hK : X.K = W.K) (hc : X.calm = true) (hg : X.A.guards = some []) (hu : X.A.units + 70 < cLine) (b : Bl) : ∃ r, CallR X (blV b) r ∧ CallS W (blD b) r := by
  have line : (sizeLine : Nat) = 16777216 := sizeLine_eq
  cases b with
  | len =>
    refine ⟨_, call_len, ?_⟩
    intro F H os xs q Q sb s e k
    simp only [blD] at e
    split at e <;> try contradiction
    obtain ⟨v, rfl, sv⟩ := s.one
    split at e
    · rename_i ys ey
      cases e
      obtain ⟨a, vs, rfl, h2, h3, _⟩ := sv.vlst sb ey
      exact ⟨.ref a, ys.length, rfl, .inl ⟨vs, SqL.of h2, h3.symm⟩, k F H [] _ (New.sh sb rfl)⟩
    · rename_i ys ey
      cases e
      obtain ⟨a, vs, rfl, h2, h3⟩ := sv.vtup ey
      exact ⟨.ref a, ys.length, rfl, .inr ⟨vs, h2.sq sb, h3.len.symm⟩, k F H [] _ (New.sh sb rfl)⟩
    · rename_i ns ey
      cases e
      obtain ⟨a, rfl, h2⟩ := sv.varr ey
      exact ⟨.ref a, ns.length, rfl, .inl ⟨_, by rw [hK]; exact sb.sql h2, by simp⟩, k F H [] _ (New.sh sb rfl)⟩
    · rename_i z ez
      obtain ⟨h1, h2⟩ := R.need_ok e
      cases h2
      exact ⟨.str z, z.length, by rw [sv.vstr ez], ⟨by rw [line]; exact of_decide_eq_true h1, rfl⟩, k F H [] _ (New.sh sb rfl)⟩
    · cases e
  | tuple =>
    refine ⟨_, call_tupF, ?_⟩
    intro F H os xs q Q sb s e k
    simp only [blD] at e
    split at e <;> try contradiction
    obtain ⟨v, rfl, sv⟩ := s.one
    split at e
    · rename_i ys ey
      cases e
      obtain ⟨a, vs, rfl, h2, h3⟩ := sv.flst sb ey
      exact ⟨a, vs, rfl, .inl ⟨SqL.of h2, fun p o hp ho => k _ _ _ _ (New.tup sb hp ho h3)⟩⟩
    · rename_i ys ey
      cases e
      obtain ⟨a, vs, rfl, h2, h3⟩ := sv.ftup ey
      exact ⟨a, vs, rfl, .inr ⟨h2.sq sb, k F H [] _ (New.sh sb ⟨a, vs, rfl, h2, h3⟩)⟩⟩
    · cases e
  | list =>
    refine ⟨_, call_list_of, ?_⟩
    intro F H os xs q Q sb s e k
    simp only [blD] at e
    split at e <;> try contradiction
    obtain ⟨v, rfl, sv⟩ := s.one
    split at e
    · rename_i ys ey
      cases e
      obtain ⟨a, vs, rfl, h2, h3⟩ := sv.flst sb ey
      exact ⟨a, vs, rfl, .inl (SqL.of h2), fun p hp => k _ _ _ _ (New.lst sb hp h3)⟩
    · rename_i ys ey
      cases e
      obtain ⟨a, vs, rfl, h2, h3⟩ := sv.ftup ey
      exact ⟨a, vs, rfl, .inr (h2.sq sb), fun p hp => k _ _ _ _ (New.lst sb hp h3)⟩
    · cases e
  | sorted =>
    refine ⟨_, cr_sortedI, ?_⟩
    intro F H os xs q Q sb s e k
    simp only [blD] at e
    split at e <;> try contradiction
    obtain ⟨v, rfl, sv⟩ := s.one
    split at e
    · rename_i ys ey
      obtain ⟨ns, e1, e2⟩ := R.bind_ok e
      cases e2
      obtain ⟨a, vs, rfl, h2, h3, h4, _⟩ := sv.vlst sb ey
      refine ⟨a, ns, rfl, by rw [← h4 ns (intsD_some (R.of_ok e1))]; exact SqL.of h2, fun ns' p pm pw hp => ?_⟩
      have es := PySem.W.os_sorted_mergeSort pm pw
      have e3 : ((sortI ns).map fun i => O.sh (.int i)) = (ns'.map D.int).map O.sh := by
        rw [List.map_map]
        unfold sortI
        rw [← es]
        rfl
      rw [e3] at k
      exact k _ _ _ _ (New.lst sb hp (reps_of_ints ns'))
    · cases e
  | sum =>
    refine ⟨_, cr_sum hc, ?_⟩
    intro F H os xs q Q sb s e k
    simp only [blD] at e
    split at e <;> try contradiction
    obtain ⟨v, rfl, sv⟩ := s.one
    split at e
    · rename_i ys ey
      obtain ⟨ns, e1, e2⟩ := R.bind_ok e
      cases e2
      obtain ⟨a, vs, rfl, h2, h3, h4, _⟩ := sv.vlst sb ey
      exact ⟨a, ns, rfl, by rw [← h4 ns (intsD_some (R.of_ok e1))]; exact SqL.of h2, k F H [] _ (New.sh sb rfl)⟩
    · cases e
  | all =>
    refine ⟨_, cr_all hc, ?_⟩
    intro F H os xs q Q sb s e k
    simp only [blD] at e
    split at e <;> try contradiction
    obtain ⟨v, rfl, sv⟩ := s.one
    split at e
    · rename_i ys ey
      obtain ⟨ns, e1, e2⟩ := R.bind_ok e
      cases e2
      obtain ⟨a, vs, rfl, h2, h3, _, _, h4⟩ := sv.vlst sb ey
      exact ⟨a, ns, rfl, by rw [← h4 ns (blsD_some (R.of_ok e1))]; exact SqL.of h2, k F H [] _ (New.sh sb rfl)⟩
    · cases e
  | any =>
    refine ⟨_, cr_any hc, ?_⟩
    intro F H os xs q Q sb s e k
    simp only [blD] at e
    split at e <;> try contradiction
    obtain ⟨v, rfl, sv⟩ := s.one
    split at e
    · rename_i ys ey
      obtain ⟨ns, e1, e2⟩ := R.bind_ok e
      cases e2
      obtain ⟨a, vs, rfl, h2, h3, _, _, h4⟩ := sv.vlst sb ey
      exact ⟨a, ns, rfl, by rw [← h4 ns (blsD_some (R.of_ok e1))]; exact SqL.of h2, k F H [] _ (New.sh sb rfl)⟩
    · cases e
  | min =>
    refine ⟨_, CallR.or (call_min2 hc) (cr_min hc), ?_⟩
    intro F H os xs q Q sb s e k
    simp only [blD] at e
    split at e <;> try contradiction
    · obtain ⟨v, rfl, sv⟩ := s.one
      split at e
      · rename_i ys ey
        obtain ⟨ns, e1, e2⟩ := R.bind_ok e
        obtain ⟨m, e3, e2⟩ := R.bind_ok e2
        cases e2
        obtain ⟨a, vs, rfl, h2, h3, h4, _⟩ := sv.vlst sb ey
        have e4 := R.of_ok e3
        refine .inr ⟨a, ns, rfl, by rw [← h4 ns (intsD_some (R.of_ok e1))]; exact SqL.of h2, ?_, fun m' g1 g2 => ?_⟩
        · cases ns with
          | nil => cases e4
          | cons n ns => simp
        · have e5 : ns.min? = some m' := List.min?_eq_some_iff.mpr ⟨g1, g2⟩
          rw [e4] at e5
          cases e5
          exact k F H [] _ (New.sh sb rfl)
      · cases e
    · obtain ⟨v, w, rfl, s1, s2⟩ := s.two
      split at e
      · rename_i i j e1 e2
        cases e
        exact .inl ⟨i, j, by rw [s1.vint e1, s2.vint e2], k F H [] _ (New.sh sb rfl)⟩
      · cases e
  | max =>
    refine ⟨_, CallR.or (call_max2 hc) (cr_max hc), ?_⟩
    intro F H os xs q Q sb s e k
    simp only [blD] at e
    split at e <;> try contradiction
    · obtain ⟨v, rfl, sv⟩ := s.one
      split at e
      · rename_i ys ey
        obtain ⟨ns, e1, e2⟩ := R.bind_ok e
        obtain ⟨m, e3, e2⟩ := R.bind_ok e2
        cases e2
        obtain ⟨a, vs, rfl, h2, h3, h4, _⟩ := sv.vlst sb ey
        have e4 := R.of_ok e3
        refine .inr ⟨a, ns, rfl, by rw [← h4 ns (intsD_some (R.of_ok e1))]; exact SqL.of h2, ?_, fun m' g1 g2 => ?_⟩
        · cases ns with
          | nil => cases e4
          | cons n ns => simp
        · have e5 : ns.max? = some m' := List.max?_eq_some_iff.mpr ⟨g1, g2⟩
          rw [e4] at e5
          cases e5
          exact k F H [] _ (New.sh sb rfl)
      · cases e
    · obtain ⟨v, w, rfl, s1, s2⟩ := s.two
      split at e
      · rename_i i j e1 e2
        cases e
        exact .inl ⟨i, j, by rw [s1.vint e1, s2.vint e2], k F H [] _ (New.sh sb rfl)⟩
      · cases e
  | abs =>
    refine ⟨_, call_abs, ?_⟩
    intro F H os xs q Q sb s e k
    simp only [blD] at e
    split at e <;> try contradiction
    obtain ⟨v, rfl, sv⟩ := s.one
    split at e
    · rename_i i e1
      cases e
      exact ⟨i, by rw [sv.vint e1], k F H [] _ (New.sh sb rfl)⟩
    · cases e
  | int =>
    refine ⟨_, CallR.or call_int1 call_int_str, ?_⟩
    intro F H os xs q Q sb s e k
    simp only [blD] at e
    split at e <;> try contradiction
    obtain ⟨v, rfl, sv⟩ := s.one
    split at e
    · rename_i i e1
      cases e
      exact .inl (.inl ⟨i, by rw [sv.vint e1], k F H [] _ (New.sh sb rfl)⟩)
    · rename_i i e1
      cases e
      exact .inl (.inr ⟨i, by rw [sv.vbl e1], k F H [] _ (New.sh sb rfl)⟩)
    · rename_i z e1
      obtain ⟨h1, h2⟩ := R.need_ok e
      obtain ⟨n, e2, e3⟩ := R.bind_ok h2
      cases e3
      exact .inr ⟨z, n, by rw [sv.vstr e1], R.of_ok e2, of_decide_eq_true h1, k F H [] _ (New.sh sb rfl)⟩
    · cases e
  | str =>
    refine ⟨_, CallR.or call_str_int SkE.call_str_str, ?_⟩
    intro F H os xs q Q sb s e k
    simp only [blD] at e
    split at e <;> try contradiction
    obtain ⟨v, rfl, sv⟩ := s.one
    split at e
    · rename_i i e1
      obtain ⟨h1, h2⟩ := R.need_ok e
      cases h2
      exact .inl ⟨i, by rw [sv.vint e1], of_decide_eq_true h1, k F H [] _ (New.sh sb rfl)⟩
    · rename_i z e1
      cases e
      exact .inr ⟨z, by rw [sv.vstr e1], k F H [] _ (New.sh sb rfl)⟩
    · cases e
  | bool =>
    refine ⟨_, call_bool1, ?_⟩
    intro F H os xs q Q sb s e k
    simp only [blD] at e
    cases e
  | divmod =>
    refine ⟨_, call_divmodW, ?_⟩
    intro F H os xs q Q sb s e k
    simp only [blD] at e
    split at e <;> try contradiction
    obtain ⟨v, w, rfl, s1, s2⟩ := s.two
    split at e
    · rename_i i j e1 e2
      obtain ⟨h1, h2⟩ := R.need_ok e
      cases h2
      simp only [divOk, Bool.and_eq_true, decide_eq_true_eq] at h1
      refine ⟨i, j, by rw [s1.vint e1, s2.vint e2], h1, fun p o hp ho => k _ _ _ _ (New.tup sb hp ho ?_)⟩
      exact ⟨_, _, rfl, rfl, _, _, rfl, rfl, rfl⟩
    · cases e
  | repr =>
    refine ⟨_, call_reprD hg hu, ?_⟩
    intro F H os xs q Q sb s e k
    simp only [blD] at e
    split at e <;> try contradiction
    obtain ⟨v, rfl, sv⟩ := s.one
    obtain ⟨z, e1, e2⟩ := R.bind_ok e
    cases e2
    obtain ⟨p, e3, e4⟩ := R.bind_ok e1
    obtain ⟨h1, h2⟩ := R.need_ok e4
    cases h2
    simp only [Bool.and_eq_true, decide_eq_true_eq] at h1
    rw [hK]
    exact ⟨v, p, rfl, sv.dp sb (R.of_ok e3), h1.1.1, h1.1.2, by rw [line]; exact h1.2, k F H [] _ (New.sh sb rfl)⟩

/-! ### subscripts, slices -/
theorem ix_snd (hK : X.K = W.K) : IxR X (rIx X.K) ∧ OpS W (fun x y => do let d ← ixD x.view y.view; R.need (match x.flat with | some _ => true | none => match d with | .int _ | .str _ | .bl _ | .non => true | _ => false) (pure (.sh d))) (rIx X.K) := by
  refine ⟨ix_seq, ?_⟩
  have line : (sizeLine : Nat) = 16777216 := sizeLine_eq
  intro F H a b x y q Q sb s1 s2 e k
  obtain ⟨d, e1, e2⟩ := R.bind_ok e
  obtain ⟨h1, h2⟩ := R.need_ok e2
  cases h2
  unfold ixD at e1
  split at e1
  · rename_i xs i ea eb
    have e1 := R.of_ok e1
    cases hf : a.flat with
    | some d' =>
      have z := view_of_flat hf
      rw [ea] at z
      subst z
      obtain ⟨p, vs, rfl, h3, h4⟩ := s1.flst sb hf
      obtain ⟨v, h5, h6⟩ := h4.at e1
      exact .inl ⟨p, vs, i, v, rfl, s2.vint eb, SqL.of h3, h5, k F H [] _ (New.sh sb h6)⟩
    | none =>
      rw [hf] at h1
      obtain ⟨M, g⟩ := s1
      cases a with
      | sh c => cases hf
      | lst ys =>
        have e' : views ys = xs := by
          simp only [O.view] at ea
          injection ea
        obtain ⟨p, vs, M', rfl, h3, _, h4⟩ := g
        subst e'
        have hl := h4.len
        unfold atI at e1
        rw [views_map, List.length_map, ← hl, ← views_map] at e1
        cases hj : ixN vs.length i with
        | none => rw [hj] at e1; cases e1
        | some j =>
          rw [hj] at e1
          obtain ⟨v, z, h5, h6, h7⟩ := owns_at h4 (j := j) (d := d) e1
          have h8 : Rep W F d v := by
            obtain ⟨M2, g2⟩ := h6
            exact g2.view_sh h7 (fun xs z => by rw [z] at h1; cases h1) fun c fs z => by rw [z] at h1; cases h1
          exact .inl ⟨p, vs, i, v, rfl, s2.vint eb, SqL.of h3, by unfold atI; rw [hj]; exact h5, k F H [] _ (New.sh sb h8)⟩
      | ins c fs => cases ea
  · rename_i ns i ea eb
    obtain ⟨n, e3, e4⟩ := R.bind_ok e1
    cases e4
    have e3 := R.of_ok e3
    obtain ⟨p, rfl, h2⟩ := s1.varr ea
    refine .inl ⟨p, _, i, .int n, rfl, s2.vint eb, by rw [hK]; exact sb.sql h2, ?_, k F H [] _ (New.sh sb rfl)⟩
    unfold atI at e3 ⊢
    rw [List.length_map]
    cases hj : ixN ns.length i with
    | none => rw [hj] at e3; cases e3
    | some j =>
      rw [hj] at e3
      have e3 : ns[j]? = some n := e3
      show (ns.map V.int)[j]? = some (V.int n)
      rw [List.getElem?_map, e3]
      rfl
  · rename_i xs i ea eb
    have e1 := R.of_ok e1
    obtain ⟨p, vs, rfl, h3, h4⟩ := s1.vtup ea
    obtain ⟨v, h5, h6⟩ := h4.at e1
    exact .inr (.inl ⟨p, vs, i, v, rfl, s2.vint eb, h3.sq sb, h5, k F H [] _ (New.sh sb h6)⟩)
  · rename_i z i ea eb
    obtain ⟨h3, h4⟩ := R.need_ok e1
    obtain ⟨c, e3, e4⟩ := R.bind_ok h4
    cases e4
    exact .inr (.inr ⟨z, i, c, s1.vstr ea, s2.vint eb, by rw [line]; exact of_decide_eq_true h3, R.of_ok e3, k F H [] _ (New.sh sb rfl)⟩)
  · cases e1
/-- a slice is served -/
def SlS (W : Wd) (r : V → Option Int → Option Int → Hp → VK → Prop) : Prop := ∀ (F H : Hp) (o : O) (x : V) (lo hi : Option Int) (q : O) (Q : VK), Sub F H → Sees W F H o x → slD o lo hi = .ok q → (∀ F' H' M v, New W F H q v M F' H' → Q v H') → r x lo hi H Q
theorem cut_whole {α : Type} {xs : List α} {lo hi : Option Int} (h : HT.sIx xs.length 0 lo = 0 ∧ HT.sIx xs.length xs.length hi = xs.length) : cut xs lo hi = xs := by
  unfold cut
  rw [h.1, h.2]
  simp
theorem sl_snd (hK : X.K = W.K) : ∃ r, SlR X r ∧ SlS W r := by
  have line : (sizeLine : Nat) = 16777216 := sizeLine_eq
  refine ⟨_, SlR.or sl_list (SlR.or sl_tupF sl_str), ?_⟩
  intro F H a x lo hi q Q sb s e k
  unfold slD at e
  split at e
  · rename_i xs ea
    cases e
    obtain ⟨p, vs, rfl, h3, h4⟩ := s.flst sb ea
    exact .inl ⟨p, vs, rfl, SqL.of h3, fun p hp => k _ _ _ _ (New.lst sb hp (h4.cut lo hi))⟩
  · rename_i xs ea
    cases e
    obtain ⟨p, vs, rfl, h3, h4⟩ := s.ftup ea
    refine .inr (.inl ⟨p, vs, rfl, h3.sq sb, fun hw => ?_, fun _ p o hp ho => k _ _ _ _ (New.tup sb hp ho (h4.cut lo hi))⟩)
    rw [h4.len] at hw
    rw [cut_whole hw] at k
    exact k F H [] _ (New.sh sb ⟨p, vs, rfl, h3, h4⟩)
  · rename_i z ea
    obtain ⟨h1, h2⟩ := R.need_ok e
    cases h2
    exact .inr (.inr ⟨z, s.str ea, by rw [line]; exact of_decide_eq_true h1, k F H [] _ (New.sh sb rfl)⟩)
  · rename_i ns ea
    cases e
    obtain ⟨M, own⟩ := s
    obtain ⟨p, rfl, h3⟩ := own.flat_sh ea (fun xs z => by cases z)
    exact .inl ⟨p, ns.map V.int, rfl, by rw [hK]; exact sb.sql h3, fun p hp => k _ _ _ _ (New.lst sb hp ((reps_of_ints ns).cut lo hi))⟩
  · cases e

/-! ### methods that only read -/
def mtId : Mt → String
  | .join => "str.join"
  | .split => "str.split"
def mtNm : Mt → Str
  | .join => "join"
  | .split => "split"
theorem mt_snd (hK : X.K = W.K) (m : Mt) : ∃ r, MtR X (mtId m) r ∧ OpS W (mtD m) (fun x y H Q => r x [y] H Q) := by
  have line : (sizeLine : Nat) = 16777216 := sizeLine_eq
  cases m with
  | join =>
    refine ⟨_, mt_join, ?_⟩
    intro F H a b x y q Q sb s1 s2 e k
    simp only [mtD] at e
    split at e
    · rename_i z xs e1 e2
      obtain ⟨ys, e3, e4⟩ := R.bind_ok e
      obtain ⟨h1, h2⟩ := R.need_ok e4
      cases h2
      obtain ⟨p, vs, rfl, h3, _, _, h4, _⟩ := s2.vlst sb e2
      exact ⟨z, p, ys, s1.vstr e1, rfl, .inl (by rw [← h4 ys (strsD_some (R.of_ok e3))]; exact SqL.of h3), of_decide_eq_true h1, k F H [] _ (New.sh sb rfl)⟩
    · cases e
  | split =>
    refine ⟨_, mt_split, ?_⟩
    intro F H a b x y q Q sb s1 s2 e k
    simp only [mtD] at e
    split at e
    · rename_i z t e1 e2
      obtain ⟨h1, h2⟩ := R.need_ok e
      cases h2
      simp only [Bool.and_eq_true, decide_eq_true_eq, Bool.not_eq_true'] at h1
      refine ⟨z, t, s1.vstr e1, by rw [s2.vstr e2], h1.1, by rw [line]; exact h1.2, fun p hp => ?_⟩
      have e3 : ((Txt.split z t).map fun z => O.sh (.str z)) = ((Txt.split z t).map D.str).map O.sh := by rw [List.map_map]; rfl
      rw [e3] at k
      exact k _ _ _ _ (New.lst sb hp (reps_of_strs _))
    · cases e
end
end MP

set_option Elab.async false
set_option linter.all false
/-! Snd4: defs and their calls, where nothing is being shown (guards) around. -/
namespace MP
open PySem PySem.Spec PyProof.Rows L2
/-- a def keeps its promise, called where no repr runs -/
structure FnG (P : Program) (w : World) (K : PySem.W.Frag) (mg : Str → Option Value) (base : Heap) (k : Nat) (f : Addr) (fd : FuncData) (ps : List Str) (sp : Sp) : Prop where
  len : ∀ vs H Q E, sp vs H Q E → vs.length = ps.length
  run : ∀ (A : Around) (outer : List Env) (s : Shared) (H : Hp) (args : Args) (us : List Value) (vs : List V) (Q : VK) (E : XK), Room k A → A.guards = some [] → Env0 P w K mg base A outer s H →
    BindsTo s fd args (ps.zip us) → Vals vs us → sp vs H Q E → codeAny (model P w) A (.call (.ref f) args) (CR CX0 outer P w H s Q E) s
theorem fng_of {P : Program} {w : World} {K : PySem.W.Frag} {mg : Str → Option Value} {base : Heap} {x qual : Str} {st : Stmt} {f : Addr} {fd : FuncData} {N ps : List Str} {k : Nat} {sp : Sp} (F : Fun K x qual st f fd) (S : FnScope N ps (defScope st))
    (len : ∀ vs H Q E, sp vs H Q E → vs.length = ps.length)
    (hbody : ∀ (cdv : Value) (A : Around) (outer : List Env) (s : Shared) (H : Hp) (vs : List V) (Q : VK) (E : XK), Room k (A.deeper (PyProof.Rows.envOfC qual (defScope st) s.heap.objs.size f cdv)) → A.guards = some [] → sp vs H Q E →
      ∃ t, PSs (cxOf CX0 P w K mg base N qual (defScope st) f cdv A outer s H E) (defBody st) t ∧ t { nx := fun _ H' => Q .non H', rt := Q } (start N vs) H) : FnG P w K mg base (k + 1) f fd ps sp := by
  obtain ⟨oc, od, kV, doc, pm, an, cdv, ct, osl, rfl, lk, hcd⟩ := F.ex
  constructor
  · exact len
  intro A outer s H args us vs Q E hr hgd e0 hb r hsp
  have hl := len _ _ _ _ hsp
  have inBase : ∀ b o, base.get? b = some o → s.heap.get? b = some o := fun b o e => (e0.bs b o e).1
  have KX : K.In s.heap := e0.mod.kin.keeps inBase
  have lim := e0.mod.nolimit.keeps inBase
  have cellOr : ∀ y ∈ ps.zip us, (defScope st).names.lookup y.1 = some .local ∨ ((defScope st).names.lookup y.1 = some .cell ∧ ((cellsFrom (s.heap.objs.size + 1) (defScope st).names []).lookup y.1).isSome = true) := by
    rintro ⟨n, v⟩ hy
    cases S.par n (List.of_mem_zip hy).1 with
    | inl q => exact Or.inl q
    | inr q => exact Or.inr ⟨q, PySem.W.cellsFrom_some _ _ _ (Or.inl q)⟩
  refine codeAny_call_function hr.depth (KX _ _ lk) rfl S.co S.gen rfl (PySem.W.codeRec_of KX hcd) (hb _ _ _ _ (wpAny_newFunctionEnv_cells S.kind cellOr fun env he s1 x => ?_))
  subst he
  refine ⟨lim.keeps x.toInCall.keep, codeAny_func ?_⟩
  obtain ⟨t, ht, hq⟩ := hbody cdv A outer s H vs Q E (hr.deeper _) hgd hsp
  have I := inv_start (CX := CX0) (mg := mg) (E := E) (f := f) (cd := cdv) (qual := qual) S hr.hd e0 hl r x
  refine wpAny_mono (ht.run [] s1 (start N vs) H _ I hq) (fun fl s' hs => ?_) fun e s' hs => hs
  cases fl with
  | ret u => obtain ⟨v, σ', H', J, rv, q⟩ := hs; exact ⟨v, H', J.os, J.bare, J.base, J.hok, rv, q⟩
  | next => obtain ⟨σ', H', J, q⟩ := hs; exact ⟨.non, H', J.os, J.bare, J.base, J.hok, rfl, q⟩
  | brk => exact False.elim hs.choose_spec.choose_spec.2
  | cont => exact False.elim hs.choose_spec.choose_spec.2

section
variable {X : Cx} {k : Nat} {f : Addr} {fd : FuncData} {ps : List Str} {sp : Sp} {x : Str} {p pos : Pos} {e : Expr} {es : List Expr} {t : TA}
theorem run_fng {pins : List (Addr × Obj)} {σ : L2.St} {H : Hp} {s : Shared} {Q : VK} {us : List Value} {vs : List V} {kw : List (Str × Value)} {args : List Value} (F : FnG X.prog X.w X.K X.mg X.base k f fd ps sp) (hr : Room k X.A) (hg : X.A.guards = some [])
    (I : Inv X pins σ H s) (hb : BindsTo s fd ⟨args, kw⟩ (ps.zip us)) (r : Vals vs us) (h : sp vs H Q fun _ _ _ => False) : wpAny (model X.prog X.w) X.A (call (.ref f) args kw) (EP X pins σ Q) X.xe s := by
  refine wpAny_call (codeAny_mono (F.run X.A X.stack s H ⟨args, kw⟩ us vs Q _ hr hg I.env0 hb r h) ?_)
  intro r s' hq
  cases r with
  | error e => exact False.elim hq
  | ok fl =>
    cases fl with
    | ret u => exact I.after hq
    | next => exact False.elim hq
    | brk => exact False.elim hq
    | cont => exact False.elim hq
/-- f(a, ..) -/
def tCl (sp : Sp) (t : TA) : TE := fun σ H Q => t σ H fun vs H1 => sp vs H1 Q fun _ _ _ => False
theorem pe_cl (F : FnG X.prog X.w X.K X.mg X.base k f fd ps sp) (hr : Room k X.A) (hg : X.A.guards = some []) (gl : Gl X x) (hm : X.mg x = some (.ref f)) (hk : PySem.W.keepIn X.K (.ref f) = true)
    (hb : ∀ us : List Value, us.length = ps.length → bindArgs fd ⟨us, []⟩ = pure (ps.zip us)) (ha : PA X (e :: es) t) (hdb : (x == ("__debug__" : Str)) = false)
    (he : starEach (e :: es) X.env = (false, eval e X.env) :: starEach es X.env) (hpl : (backTo pos (starEach es X.env)).any (·.1) = false) : PE X (.Call (.Name x p) (e :: es) [] pos) (tCl sp t) := by
  constructor
  intro pins s σ H Q I h
  refine wpAny_Call_Name_kw (ld_glob I gl hm (PySem.W.callWith_K (h₀ := X.base) I.ok.mod.kin hk (thn (ha.run pos pins s σ H _ I h) ?_) he hpl) hdb)
  rintro us s1 ⟨vs, H1, I1, r, q⟩
  exact ⟨I1.kIn, run_fng F hr hg I1 (.of_eq (hb us (by rw [← r.length]; exact F.len _ _ _ _ q))) r q⟩
theorem pe_cl0 (F : FnG X.prog X.w X.K X.mg X.base k f fd ps sp) (hr : Room k X.A) (hg : X.A.guards = some []) (gl : Gl X x) (hm : X.mg x = some (.ref f)) (hk : PySem.W.keepIn X.K (.ref f) = true)
    (hb : ∀ us : List Value, us.length = ps.length → bindArgs fd ⟨us, []⟩ = pure (ps.zip us)) (hdb : (x == ("__debug__" : Str)) = false) : PE X (.Call (.Name x p) [] [] pos) (tCl sp tNil) := by
  constructor
  intro pins s σ H Q I h
  have h : sp [] H Q _ := h
  exact wpAny_Call_Name_kw (ld_glob I gl hm (PySem.W.callWith_K0 I.kIn hk (run_fng (us := []) F hr hg I (.of_eq (hb [] (F.len _ _ _ _ h))) .nil h)) hdb)
end
end MP

set_option Elab.async false
set_option linter.all false
/-! Snd5: what is lent to a callee, and what comes back. -/
namespace MP
open PySem L2
section
variable {W : Wd} {F H : Hp} {e : En} {σ : St} {L : List Addr}
/-- a slot is emptied: what it owned is apart -/
theorem Ok.empty {i : Nat} {o : O} (k : Ok W F H e σ L) (g : e.get i = .ok o) : ∃ v M R, σ[i]? = some (some v) ∧ Own W F H o v M ∧ Ok W F H (e.set i none) σ R ∧ (M ++ R).Nodup ∧ (∀ a ∈ M, F a = none) ∧ (∀ a, a ∈ L ↔ a ∈ M ∨ a ∈ R) := by
  obtain ⟨v, A, M, B, e1, e2, h, up⟩ := k.en.slot g
  have nd := k.nd
  rw [e2] at nd
  have nd1 : (A ++ B).Nodup := by
    rw [List.append_assoc] at nd
    have := List.nodup_append.mp nd
    have h2 := List.nodup_append.mp this.2.1
    exact List.nodup_append.mpr ⟨this.1, h2.2.1, fun a ha b hb => this.2.2 a ha b (List.mem_append_right _ hb)⟩
  have nd2 : (M ++ (A ++ B)).Nodup := by
    rw [List.append_assoc] at nd
    have := List.nodup_append.mp nd
    have h2 := List.nodup_append.mp this.2.1
    refine nodup_app h2.1 nd1 fun x hx hy => ?_
    rcases List.mem_append.mp hy with hy | hy
    · exact this.2.2 x hy x (List.mem_append_left _ hx) rfl
    · exact h2.2.2 x hx x hy rfl
  have u := up F H none (some v) [] (Sub.refl F) (fun _ _ _ h => h) rfl
  rw [set_self e1] at u
  refine ⟨v, M, A ++ B, e1, h, ⟨k.sub, nd1, fun a ha => k.dj a ?_, by simpa using u⟩, nd2, fun a ha => k.dj a (by rw [e2]; simp [ha]), fun a => ?_⟩
  · rw [e2]
    rcases List.mem_append.mp ha with ha | ha <;> simp [ha]
  · rw [e2]
    simp only [List.mem_append]
    constructor
    · rintro ((h | h) | h)
      · exact .inr (.inl h)
      · exact .inl h
      · exact .inr (.inr h)
    · rintro (h | h | h)
      · exact .inl (.inr h)
      · exact .inl (.inl h)
      · exact .inr h
/-- a slot is filled -/
theorem Ok.fill {i : Nat} {o : O} {v : V} {M : List Addr} (k : Ok W F H e σ L) (hs : σ[i]? = some (some v)) (h : Own W F H o v M) (nd : (M ++ L).Nodup) (dj : ∀ a ∈ M, F a = none) :
    ∃ R, Ok W F H (e.set i (some o)) σ R ∧ ∀ a ∈ R, a ∈ M ∨ a ∈ L := by
  have hi : i < e.length := by
    rw [← k.en.len]
    exact (List.getElem?_eq_some_iff.mp hs).1
  obtain ⟨x, s, A, N, B, e1, e2, e3, h1, up⟩ := k.en.at hi
  rw [hs] at e2
  cases e2
  have u := up F H (some o) (some v) M (Sub.refl F) (fun _ _ _ h => h) ⟨v, rfl, h⟩
  rw [set_self hs] at u
  rw [e3] at nd
  have m : ∀ a ∈ A ++ M ++ B, a ∈ M ∨ a ∈ L := fun a ha => by
    rw [e3]
    simp only [List.mem_append] at ha ⊢
    rcases ha with (h | h) | h
    · exact .inr (.inl (.inl h))
    · exact .inl h
    · exact .inr (.inr h)
  refine ⟨A ++ M ++ B, ⟨k.sub, ?_, fun a ha => ?_, u⟩, m⟩
  · have kn := k.nd
    rw [e3] at kn
    have hd := nodup_d nd
    have n1 := List.nodup_append.mp kn
    have n2 := List.nodup_append.mp n1.1
    refine nodup_app (nodup_app n2.1 (nodup_l nd) fun x hx hy => hd x hy (by simp [hx])) n1.2.1 fun x hx hy => ?_
    rcases List.mem_append.mp hx with hx | hx
    · exact n1.2.2 x (List.mem_append_left _ hx) x hy rfl
    · exact hd x hx (by simp [hy])
  · rcases m a ha with z | z
    · exact dj a z
    · exact k.dj a z
/-- a slot's value is shared from now on -/
theorem Ok.freeze {i : Nat} {o : O} (k : Ok W F H e σ L) (g : e.get i = .ok o) (n : noIns o = true) : ∃ v F' R, σ[i]? = some (some v) ∧ Rep W F' o.view v ∧ Ok W F' H (e.set i (some (.sh o.view))) σ R ∧ Sub F F' ∧
    (∀ a o, F' a = some o → F a = some o ∨ a ∈ L) ∧ (∀ a ∈ R, a ∈ L) := by
  obtain ⟨v, M, R, e1, h, k2, nd, dj, m⟩ := k.empty g
  have hr : Rep W (frz F H M) o.view v := Own.frz (L0 := M) dj h n fun a ha => ha
  have sb := frz_sub (H := H) dj
  have k3 : Ok W (frz F H M) H (e.set i none) σ R := ⟨frz_in k.sub, k2.nd, fun a ha => by
    unfold frz
    rw [if_neg fun z => nodup_d nd a z ha]
    exact k2.dj a ha, k2.en.keep sb fun _ _ _ h => h⟩
  obtain ⟨R', k4, m4⟩ := k3.fill (M := []) (o := .sh o.view) e1 ⟨rfl, hr⟩ (by simpa using k3.nd) fun a h => (by cases h)
  rw [List.set_set] at k4
  refine ⟨v, frz F H M, R', e1, hr, k4, sb, fun a o q => ?_, fun a ha => ?_⟩
  · rcases frz_from q with z | z
    · exact .inl z
    · exact .inr ((m a).mpr (.inl z))
  · rcases m4 a ha with z | z
    · cases z
    · exact (m a).mpr (.inr z)
/-- .. as a step -/
theorem stp_frz {F' : Hp} {R : List Addr} (sb : Sub F F') (h : ∀ a o, F' a = some o → F a = some o ∨ a ∈ L) (m : ∀ a ∈ R, a ∈ L) : Stp F H L F' H R :=
  ⟨sb, fun _ _ e _ => e, fun a ha => .inl (m a ha), fun a o e => by
    rcases h a o e with z | z
    · exact .inl z
    · exact .inr (.inl z)⟩
/-- the value of a slot, taken -/
theorem take_ok {i : Nat} {o : O} {e' : En} (k : Ok W F H e σ L) (h : take i e = .ok (o, e')) : ∃ v F' R, σ[i]? = some (some v) ∧ Stp F H L F' H R ∧ Ok W F' H e' σ R ∧ Own W F' H o v [] := by
  obtain ⟨p, h1, h2⟩ := R.bind_ok h
  cases p with
  | sh d =>
    cases h2
    obtain ⟨v, A, M, B, e1, e2, h3, _⟩ := k.en.slot h1
    exact ⟨v, F, L, e1, Stp.refl, k, rfl, h3.2⟩
  | lst xs =>
    obtain ⟨h3, h4⟩ := R.need_ok h2
    cases h4
    obtain ⟨v, F', R', e1, hr, k', sb, hf, m⟩ := k.freeze h1 h3
    exact ⟨v, F', R', e1, stp_frz sb hf m, k', rfl, hr⟩
  | ins c fs =>
    obtain ⟨h3, h4⟩ := R.need_ok h2
    cases h3
/-- arguments that are lent -/
theorem lend_ok (asg : List Nat) : ∀ (as : List AV) (k : Nat) (F : Hp) (e : En) (L M : List Addr) (vs : List V) (os : List O) (e' : En), Ok W F H e σ L → OwnsA W F H σ as vs M → (M ++ L).Nodup → (∀ a ∈ M, F a = none) → lend asg k as e = .ok (os, e') →
    ∃ F' C R, Ok W F' H e' σ R ∧ Owns W F' H os vs C ∧ (C ++ R).Nodup ∧ (∀ a ∈ C, F' a = none) ∧ Stp F H (M ++ L) F' H (C ++ R)
  | [], k, F, e, L, M, vs, os, e', ok, ho, nd, dj, h => by
    cases h
    obtain ⟨rfl, rfl⟩ := ho
    exact ⟨F, [], L, ok, ⟨rfl, rfl⟩, by simpa using ok.nd, fun a h => (by cases h), Stp.refl⟩
  | .val o :: as, k, F, e, L, M, vs, os, e', ok, ho, nd, dj, h => by
    obtain ⟨⟨os1, e1⟩, h1, h2⟩ := R.bind_ok h
    cases h2
    obtain ⟨v, ws, A, B, rfl, rfl, ho1, ho2⟩ := ho
    have ndB : (B ++ L).Nodup := by
      rw [List.append_assoc] at nd
      exact (List.nodup_append.mp nd).2.1
    have dA : ∀ x ∈ A, x ∉ B ++ L := by
      rw [List.append_assoc] at nd
      exact nodup_d nd
    obtain ⟨F', C, R, ok', ho', nd', dj', st⟩ := lend_ok asg as (k + 1) F e L B ws os1 e' ok ho2 ndB (fun a ha => dj a (List.mem_append_right _ ha)) h1
    refine ⟨F', A ++ C, R, ok', ⟨v, ws, A, C, rfl, rfl, ho1.keep st.fs fun _ _ _ h => h, ho'⟩, ?_, fun a ha => ?_, ?_⟩
    · rw [List.append_assoc]
      refine nodup_app (nodup_l (nodup_l nd)) nd' ?_
      exact st.apart dA fun a ha => ho1.def_ a ha
    · rcases List.mem_append.mp ha with ha | ha
      · exact st.unsh dA (fun a ha => ho1.def_ a ha) (fun a ha => dj a (List.mem_append_left _ ha)) a ha
      · exact dj' a ha
    · refine st.mono (fun x hx => ?_) fun x hx => ?_
      · rcases List.mem_append.mp hx with hx | hx <;> simp [hx]
      · rw [List.append_assoc] at hx
        rcases List.mem_append.mp hx with hx | hx
        · exact .inr (.inl (by simp [hx]))
        · exact .inl hx
  | .at i :: as, k, F, e, L, M, vs, os, e', ok, ho, nd, dj, h => by
    obtain ⟨o, h1, h2⟩ := R.bind_ok h
    obtain ⟨v, ws, rfl, es, ho2⟩ := ho
    split at h2
    · obtain ⟨hn, h2⟩ := R.need_ok h2
      obtain ⟨⟨os1, e1⟩, h3, h4⟩ := R.bind_ok h2
      cases h4
      obtain ⟨v', F1, R1, e2, hr, k1, sb, hf, m⟩ := ok.freeze h1 hn
      rw [es] at e2
      cases e2
      have own : OwnsA W F1 H σ as ws M := by
        have key : ∀ (as : List AV) (ws : List V) (M : List Addr), OwnsA W F H σ as ws M → OwnsA W F1 H σ as ws M := by
          intro as
          induction as with
          | nil => intro ws M h; exact h
          | cons a as ih =>
            intro ws M h
            cases a with
            | val o => obtain ⟨v, us, A, B, rfl, rfl, h3, h4⟩ := h; exact ⟨v, us, A, B, rfl, rfl, h3.keep sb fun _ _ _ h => h, ih _ _ h4⟩
            | «at» j => obtain ⟨v, us, rfl, h3, h4⟩ := h; exact ⟨v, us, rfl, h3, ih _ _ h4⟩
        exact key as ws M ho2
      obtain ⟨F', C, R', ok', ho', nd', dj', st⟩ := lend_ok asg as (k + 1) F1 _ R1 M ws os1 e' k1 own (nodup_app (nodup_l nd) k1.nd fun x hx hy => nodup_d nd x hx (m x hy)) (fun a ha => by
        cases q : F1 a with
        | none => rfl
        | some o =>
          rcases hf a o q with z | z
          · rw [dj a ha] at z; cases z
          · exact (nodup_d nd a ha z).elim) h3
      refine ⟨F', C, R', ok', ⟨v, ws, [], C, rfl, rfl, ⟨rfl, hr.mono st.fs⟩, ho'⟩, nd', dj', ?_⟩
      refine Stp.trans ?_ st
      refine ⟨sb, fun _ _ e _ => e, fun a ha => .inl ?_, fun a o q => ?_⟩
      · rcases List.mem_append.mp ha with ha | ha
        · simp [ha]
        · simp [m a ha]
      · rcases hf a o q with z | z
        · exact .inl z
        · exact .inr (.inl (by simp [z]))
    · obtain ⟨⟨os1, e1⟩, h3, h4⟩ := R.bind_ok h2
      cases h4
      obtain ⟨v', N, R1, e2, ho1, k1, nd1, dj1, m⟩ := ok.empty h1
      rw [es] at e2
      cases e2
      obtain ⟨F', C, R', ok', ho', nd', dj', st⟩ := lend_ok asg as (k + 1) F _ R1 M ws os1 e' k1 ho2 (nodup_app (nodup_l nd) k1.nd fun x hx hy => nodup_d nd x hx ((m x).mpr (.inr hy))) dj h3
      have dN : ∀ x ∈ N, x ∉ M ++ R1 := fun x hx hy => by
        rcases List.mem_append.mp hy with hy | hy
        · exact nodup_d nd x hy ((m x).mpr (.inl hx))
        · exact nodup_d nd1 x hx hy
      refine ⟨F', N ++ C, R', ok', ⟨v, ws, N, C, rfl, rfl, ho1.keep st.fs fun _ _ _ h => h, ho'⟩, ?_, fun a ha => ?_, ?_⟩
      · rw [List.append_assoc]
        exact nodup_app (nodup_l nd1) nd' (st.apart dN fun a ha => ho1.def_ a ha)
      · rcases List.mem_append.mp ha with ha | ha
        · exact st.unsh dN (fun a ha => ho1.def_ a ha) dj1 a ha
        · exact dj' a ha
      · refine st.mono (fun x hx => ?_) fun x hx => ?_
        · rcases List.mem_append.mp hx with hx | hx
          · simp [hx]
          · exact List.mem_append_right _ ((m x).mpr (.inr hx))
        · rw [List.append_assoc] at hx
          rcases List.mem_append.mp hx with hx | hx
          · exact .inr (.inl (List.mem_append_right _ ((m x).mpr (.inl hx))))
          · exact .inl hx
/-- which slots the arguments are -/
def Slots (σ : St) : List AV → List V → Prop
  | [], _ => True
  | .at i :: as, v :: vs => σ[i]? = some (some v) ∧ Slots σ as vs
  | .val _ :: as, _ :: vs => Slots σ as vs
  | _ :: _, [] => False
theorem OwnsA.slots : ∀ {as : List AV} {vs : List V} {M : List Addr}, OwnsA W F H σ as vs M → Slots σ as vs
  | [], _, _, _ => trivial
  | .val o :: as, _, _, h => by obtain ⟨v, ws, A, B, rfl, rfl, h3, h4⟩ := h; exact h4.slots
  | .at i :: as, _, _, h => by obtain ⟨v, ws, rfl, h3, h4⟩ := h; exact ⟨h3, h4.slots⟩
theorem giveBack_ok (asg : List Nat) : ∀ (as : List AV) (k : Nat) (e : En) (L C : List Addr) (vs : List V) (os : List O), Ok W F H e σ L → Slots σ as vs → Owns W F H os vs C → (C ++ L).Nodup → (∀ a ∈ C, F a = none) →
    ∃ R, Ok W F H (giveBack asg k as os e) σ R ∧ ∀ a ∈ R, a ∈ C ∨ a ∈ L
  | [], k, e, L, C, vs, os, ok, _, _, _, _ => ⟨L, by cases os <;> exact ok, fun a h => .inr h⟩
  | .val o :: as, k, e, L, C, [], os, ok, hs, _, _, _ => hs.elim
  | .at i :: as, k, e, L, C, [], os, ok, hs, _, _, _ => hs.elim
  | .val o :: as, k, e, L, C, v :: vs, [], ok, _, h, _, _ => by cases h.1
  | .at i :: as, k, e, L, C, v :: vs, [], ok, _, h, _, _ => by cases h.1
  | .val o :: as, k, e, L, C, v :: vs, p :: os, ok, hs, h, nd, dj => by
    obtain ⟨u, ws, A, B, e1, rfl, h1, h2⟩ := h
    cases e1
    have ndB : (B ++ L).Nodup := by rw [List.append_assoc] at nd; exact (List.nodup_append.mp nd).2.1
    obtain ⟨R, k1, m⟩ := giveBack_ok asg as (k + 1) e L B vs os ok hs h2 ndB fun a ha => dj a (List.mem_append_right _ ha)
    refine ⟨R, k1, fun a ha => ?_⟩
    rcases m a ha with z | z
    · exact .inl (List.mem_append_right _ z)
    · exact .inr z
  | .at i :: as, k, e, L, C, v :: vs, p :: os, ok, hs, h, nd, dj => by
    obtain ⟨u, ws, A, B, e1, rfl, h1, h2⟩ := h
    cases e1
    have ndB : (B ++ L).Nodup := by rw [List.append_assoc] at nd; exact (List.nodup_append.mp nd).2.1
    have dA : ∀ x ∈ A, x ∉ B ++ L := by rw [List.append_assoc] at nd; exact nodup_d nd
    show ∃ R, Ok W F H (giveBack asg (k + 1) as os (if asg.contains k = true then e else e.set i (some p))) σ R ∧ _
    split
    · obtain ⟨R, k1, m⟩ := giveBack_ok asg as (k + 1) e L B vs os ok hs.2 h2 ndB fun a ha => dj a (List.mem_append_right _ ha)
      refine ⟨R, k1, fun a ha => ?_⟩
      rcases m a ha with z | z
      · exact .inl (List.mem_append_right _ z)
      · exact .inr z
    · obtain ⟨R1, k1, m1⟩ := ok.fill hs.1 h1 (nodup_app (nodup_l (nodup_l nd)) ok.nd fun x hx hy => dA x hx (List.mem_append_right _ hy)) fun a ha => dj a (List.mem_append_left _ ha)
      obtain ⟨R, k2, m⟩ := giveBack_ok asg as (k + 1) _ R1 B vs os k1 hs.2 h2 (nodup_app (nodup_l ndB) k1.nd fun x hx hy => by
        rcases m1 x hy with z | z
        · exact dA x z (List.mem_append_left _ hx)
        · exact nodup_d ndB x hx z) fun a ha => dj a (List.mem_append_right _ ha)
      refine ⟨R, k2, fun a ha => ?_⟩
      rcases m a ha with z | z
      · exact .inl (List.mem_append_right _ z)
      · rcases m1 a z with z | z
        · exact .inl (List.mem_append_left _ z)
        · exact .inr z
end

/-- a def's promise: what the evaluator says -/
def spC (W : Wd) (run : List O → R (O × List O)) : Sp := fun vs H Q _ => ∃ F C os o os', Sub F H ∧ Owns W F H os vs C ∧ C.Nodup ∧ (∀ a ∈ C, F a = none) ∧ run os = .ok (o, os') ∧
  ∀ F' H' M C' v, Stp F H C F' H' (M ++ C') → Sub F' H' → Own W F' H' o v M → Owns W F' H' os' vs C' → (M ++ C').Nodup → (∀ a ∈ M ++ C', F' a = none) → Q v H'
/-- a call, from its arguments -/
theorem call_ent {W : Wd} {c : Cfg} {f : Nat} {ags : En → R (List AV × En)} {σ : St} {H : Hp} {Q : VK} (h : trV W (fun e => do let (as, e) ← ags e; callWith c f as e) σ H Q) : tCl (spC W (c.call f)) (trL W ags) σ H Q := by
  obtain ⟨F, L, e, o, e', ok, hf, k⟩ := h
  obtain ⟨⟨as, e1⟩, ha, hf⟩ := R.bind_ok hf
  obtain ⟨⟨os, e2⟩, hl, hf⟩ := R.bind_ok hf
  obtain ⟨⟨o', os'⟩, hc, hf⟩ := R.bind_ok hf
  cases hf
  refine ⟨F, L, e, as, e1, ok, ha, fun F1 H1 M1 L1 vs st1 ok1 own1 nd1 dj1 => ?_⟩
  obtain ⟨F2, C, R, ok2, own2, nd2, dj2, st2⟩ := lend_ok (c.asg f) as 0 F1 e1 L1 M1 vs os e2 ok1 own1 nd1 dj1 hl
  refine ⟨F2, C, os, o, os', ok2.sub, own2, nodup_l nd2, dj2, hc, fun F3 H3 M C' v st3 sb3 own3 own3' nd3 dj3 => ?_⟩
  have dR : ∀ x ∈ R, x ∉ C := fun x hx hy => nodup_d nd2 x hy hx
  have dfR := ok2.en.def_
  have k3 : Ok W F3 H3 e2 σ R := ⟨sb3, ok2.nd, st3.unsh dR dfR ok2.dj, ok2.en.keep st3.fs (st3.kept dR)⟩
  have apR := st3.apart dR dfR
  obtain ⟨R', k4, m4⟩ := giveBack_ok (c.asg f) as 0 e2 R C' vs os' k3 own1.slots own3' (nodup_app (nodup_r nd3) ok2.nd fun x hx hy => apR x hy (List.mem_append_right _ hx)) fun a ha => dj3 a (List.mem_append_right _ ha)
  refine k F3 H3 M R' v ?_ k4 ⟨own3, nodup_app (nodup_l nd3) k4.nd fun x hx hy => ?_, fun a ha => dj3 a (List.mem_append_left _ ha)⟩
  · refine (st1.trans st2).trans ?_
    refine st3.mono (fun x hx => List.mem_append_left _ hx) fun x hx => ?_
    rcases List.mem_append.mp hx with hx | hx
    · exact .inl (List.mem_append_left _ hx)
    · rcases m4 x hx with z | z
      · exact .inl (List.mem_append_right _ z)
      · exact .inr (.inl (List.mem_append_right _ z))
  · rcases m4 x hy with z | z
    · exact nodup_d nd3 x hx z
    · exact apR x z (List.mem_append_left _ hx)
end MP

set_option Elab.async false
set_option linter.all false
/-! Snd6: expressions, node by node. -/
namespace MP
open PySem L2

/-! ### shapes of the text -/
def plainT : Expr → Bool
  | .UnaryOp .Not _ _ => false
  | .BoolOp .. => false
  | .IfExp .. => false
  | .Compare .. => false
  | _ => true
theorem plainT_ok {a : Expr} (h : plainT a = true) (env : Env) (whole : Sem Value) : isTrue a env whole = (do let v ← whole; standAt a.pos; holding [v] (truthy v)) := by
  cases a with
  | UnaryOp op _ _ => cases op <;> first | rfl | cases h
  | BoolOp _ _ _ => cases h
  | IfExp _ _ _ _ => cases h
  | Compare _ _ _ _ => cases h
  | _ => rfl
def isBoolE : Expr → Bool
  | .BoolOp .. => true
  | _ => false
def needsTup : Expr → Bool
  | .Call (.Name x _) _ _ _ => decide (x = "enumerate") || decide (x = "zip")
  | _ => false
def isTupE : Expr → Bool
  | .Tuple .. => true
  | _ => false
def notSet : Expr → Bool
  | .Set .. => false
  | _ => true
def notStar : Expr → Bool
  | .Starred .. => false
  | _ => true
def notSlice : Expr → Bool
  | .Slice .. => false
  | _ => true
theorem notSet_fold {a : Expr} (h : notSet a = true) (env : Env) (x : Value) : foldedSetIterable a env x = pure x := by
  cases a <;> first | rfl | cases h
theorem notSet_mark {a : Expr} (h : notSet a = true) (op : CmpOp) : behindInMarks op a = false := by
  cases a <;> first | rfl | cases h
theorem star_cons {a : Expr} (h : notStar a = true) (es : List Expr) (env : Env) : starEach (a :: es) env = (false, eval a env) :: starEach es env := by
  cases a <;> first | rfl | cases h
theorem plainIx_of {a : Expr} (h : notSlice a = true) : PlainIx a := by
  intro o i
  cases a <;> first | rfl | cases h
def notStars : List Expr → Bool
  | [] => true
  | a :: as => notStar a && notStars as
theorem stars_any {pos : Pos} {env : Env} : ∀ {es : List Expr}, notStars es = true → (backTo pos (starEach es env)).any (·.1) = false
  | [], _ => rfl
  | a :: as, h => by
    rw [notStars, Bool.and_eq_true] at h
    rw [star_cons h.1]
    show (false || (backTo pos (starEach as env)).any (·.1)) = false
    rw [stars_any h.2]
    rfl

/-! ### what is walked -/
/-- .. u: perhaps a pair made for one turn -/
def RepG (W : Wd) (u : Bool) (F : Hp) (d : D) (v : V) : Prop := Rep W F d v ∨ (u = true ∧ ∃ xs T vs, d = .tup xs ∧ v = .ref T ∧ F T = some (.tup vs) ∧ Reps W F xs vs)
theorem RepG.up {W : Wd} {u w : Bool} {F : Hp} {d : D} {v : V} (h : u = true → w = true) (r : RepG W u F d v) : RepG W w F d v := r.imp id fun ⟨a, b⟩ => ⟨h a, b⟩
theorem RepG.plain {W : Wd} {F : Hp} {d : D} {v : V} (r : RepG W false F d v) : Rep W F d v := r.elim id fun ⟨a, _⟩ => by cases a
def WalkD (W : Wd) (u : Bool) (F : Hp) (J : It) (xs : List D) : Prop := ∃ (G : Hp → Prop) (Y : Nat → Hp → V → Hp → Prop), Walk J xs.length G Y ∧ (∀ H, Sub F H → G H) ∧
  ∀ i F1 H x H', i < xs.length → Sub F F1 → Sub F1 H → Y i H x H' → ∃ d F2, xs[i]? = some d ∧ Stp F1 H [] F2 H' [] ∧ Sub F2 H' ∧ RepG W u F2 d x
def trI (W : Wd) (u : Bool) (f : En → R (List D × En)) : TI := fun σ H R => ∃ F L e xs e', Ok W F H e σ L ∧ f e = .ok (xs, e') ∧
  ∀ F' H' L' J, Stp F H L F' H' L' → Ok W F' H' e' σ L' → WalkD W u F' J xs → R J H'
structure Sn (W : Wd) (X : Cx) (s : Sm) (ast : Expr) : Prop where
  val : PE X ast (trV W s.val)
  arg : PE X ast (trA W s.arg)
  tru : PT X ast (trT W s.tru)
  pw : isBoolE ast = true → PW X ast (trT W s.tru)
  itr : ∀ tg, (needsTup ast = true → isTupE tg = true) → PI X tg ast (trI W (needsTup ast) s.itr)
structure SnL (W : Wd) (X : Cx) (s : Sm) (asts : List Expr) : Prop where
  ags : PA X asts (trL W s.ags)
  tks : PA X asts (trO W s.tks)
section
variable {W : Wd} {F H : Hp} {e : En} {σ : St} {L : List Addr}
theorem Ok.keep {F' H' : Hp} {L' : List Addr} (k : Ok W F H e σ L) (st : Stp F H [] F' H' L') (sb : Sub F' H') : Ok W F' H' e σ L :=
  have no : ∀ x ∈ L, x ∉ ([] : List Addr) := fun x _ h => (by cases h)
  ⟨sb, k.nd, st.unsh no k.en.def_ k.dj, k.en.keep st.fs (st.kept no)⟩
/-- a value that came is shared from now on -/
theorem Got.frz {o : O} {v : V} {M : List Addr} (k : Ok W F H e σ L) (g : Got W F H o v M L) (n : noIns o = true) : ∃ F', Rep W F' o.view v ∧ Ok W F' H e σ L ∧ Sub F F' ∧ ∀ a o, F' a = some o → F a = some o ∨ a ∈ M := by
  have sb := frz_sub (H := H) g.dj
  refine ⟨MP.frz F H M, Own.frz g.dj g.own n fun a h => h, ⟨frz_in k.sub, k.nd, fun a ha => ?_, k.en.keep sb fun _ _ _ h => h⟩, sb, fun a o q => frz_from q⟩
  unfold MP.frz
  rw [if_neg fun z => nodup_d g.nd a z ha]
  exact k.dj a ha
theorem walk_rep {u : Bool} {K : PySem.W.Frag} (hK : K = W.K) {xs : List D} {v : V} {d : D} (r : Rep W F d v) (h : itemsD d = .ok xs) :
    (∃ a, v = .ref a ∧ (∃ vs, d = .lst xs ∧ F a = some (.lst vs)) ∧ WalkD W u F (Itl K a) xs) ∨ (∃ a, v = .ref a ∧ (∃ vs, d = .tup xs ∧ Tu F a vs) ∧ WalkD W u F (Itt K a) xs) ∨ (∃ z, v = .str z ∧ WalkD W u F (Its z) xs) := by
  cases d with
  | lst ys =>
    cases h
    obtain ⟨a, vs, rfl, h2, h3⟩ := r
    refine .inl ⟨a, rfl, ⟨vs, rfl, h2⟩, fun H => SqL K H a vs, YAt vs, ?_, fun H s => SqL.of (s _ _ h2), fun i F1 H x H' hi s1 s2 y => ?_⟩
    · rw [← h3.len]; exact walk_list (K := K) (a := a) (xs := vs)
    · obtain ⟨rfl, hy⟩ := y
      obtain ⟨d, h4, h5⟩ := h3.getV hy
      exact ⟨d, F1, h4, Stp.refl, s2, .inl (h5.mono s1)⟩
  | tup ys =>
    cases h
    obtain ⟨a, vs, rfl, h2, h3⟩ := r
    refine .inr (.inl ⟨a, rfl, ⟨vs, rfl, h2⟩, fun H => SqT K H a vs, YAt vs, ?_, fun H s => h2.sq s, fun i F1 H x H' hi s1 s2 y => ?_⟩)
    · rw [← h3.len]; exact walk_tup (K := K) (a := a) (xs := vs)
    · obtain ⟨rfl, hy⟩ := y
      obtain ⟨d, h4, h5⟩ := h3.getV hy
      exact ⟨d, F1, h4, Stp.refl, s2, .inl (h5.mono s1)⟩
  | str z =>
    cases h
    cases r
    refine .inr (.inr ⟨z, rfl, fun _ => True, fun i H v H' => H' = H ∧ ∃ c, z.cps[i]? = some c ∧ v = .str ⟨#[c]⟩, ?_, fun _ _ => trivial, fun i F1 H x H' hi s1 s2 y => ?_⟩)
    · have : (z.cps.toList.map fun c => D.str ⟨#[c]⟩).length = z.cps.size := by simp
      rw [this]; exact walk_str
    · obtain ⟨rfl, c, hc, rfl⟩ := y
      refine ⟨.str ⟨#[c]⟩, F1, ?_, Stp.refl, s2, .inl rfl⟩
      rw [List.getElem?_map, Array.getElem?_toList, hc]
      rfl
  | _ => cases h
end
section
variable {W : Wd} {X : Cx}
theorem pi_gen {u : Bool} {v : En → R (O × En)} {ast tg : Expr} (hK : X.K = W.K) (h : PE X ast (trV W v)) : PI X tg ast (trI W u (Sm.mk1 v).itr) := by
  constructor
  intro pins s σ H RR I q
  obtain ⟨F, L, e, xs, e', ok, hf, k⟩ := q
  obtain ⟨⟨o, e1⟩, hv, hf⟩ := R.bind_ok hf
  obtain ⟨hn, hf⟩ := R.need_ok hf
  obtain ⟨ys, hx, hf⟩ := R.bind_ok hf
  cases hf
  have go : ∀ (F1 H1 : Hp) (M L1 : List Addr) (v1 : V), Stp F H L F1 H1 (M ++ L1) → Ok W F1 H1 e' σ L1 → Got W F1 H1 o v1 M L1 → ∃ F2, Rep W F2 o.view v1 ∧ Sub F2 H1 ∧ ∀ J, WalkD W u F2 J xs → RR J H1 := by
    intro F1 H1 M L1 v1 st ok1 got
    obtain ⟨F2, r, ok2, sb, hf⟩ := got.frz ok1 hn
    refine ⟨F2, r, ok2.sub, fun J w => k F2 H1 L1 J ⟨st.fs.trans sb, st.kp, fun a ha => st.ow a (List.mem_append_right _ ha), fun a o q => ?_⟩ ok2 w⟩
    rcases hf a o q with z | z
    · exact st.fr a o z
    · rcases st.ow a (List.mem_append_left _ z) with z | z
      · exact .inr (.inl z)
      · exact .inr (.inr z)
  cases hd : o.view with
  | lst ys =>
    refine (pi_list (X := X) (tg := tg) h).run pins s σ H RR I ⟨F, L, e, o, e', ok, hv, fun F1 H1 M L1 v1 st ok1 got => ?_⟩
    obtain ⟨F2, r, sb, kk⟩ := go F1 H1 M L1 v1 st ok1 got
    rcases walk_rep hK r hx with ⟨a, rfl, ⟨vs, _, h2⟩, w⟩ | ⟨a, rfl, ⟨vs, h2, _⟩, w⟩ | ⟨z, rfl, w⟩
    · exact ⟨a, rfl, ⟨vs, SqL.of (sb _ _ h2)⟩, kk _ w⟩
    · rw [hd] at h2; cases h2
    · rw [hd] at r
      obtain ⟨_, _, h3, _⟩ := r
      cases h3
  | tup ys =>
    refine (pi_tup (X := X) (tg := tg) h).run pins s σ H RR I ⟨F, L, e, o, e', ok, hv, fun F1 H1 M L1 v1 st ok1 got => ?_⟩
    obtain ⟨F2, r, sb, kk⟩ := go F1 H1 M L1 v1 st ok1 got
    rcases walk_rep hK r hx with ⟨a, rfl, ⟨vs, h2, _⟩, w⟩ | ⟨a, rfl, ⟨vs, _, h2⟩, w⟩ | ⟨z, rfl, w⟩
    · rw [hd] at h2; cases h2
    · exact ⟨a, rfl, ⟨vs, h2.sq sb⟩, kk _ w⟩
    · rw [hd] at r
      obtain ⟨_, _, h3, _⟩ := r
      cases h3
  | str z =>
    refine (pi_str (X := X) (tg := tg) h).run pins s σ H RR I ⟨F, L, e, o, e', ok, hv, fun F1 H1 M L1 v1 st ok1 got => ?_⟩
    obtain ⟨F2, r, sb, kk⟩ := go F1 H1 M L1 v1 st ok1 got
    rcases walk_rep hK r hx with ⟨a, rfl, ⟨vs, h2, _⟩, w⟩ | ⟨a, rfl, ⟨vs, h2, _⟩, w⟩ | ⟨z, rfl, w⟩
    · rw [hd] at h2; cases h2
    · rw [hd] at h2; cases h2
    · exact ⟨z, rfl, kk _ w⟩
  | non => rw [hd] at hx; cases hx
  | bl b => rw [hd] at hx; cases hx
  | int b => rw [hd] at hx; cases hx
  | obj c b => rw [hd] at hx; cases hx
  | arr b => rw [hd] at hx; cases hx
theorem arg_gen {v : En → R (O × En)} {ast : Expr} (h : PE X ast (trV W v)) : PE X ast (trA W (Sm.mk1 v).arg) := PE.imp h fun _ _ _ q => arg_of_val q
theorem tru_ent {v : En → R (O × En)} {K : PySem.W.Frag} (hK : K = W.K) {σ : St} {H : Hp} {Q : Bool → Hp → Prop} (q : trT W (Sm.mk1 v).tru σ H Q) : trV W v σ H fun x H' => ∃ k, TruV K x H' k ∧ Q k H' := by
  obtain ⟨F, L, e, b, e', ok, hf, k⟩ := q
  obtain ⟨⟨o, e1⟩, hv, hf⟩ := R.bind_ok hf
  obtain ⟨c, hb, hf⟩ := R.bind_ok hf
  cases hf
  exact ⟨F, L, e, o, e', ok, hv, fun F1 H1 M L1 v1 st ok1 got => ⟨b, truD_ok hK ok1.sub ⟨M, got.own⟩ hb, k F1 H1 L1 st.drop ok1⟩⟩
/-- an expression whose test is its value's truth -/
theorem Sn.plain {v : En → R (O × En)} {ast : Expr} (hK : X.K = W.K) (h : PE X ast (trV W v)) (hp : plainT ast = true) : Sn W X (Sm.mk1 v) ast where
  val := h
  arg := arg_gen h
  tru := PT.imp (pt_truth h (plainT_ok hp X.env)) fun _ _ _ q => tru_ent hK q
  pw := fun z => by
    cases ast <;> first
      | exact absurd z Bool.false_ne_true
      | exact absurd hp Bool.false_ne_true
  itr := fun tg _ => pi_gen hK h
theorem bad_pe {ast : Expr} {t : TE} (h : ∀ σ H Q, ¬ t σ H Q) : PE X ast t := ⟨fun _ _ σ H Q _ q => (h σ H Q q).elim⟩
theorem bad_trV {σ : St} {H : Hp} {Q : VK} : ¬ trV W (fun _ => .bad) σ H Q := fun ⟨_, _, _, _, _, _, h, _⟩ => by cases h
theorem bad_trA {σ : St} {H : Hp} {Q : VK} : ¬ trA W (fun _ => .bad) σ H Q := fun ⟨_, _, _, _, _, _, h, _⟩ => by cases h
theorem bad_trT {σ : St} {H : Hp} {Q : Bool → Hp → Prop} : ¬ trT W (fun _ => .bad) σ H Q := fun ⟨_, _, _, _, _, _, h, _⟩ => by cases h
theorem bad_trI {u : Bool} {σ : St} {H : Hp} {R : It → Hp → Prop} : ¬ trI W u (fun _ => .bad) σ H R := fun ⟨_, _, _, _, _, _, h, _⟩ => by cases h
theorem bad_trL {σ : St} {H : Hp} {Q : List V → Hp → Prop} : ¬ trL W (fun _ => .bad) σ H Q := fun ⟨_, _, _, _, _, _, h, _⟩ => by cases h
theorem bad_trO {σ : St} {H : Hp} {Q : List V → Hp → Prop} : ¬ trO W (fun _ => .bad) σ H Q := fun ⟨_, _, _, _, _, _, h, _⟩ => by cases h
theorem Sn.bad {ast : Expr} : Sn W X {} ast :=
  ⟨bad_pe fun _ _ _ => bad_trV, bad_pe fun _ _ _ => bad_trA, ⟨fun _ _ σ H Q _ q => (bad_trT q).elim⟩, fun _ => ⟨fun _ _ _ σ H Q _ q => (bad_trT q).elim⟩, fun _ _ => ⟨fun _ _ σ H R _ q => (bad_trI q).elim⟩⟩
theorem SnL.bad {asts : List Expr} : SnL W X {} asts := ⟨⟨fun _ _ _ σ H Q _ q => (bad_trL q).elim⟩, ⟨fun _ _ _ σ H Q _ q => (bad_trO q).elim⟩⟩

/-! ### constants, names -/
theorem const_ent {d : D} {v : V} (r : ∀ F, Rep W F d v) {σ : St} {H : Hp} {Q : VK} (q : trV W (fun e => .ok (.sh d, e)) σ H Q) : Q v H := by
  obtain ⟨F, L, e, o, e', ok, hf, k⟩ := q
  cases hf
  exact fin_new (e := e) Stp.refl ok k F H [] v (New.sh ok.sub (r F))
theorem sn_non {j pos} (hK : X.K = W.K) : Sn W X (Sm.mk1 fun e => .ok (.sh .non, e)) (.Constant .none j pos) := Sn.plain hK (PE.imp pe_non fun _ _ _ q => const_ent (d := .non) (v := .non) (fun _ => rfl) q) rfl
theorem sn_bl {b j pos} (hK : X.K = W.K) : Sn W X (Sm.mk1 fun e => .ok (shB b, e)) (.Constant (.bool b) j pos) := Sn.plain hK (PE.imp pe_bl fun _ _ _ q => const_ent (d := .bl b) (v := .bl b) (fun _ => rfl) q) rfl
theorem sn_int {i j pos} (hK : X.K = W.K) : Sn W X (Sm.mk1 fun e => .ok (.sh (.int i), e)) (.Constant (.int i) j pos) := Sn.plain hK (PE.imp pe_int fun _ _ _ q => const_ent (d := .int i) (v := .int i) (fun _ => rfl) q) rfl
theorem sn_str {x j pos} (hK : X.K = W.K) : Sn W X (Sm.mk1 fun e => .ok (.sh (.str x), e)) (.Constant (.str x) j pos) := Sn.plain hK (PE.imp pe_str fun _ _ _ q => const_ent (d := .str x) (v := .str x) (fun _ => rfl) q) rfl
theorem sn_glb {x : Str} {v : V} {u : Value} {d : D} {pos : Pos} (hK : X.K = W.K) (hg : Gl X x) (hm : X.mg x = some u) (r : RelV v u) (rd : ∀ F, Rep W F d v) (hd : (x == ("__debug__" : Str)) = false) : Sn W X (Sm.mk1 fun e => .ok (.sh d, e)) (.Name x pos) :=
  Sn.plain hK (PE.imp (pe_glob hg hm r hd) fun _ _ _ q => const_ent rd q) rfl
theorem sn_var {i : Nat} {x : Str} {pos : Pos} {w : En → R (Bool × En)} (hK : X.K = W.K) (hN : X.N[i]? = some x) (hv : Vis X.env.scope x) (hd : (x == ("__debug__" : Str)) = false) (hcd : (x == ("__classdict__" : Str)) = false) :
    Sn W X { Sm.mk1 (take i) with arg := argAt i, tru := fun e => do let o ← e.get i; let b ← truD o.view; pure (b, e) } (.Name x pos) := by
  have hp := pe_var (X := X) (pos := pos) hN hv hd hcd
  have val : PE X (.Name x pos) (trV W (take i)) := PE.imp hp fun σ H Q q => by
    obtain ⟨F, L, e, o, e', ok, hf, k⟩ := q
    obtain ⟨v, F', R, e1, st, ok', own⟩ := take_ok ok hf
    exact ⟨v, e1, k F' H [] R v st ok' ⟨own, by simpa using ok'.nd, fun a h => (by cases h)⟩⟩
  refine ⟨val, PE.imp hp fun σ H Q q => ?_, PT.imp (pt_truth hp (fun _ => rfl)) fun σ H Q q => ?_, fun z => (by cases z), fun tg _ => pi_gen hK val⟩
  · obtain ⟨F, L, e, a, e', ok, hf, k⟩ := q
    obtain ⟨o, h1, h2⟩ := R.bind_ok hf
    obtain ⟨v, A, M, B, e1, e2, own, _⟩ := ok.en.slot h1
    cases o with
    | sh d =>
      cases h2
      exact ⟨v, e1, k F H [] L v Stp.refl ok ⟨⟨rfl, own.2⟩, by simpa using ok.nd, fun a h => (by cases h)⟩⟩
    | lst xs => cases h2; exact ⟨v, e1, k F H [] L v Stp.refl ok ⟨rfl, ok.nd, e1⟩⟩
    | ins c fs => cases h2; exact ⟨v, e1, k F H [] L v Stp.refl ok ⟨rfl, ok.nd, e1⟩⟩
  · obtain ⟨F, L, e, b, e', ok, hf, k⟩ := q
    obtain ⟨o, h1, h2⟩ := R.bind_ok hf
    obtain ⟨c, h3, h4⟩ := R.bind_ok h2
    cases h4
    obtain ⟨v, A, M, B, e1, e2, own, _⟩ := ok.en.slot h1
    exact ⟨v, e1, b, truD_ok hK ok.sub ⟨M, own⟩ h3, k F H L Stp.refl ok⟩

/-! ### operators, comparisons -/
variable {sa sb sc : Sm} {a b c : Expr}
theorem sn_op {o : Op} {pos : Pos} (hK : X.K = W.K) (ha : Sn W X sa a) (hb : Sn W X sb b) : Sn W X (two sa sb (opD o)) (.BinOp a (opr o) b pos) := by
  obtain ⟨r, h1, h2⟩ := op_snd (X := X) (W := W) hK o
  exact Sn.plain hK (PE.imp (pe_op h1 ha.arg hb.arg) fun _ _ _ q => two_ent h2 q) rfl
theorem sn_neg {pos : Pos} (hK : X.K = W.K) (ha : Sn W X sa a) : Sn W X (one sa fun x => do let d ← negD x.view; pure (.sh d)) (.UnaryOp .USub a pos) := by
  refine Sn.plain hK (PE.imp (pe_un un_neg ha.arg) fun _ _ _ q => one_ent (r := rU fun i => .int (-i)) ?_ q) rfl
  intro F H o x q Q sb s e k
  obtain ⟨d, h1, h2⟩ := R.bind_ok e
  cases h2
  unfold negD at h1
  split at h1
  · rename_i i ei
    cases h1
    exact ⟨i, s.vint ei, k F H [] _ (New.sh sb rfl)⟩
  · cases h1
theorem cm_ent {k : Cm} {r : R2} (hr : CmS W k r) {σ : St} {H : Hp} {Q : VK} (q : trV W (two sa sb fun x y => do let r ← cmD k x.view y.view; pure (shB r)).val σ H Q) : tOp r (trA W sa.arg) (trA W sb.arg) σ H Q := by
  refine two_ent (r := r) ?_ q
  intro F H o p x y q Q sb s1 s2 e kk
  obtain ⟨b, h1, h2⟩ := R.bind_ok e
  cases h2
  exact hr F H o p x y b Q sb s1 s2 h1 (kk F H [] _ (New.sh sb rfl))
/-- what is true of the bool that came -/
theorem tru_of_val {v : En → R (O × En)} (hv : ∀ e o e', v e = .ok (o, e') → ∃ b, o = shB b) {σ : St} {H : Hp} {Q : Bool → Hp → Prop} (q : trT W (Sm.mk1 v).tru σ H Q) : trV W v σ H fun x H' => ∃ k, x = .bl k ∧ Q k H' := by
  obtain ⟨F, L, e, b, e', ok, hf, k⟩ := q
  obtain ⟨⟨o, e1⟩, h1, hf⟩ := R.bind_ok hf
  obtain ⟨c, h2, hf⟩ := R.bind_ok hf
  cases hf
  obtain ⟨d, rfl⟩ := hv _ _ _ h1
  cases h2
  exact ⟨F, L, e, _, e', ok, h1, fun F1 H1 M L1 v1 st ok1 got => ⟨b, got.own.2, k F1 H1 L1 st.drop ok1⟩⟩
theorem sn_cm {k : Cm} {pos : Pos} (hK : X.K = W.K) (hu : X.A.units + 65 < cLine) (hb' : notSet b = true) (ha : Sn W X sa a) (hb : Sn W X sb b) :
    Sn W X (two sa sb fun x y => do let r ← cmD k x.view y.view; pure (shB r)) (.Compare a [cmo k] [b] pos) := by
  obtain ⟨r, h1, h2⟩ := cm_snd (X := X) (W := W) hK hu k
  have hm := notSet_mark hb' (cmo k)
  have val := PE.imp (pe_cmpR (pos := pos) h1 ha.arg hb.arg hm) fun _ _ _ q => cm_ent h2 q
  refine ⟨val, arg_gen val, PT.imp (pt_cmpR h1 ha.arg hb.arg hm) fun σ H Q q => ?_, fun z => (by cases z), fun tg _ => pi_gen hK val⟩
  refine cm_ent h2 (tru_of_val (fun e o e' z => ?_) q)
  obtain ⟨_, _, z⟩ := R.bind_ok z
  obtain ⟨_, _, z⟩ := R.bind_ok z
  obtain ⟨_, _, z⟩ := R.bind_ok z
  obtain ⟨_, _, z⟩ := R.bind_ok z
  obtain ⟨_, z1, z⟩ := R.bind_ok z
  obtain ⟨b, _, z2⟩ := R.bind_ok z1
  cases z2
  cases z
  exact ⟨b, rfl⟩
end
end MP

set_option Elab.async false
set_option linter.all false
/-! Rv: t[::-1] of a tuple. -/
namespace HT
open PySem PySem.Spec PyProof.Rows
section
variable {prog : Program} {w : World} {A : Around} {E : Value → Shared → Prop} {s : Shared}
theorem rv_applied {sl : Addr} {vs : Value} {n : Nat} {Q : Int × Int × Nat → Shared → Prop} (hs : s.heap.IsSliceOf sl .none .none vs) (ps : IsPart vs (some (-1)))
    (h : Q ((n : Int) - 1, -1, n) s) : wpAny (model prog w) A (Builtin.Slice.sliceApplied (.ref sl) (pure (n : Int))) Q E s := by
  obtain ⟨os, hos, hcs, hds⟩ := id hs
  unfold Builtin.Slice.sliceApplied Builtin.Slice.sliceFields
  refine wpAny_bind (wpAny_bind (wpAny_field hos hds (x := .none) rfl (wpAny_bind (wpAny_field hos hds (x := .none) rfl (wpAny_bind (wpAny_field hos hds (x := vs) rfl (wpAny_pure ?_)))))))
  refine wpAny_bind (slicePart_ ps ?_)
  show wpAny _ _ (if ((-1 : Int) == 0) = true then _ else _) _ _ s
  rw [if_neg (by decide)]
  refine wpAny_bind (slicePart_none (wpAny_bind (slicePart_none (wpAny_bind (wpAny_pure ?_)))))
  show wpAny _ _ (pure ((n : Int) - 1, (-1 : Int), Builtin.Slice.slicePlaces ((n : Int) - 1) (-1) (-1))) _ _ s
  have e : Builtin.Slice.slicePlaces ((n : Int) - 1) (-1) (-1) = n := by
    unfold Builtin.Slice.slicePlaces
    have h1 : ¬ ((-1 : Int) > 0) := by omega
    simp only [h1, if_false, Int.neg_neg, Int.ediv_one]
    split <;> omega
  rw [e]
  exact wpAny_pure h
theorem rv_pick (xs : Array Value) : ((List.range xs.size).filterMap fun (k : Nat) => xs[((xs.size : Int) - 1 + (k : Int) * -1).toNat]?).toArray = xs.toList.reverse.toArray := by
  congr 1
  apply List.ext_getElem?
  intro i
  have key : ∀ n, n ≤ xs.size → (List.range n).filterMap (fun (k : Nat) => xs[((xs.size : Int) - 1 + (k : Int) * -1).toNat]?) = (xs.toList.reverse).take n := by
    intro n
    induction n with
    | zero => intro _; simp
    | succ n ih =>
      intro hn
      rw [List.range_succ, List.filterMap_append, ih (by omega)]
      have e : ((xs.size : Int) - 1 + (n : Int) * -1).toNat = xs.size - 1 - n := by omega
      have hx : xs.size - 1 - n < xs.size := by omega
      rw [List.take_succ]
      congr 1
      rw [List.filterMap_cons, e]
      have g : xs[xs.size - 1 - n]? = some xs[xs.size - 1 - n] := by simp [hx]
      have g2 : xs.toList.reverse[n]? = some xs[xs.size - 1 - n] := by
        rw [List.getElem?_reverse (by simp; omega)]
        simp [hx]
      rw [g, g2]
      rfl
  rw [key xs.size (Nat.le_refl _)]
  rw [List.take_of_length_le (by simp)]
theorem rv_getItem {t sl : Addr} {items : Array Value} {vs : Value} {Q : Value → Shared → Prop} (ht : IsTup s.heap t items) (hs : s.heap.IsSliceOf sl .none .none vs) (ps : IsPart vs (some (-1)))
    (h : Q (.ref s.heap.objs.size) { s with heap := s.heap.push { cls := .type "tuple", data := .seq items.toList.reverse.toArray } })
    (hsz : items.size ≤ sizeLine) : wpAny (model prog w) A (getItem (.ref t) (.ref sl)) Q E s := by
  have hok : sizeOk (.seq items.toList.reverse.toArray) := by
    show items.toList.reverse.toArray.size ≤ sizeLine
    simpa using hsz
  obtain ⟨os, hos, hcs, hds⟩ := id hs
  have hTs : s.TypeIs (.ref sl) "slice" := ⟨os, hos, hcs⟩
  unfold getItem
  (try with_reducible refine wpAny_holding ?_); (first | refine wpAny_bind (wpAny_pure ?_) | skip); refine wpAny_bind (wpAny_sequenceKey ht.typeIs (by decide) ?_)
  refine wpAny_bind (wpAny_callSpecial?_slot (name := Str.ofString "__getitem__") ht.typeIs PyProof.Rows.slot_tuple_getitem (wpAny_call_entry PyProof.Rows.slot_tuple_getitem ht.typeIs entry_tuple_getitem ?_ (args_tuple_getitem _ _)))
  show wpAny _ _ (Builtin.Tuple.tupleItemsOf (.ref t) >>= _) _ _ s
  refine wpAny_bind (tupleItemsOf_ ht (wpAny_bind (wpAny_typeOf hTs ?_)))
  rw [if_pos (by decide)]
  refine wpAny_bind (rv_applied hs ps ?_)
  show wpAny _ _ (if ((((items.size : Int) - 1) == 0 && (-1 : Int) == 1) && items.size == items.size) = true then _ else _) _ _ s
  rw [if_neg (by simp), rv_pick]
  first
    | exact wpAny_bind (m := Builtin.Tuple.tupleExact _) (wpAny_newObj_type (wpAny_pure ⟨_, rfl, wpAny_pure h⟩) hok)
    | exact wpAny_bind (m := Builtin.Tuple.tupleExact _) (wpAny_newObj_type (wpAny_bind (wpAny_pure (wpAny_pure ⟨_, rfl, wpAny_pure h⟩))) hok)
    | exact wpAny_bind (wpAny_bind (m := Builtin.Tuple.tupleExact _) (wpAny_newObj_type (wpAny_pure (wpAny_pure ⟨_, rfl, wpAny_pure h⟩)) hok))
    | exact wpAny_bind (wpAny_bind (m := Builtin.Tuple.tupleExact _) (wpAny_newObj_type (wpAny_pure ⟨_, rfl, wpAny_pure h⟩) hok))
end
end HT
namespace L2
open PySem PySem.Spec PyProof.Rows
def tRevT (K : PySem.W.Frag) (te : TE) : TE := fun σ H Q => te σ H fun x H1 => ∃ a xs, x = .ref a ∧ SqT K H1 a xs ∧ MP.NewT H1 xs.reverse Q
theorem pe_revT {X : Cx} {e : Expr} {te : TE} {k : Nat} {p1 p2 p3 pos : Pos} (he : PE X e te) : PE X (.Subscript e (.Slice none none (some (.UnaryOp .USub (.Constant (.int 1) k p1) p2)) p3) pos) (tRevT X.K te) := by
  constructor
  intro pins s σ H Q I h
  refine Subscript_ (thn (he.run pins s σ H _ I h) ?_)
  rintro v s1 ⟨x, H1, I1, r1, a, xs, rfl, hx, q⟩
  cases r1
  have hst : PO X (some (.UnaryOp .USub (.Constant (.int 1) k p1) p2)) (tPart (tUn (rU fun i => .int (-i)) (tC (.int 1)))) := po_some (pe_un un_neg pe_int)
  refine wpAny_Slice (thn (po_none.run pins s1 σ H1 (fun o H2 => o = none ∧ H2 = H1) I1 ⟨rfl, rfl⟩) ?_)
  rintro vl s2 ⟨l, H2, I2, pl, rfl, rfl⟩
  refine thn (po_none.run pins s2 σ H2 (fun o H3 => o = none ∧ H3 = H2) I2 ⟨rfl, rfl⟩) ?_
  rintro vu s3 ⟨u, H3, I3, pu, rfl, rfl⟩
  refine thn (hst.run pins s3 σ H3 (fun o H4 => o = some (-1) ∧ H4 = H3) I3 ⟨1, rfl, -1, rfl, rfl, rfl⟩) ?_
  rintro vs s4 ⟨o, H4, I4, ps, rfl, rfl⟩
  cases pl
  cases pu
  have I5 : Inv X pins σ H4 { s4 with heap := s4.heap.push { cls := .type "slice", data := .fields #[.none, .none, vs] } } := I4.kept (t' := s4.toks) fun b ob q => Heap.get?_push_of_some _ q
  obtain ⟨its, r, ht, hz⟩ := I5.tuple hx
  have hlen := r.length
  show wpAny (model X.prog X.w) X.A (subscriptTail e (.Slice none none (some (.UnaryOp .USub (.Constant (.int 1) k p1) p2)) p3) (.ref a) (.ref s4.heap.objs.size)) (EP X pins σ Q) X.xe { s4 with heap := s4.heap.push { cls := .type "slice", data := .fields #[.none, .none, vs] } }
  refine tail_any (ops := [.ref a, .ref s4.heap.objs.size]) ht.typeIs (PyProof.Rows.slot_tuple_getitem.lookup) ?_ (by with_unfolding_all rfl)
  refine HT.rv_getItem ht (Heap.IsSliceOf.new _ .none .none vs) ps ?_ (by rw [List.size_toArray]; omega)
  exact MP.laidT I5 r.reverse (by rw [List.length_reverse]; exact hz) q s4.toks
theorem PE.or {X : Cx} {e : Expr} {t u : TE} (h : PE X e t) (g : PE X e u) : PE X e (fun σ H Q => t σ H Q ∨ u σ H Q) := ⟨fun pins s σ H Q I q => q.elim (h.run pins s σ H Q I) (g.run pins s σ H Q I)⟩
end L2

set_option Elab.async false
set_option linter.all false
/-! Snd7: expressions, node by node (continued). -/
namespace MP
open PySem L2
section
variable {W : Wd} {X : Cx} {sa sb sc : Sm} {a b c : Expr} {pos : Pos}
/-- an expression with a test of its own -/
theorem Sn.with {v : En → R (O × En)} {t : En → R (Bool × En)} {ast : Expr} (hK : X.K = W.K) (h : PE X ast (trV W v)) (ht : PT X ast (trT W t)) (hw : isBoolE ast = true → PW X ast (trT W t)) : Sn W X { Sm.mk1 v with tru := t } ast :=
  ⟨h, arg_gen h, ht, hw, fun tg _ => pi_gen hK h⟩
theorem sees_keep {F1 H1 F2 H2 : Hp} {σ : St} {x : AV} {v : V} {M L1 L2 : List Addr} {e2 : En} {o : O} (g : GotA W F1 H1 σ x v M L1) (st : Stp F1 H1 L1 F2 H2 L2) (ok2 : Ok W F2 H2 e2 σ L2) (s : x.see e2 = .ok o) : Sees W F2 H2 o v :=
  (g.keep st ok2.nd).sees (L2 := L2) (F2 := F2) (H2 := H2) ok2 s
/-- a < b < c -/
def chV (c : Cfg) (k l : Cm) (sa sb sd : Sm) : En → R (Bool × En) := fun e => do
  let (x, e) ← sa.arg e
  let (y, e) ← sb.arg e
  let o ← x.see e
  let p ← y.see e
  let r ← cmD k o.view p.view
  if r = true then do
    let (z, e) ← sd.arg e
    let p ← y.see e
    let q ← z.see e
    let r ← cmD l p.view q.view
    pure (r, e)
  else pure (false, e)
theorem ch_ent {c : Cfg} {k l : Cm} {r r' : R2} (hr : CmS W k r) (hr' : CmS W l r') {σ : St} {H : Hp} {Q : VK} (q : trV W (fun e => do let (r, e) ← chV c k l sa sb sc e; pure (shB r, e)) σ H Q) :
    tChain r r' (trA W sa.arg) (trA W sb.arg) (trA W sc.arg) σ H Q := by
  obtain ⟨F, L, e, o, e', ok, hf, kk⟩ := q
  obtain ⟨⟨bb, e0⟩, hf, hz⟩ := R.bind_ok hf
  cases hz
  obtain ⟨⟨x, e1⟩, ha, hf⟩ := R.bind_ok hf
  obtain ⟨⟨y, e2⟩, hb, hf⟩ := R.bind_ok hf
  obtain ⟨ox, hx, hf⟩ := R.bind_ok hf
  obtain ⟨oy, hy, hf⟩ := R.bind_ok hf
  obtain ⟨b1, hc, hf⟩ := R.bind_ok hf
  refine ⟨F, L, e, x, e1, ok, ha, fun F1 H1 M1 L1 v1 st1 ok1 got1 => ⟨F1, L1, e1, y, e2, ok1, hb, fun F2 H2 M2 L2 v2 st2 ok2 got2 => ?_⟩⟩
  refine hr F2 H2 ox oy v1 v2 b1 _ ok2.sub (sees_keep got1 st2.drop ok2 hx) (sees_keep got2 Stp.refl ok2 hy) hc ⟨b1, rfl, ?_⟩
  cases b1 with
  | false =>
    cases hf
    exact fin_new (e := e) (st1.drop.trans st2.drop) ok2 kk F2 H2 [] _ (New.sh ok2.sub rfl)
  | true =>
    obtain ⟨⟨z, e3⟩, hd, hf⟩ := R.bind_ok hf
    obtain ⟨oy', hy', hf⟩ := R.bind_ok hf
    obtain ⟨oz, hz, hf⟩ := R.bind_ok hf
    obtain ⟨b2, hc2, hf⟩ := R.bind_ok hf
    cases hf
    rw [if_pos rfl]
    refine ⟨F2, L2, e2, z, e', ok2, hd, fun F3 H3 M3 L3 v3 st3 ok3 got3 => ?_⟩
    refine hr' F3 H3 oy' oz v2 v3 bb _ ok3.sub (sees_keep got2 st3.drop ok3 hy') (sees_keep got3 Stp.refl ok3 hz) hc2 ?_
    exact fin_new (e := e) ((st1.drop.trans st2.drop).trans st3.drop) ok3 kk F3 H3 [] _ (New.sh ok3.sub rfl)
theorem sn_ch {cf : Cfg} {k l : Cm} (hK : X.K = W.K) (hu : X.A.units + 65 < cLine) (hc' : notSet c = true) (ha : Sn W X sa a) (hb : Sn W X sb b) (hc : Sn W X sc c) :
    Sn W X (Sm.mk1 fun e => do let (r, e) ← chV cf k l sa sb sc e; pure (shB r, e)) (.Compare a [cmo k, cmo l] [b, c] pos) := by
  obtain ⟨r, h1, h2⟩ := cm_snd (X := X) (W := W) hK hu k
  obtain ⟨r', h1', h2'⟩ := cm_snd (X := X) (W := W) hK hu l
  have hm : lastMarks [cmo k, cmo l] [b, c] = false := notSet_mark hc' (cmo l)
  have val := PE.imp (pe_chain (pos := pos) h1 h1' ha.arg hb.arg hc.arg hm) fun _ _ _ q => ch_ent (c := cf) h2 h2' q
  refine ⟨val, arg_gen val, PT.imp (pt_chain h1 h1' ha.arg hb.arg hc.arg hm) fun σ H Q q => ?_, fun z => (by cases z), fun tg _ => pi_gen hK val⟩
  refine ch_ent (c := cf) h2 h2' (tru_of_val (fun e o e' z => ?_) q)
  obtain ⟨⟨b, _⟩, _, z⟩ := R.bind_ok z
  cases z
  exact ⟨b, rfl⟩

/-! ### and, or, not, if -/
def andV (sa sb : Sm) : En → R (O × En) := fun e => do
  let (o, e) ← sa.val e
  let r ← truD o.view
  if r = true then sb.val e else pure (o, e)
def andT (sa sb : Sm) : En → R (Bool × En) := fun e => do
  let (r, e) ← sa.tru e
  if r = true then sb.tru e else pure (false, e)
def orV (sa sb : Sm) : En → R (O × En) := fun e => do
  let (o, e) ← sa.val e
  let r ← truD o.view
  if r = true then pure (o, e) else sb.val e
def orT (sa sb : Sm) : En → R (Bool × En) := fun e => do
  let (r, e) ← sa.tru e
  if r = true then pure (true, e) else sb.tru e
theorem and_ent (hK : X.K = W.K) {σ : St} {H : Hp} {Q : VK} (q : trV W (andV sa sb) σ H Q) : tAndT X.K (trV W sa.val) (trV W sb.val) σ H Q := by
  obtain ⟨F, L, e, o, e', ok, hf, k⟩ := q
  obtain ⟨⟨p, e1⟩, ha, hf⟩ := R.bind_ok hf
  obtain ⟨r, hr, hf⟩ := R.bind_ok hf
  refine ⟨F, L, e, p, e1, ok, ha, fun F1 H1 M1 L1 v1 st1 ok1 got1 => ⟨r, truD_ok hK ok1.sub ⟨M1, got1.own⟩ hr, ?_⟩⟩
  cases r with
  | true =>
    rw [if_pos rfl]
    exact ⟨F1, L1, e1, o, e', ok1, hf, fun F2 H2 M2 L2 v2 st2 ok2 got2 => k F2 H2 M2 L2 v2 (st1.drop.trans st2) ok2 got2⟩
  | false =>
    cases hf
    exact k F1 H1 M1 L1 v1 st1 ok1 got1
theorem or_ent (hK : X.K = W.K) {σ : St} {H : Hp} {Q : VK} (q : trV W (orV sa sb) σ H Q) : tOrT X.K (trV W sa.val) (trV W sb.val) σ H Q := by
  obtain ⟨F, L, e, o, e', ok, hf, k⟩ := q
  obtain ⟨⟨p, e1⟩, ha, hf⟩ := R.bind_ok hf
  obtain ⟨r, hr, hf⟩ := R.bind_ok hf
  refine ⟨F, L, e, p, e1, ok, ha, fun F1 H1 M1 L1 v1 st1 ok1 got1 => ⟨r, truD_ok hK ok1.sub ⟨M1, got1.own⟩ hr, ?_⟩⟩
  cases r with
  | false => exact ⟨F1, L1, e1, o, e', ok1, hf, fun F2 H2 M2 L2 v2 st2 ok2 got2 => k F2 H2 M2 L2 v2 (st1.drop.trans st2) ok2 got2⟩
  | true =>
    cases hf
    rw [if_pos rfl]
    exact k F1 H1 M1 L1 v1 st1 ok1 got1
theorem andT_ent {σ : St} {H : Hp} {Q : Bool → Hp → Prop} (q : trT W (andT sa sb) σ H Q) : tAnd (trT W sa.tru) (trT W sb.tru) σ H Q := by
  obtain ⟨F, L, e, o, e', ok, hf, k⟩ := q
  obtain ⟨⟨r, e1⟩, ha, hf⟩ := R.bind_ok hf
  refine ⟨F, L, e, r, e1, ok, ha, fun F1 H1 L1 st1 ok1 => ?_⟩
  cases r with
  | true =>
    rw [if_pos rfl]
    exact ⟨F1, L1, e1, o, e', ok1, hf, fun F2 H2 L2 st2 ok2 => k F2 H2 L2 (st1.trans st2) ok2⟩
  | false =>
    cases hf
    exact k F1 H1 L1 st1 ok1
theorem orT_ent {σ : St} {H : Hp} {Q : Bool → Hp → Prop} (q : trT W (orT sa sb) σ H Q) : tOr (trT W sa.tru) (trT W sb.tru) σ H Q := by
  obtain ⟨F, L, e, o, e', ok, hf, k⟩ := q
  obtain ⟨⟨r, e1⟩, ha, hf⟩ := R.bind_ok hf
  refine ⟨F, L, e, r, e1, ok, ha, fun F1 H1 L1 st1 ok1 => ?_⟩
  cases r with
  | false => exact ⟨F1, L1, e1, o, e', ok1, hf, fun F2 H2 L2 st2 ok2 => k F2 H2 L2 (st1.trans st2) ok2⟩
  | true =>
    cases hf
    rw [if_pos rfl]
    exact k F1 H1 L1 st1 ok1
theorem sn_and {rest : List Expr} (hK : X.K = W.K) (ha : Sn W X sa a) (hv : PE X (.BoolOp .And (b :: rest) pos) (trV W sb.val)) (hw : PW X (.BoolOp .And (b :: rest) pos) (trT W sb.tru)) :
    Sn W X { Sm.mk1 (andV sa sb) with tru := andT sa sb } (.BoolOp .And (a :: b :: rest) pos) := by
  have w : PW X (.BoolOp .And (a :: b :: rest) pos) (trT W (andT sa sb)) := ⟨fun wh pins s σ H Q I q => (pw_and ha.tru hw).run wh pins s σ H Q I (andT_ent q)⟩
  exact Sn.with hK (PE.imp (pe_andT ha.val hv) fun _ _ _ q => and_ent hK q) w.pt fun _ => w
theorem sn_or {rest : List Expr} (hK : X.K = W.K) (ha : Sn W X sa a) (hv : PE X (.BoolOp .Or (b :: rest) pos) (trV W sb.val)) (hw : PW X (.BoolOp .Or (b :: rest) pos) (trT W sb.tru)) :
    Sn W X { Sm.mk1 (orV sa sb) with tru := orT sa sb } (.BoolOp .Or (a :: b :: rest) pos) := by
  have w : PW X (.BoolOp .Or (a :: b :: rest) pos) (trT W (orT sa sb)) := ⟨fun wh pins s σ H Q I q => (pw_or ha.tru hw).run wh pins s σ H Q I (orT_ent q)⟩
  exact Sn.with hK (PE.imp (pe_orT ha.val hv) fun _ _ _ q => or_ent hK q) w.pt fun _ => w
theorem sn_not (hK : X.K = W.K) (ha : Sn W X sa a) : Sn W X { Sm.mk1 (fun e => do let (o, e) ← sa.val e; let r ← truD o.view; pure (shB (!r), e)) with tru := fun e => do let (r, e) ← sa.tru e; pure (!r, e) } (.UnaryOp .Not a pos) := by
  refine Sn.with hK (PE.imp (pe_notT ha.val) fun σ H Q q => ?_) (PT.imp (pt_not ha.tru) fun σ H Q q => ?_) fun z => (by cases z)
  · obtain ⟨F, L, e, o, e', ok, hf, k⟩ := q
    obtain ⟨⟨p, e1⟩, h1, hf⟩ := R.bind_ok hf
    obtain ⟨r, hr, hf⟩ := R.bind_ok hf
    cases hf
    exact ⟨F, L, e, p, e', ok, h1, fun F1 H1 M1 L1 v1 st1 ok1 got1 => ⟨r, truD_ok hK ok1.sub ⟨M1, got1.own⟩ hr, fin_new (e := e) st1.drop ok1 k F1 H1 [] _ (New.sh ok1.sub rfl)⟩⟩
  · obtain ⟨F, L, e, o, e', ok, hf, k⟩ := q
    obtain ⟨⟨r, e1⟩, h1, hf⟩ := R.bind_ok hf
    cases hf
    exact ⟨F, L, e, r, e', ok, h1, fun F1 H1 L1 st1 ok1 => k F1 H1 L1 st1 ok1⟩
theorem sn_ite (hK : X.K = W.K) (hc : Sn W X sc c) (ha : Sn W X sa a) (hb : Sn W X sb b) : Sn W X { Sm.mk1 (fun e => do let (r, e) ← sc.tru e; if r = true then sa.val e else sb.val e) with tru := fun _ => .bad } (.IfExp c a b pos) := by
  refine Sn.with hK (PE.imp (pe_ifExp hc.tru ha.val hb.val) fun σ H Q q => ?_) ⟨fun _ _ σ H Q _ q => (bad_trT q).elim⟩ fun z => (by cases z)
  obtain ⟨F, L, e, o, e', ok, hf, k⟩ := q
  obtain ⟨⟨r, e1⟩, h1, hf⟩ := R.bind_ok hf
  refine ⟨F, L, e, r, e1, ok, h1, fun F1 H1 L1 st1 ok1 => ?_⟩
  cases r with
  | true =>
    rw [if_pos rfl]
    exact ⟨F1, L1, e1, o, e', ok1, hf, fun F2 H2 M2 L2 v2 st2 ok2 got2 => k F2 H2 M2 L2 v2 (st1.trans st2) ok2 got2⟩
  | false => exact ⟨F1, L1, e1, o, e', ok1, hf, fun F2 H2 M2 L2 v2 st2 ok2 got2 => k F2 H2 M2 L2 v2 (st1.trans st2) ok2 got2⟩

/-! ### subscripts, slices -/
theorem sn_ix (hK : X.K = W.K) (hs : notSlice b = true) (ha : Sn W X sa a) (hb : Sn W X sb b) :
    Sn W X (two sa sb fun x y => do let d ← ixD x.view y.view; R.need (match x.flat with | some _ => true | none => match d with | .int _ | .str _ | .bl _ | .non => true | _ => false) (pure (.sh d))) (.Subscript a b pos) := by
  obtain ⟨h1, h2⟩ := ix_snd (X := X) (W := W) hK
  exact Sn.plain hK (PE.imp (pe_ix h1 ha.arg hb.arg (plainIx_of hs)) fun _ _ _ q => two_ent h2 q) rfl
/-- a part of a slice -/
def trP (W : Wd) (f : En → R (Option Int × En)) : TO := fun σ H Q => ∃ F L e o e', Ok W F H e σ L ∧ f e = .ok (o, e') ∧ ∀ F' H' L', Stp F H L F' H' L' → Ok W F' H' e' σ L' → Q o H'
theorem PO.imp {e : Option Expr} {t t' : TO} (h : PO X e t) (i : ∀ σ H Q, t' σ H Q → t σ H Q) : PO X e t' := ⟨fun pins s σ H Q I q => h.run pins s σ H Q I (i σ H Q q)⟩
theorem po_opt0 : PO X none (trP W (optI sa true)) := PO.imp po_none fun σ H Q q => by
  obtain ⟨F, L, e, o, e', ok, hf, k⟩ := q
  cases hf
  exact k F H L Stp.refl ok
theorem po_opt1 (ha : Sn W X sa a) : PO X (some a) (trP W (optI sa false)) := PO.imp (po_some ha.arg) fun σ H Q q => by
  obtain ⟨F, L, e, o, e', ok, hf, k⟩ := q
  obtain ⟨⟨x, e1⟩, h1, hf⟩ := R.bind_ok hf
  obtain ⟨ox, h2, hf⟩ := R.bind_ok hf
  refine ⟨F, L, e, x, e1, ok, h1, fun F1 H1 M1 L1 v1 st1 ok1 got1 => ?_⟩
  have s := sees_keep got1 Stp.refl ok1 h2
  split at hf
  · rename_i i ei
    cases hf
    exact ⟨i, s.vint ei, k F1 H1 L1 st1.drop ok1⟩
  · cases hf
def slV (sa : Sm) (lo hi : En → R (Option Int × En)) : En → R (O × En) := fun e => do
  let (x, e) ← sa.arg e
  let (l, e) ← lo e
  let (h, e) ← hi e
  let o ← x.see e
  let r ← slD o l h
  pure (r, e)
theorem sn_sl {lo hi : En → R (Option Int × En)} {l h : Option Expr} {p2 : Pos} (hK : X.K = W.K) (ha : Sn W X sa a) (hl : PO X l (trP W lo)) (hh : PO X h (trP W hi)) :
    Sn W X (Sm.mk1 (slV sa lo hi)) (.Subscript a (.Slice l h none p2) pos) := by
  obtain ⟨r, h1, h2⟩ := sl_snd (X := X) (W := W) hK
  refine Sn.plain hK (PE.imp (pe_slice h1 ha.arg hl hh) fun σ H Q q => ?_) rfl
  obtain ⟨F, L, e, o, e', ok, hf, k⟩ := q
  obtain ⟨⟨x, e1⟩, g1, hf⟩ := R.bind_ok hf
  obtain ⟨⟨lv, e2⟩, g2, hf⟩ := R.bind_ok hf
  obtain ⟨⟨hv, e3⟩, g3, hf⟩ := R.bind_ok hf
  obtain ⟨ox, g4, hf⟩ := R.bind_ok hf
  obtain ⟨q, g5, hf⟩ := R.bind_ok hf
  cases hf
  refine ⟨F, L, e, x, e1, ok, g1, fun F1 H1 M1 L1 v1 st1 ok1 got1 => ⟨F1, L1, e1, lv, e2, ok1, g2, fun F2 H2 L2 st2 ok2 => ⟨F2, L2, e2, hv, e', ok2, g3, fun F3 H3 L3 st3 ok3 => ?_⟩⟩⟩
  exact h2 F3 H3 ox v1 lv hv o Q ok3.sub (sees_keep got1 (st2.trans st3) ok3 g4) g5 (fin_new (e := e) ((st1.drop.trans st2).trans st3) ok3 k)
theorem sn_rev {kk : Nat} {p1 p2 p3 : Pos} (hK : X.K = W.K) (ha : Sn W X sa a) : Sn W X (one sa revD) (.Subscript a (.Slice none none (some (.UnaryOp .USub (.Constant (.int 1) kk p1) p2)) p3) pos) := by
  refine Sn.plain hK (PE.imp (PE.or (pe_revL ha.arg) (pe_revT ha.arg)) fun σ H Q q => ?_) rfl
  obtain ⟨F, L, e, o, e', ok, hf, k⟩ := q
  obtain ⟨⟨x, e1⟩, h1, hf⟩ := R.bind_ok hf
  obtain ⟨ox, h2, hf⟩ := R.bind_ok hf
  obtain ⟨q, h3, hf⟩ := R.bind_ok hf
  cases hf
  unfold revD at h3
  split at h3
  · rename_i xs ex
    cases h3
    refine .inl ⟨F, L, e, x, e', ok, h1, fun F1 H1 M1 L1 v1 st1 ok1 got1 => ?_⟩
    obtain ⟨p, vs, rfl, h4, h5⟩ := (sees_keep got1 Stp.refl ok1 h2).flst ok1.sub ex
    exact ⟨p, vs, rfl, SqL.of h4, fun p hp => fin_new (e := e) st1.drop ok1 k _ _ _ _ (New.lst ok1.sub hp h5.rev)⟩
  · rename_i xs ex
    cases h3
    refine .inr ⟨F, L, e, x, e', ok, h1, fun F1 H1 M1 L1 v1 st1 ok1 got1 => ?_⟩
    obtain ⟨p, vs, rfl, h4, h5⟩ := (sees_keep got1 Stp.refl ok1 h2).ftup ex
    exact ⟨p, vs, rfl, h4.sq ok1.sub, fun p o hp ho => fin_new (e := e) st1.drop ok1 k _ _ _ _ (New.tup ok1.sub hp ho h5.rev)⟩
  · cases h3

/-! ### lists of expressions, displays -/
theorem snl_nil : SnL W X { tks := fun e => .ok ([], e), ags := fun e => .ok ([], e) } [] := by
  constructor
  · refine PA.imp pa_nil fun σ H Q q => ?_
    obtain ⟨F, L, e, o, e', ok, hf, k⟩ := q
    cases hf
    exact k F H [] L [] Stp.refl ok ⟨rfl, rfl⟩ (by simpa using ok.nd) fun a h => (by cases h)
  · refine PA.imp pa_nil fun σ H Q q => ?_
    obtain ⟨F, L, e, o, e', ok, hf, k⟩ := q
    cases hf
    exact k F H [] L [] Stp.refl ok ⟨rfl, rfl⟩ (by simpa using ok.nd) fun a h => (by cases h)
/-- a value ahead of others that came behind it -/
theorem nd_cons {F1 H1 F2 H2 : Hp} {M1 M2 L1 L2 : List Addr} (nd1 : (M1 ++ L1).Nodup) (st : Stp F1 H1 L1 F2 H2 (M2 ++ L2)) (nd2 : (M2 ++ L2).Nodup) (hd : ∀ a ∈ M1, H1 a ≠ none) : ((M1 ++ M2) ++ L2).Nodup := by
  rw [List.append_assoc]
  exact nodup_app (nodup_l nd1) nd2 (st.apart (nodup_d nd1) hd)
theorem stp_cons {F H F1 H1 F2 H2 : Hp} {L M1 M2 L1 L2 : List Addr} (st1 : Stp F H L F1 H1 (M1 ++ L1)) (st2 : Stp F1 H1 L1 F2 H2 (M2 ++ L2)) : Stp F H L F2 H2 ((M1 ++ M2) ++ L2) := by
  refine st1.trans (st2.mono (fun x hx => List.mem_append_right _ hx) fun x hx => ?_)
  rw [List.append_assoc] at hx
  rcases List.mem_append.mp hx with hx | hx
  · exact .inr (.inl (List.mem_append_left _ hx))
  · exact .inl hx
theorem snl_cons {es : List Expr} (hst : notStar a = true) (ha : Sn W X sa a) (hr : SnL W X sb es) : SnL W X {
      tks := fun e => do let (o, e) ← sa.val e; let (os, e) ← sb.tks e; pure (o :: os, e)
      ags := fun e => do let (o, e) ← sa.arg e; let (os, e) ← sb.ags e; pure (o :: os, e) } (a :: es) := by
  constructor
  · refine PA.imp (pa_cons ha.arg hr.ags (star_cons hst es X.env)) fun σ H Q q => ?_
    obtain ⟨F, L, e, o, e', ok, hf, k⟩ := q
    obtain ⟨⟨x, e1⟩, h1, hf⟩ := R.bind_ok hf
    obtain ⟨⟨xs, e2⟩, h2, hf⟩ := R.bind_ok hf
    cases hf
    refine ⟨F, L, e, x, e1, ok, h1, fun F1 H1 M1 L1 v1 st1 ok1 got1 => ⟨F1, L1, e1, xs, e', ok1, h2, fun F2 H2 M2 L2 vs st2 ok2 own2 nd2 dj2 => ?_⟩⟩
    cases x with
    | val o =>
      have got1 : Got W F1 H1 o v1 M1 L1 := got1
      have dd := nodup_d got1.nd
      refine k F2 H2 (M1 ++ M2) L2 (v1 :: vs) (stp_cons st1 st2) ok2 ⟨v1, vs, M1, M2, rfl, rfl, got1.own.keep st2.fs (st2.kept dd), own2⟩ (nd_cons got1.nd st2 nd2 got1.own.def_) fun a h => ?_
      rcases List.mem_append.mp h with h | h
      · exact st2.unsh dd got1.own.def_ got1.dj a h
      · exact dj2 a h
    | «at» i =>
      have e0 : M1 = [] := got1.1
      subst e0
      exact k F2 H2 M2 L2 (v1 :: vs) (st1.trans st2) ok2 ⟨v1, vs, rfl, got1.2.2, own2⟩ nd2 dj2
  · refine PA.imp (pa_cons ha.val hr.tks (star_cons hst es X.env)) fun σ H Q q => ?_
    obtain ⟨F, L, e, o, e', ok, hf, k⟩ := q
    obtain ⟨⟨x, e1⟩, h1, hf⟩ := R.bind_ok hf
    obtain ⟨⟨xs, e2⟩, h2, hf⟩ := R.bind_ok hf
    cases hf
    refine ⟨F, L, e, x, e1, ok, h1, fun F1 H1 M1 L1 v1 st1 ok1 got1 => ⟨F1, L1, e1, xs, e', ok1, h2, fun F2 H2 M2 L2 vs st2 ok2 own2 nd2 dj2 => ?_⟩⟩
    have dd := nodup_d got1.nd
    refine k F2 H2 (M1 ++ M2) L2 (v1 :: vs) (stp_cons st1 st2) ok2 ⟨v1, vs, M1, M2, rfl, rfl, got1.own.keep st2.fs (st2.kept dd), own2⟩ (nd_cons got1.nd st2 nd2 got1.own.def_) fun a h => ?_
    rcases List.mem_append.mp h with h | h
    · exact st2.unsh dd got1.own.def_ got1.dj a h
    · exact dj2 a h
theorem sn_tup {es : List Expr} {x1 : Nat} (hK : X.K = W.K) (h : SnL W X sa es) : Sn W X (Sm.mk1 fun e => do let (os, e) ← sa.tks e; R.need (noInss os && decide (os.length ≤ lim)) (pure (.sh (.tup (views os)), e))) (.Tuple es x1 pos) := by
  have line : (sizeLine : Nat) = 16777216 := sizeLine_eq
  refine Sn.plain hK (PE.imp (pe_tupF h.tks) fun σ H Q q => ?_) rfl
  obtain ⟨F, L, e, o, e', ok, hf, k⟩ := q
  obtain ⟨⟨os, e1⟩, h1, hf⟩ := R.bind_ok hf
  obtain ⟨h2, hf⟩ := R.need_ok hf
  cases hf
  rw [Bool.and_eq_true, decide_eq_true_eq] at h2
  refine ⟨F, L, e, os, e', ok, h1, fun F1 H1 M1 L1 vs st1 ok1 own1 nd1 dj1 => ⟨by rw [own1.len, line]; exact h2.2, fun p o hp ho => ?_⟩⟩
  have r := Owns.frz (L0 := M1) dj1 own1 h2.1 fun a h => h
  have sb := frz_sub (H := H1) dj1
  have k2 : Ok W (frz F1 H1 M1) H1 e' σ L1 := ⟨frz_in ok1.sub, ok1.nd, fun a ha => by
    unfold frz
    rw [if_neg fun z => nodup_d nd1 a z ha]
    exact ok1.dj a ha, ok1.en.keep sb fun _ _ _ h => h⟩
  refine fin_new (e := e) (F := F) (H := H) (L := L) ?_ k2 k _ _ _ _ (New.tup k2.sub hp ho r)
  exact st1.trans (stp_frz sb (fun a o q => (frz_from q).imp_right fun z => List.mem_append_left _ z) fun a ha => List.mem_append_right _ ha)
theorem sn_lst {es : List Expr} (hK : X.K = W.K) (h : SnL W X sa es) : Sn W X (Sm.mk1 fun e => do let (os, e) ← sa.tks e; R.need (decide (os.length ≤ lim)) (pure (.lst os, e))) (.List es pos) := by
  have line : (sizeLine : Nat) = 16777216 := sizeLine_eq
  refine Sn.plain hK (PE.imp (pe_lst h.tks) fun σ H Q q => ?_) rfl
  obtain ⟨F, L, e, o, e', ok, hf, k⟩ := q
  obtain ⟨⟨os, e1⟩, h1, hf⟩ := R.bind_ok hf
  obtain ⟨h2, hf⟩ := R.need_ok hf
  cases hf
  refine ⟨F, L, e, os, e', ok, h1, fun F1 H1 M1 L1 vs st1 ok1 own1 nd1 dj1 => ⟨by rw [own1.len, line]; exact of_decide_eq_true h2, fun p hp => ?_⟩⟩
  have kp : Kp H1 (upd H1 p (.lst vs)) M1 := fun a _ o q => by rw [upd_ne (ne_of_none q hp)]; exact q
  have fp := ok1.sub.none hp
  have np : ∀ a ∈ M1 ++ L1, a ≠ p := fun a ha z => by
    subst z
    rcases List.mem_append.mp ha with ha | ha
    · exact own1.def_ a ha hp
    · exact ok1.en.def_ a ha hp
  refine k F1 (upd H1 p (.lst vs)) (p :: M1) L1 (.ref p) ?_ ?_ ⟨⟨p, vs, M1, rfl, upd_same, rfl, own1.keep (Sub.refl _) kp⟩, ?_, fun a ha => ?_⟩
  · refine st1.trans ⟨Sub.refl _, fun a o q _ => by rw [upd_ne (ne_of_none q hp)]; exact q, fun a ha => ?_, fun a o q => .inl q⟩
    rcases List.mem_cons.mp ha with rfl | ha
    · exact .inr hp
    · exact .inl ha
  · exact ⟨fun a o q => by rw [upd_ne (ne_of_none (ok1.sub a o q) hp)]; exact ok1.sub a o q, ok1.nd, ok1.dj, ok1.en.keep (Sub.refl _) fun a _ o q => by rw [upd_ne (ne_of_none q hp)]; exact q⟩
  · exact List.nodup_cons.mpr ⟨fun z => np p z rfl, nd1⟩
  · rcases List.mem_cons.mp ha with rfl | ha
    · exact fp
    · exact dj1 a ha
end
end MP

set_option Elab.async false
set_option linter.all false
/-! Snd8: calls of defs and of built-in functions, methods, tests of types. -/
namespace MP
open PySem L2
section
variable {W : Wd} {X : Cx} {sa sb sc : Sm} {a b c : Expr} {pos p : Pos} {es : List Expr}
theorem nil_ent {σ : St} {H : Hp} {Q : List V → Hp → Prop} (q : trL W (fun e => .ok ([], e)) σ H Q) : Q [] H := by
  obtain ⟨F, L, e, o, e', ok, hf, k⟩ := q
  cases hf
  exact k F H [] L [] Stp.refl ok ⟨rfl, rfl⟩ (by simpa using ok.nd) fun a h => (by cases h)

/-! ### calls of defs -/
section
variable {cf : Cfg} {f k : Nat} {fa : Addr} {fd : FuncData} {ps : List Str} {x : Str}
theorem sn_call (hK : X.K = W.K) (F : FnG X.prog X.w X.K X.mg X.base k fa fd ps (spC W (cf.call f))) (hr : Room k X.A) (hg : X.A.guards = some []) (gl : Gl X x) (hm : X.mg x = some (.ref fa)) (hk : PySem.W.keepIn X.K (.ref fa) = true)
    (hb : ∀ us : List Value, us.length = ps.length → bindArgs fd ⟨us, []⟩ = pure (ps.zip us)) (hdb : (x == ("__debug__" : Str)) = false) (hs : notStars (a :: es) = true) (ha : SnL W X sa (a :: es)) :
    Sn W X (Sm.mk1 fun e => do let (as, e) ← sa.ags e; callWith cf f as e) (.Call (.Name x p) (a :: es) [] pos) := by
  have hs2 := hs
  rw [notStars, Bool.and_eq_true] at hs2
  exact Sn.plain hK (PE.imp (pe_cl F hr hg gl hm hk hb ha.ags hdb (star_cons hs2.1 es X.env) (stars_any hs2.2)) fun _ _ _ q => call_ent q) rfl
theorem sn_call0 (hK : X.K = W.K) (F : FnG X.prog X.w X.K X.mg X.base k fa fd ps (spC W (cf.call f))) (hr : Room k X.A) (hg : X.A.guards = some []) (gl : Gl X x) (hm : X.mg x = some (.ref fa)) (hk : PySem.W.keepIn X.K (.ref fa) = true)
    (hb : ∀ us : List Value, us.length = ps.length → bindArgs fd ⟨us, []⟩ = pure (ps.zip us)) (hdb : (x == ("__debug__" : Str)) = false) :
    Sn W X (Sm.mk1 fun e => do let (as, e) ← (fun e => R.ok ([], e) : En → R (List AV × En)) e; callWith cf f as e) (.Call (.Name x p) [] [] pos) := by
  refine Sn.plain hK (PE.imp (pe_cl0 F hr hg gl hm hk hb hdb) fun σ H Q q => ?_) rfl
  have z := call_ent q
  exact nil_ent z
end

/-! ### built-in functions -/
theorem ownsA_sees {F H : Hp} {σ : St} {e : En} {L : List Addr} (ok : Ok W F H e σ L) : ∀ {as : List AV} {vs : List V} {M : List Addr} {os : List O}, OwnsA W F H σ as vs M → seeAll e as = .ok os → SeesL W F H os vs
  | [], vs, M, os, h, hm => by
    cases hm
    exact h.1
  | .val o :: as, vs, M, os, h, hm => by
    obtain ⟨v, ws, A, B, rfl, rfl, h1, h2⟩ := h
    obtain ⟨o', e1, hm⟩ := R.bind_ok hm
    obtain ⟨os', e2, hm⟩ := R.bind_ok hm
    cases hm
    cases e1
    exact ⟨v, ws, rfl, ⟨A, h1⟩, ownsA_sees ok h2 e2⟩
  | .at i :: as, vs, M, os, h, hm => by
    obtain ⟨v, ws, rfl, h1, h2⟩ := h
    obtain ⟨o', e1, hm⟩ := R.bind_ok hm
    obtain ⟨os', e2, hm⟩ := R.bind_ok hm
    cases hm
    obtain ⟨w, A, M', B, e3, e4, h3, _⟩ := ok.en.slot e1
    rw [h1] at e3
    cases e3
    exact ⟨v, ws, rfl, ⟨M', h3⟩, ownsA_sees ok h2 e2⟩
theorem mkA_ent {f : List O → R O} {r : List V → Hp → VK → Prop} (hr : CallS W f r) {ags : En → R (List AV × En)} {σ : St} {H : Hp} {Q : VK} (q : trV W (Sm.mkA ags f).val σ H Q) : tCB r (trL W ags) σ H Q := by
  obtain ⟨F, L, e, o, e', ok, hf, k⟩ := q
  obtain ⟨⟨as, e1⟩, h1, hf⟩ := R.bind_ok hf
  obtain ⟨os, h2, hf⟩ := R.bind_ok hf
  obtain ⟨q, h3, hf⟩ := R.bind_ok hf
  cases hf
  refine ⟨F, L, e, as, e', ok, h1, fun F1 H1 M1 L1 vs st1 ok1 own1 nd1 dj1 => ?_⟩
  exact hr F1 H1 os vs o Q ok1.sub (ownsA_sees ok1 own1 h2) h3 (fin_new (e := e) st1.drop ok1 k)
theorem sn_bl1 {b : Bl} (hK : X.K = W.K) (hc : X.calm = true) (hg : X.A.guards = some []) (hu : X.A.units + 70 < cLine) (gl : Gl X (blId b)) (hm : X.mg (blId b) = none) (hs : notStars (a :: es) = true) (ha : SnL W X sa (a :: es)) :
    Sn W X (Sm.mkA sa.ags (blD b)) (.Call (.Name (blId b) p) (a :: es) [] pos) := by
  have hs2 := hs
  rw [notStars, Bool.and_eq_true] at hs2
  have h1 := star_cons hs2.1 es X.env
  have h2 := stars_any (pos := pos) (env := X.env) hs2.2
  have hdb : (blId b == ("__debug__" : Str)) = false := by cases b <;> decide +kernel
  have hn : blId b ≠ "__name__" := by cases b <;> decide +kernel
  obtain ⟨r, hr, hS⟩ := bl_snd (W := W) hK hc hg hu b
  have hv := bl_boot b
  refine Sn.plain hK (PE.imp (t := tCB r (trL W sa.ags)) ?_ fun _ _ _ q => mkA_ent hS q) rfl
  cases hb : blV b with
  | builtin id =>
    rw [hb] at hr hv
    exact pe_callB hr gl hm hv ha.ags hn hdb h1 h2
  | type T =>
    rw [hb] at hr hv
    exact pe_callTy hr gl hm hv ha.ags hn hdb h1 h2
  | _ => cases b <;> cases hb

/-! ### methods -/
theorem mt_ent {m : Mt} {r : V → List V → Hp → VK → Prop} (hr : OpS W (mtD m) (fun x y H Q => r x [y] H Q)) {σ : St} {H : Hp} {Q : VK} (q : trV W (fun e => do
        let (x, e) ← sa.arg e
        let o ← x.see e
        R.need (mtOk m o.view) (do
          let (y, e) ← sb.arg e
          let o ← x.see e
          let p ← y.see e
          let r ← mtD m o p
          pure (r, e))) σ H Q) : tBM X.K "str" r (trA W sa.arg) (tCons (trA W sb.arg) tNil) σ H Q := by
  obtain ⟨F, L, e, o, e', ok, hf, k⟩ := q
  obtain ⟨⟨x, e1⟩, h1, hf⟩ := R.bind_ok hf
  obtain ⟨ox, h2, hf⟩ := R.bind_ok hf
  obtain ⟨h3, hf⟩ := R.need_ok hf
  obtain ⟨⟨y, e2⟩, h4, hf⟩ := R.bind_ok hf
  obtain ⟨ox', h5, hf⟩ := R.bind_ok hf
  obtain ⟨oy, h6, hf⟩ := R.bind_ok hf
  obtain ⟨q, h7, hf⟩ := R.bind_ok hf
  cases hf
  refine ⟨F, L, e, x, e1, ok, h1, fun F1 H1 M1 L1 v1 st1 ok1 got1 => ⟨?_, ?_⟩⟩
  · have s := sees_keep got1 Stp.refl ok1 h2
    have : ∃ z, v1 = .str z := by
      cases hv : ox.view with
      | str z => exact ⟨z, s.vstr hv⟩
      | _ =>
        rw [hv] at h3
        cases m <;> cases h3
    obtain ⟨z, rfl⟩ := this
    exact rfl
  · refine ⟨F1, L1, e1, y, e', ok1, h4, fun F2 H2 M2 L2 v2 st2 ok2 got2 => ?_⟩
    exact hr F2 H2 ox' oy v1 v2 o Q ok2.sub (sees_keep got1 st2.drop ok2 h5) (sees_keep got2 Stp.refl ok2 h6) h7 (fin_new (e := e) (st1.drop.trans st2.drop) ok2 k)
def mtT : Mt → String
  | .join => "str"
  | .split => "str"
theorem sn_mt {m : Mt} {apos cpos : Pos} (hK : X.K = W.K) (hbase : attributeBase a (mtNm m) X.env (eval a X.env) = eval a X.env) (hline : (apos.endLine == cpos.line) = true) (hs : notStar b = true) (ha : Sn W X sa a) (hb : Sn W X sb b) :
    Sn W X (Sm.mk1 fun e => do
        let (x, e) ← sa.arg e
        let o ← x.see e
        R.need (mtOk m o.view) (do
          let (y, e) ← sb.arg e
          let o ← x.see e
          let p ← y.see e
          let r ← mtD m o p
          pure (r, e))) (.Call (.Attribute a (mtNm m) apos) [b] [] cpos) := by
  obtain ⟨r, h1, h2⟩ := mt_snd (X := X) (W := W) hK m
  have hsc := star_cons hs [] X.env
  have ht : PA X [b] (tCons (trA W sb.arg) tNil) := pa_cons hb.arg pa_nil hsc
  have hany : (backTo cpos (starEach [] X.env)).any (·.1) = false := stars_any rfl
  have hall : ((backTo cpos (starEach [b] X.env)).all (fun x => !x.1) && (backToKw cpos (keywordEach [] X.env)).all (fun x => x.1.isSome)
      && decide ((b :: []).length + ([] : List Keyword).length + (if ([] : List Keyword).isEmpty then 0 else 1) < 30)) = true := by
    rw [hsc]; rfl
  refine Sn.plain hK (PE.imp (t := tBM X.K "str" r (trA W sa.arg) (tCons (trA W sb.arg) tNil)) ?_ fun _ _ _ q => mt_ent h2 q) rfl
  cases m with
  | join => exact pe_bm PySem.F.plainAttrs_str PySem.F.slot_str_join PySem.F.type_str_join h1 ha.arg ht hbase hall hline hsc hany
  | split => exact pe_bm PySem.F.plainAttrs_str PySem.F.slot_str_split PySem.F.type_str_split h1 ha.arg ht hbase hall hline hsc hany

/-! ### isinstance -/
def tyS : Ty → String
  | .str => "str" | .int => "int" | .bool => "bool" | .list => "list" | .tuple => "tuple"
def tyX : Ty → Str
  | .str => "str" | .int => "int" | .bool => "bool" | .list => "list" | .tuple => "tuple"
theorem ty_boot (t : Ty) : bootBuiltins (tyX t) = some (.type (tyS t)) := by cases t <;> decide +kernel
/-- the type's name, by the datum -/
def dTy : D → String
  | .non => "NoneType" | .bl _ => "bool" | .int _ => "int" | .str _ => "str" | .tup _ => "tuple" | .lst _ => "list" | .obj .. => "" | .arr _ => ""
def dTyN : Nat → String
  | 0 => "NoneType" | 1 => "bool" | 2 => "int" | 3 => "str" | 4 => "tuple" | _ => "list"
theorem kit_t0 (t : Ty) : kitB "NoneType" (tyS t) = some (MP.isTy t (.non)) := by cases t <;> decide +kernel
theorem kit_t1 (t : Ty) : kitB "bool" (tyS t) = some (MP.isTy t (.bl true)) := by cases t <;> decide +kernel
theorem kit_t2 (t : Ty) : kitB "int" (tyS t) = some (MP.isTy t (.int 0)) := by cases t <;> decide +kernel
theorem kit_t3 (t : Ty) : kitB "str" (tyS t) = some (MP.isTy t (.str "")) := by cases t <;> decide +kernel
theorem kit_t4 (t : Ty) : kitB "tuple" (tyS t) = some (MP.isTy t (.tup [])) := by cases t <;> decide +kernel
theorem kit_t5 (t : Ty) : kitB "list" (tyS t) = some (MP.isTy t (.lst [])) := by cases t <;> decide +kernel
theorem kit_all (t : Ty) : ∀ d : D, hasTy d = true → kitB (dTy d) (tyS t) = some (MP.isTy t d)
  | .non, _ => by have z := kit_t0 t; cases t <;> exact z
  | .bl _, _ => by have z := kit_t1 t; cases t <;> exact z
  | .int _, _ => by have z := kit_t2 t; cases t <;> exact z
  | .str _, _ => by have z := kit_t3 t; cases t <;> exact z
  | .tup _, _ => by have z := kit_t4 t; cases t <;> exact z
  | .lst _, _ => by have z := kit_t5 t; cases t <;> exact z
  | .obj .., h => by cases h
  | .arr _, h => by cases h
theorem Sees.ty {K : PySem.W.Frag} {F H : Hp} {o : O} {x : V} (s : Sees W F H o x) (sb : Sub F H) (h : hasTy o.view = true) : TyX K H x (.type (dTy o.view)) := by
  cases e : o.view with
  | non => rw [s.vnon e]; exact .base .non
  | bl b => rw [s.vbl e]; exact .base (.bl b)
  | int i => rw [s.vint e]; exact .base (.int i)
  | str z => rw [s.vstr e]; exact .base (.str z)
  | tup xs =>
    obtain ⟨p, vs, rfl, h2, _⟩ := s.vtup e
    obtain ⟨o, h3, _⟩ := h2
    exact .fTuple (sb _ _ h3)
  | lst xs =>
    obtain ⟨p, vs, rfl, h2, _⟩ := s.vlst sb e
    exact .base (.lst h2)
  | obj c xs => rw [e] at h; cases h
  | arr ns => rw [e] at h; cases h
theorem sn_isTy {t : Ty} {p2 : Pos} (hK : X.K = W.K) (gl : Gl X "isinstance") (hm : X.mg "isinstance" = none) (gt : Gl X (tyX t)) (hmt : X.mg (tyX t) = none) (hs : notStar a = true) (ha : Sn W X sa a) :
    Sn W X (one sa fun x => R.need (hasTy x.view) (pure (shB (MP.isTy t x.view)))) (.Call (.Name "isinstance" p) [a, .Name (tyX t) p2] [] pos) := by
  have hn : tyX t ≠ "__name__" := by cases t <;> decide +kernel
  have hd : (tyX t == ("__debug__" : Str)) = false := by cases t <;> decide +kernel
  have ht : PA X [a, .Name (tyX t) p2] (tCons (trA W sa.arg) (tCons (tC (.ty (tyS t))) tNil)) :=
    pa_cons ha.arg (pa_cons (pe_bltn gt hmt (ty_boot t) rfl hn hd) pa_nil) (star_cons hs _ X.env)
  refine Sn.plain hK (PE.imp (pe_callB call_isi gl hm (by decide +kernel) ht (by decide +kernel) (by decide +kernel) (star_cons hs _ X.env) (stars_any rfl)) fun σ H Q q => ?_) rfl
  obtain ⟨F, L, e, o, e', ok, hf, k⟩ := q
  obtain ⟨⟨x, e1⟩, h1, hf⟩ := R.bind_ok hf
  obtain ⟨ox, h2, hf⟩ := R.bind_ok hf
  obtain ⟨q, h3, hf⟩ := R.bind_ok hf
  cases hf
  obtain ⟨h4, h5⟩ := R.need_ok h3
  cases h5
  refine ⟨F, L, e, x, e', ok, h1, fun F1 H1 M1 L1 v1 st1 ok1 got1 => ?_⟩
  refine ⟨v1, .ty (tyS t), .type (dTy ox.view), .type (tyS t), MP.isTy t ox.view, rfl, .ty _, (sees_keep got1 Stp.refl ok1 h2).ty ok1.sub h4, kit_ty (kit_all t _ h4), ?_⟩
  exact fin_new (e := e) st1.drop ok1 k F1 H1 [] _ (New.sh ok1.sub rfl)

/-! ### list.pop(i) -/
theorem Owns.erase {F H : Hp} : ∀ {xs : List O} {vs : List V} {M : List Addr}, Owns W F H xs vs M → ∀ {j : Nat} {o : O}, xs[j]? = some o → ∃ v A B C, vs[j]? = some v ∧ M = A ++ B ++ C ∧ Own W F H o v B ∧ Owns W F H (xs.eraseIdx j) (vs.eraseIdx j) (A ++ C)
  | [], _, _, _, j, o, e => by simp at e
  | x :: xs, _, _, h, 0, o, e => by
    obtain ⟨v, ws, A, B, rfl, rfl, h1, h2⟩ := h
    simp at e
    subst e
    exact ⟨v, [], A, B, rfl, rfl, h1, by simpa using h2⟩
  | x :: xs, _, _, h, j + 1, o, e => by
    obtain ⟨v, ws, A, B, rfl, rfl, h1, h2⟩ := h
    obtain ⟨w, A2, B2, C2, e1, rfl, h3, h4⟩ := h2.erase (j := j) (o := o) (by simpa using e)
    exact ⟨w, A ++ A2, B2, C2, by simpa using e1, by simp, h3, v, _, A, A2 ++ C2, rfl, by simp, h1, h4⟩
theorem sn_pop {i : Nat} {x : Str} {sp : Pos} {apos cpos : Pos} (hK : X.K = W.K) (hN : X.N[i]? = some x) (hv : Vis X.env.scope x) (hd : (x == ("__debug__" : Str)) = false) (hcd : (x == ("__classdict__" : Str)) = false)
    (hbase : attributeBase (.Name x sp) "pop" X.env (eval (.Name x sp) X.env) = eval (.Name x sp) X.env) (hline : (apos.endLine == cpos.line) = true) (hs : notStar b = true) (hb : Sn W X sb b) :
    Sn W X (Sm.mk1 fun e => do
      let o ← e.get i
      R.need (isLst o) (do
      let (y, e) ← sb.arg e
      let p ← y.see e
      let o ← e.get i
      match o, p.view with
      | .lst xs, .int k => R.need (decide (-(2 ^ 63) ≤ k) && decide (k < 2 ^ 63)) (do
        let j ← R.of (seqIndex? k xs.length)
        let v ← R.of (xs[j]?)
        pure (v, e.set i (some (.lst (xs.eraseIdx j)))))
      | _, _ => .bad)) (.Call (.Attribute (.Name x sp) "pop" apos) [b] [] cpos) := by
  have hsc := star_cons hs [] X.env
  have ht : PA X [b] (tCons (trA W sb.arg) tNil) := pa_cons hb.arg pa_nil hsc
  have hany : (backTo cpos (starEach [] X.env)).any (·.1) = false := stars_any rfl
  have hall : ((backTo cpos (starEach [b] X.env)).all (fun x => !x.1) && (backToKw cpos (keywordEach [] X.env)).all (fun x => x.1.isSome)
      && decide ((b :: []).length + ([] : List Keyword).length + (if ([] : List Keyword).isEmpty then 0 else 1) < 30)) = true := by
    rw [hsc]; rfl
  refine Sn.plain hK (PE.imp (pe_bm PySem.F.plainAttrs_list PySem.F.slot_list_pop PySem.F.type_list_pop mt_popAt (pe_var (X := X) hN hv hd hcd) ht hbase hall hline hsc hany) fun σ H Q q => ?_) rfl
  obtain ⟨F, L, e, o, e', ok, hf, k⟩ := q
  obtain ⟨o1, h1, hf⟩ := R.bind_ok hf
  obtain ⟨h2, hf⟩ := R.need_ok hf
  obtain ⟨ys, rfl⟩ : ∃ ys, o1 = .lst ys := by
    cases o1 with
    | lst ys => exact ⟨ys, rfl⟩
    | _ => cases h2
  obtain ⟨⟨y, e1⟩, h3, hf⟩ := R.bind_ok hf
  obtain ⟨oy, h4, hf⟩ := R.bind_ok hf
  obtain ⟨o2, h5, hf⟩ := R.bind_ok hf
  obtain ⟨v, A, M, B, g1, g2, own, _⟩ := ok.en.slot h1
  obtain ⟨p, vs, M', rfl, g3, _, _⟩ := own
  refine ⟨.ref p, g1, .inl ⟨rfl, vs, SqL.of g3⟩, F, L, e, y, e1, ok, h3, fun F1 H1 M1 L1 v1 st1 ok1 got1 => ?_⟩
  split at hf
  · rename_i xs kk ey
    obtain ⟨hb, hf⟩ := R.need_ok hf
    simp only [Bool.and_eq_true, decide_eq_true_eq] at hb
    obtain ⟨j, h6, hf⟩ := R.bind_ok hf
    obtain ⟨r, h7, hf⟩ := R.bind_ok hf
    cases hf
    obtain ⟨v2, A1, M2, B1, g4, g5, own2, up⟩ := ok1.en.slot h5
    rw [g1] at g4
    cases g4
    obtain ⟨p2, vs2, M3, ep, g6, rfl, own3⟩ := own2
    cases ep
    obtain ⟨w, A3, B3, C3, g7, rfl, own4, own5⟩ := own3.erase (R.of_ok h7)
    have pm : (B3 ++ (A1 ++ (p :: (A3 ++ C3)) ++ B1)).Perm L1 := by
      rw [g5, List.perm_iff_count]
      intro z
      simp only [List.count_append, List.count_cons]
      omega
    have nd := pm.nodup_iff.mpr ok1.nd
    have inL : ∀ z ∈ B3 ++ (A1 ++ (p :: (A3 ++ C3)) ++ B1), z ∈ L1 := fun z hz => pm.mem_iff.mp hz
    have pL : p ∈ L1 := inL p (by simp)
    have kp : ∀ T : List Addr, (∀ z ∈ T, z ≠ p) → Kp H1 (upd H1 p (.lst (vs2.eraseIdx j))) T := fun T hT z hz o q => by rw [upd_ne (hT z hz)]; exact q
    have np : ∀ z ∈ A3 ++ C3, z ≠ p := fun z hz e0 => by
      subst e0
      have n2 := nodup_l (nodup_r (A := A1) (by rw [← List.append_assoc]; exact nodup_r nd))
      exact (List.nodup_cons.mp n2).1 hz
    have np1 : ∀ z ∈ A1 ++ B1, z ≠ p := fun z hz e0 => by
      subst e0
      have n2 := nodup_r nd
      rcases List.mem_append.mp hz with hz | hz
      · exact nodup_d (nodup_l n2) z hz (by simp)
      · exact nodup_d n2 z (by simp) hz
    have npB : ∀ z ∈ B3, z ≠ p := fun z hz e0 => by
      subst e0
      exact nodup_d nd z hz (by simp)
    have u := up F1 (upd H1 p (.lst (vs2.eraseIdx j))) (some (.lst (xs.eraseIdx j))) (some (.ref p)) (p :: (A3 ++ C3)) (Sub.refl _) (kp _ np1) ⟨.ref p, rfl, p, _, A3 ++ C3, rfl, upd_same, rfl, own5.keep (Sub.refl _) (kp _ np)⟩
    rw [set_self g1] at u
    have hl := own5.len
    have hl2 : vs2.length = xs.length := by
      have z1 : j < vs2.length := (List.getElem?_eq_some_iff.mp g7).1
      have z2 : j < xs.length := (List.getElem?_eq_some_iff.mp (R.of_ok h7)).1
      rw [List.length_eraseIdx, List.length_eraseIdx, if_pos z1, if_pos z2] at hl
      omega
    refine ⟨p, vs2, kk, j, w, rfl, by rw [(sees_keep got1 Stp.refl ok1 h4).vint ey], g6, hb.1, hb.2, by rw [hl2]; exact R.of_ok h6, g7, ?_⟩
    refine k F1 _ B3 _ w (st1.drop.trans ⟨Sub.refl _, fun z o q hz => ?_, fun z hz => .inl (inL z hz), fun z o q => .inl q⟩) ⟨fun z o q => ?_, nodup_r nd, fun z hz => ok1.dj z (inL z (List.mem_append_right _ hz)), u⟩ ⟨own4.keep (Sub.refl _) (kp _ npB), nd, fun z hz => ok1.dj z (inL z (List.mem_append_left _ hz))⟩
    · rw [upd_ne fun e0 => hz (by rw [e0]; exact pL)]
      exact q
    · rw [upd_ne fun e0 => by
        rw [e0, ok1.dj p pL] at q
        cases q]
      exact ok1.sub z o q
  · cases hf
end
end MP

set_option Elab.async false
set_option linter.all false
/-! Snd9: calls with keywords, starred items. -/
namespace MP
open PySem L2
section
variable {W : Wd} {X : Cx} {sa sb sc : Sm} {a b c : Expr} {pos p : Pos} {es : List Expr}
section
variable {F F' H H' : Hp} {σ : St}
theorem OwnsA.keep (s : Sub F F') : ∀ {as : List AV} {ws : List V} {M : List Addr}, OwnsA W F H σ as ws M → Kp H H' M → OwnsA W F' H' σ as ws M
  | [], _, _, h, _ => h
  | .val o :: as, _, _, h, k => by
    obtain ⟨v, us, A, B, rfl, rfl, h3, h4⟩ := h
    exact ⟨v, us, A, B, rfl, rfl, h3.keep s (k.sub fun b hb => List.mem_append_left _ hb), OwnsA.keep s h4 (k.sub fun b hb => List.mem_append_right _ hb)⟩
  | .at j :: as, _, _, h, k => by
    obtain ⟨v, us, rfl, h3, h4⟩ := h
    exact ⟨v, us, rfl, h3, OwnsA.keep s h4 k⟩
theorem OwnsA.app {bs : List AV} {ws : List V} {B : List Addr} (g : OwnsA W F H σ bs ws B) : ∀ {as : List AV} {vs : List V} {A : List Addr}, OwnsA W F H σ as vs A → OwnsA W F H σ (as ++ bs) (vs ++ ws) (A ++ B)
  | [], _, _, h => by
    obtain ⟨rfl, rfl⟩ := h
    exact g
  | .val o :: as, _, _, h => by
    obtain ⟨v, us, A, C, rfl, rfl, h3, h4⟩ := h
    exact ⟨v, us ++ ws, A, C ++ B, rfl, by simp, h3, g.app h4⟩
  | .at j :: as, _, _, h => by
    obtain ⟨v, us, rfl, h3, h4⟩ := h
    exact ⟨v, us ++ ws, rfl, h3, g.app h4⟩
theorem OwnsA.len : ∀ {as : List AV} {vs : List V} {A : List Addr}, OwnsA W F H σ as vs A → vs.length = as.length
  | [], _, _, h => by rw [h.1]; rfl
  | .val o :: as, _, _, h => by
    obtain ⟨v, us, A, C, rfl, rfl, h3, h4⟩ := h
    rw [List.length_cons, List.length_cons, h4.len]
  | .at j :: as, _, _, h => by
    obtain ⟨v, us, rfl, h3, h4⟩ := h
    rw [List.length_cons, List.length_cons, h4.len]
/-- each argument's own part -/
theorem OwnsA.parts : ∀ {as : List AV} {vs : List V} {M : List Addr}, OwnsA W F H σ as vs M → ∃ part : Nat → List Addr, (∀ i a, as[i]? = some a → ∃ v, vs[i]? = some v ∧ OwnsA W F H σ [a] [v] (part i)) ∧
    (∀ i z, z ∈ part i → z ∈ M) ∧ (M.Nodup → (∀ i, (part i).Nodup) ∧ ∀ i j z, z ∈ part i → z ∈ part j → i = j)
  | [], _, _, h => ⟨fun _ => [], fun i a e => by simp at e, fun i z hz => (by cases hz), fun _ => ⟨fun _ => List.nodup_nil, fun i j z hz => (by cases hz)⟩⟩
  | .val o :: as, _, _, h => by
    obtain ⟨v, us, A, C, rfl, rfl, h3, h4⟩ := h
    obtain ⟨part, p1, p2, p3⟩ := h4.parts
    refine ⟨fun i => match i with | 0 => A | i + 1 => part i, fun i a e => ?_, fun i z hz => ?_, fun nd => ⟨fun i => ?_, fun i j z hz hw => ?_⟩⟩
    · cases i with
      | zero =>
        simp at e
        subst e
        exact ⟨v, rfl, v, [], A, [], rfl, by simp, h3, rfl, rfl⟩
      | succ i => exact p1 i a (by simpa using e)
    · cases i with
      | zero => exact List.mem_append_left _ hz
      | succ i => exact List.mem_append_right _ (p2 i z hz)
    · cases i with
      | zero => exact nodup_l nd
      | succ i => exact (p3 (nodup_r nd)).1 i
    · cases i with
      | zero =>
        cases j with
        | zero => rfl
        | succ j => exact (nodup_d nd z hz (p2 j z hw)).elim
      | succ i =>
        cases j with
        | zero => exact (nodup_d nd z hw (p2 i z hz)).elim
        | succ j => exact congrArg (· + 1) ((p3 (nodup_r nd)).2 i j z hz hw)
  | .at k :: as, _, _, h => by
    obtain ⟨v, us, rfl, h3, h4⟩ := h
    obtain ⟨part, p1, p2, p3⟩ := h4.parts
    refine ⟨fun i => match i with | 0 => [] | i + 1 => part i, fun i a e => ?_, fun i z hz => ?_, fun nd => ⟨fun i => ?_, fun i j z hz hw => ?_⟩⟩
    · cases i with
      | zero =>
        simp at e
        subst e
        exact ⟨v, rfl, v, [], rfl, h3, rfl, rfl⟩
      | succ i => exact p1 i a (by simpa using e)
    · cases i with
      | zero => cases hz
      | succ i => exact p2 i z hz
    · cases i with
      | zero => exact List.nodup_nil
      | succ i => exact (p3 nd).1 i
    · cases i with
      | zero => cases hz
      | succ i =>
        cases j with
        | zero => cases hw
        | succ j => exact congrArg (· + 1) ((p3 nd).2 i j z hz hw)
theorem OwnsA.pick {as : List AV} {vs : List V} {M : List Addr} (h : OwnsA W F H σ as vs M) (nd : M.Nodup) {g : List Nat} (hg : g.Nodup) {bs : List AV} (e : MP.pick as g = some bs) :
    ∃ ws N, MP.pick vs g = some ws ∧ OwnsA W F H σ bs ws N ∧ N.Nodup ∧ ∀ z ∈ N, z ∈ M := by
  obtain ⟨part, p1, p2, p3⟩ := h.parts
  obtain ⟨p4, p5⟩ := p3 nd
  have key : ∀ (g : List Nat) (bs : List AV), g.Nodup → MP.pick as g = some bs → ∃ ws N, MP.pick vs g = some ws ∧ OwnsA W F H σ bs ws N ∧ N.Nodup ∧ ∀ z ∈ N, ∃ i ∈ g, z ∈ part i := by
    intro g
    induction g with
    | nil =>
      intro bs _ e
      cases e
      exact ⟨[], [], rfl, ⟨rfl, rfl⟩, List.nodup_nil, fun z hz => (by cases hz)⟩
    | cons i g ih =>
      intro bs hg e
      obtain ⟨hi, hg⟩ := List.nodup_cons.mp hg
      unfold MP.pick at e
      split at e
      · rename_i x ys e1 e2
        cases e
        obtain ⟨v, e3, o1⟩ := p1 i x e1
        obtain ⟨ws, N, e4, o2, n2, m2⟩ := ih ys hg e2
        have o3 := o2.app o1
        refine ⟨v :: ws, part i ++ N, by unfold MP.pick; rw [e3, e4], o3, nodup_app (p4 i) n2 fun z hz hw => ?_, fun z hz => ?_⟩
        · obtain ⟨j, hj, hz2⟩ := m2 z hw
          have := p5 i j z hz hz2
          subst this
          exact hi hj
        · rcases List.mem_append.mp hz with hz | hz
          · exact ⟨i, List.mem_cons_self, hz⟩
          · obtain ⟨j, hj, hz2⟩ := m2 z hz
            exact ⟨j, List.mem_cons_of_mem _ hj, hz2⟩
      · cases e
  obtain ⟨ws, N, h1, h2, h3, h4⟩ := key g bs hg e
  exact ⟨ws, N, h1, h2, h3, fun z hz => let ⟨i, _, h⟩ := h4 z hz; p2 i z h⟩
end
theorem vals_get : ∀ {vs : List V} {us : List Value}, Vals vs us → ∀ {i : Nat} {v : V}, vs[i]? = some v → ∃ u, us[i]? = some u ∧ RelV v u
  | _, _, .nil, i, v, e => by simp at e
  | _, _, .cons r rr, 0, v, e => by
    simp at e
    subst e
    exact ⟨_, rfl, r⟩
  | _, _, .cons r rr, i + 1, v, e => by
    obtain ⟨u, h1, h2⟩ := vals_get rr (i := i) (v := v) (by simpa using e)
    exact ⟨u, by simpa using h1, h2⟩
theorem vals_pick {vs : List V} {us : List Value} (r : Vals vs us) : ∀ {g : List Nat} {ws : List V}, pick vs g = some ws → ∃ zs, pick us g = some zs ∧ Vals ws zs
  | [], _, e => by cases e; exact ⟨[], rfl, .nil⟩
  | i :: g, _, e => by
    unfold pick at e
    split at e
    · rename_i x ys e1 e2
      cases e
      obtain ⟨u, h1, h2⟩ := vals_get r e1
      obtain ⟨zs, h3, h4⟩ := vals_pick r e2
      exact ⟨u :: zs, by unfold pick; rw [h1, h3], .cons h2 h4⟩
    · cases e
/-- the call itself -/
theorem call_go {c : Cfg} {f : Nat} {F H F1 H1 : Hp} {L L1 M1 : List Addr} {e1 e' : En} {σ : St} {o : O} {as : List AV} {vs : List V} {Q : VK} {E : XK} (ok1 : Ok W F1 H1 e1 σ L1) (own1 : OwnsA W F1 H1 σ as vs M1) (nd1 : (M1 ++ L1).Nodup) (dj1 : ∀ a ∈ M1, F1 a = none)
    (hf : callWith c f as e1 = .ok (o, e')) (st1 : Stp F H L F1 H1 (M1 ++ L1)) (k : ∀ F' H' M L' v, Stp F H L F' H' (M ++ L') → Ok W F' H' e' σ L' → Got W F' H' o v M L' → Q v H') : spC W (c.call f) vs H1 Q E := by
  obtain ⟨⟨os, e2⟩, hl, hf⟩ := R.bind_ok hf
  obtain ⟨⟨o', os'⟩, hc, hf⟩ := R.bind_ok hf
  cases hf
  obtain ⟨F2, C, R, ok2, own2, nd2, dj2, st2⟩ := lend_ok (c.asg f) as 0 F1 e1 L1 M1 vs os e2 ok1 own1 nd1 dj1 hl
  refine ⟨F2, C, os, o, os', ok2.sub, own2, nodup_l nd2, dj2, hc, fun F3 H3 M C' v st3 sb3 own3 own3' nd3 dj3 => ?_⟩
  have dR : ∀ x ∈ R, x ∉ C := fun x hx hy => nodup_d nd2 x hy hx
  have dfR := ok2.en.def_
  have k3 : Ok W F3 H3 e2 σ R := ⟨sb3, ok2.nd, st3.unsh dR dfR ok2.dj, ok2.en.keep st3.fs (st3.kept dR)⟩
  have apR := st3.apart dR dfR
  obtain ⟨R', k4, m4⟩ := giveBack_ok (c.asg f) as 0 e2 R C' vs os' k3 own1.slots own3' (nodup_app (nodup_r nd3) ok2.nd fun x hx hy => apR x hy (List.mem_append_right _ hx)) fun a ha => dj3 a (List.mem_append_right _ ha)
  refine k F3 H3 M R' v ?_ k4 ⟨own3, nodup_app (nodup_l nd3) k4.nd fun x hx hy => ?_, fun a ha => dj3 a (List.mem_append_left _ ha)⟩
  · refine (st1.trans st2).trans ?_
    refine st3.mono (fun x hx => List.mem_append_left _ hx) fun x hx => ?_
    rcases List.mem_append.mp hx with hx | hx
    · exact .inl (List.mem_append_left _ hx)
    · rcases m4 x hx with z | z
      · exact .inl (List.mem_append_right _ z)
      · exact .inr (.inl (List.mem_append_right _ z))
  · rcases m4 x hy with z | z
    · exact nodup_d nd3 x hx z
    · exact apR x z (List.mem_append_left _ hx)
/-- .. with keywords, its values picked in the parameters' order -/
def tClK (sp : Sp) (t tk : TA) (g : List Nat) : TE := fun σ H Q => t σ H fun vs H1 => tk σ H1 fun zs H2 => ∃ ws, pick (vs ++ zs) g = some ws ∧ sp ws H2 Q fun _ _ _ => False
theorem callK_ent {cf : Cfg} {f : Nat} {g : List Nat} {A B : En → R (List AV × En)} {σ : St} {H : Hp} {Q : VK} (q : trV W (fun e => do
      let (as, e) ← A e
      let (bs, e) ← B e
      R.need (decide g.Nodup) (do
        let xs ← R.of (pick (as ++ bs) g)
        callWith cf f xs e)) σ H Q) : tClK (spC W (cf.call f)) (trL W A) (trL W B) g σ H Q := by
  obtain ⟨F, L, e, o, e', ok, hf, k⟩ := q
  obtain ⟨⟨as, e1⟩, h1, hf⟩ := R.bind_ok hf
  obtain ⟨⟨bs, e2⟩, h2, hf⟩ := R.bind_ok hf
  obtain ⟨h3, hf⟩ := R.need_ok hf
  obtain ⟨xs, h4, hf⟩ := R.bind_ok hf
  refine ⟨F, L, e, as, e1, ok, h1, fun F1 H1 M1 L1 vs st1 ok1 own1 nd1 dj1 => ⟨F1, L1, e1, bs, e2, ok1, h2, fun F2 H2 M2 L2 zs st2 ok2 own2 nd2 dj2 => ?_⟩⟩
  have dd := nodup_d nd1
  have def1 : ∀ a ∈ M1, H1 a ≠ none := by
    have key : ∀ (as : List AV) (vs : List V) (M : List Addr), OwnsA W F1 H1 σ as vs M → ∀ a ∈ M, H1 a ≠ none := by
      intro as
      induction as with
      | nil => intro vs M h a ha; rw [h.2] at ha; cases ha
      | cons x as ih =>
        intro vs M h a ha
        cases x with
        | val o =>
          obtain ⟨v, us, A, B, rfl, rfl, h3, h4⟩ := h
          rcases List.mem_append.mp ha with ha | ha
          · exact h3.def_ a ha
          · exact ih _ _ h4 a ha
        | «at» i =>
          obtain ⟨v, us, rfl, h3, h4⟩ := h
          exact ih _ _ h4 a ha
    exact key _ _ _ own1
  have own := (own2.app (own1.keep st2.fs (st2.kept dd)))
  have ndA := nd_cons nd1 st2 nd2 def1
  obtain ⟨ws, N, p1, p2, p3, p4⟩ := own.pick (nodup_l ndA) (of_decide_eq_true h3) (R.of_ok h4)
  refine ⟨ws, p1, call_go (F := F) (H := H) (L := L) ok2 p2 (nodup_app p3 ok2.nd fun x hx hy => nodup_d ndA x (p4 x hx) hy) (fun a ha => ?_) hf ?_ k⟩
  · rcases List.mem_append.mp (p4 a ha) with z | z
    · exact st2.unsh dd def1 dj1 a z
    · exact dj2 a z
  · have s := stp_cons st1 st2
    exact ⟨s.fs, s.kp, fun x hx => s.ow x (by
      rcases List.mem_append.mp hx with hx | hx
      · exact List.mem_append_left _ (p4 x hx)
      · exact List.mem_append_right _ hx), s.fr⟩

/-- the keywords' names -/
def kwNs : List Keyword → Option (List Str)
  | [] => some []
  | ⟨some n, _, _⟩ :: ks => (kwNs ks).map (n :: ·)
  | ⟨none, _, _⟩ :: _ => none
theorem kw_facts {env : Env} {pos : Pos} : ∀ {kws : List Keyword} {ks : List Str}, kwNs kws = some ks → (backToKw pos (keywordEach kws env)).all (·.1.isSome) = true ∧ (backToKw pos (keywordEach kws env)).filterMap (·.1) = ks ∧
    (backToKw pos (keywordEach kws env)).any (·.1.isNone) = false
  | [], _, h => by cases h; exact ⟨rfl, rfl, rfl⟩
  | ⟨some n, e, p⟩ :: kws, _, h => by
    simp only [kwNs, Option.map_eq_some_iff] at h
    obtain ⟨ks, h1, rfl⟩ := h
    obtain ⟨h2, h3, h4⟩ := kw_facts (pos := pos) (env := env) h1
    refine ⟨?_, ?_, ?_⟩
    · show ((some n).isSome && (backToKw pos (keywordEach kws env)).all (·.1.isSome)) = true
      rw [h2]; rfl
    · show n :: (backToKw pos (keywordEach kws env)).filterMap (·.1) = _
      rw [h3]
    · show ((some n).isNone || (backToKw pos (keywordEach kws env)).any (·.1.isNone)) = false
      rw [h4]; rfl
  | ⟨none, _, _⟩ :: _, _, h => by cases h
theorem run_fngK {k : Nat} {f : Addr} {fd : FuncData} {ps ks : List Str} {sp : Sp} {g : List Nat} {pins : List (Addr × Obj)} {σ : St} {H : Hp} {s : Shared} {Q : VK} {us zs : List Value} {vs ws xs : List V} (F : FnG X.prog X.w X.K X.mg X.base k f fd ps sp) (hr : Room k X.A) (hg : X.A.guards = some [])
    (I : Inv X pins σ H s) (hb : ∀ ys, pick (us ++ zs) g = some ys → ys.length = ps.length → bindArgs fd ⟨us, ks.zip zs⟩ = pure (ps.zip ys)) (r : Vals vs us) (r2 : Vals ws zs) (hp : pick (vs ++ ws) g = some xs) (h : sp xs H Q fun _ _ _ => False) :
    wpAny (model X.prog X.w) X.A (call (.ref f) us (ks.zip zs)) (EP X pins σ Q) X.xe s := by
  obtain ⟨ys, h1, h2⟩ := vals_pick (r.append r2) hp
  have hl : ys.length = ps.length := by rw [← h2.length]; exact F.len _ _ _ _ h
  exact run_fng F hr hg I (.of_eq (hb ys h1 hl)) h2 h
variable {cf : Cfg} {f k : Nat} {fa : Addr} {fd : FuncData} {ps ks : List Str} {x : Str} {g : List Nat} {kws : List Keyword}
theorem sn_callK (hK : X.K = W.K) (F : FnG X.prog X.w X.K X.mg X.base k fa fd ps (spC W (cf.call f))) (hr : Room k X.A) (hg : X.A.guards = some []) (gl : Gl X x) (hm : X.mg x = some (.ref fa)) (hk : PySem.W.keepIn X.K (.ref fa) = true)
    (hb : ∀ us zs ys : List Value, us.length = es.length → zs.length = kws.length → pick (us ++ zs) g = some ys → ys.length = ps.length → bindArgs fd ⟨us, ks.zip zs⟩ = pure (ps.zip ys)) (hdb : (x == ("__debug__" : Str)) = false)
    (ha0 : es = [] → sa.ags = fun e => .ok ([], e)) (hs : notStars es = true) (hkn : kwNs kws = some ks) (ha : SnL W X sa es) (hla : ∀ e as e', sa.ags e = .ok (as, e') → as.length = es.length) (hkw : PK X kws (trL W sb.ags)) (hlb : ∀ e as e', sb.ags e = .ok (as, e') → as.length = kws.length) :
    Sn W X (Sm.mk1 fun e => do
      let (as, e) ← sa.ags e
      let (bs, e) ← sb.ags e
      R.need (decide g.Nodup) (do
        let xs ← R.of (pick (as ++ bs) g)
        callWith cf f xs e)) (.Call (.Name x p) es kws pos) := by
  obtain ⟨k1, k2, k3⟩ := kw_facts (pos := pos) (env := X.env) hkn
  have hpl : ((backTo pos (starEach es X.env)).any (·.1) || (backToKw pos (keywordEach kws X.env)).any (·.1.isNone)) = false := by rw [stars_any hs, k3]; rfl
  refine Sn.plain hK ?_ rfl
  constructor
  intro pins s σ H Q I q
  have z := callK_ent q
  -- the values have the arguments' number
  have z2 : trL W sa.ags σ H fun vs H1 => vs.length = es.length ∧ trL W sb.ags σ H1 fun zs H2 => zs.length = kws.length ∧ ∃ ws, pick (vs ++ zs) g = some ws ∧ spC W (cf.call f) ws H2 Q fun _ _ _ => False := by
    obtain ⟨F1, L1, e1, as, e2, ok1, h1, kk⟩ := z
    refine ⟨F1, L1, e1, as, e2, ok1, h1, fun F2 H2 M2 L2 vs st2 ok2 own2 nd2 dj2 => ⟨by rw [own2.len, hla _ _ _ h1], ?_⟩⟩
    obtain ⟨F3, L3, e3, bs, e4, ok3, h3, kk3⟩ := kk F2 H2 M2 L2 vs st2 ok2 own2 nd2 dj2
    exact ⟨F3, L3, e3, bs, e4, ok3, h3, fun F4 H4 M4 L4 zs st4 ok4 own4 nd4 dj4 => ⟨by rw [own4.len, hlb _ _ _ h3], kk3 F4 H4 M4 L4 zs st4 ok4 own4 nd4 dj4⟩⟩
  refine wpAny_Call_Name_kw (ld_glob I gl hm ?_ hdb)
  cases es with
  | nil =>
    rw [ha0 rfl] at z2
    obtain ⟨hl, z3⟩ := nil_ent z2
    refine PySem.W.callWith_KW0 (h₀ := X.base) I.ok.mod.kin hk k1 (thn (hkw.run pos pins s σ H _ I z3) fun ws s2 ⟨zs, H2, I2, rz, hl2, xs, hp, q2⟩ => ⟨I2.kIn, ?_⟩) hpl
    rw [k2]
    exact run_fngK (us := []) F hr hg I2 (fun ys => hb [] ws ys rfl (by rw [← rz.length, hl2])) .nil rz hp q2
  | cons e0 es0 =>
    have hs2 := hs
    rw [notStars, Bool.and_eq_true] at hs2
    refine PySem.W.callWith_KW (h₀ := X.base) I.ok.mod.kin hk k1 (thn (ha.ags.run pos pins s σ H _ I z2) fun us s1 ⟨vs, H1, I1, r, hl, q⟩ => ?_) hpl (star_cons hs2.1 es0 X.env)
    refine thn (hkw.run pos pins s1 σ H1 _ I1 q) fun ws s2 ⟨zs, H2, I2, rz, hl2, xs, hp, q2⟩ => ⟨I2.kIn, ?_⟩
    rw [k2]
    exact run_fngK F hr hg I2 (fun ys => hb us ws ys (by rw [← r.length, hl]) (by rw [← rz.length, hl2])) r rz hp q2
/-- the keywords' values -/
theorem snk_nil : PK X [] (trL W (fun e => .ok ([], e))) := ⟨fun _ _ _ _ H Q I h => pk_nil.run _ _ _ _ H Q I (nil_ent h)⟩
theorem snk_cons {nm : Option Str} {kp : Pos} (ha : Sn W X sa a) (hr : PK X kws (trL W sb.ags)) : PK X (⟨nm, a, kp⟩ :: kws) (trL W fun e => do let (o, e) ← sa.arg e; let (os, e) ← sb.ags e; pure (o :: os, e)) := by
  refine ⟨fun pos pins s σ H Q I q => (pk_cons ha.arg hr).run pos pins s σ H Q I ?_⟩
  obtain ⟨F, L, e, o, e', ok, hf, k⟩ := q
  obtain ⟨⟨x, e1⟩, h1, hf⟩ := R.bind_ok hf
  obtain ⟨⟨xs, e2⟩, h2, hf⟩ := R.bind_ok hf
  cases hf
  refine ⟨F, L, e, x, e1, ok, h1, fun F1 H1 M1 L1 v1 st1 ok1 got1 => ⟨F1, L1, e1, xs, e', ok1, h2, fun F2 H2 M2 L2 vs st2 ok2 own2 nd2 dj2 => ?_⟩⟩
  cases x with
  | val o =>
    have got1 : Got W F1 H1 o v1 M1 L1 := got1
    have dd := nodup_d got1.nd
    refine k F2 H2 (M1 ++ M2) L2 (v1 :: vs) (stp_cons st1 st2) ok2 ⟨v1, vs, M1, M2, rfl, rfl, got1.own.keep st2.fs (st2.kept dd), own2⟩ (nd_cons got1.nd st2 nd2 got1.own.def_) fun a h => ?_
    rcases List.mem_append.mp h with h | h
    · exact st2.unsh dd got1.own.def_ got1.dj a h
    · exact dj2 a h
  | «at» i =>
    have e0 : M1 = [] := got1.1
    subst e0
    exact k F2 H2 M2 L2 (v1 :: vs) (st1.trans st2) ok2 ⟨v1, vs, rfl, got1.2.2, own2⟩ nd2 dj2

/-! ### starred items -/
theorem seq_rep {F : Hp} {d : D} {v : V} {xs : List D} (r : Rep W F d v) (h : seqD d = .ok xs) : ∃ p vs, v = .ref p ∧ (Tu F p vs ∨ F p = some (.lst vs)) ∧ Reps W F xs vs := by
  cases d with
  | lst ys =>
    cases h
    obtain ⟨p, vs, rfl, h2, h3⟩ := r
    exact ⟨p, vs, rfl, .inr h2, h3⟩
  | tup ys =>
    cases h
    obtain ⟨p, vs, rfl, h2, h3⟩ := r
    exact ⟨p, vs, rfl, .inl h2, h3⟩
  | _ => cases h
theorem snl_star {sp : Pos} (ha : Sn W X sa a) (hr : SnL W X sb es) : SnL W X { tks := fun e => do let (o, e) ← sa.val e; R.need (noIns o) (do let xs ← seqD o.view; let (os, e) ← sb.tks e; pure (xs.map O.sh ++ os, e)) } (.Starred a sp :: es) := by
  refine ⟨⟨fun _ _ _ σ H Q _ q => (bad_trL q).elim⟩, PA.imp (StX.pa_star ha.val hr.tks rfl) fun σ H Q q => ?_⟩
  obtain ⟨F, L, e, o, e', ok, hf, k⟩ := q
  obtain ⟨⟨x, e1⟩, h1, hf⟩ := R.bind_ok hf
  obtain ⟨h2, hf⟩ := R.need_ok hf
  obtain ⟨xs, h3, hf⟩ := R.bind_ok hf
  obtain ⟨⟨os, e2⟩, h4, hf⟩ := R.bind_ok hf
  cases hf
  refine ⟨F, L, e, x, e1, ok, h1, fun F1 H1 M1 L1 v1 st1 ok1 got1 => ?_⟩
  obtain ⟨F2, r, ok2, sb2, hf2⟩ := got1.frz ok1 h2
  obtain ⟨p, vs, rfl, h5, h6⟩ := seq_rep r h3
  refine ⟨p, vs, rfl, h5.imp (fun z => z.sq ok2.sub) fun z => SqL.of (ok2.sub _ _ z), F2, L1, e1, os, e', ok2, h4, fun F3 H3 M3 L3 ws st3 ok3 own3 nd3 dj3 => ?_⟩
  have st2 : Stp F H L F2 H1 L1 := ⟨st1.fs.trans sb2, st1.kp, fun a ha => st1.ow a (List.mem_append_right _ ha), fun a o q => by
    rcases hf2 a o q with z | z
    · exact st1.fr a o z
    · rcases st1.ow a (List.mem_append_left _ z) with z | z
      · exact .inr (.inl z)
      · exact .inr (.inr z)⟩
  refine k F3 H3 M3 L3 (vs ++ ws) (st2.trans st3) ok3 ?_ nd3 dj3
  have key : ∀ (xs : List D) (vs : List V), Reps W F2 xs vs → Owns W F3 H3 (xs.map O.sh ++ os) (vs ++ ws) M3 := by
    intro xs
    induction xs with
    | nil => intro vs h; cases h; exact own3
    | cons d ds ih =>
      intro vs h
      obtain ⟨v, us, rfl, h7, h8⟩ := h
      exact ⟨v, us ++ ws, [], M3, rfl, rfl, ⟨rfl, h7.mono st3.fs⟩, ih us h8⟩
  exact key xs vs h6
end
end MP

set_option Elab.async false
set_option linter.all false
set_option maxRecDepth 100000
/-! It1: enumerate of a tuple. -/
namespace MP
open PySem PySem.Spec PyProof.Rows
set_option maxHeartbeats 1000000 in
theorem meets_enumNew1 {v : Value} {o : Obj} {H : Heap → Prop} (B : Begins v o H) :
    Meets (Builtin.«enumerate.__new__» ⟨[.type "enumerate", v], []⟩) (fun _ R s => H s.heap ∧
      R (.ok (.ret (.ref (s.heap.push o).objs.size))) { s with heap := (s.heap.push o).push { cls := .type "enumerate", data := .fields #[.none, .bool false, .ref s.heap.objs.size, rawInt 0, .none, .none] } }) :=
  .of_wp fun prog w A R s h => by
    obtain ⟨hp, g, d, tk, os⟩ := s; obtain ⟨h1, h⟩ := h
    have hsub := sub_enumerate
    have q1 : ∀ {A' : Around} {E : Value → Shared → Prop} {Q : Value → Shared → Prop}, Q (.ref hp.objs.size) ⟨hp.push o, g, d, tk, os⟩ → wpAny (model prog w) A' (pyIter v) Q E ⟨hp, g, d, tk, os⟩ :=
      fun q => B.iter prog w _ _ ⟨hp, g, d, tk, os⟩ _ h1 q
    wp_walk using q1
    refine wpAny_stack_any fun st => wpAny_pure ?_
    split
    · rename_i c _ _ _ _ _
      cases (c == Value.type "enumerate")
      · wp_walk using q1
        exact ⟨_, rfl, h⟩
      · wp_walk using q1
        exact ⟨_, rfl, h⟩
    · wp_walk using q1
      exact ⟨_, rfl, h⟩
theorem call_enum1 {prog : Program} {w : World} {A : Around} {E : Value → Shared → Prop} {s : Shared} {v : Value} {o : Obj} {H : Heap → Prop} {Q : Value → Shared → Prop} (B : Begins v o H) (h1 : H s.heap)
    (h : ∀ h', IsEnum h' (s.heap.objs.size + 1) s.heap.objs.size 0 .none → h'.get? s.heap.objs.size = some o → h'.objs.size = s.heap.objs.size + 2 →
      (∀ b o, s.heap.get? b = some o → h'.get? b = some o) → Q (.ref (s.heap.objs.size + 1)) { s with heap := h' }) :
    wpAny (model prog w) A (call (.type "enumerate") [v]) Q E s := by
  refine callType_new F.called_enumerate (by decide) (F.typeCall_enumerate_1 _) (F.newCall_enumerate_1 _) (fun obj => F.args_object_init_2 obj _) F.entry_enumerate_new (meets_enumNew1 B) ⟨h1, ?_⟩
  have hz : (s.heap.push o).objs.size = s.heap.objs.size + 1 := Heap.size_push ..
  show _ ∧ _
  rw [hz]
  have he : IsEnum ((s.heap.push o).push { cls := .type "enumerate", data := .fields #[.none, .bool false, .ref s.heap.objs.size, rawInt 0, .none, .none] }) (s.heap.objs.size + 1) s.heap.objs.size 0 .none := by
    have := Heap.get?_push_size (s.heap.push o) (o := { cls := .type "enumerate", data := .fields #[.none, .bool false, .ref s.heap.objs.size, rawInt 0, .none, .none] }) rfl
    rw [hz] at this; exact this
  refine ⟨⟨_, he, rfl⟩, h _ he (Heap.get?_push_of_some _ (Heap.get?_push_size _ B.free)) (by rw [Heap.size_push, hz]) fun b o x => Heap.get?_push_of_some _ (Heap.get?_push_of_some _ x)⟩
end MP
namespace MP
open PySem PySem.Spec PyProof.Rows
open L2 hiding St
/-- the tuple at a, each item in a new pair -/
def IteT (K : PySem.W.Frag) (a : Addr) : It :=
  ⟨fun i H => ∃ (xs : List V) (x : V), SqT K H a xs ∧ xs[i]? = some x, fun i H v H' => ∃ T x, v = .ref T ∧ H T = none ∧ H' = upd H T (.tup [.int (i : Nat), x]) ∧ ∀ xs, SqT K H a xs → xs[i]? = some x, fun i H => ∃ xs : List V, SqT K H a xs ∧ xs.length ≤ i⟩
theorem turn_enumT {P : Program} {w : World} {K : PySem.W.Frag} {elts : List Expr} {kk : Nat} {tpos : Pos} (a e it : Addr) :
    Turn P w K (.Tuple elts kk tpos) (IteT K a) [e, it] e (fun i h => (∃ old, IsEnum h e it ((i : Nat) : Int) old) ∧ h.IsTupleIter it a i ∧ e ≠ it ∧ a ≠ it ∧ e ≠ a) where
  mem := by simp
  obj := fun i h st b hb => by
    obtain ⟨⟨old, he⟩, ⟨o, ho, hc, hd⟩, _⟩ := st
    have e' : b = e ∨ b = it := by simpa using hb
    rcases e' with z | z
    · rw [z]; exact ⟨_, he, fun v q => nomatch q⟩
    · rw [z]; exact ⟨o, ho, fun v q => by rw [hd] at q; cases q⟩
  keep := fun i h h' st k => let ⟨⟨old, he⟩, hi, hne⟩ := st; ⟨⟨old, k e (by simp) _ he⟩, hi.at fun o q => k it (by simp) o q, hne⟩
  item := by
    intro X hP hw hK hc i pins s σ H E I hf st hg
    subst hP hw hK
    obtain ⟨⟨old, he⟩, hit, hne, h2, h3⟩ := st
    obtain ⟨xs, x, hq, hx⟩ := hg
    obtain ⟨its, rv, p, hz⟩ := I.tuple hq
    have p : s.heap.IsTuple a its.toArray := p
    obtain ⟨u, hu, ru⟩ := rv.get hx
    have hel : e < s.heap.objs.size := Heap.lt_size he
    have hil : it < s.heap.objs.size := by obtain ⟨_, q, _⟩ := hit; exact Heap.lt_size q
    have hi : i < its.toArray.size := by
      have := (List.getElem?_eq_some_iff.mp hu).1
      simpa using this
    have D := Draws.tuple (prog := X.prog) (w := X.w) (A := X.A.in1) (I.ok.hd hc) it a h2 its.toArray
    refine wpAny_pyNext_enum_itemC D he ⟨hit, p⟩ hi hne (by simp [hne, h3]) fun y h' tk hy ho hit' hT hsz hk => ?_
    have ey : u = y := by
      have z : its.toArray[i]? = some u := by simpa using hu
      rw [hy] at z; cases z; rfl
    subst ey
    refine ⟨_, rfl, wpAny_letOwnedTupleGo_enum (s := { s with heap := h', toks := tk + 1 }) ho fun h'' he' sb => ?_⟩
    have hT2 : h''.get? s.heap.objs.size = some { cls := .type "tuple", data := .seq #[.int i tk, u] } := (sb.2 _ (Nat.ne_of_gt hel)).trans hT
    have new : ObjOk X.prog X.w (upd H s.heap.objs.size (.tup [.int (i : Nat), x])) h'' s.heap.objs.size (.tup [.int (i : Nat), x]) :=
      ⟨by show 2 ≤ sizeLine; decide, [.int i tk, u], .cons ⟨_, rfl⟩ (.cons ru .nil), ⟨_, hT2, rfl, _, rfl⟩⟩
    have I1 : Inv X pins σ (upd H s.heap.objs.size (.tup [.int (i : Nat), x])) { s with heap := h'', toks := tk + 1 } :=
      I.turnedNew (ch := [e, it]) (fun b ob hb q => (sb.2 b (fun z => hb (by simp [z]))).trans (hk b ob (fun z => hb (by simp [z])) (fun z => hb (by simp [z])) q)) hf (Nat.le_refl _) new
    refine ⟨.ref s.heap.objs.size, _, I1, rfl, ⟨_, x, rfl, I.hok.fresh (Nat.le_refl _), rfl, fun ys hy => by rw [I.tuple_inj hy hq]; exact hx⟩, ⟨⟨u, ?_⟩, hit'.1.at fun o q => (sb.2 it (Ne.symm hne)).trans q, hne, h2, h3⟩, fun b hb => ?_⟩
    · have e1 : ((i + 1 : Nat) : Int) = (i : Int) + 1 := by omega
      rw [e1]; exact he'
    · have hb' : b < s.heap.objs.size := by
        have e' : b = e ∨ b = it := by simpa using hb
        rcases e' with z | z
        · rw [z]; exact hel
        · rw [z]; exact hil
      rw [upd_ne (Nat.ne_of_lt hb')]
      exact (hf b hb).1
  done := by
    intro X hP hw hK hc i pins s σ H E I hf st hg
    subst hP hw hK
    obtain ⟨⟨old, he⟩, hit, hne, h2, h3⟩ := st
    obtain ⟨xs, hq, hx⟩ := hg
    obtain ⟨its, rv, p, hz⟩ := I.tuple hq
    have p : s.heap.IsTuple a its.toArray := p
    obtain ⟨f0, f1, f2, f3, f4, f5⟩ := hf it (by simp)
    have hl := rv.length
    have hT : s.TypeIs (.ref e) "enumerate" := ⟨_, he, rfl⟩
    unfold pyNext
    refine wpAny_bind (wpAny_attempt (wpAny_callSpecial?_slot (name := Str.ofString "__next__") hT F.slot_enumerate_next
      (wpAny_call_entry F.slot_enumerate_next hT F.entry_enumerate_next ?_ (F.args_enumerate_next_1 _))))
    show wpAny _ _ (field (.ref e) 2 >>= _) _ _ _
    refine wpAny_bind (wpAny_field he rfl (x := .ref it) rfl ?_)
    refine wpAny_bind (wpAny_nextOf_tuple_end (I.ok.hd hc) hit p (by simp; omega) fun h' x he' hx' => ?_)
    obtain ⟨o, ho, hc⟩ := hx'
    refine wpAny_bind (wpAny_isInstance (T := "StopIteration") (b := true) ⟨o, ho, hc⟩ isSubtype_stop ?_)
    exact wpAny_pure ⟨rfl, I.turned (t' := s.toks) (fun b o hb q => he' b o hb q) f0 f1 f3 f4 f5⟩
  self := fun A i s Q E st h => let ⟨⟨_, he⟩, _⟩ := st; wpAny_pyIter_enum he h
def iEnumT (K : PySem.W.Frag) (ta : TA) : TI := fun σ H R => ta σ H fun vs H1 => ∃ a xs, vs = [.ref a] ∧ SqT K H1 a xs ∧ R (IteT K a) H1
theorem pi_enumT {X : Cx} {e : Expr} {ta : TA} {p pos tpos : Pos} {elts : List Expr} {kk : Nat} (hg : Gl X "enumerate") (hm : X.mg "enumerate" = none) (ha : PA X [e] ta) (hs : starEach [e] X.env = [(false, eval e X.env)]) :
    PI X (.Tuple elts kk tpos) (.Call (.Name "enumerate" p) [e] [] pos) (iEnumT X.K ta) := by
  refine ⟨fun pins s σ H R I h => ?_⟩
  refine Call_ (ld_blt I hg hm boot_enumerate (PyProof.Rows.callWith_type1 (thn (ha.run pos pins s σ H _ I h) fun us s1 ⟨vs, H1, I1, r1, q1⟩ => ?_) hs rfl))
  obtain ⟨a, xs, ex, hq, q⟩ := q1
  subst ex
  cases r1 with
  | cons r rr =>
    cases rr
    cases r
    obtain ⟨its, rv, p', hz⟩ := I1.tuple hq
    have p' : s1.heap.IsTuple a its.toArray := p'
    have hal : a < s1.heap.objs.size := let ⟨_, q, _⟩ := p'; Heap.lt_size q
    refine call_enum1 (begins_tuple a its.toArray) p' fun h' he hit hsz hk => wpAny_pyIter_enum he ?_
    have I2 : Inv X pins σ H1 { s1 with heap := h' } := I1.kept (t' := s1.toks) hk
    refine ⟨s1.heap.objs.size + 1, [s1.heap.objs.size + 1, s1.heap.objs.size], _, _, H1, rfl, I2, turn_enumT a (s1.heap.objs.size + 1) s1.heap.objs.size, ⟨⟨.none, he⟩, ⟨_, hit, rfl, rfl⟩, Nat.succ_ne_self _, Nat.ne_of_lt hal, Nat.ne_of_gt (Nat.lt_succ_of_lt hal)⟩, fun b hb => ?_, q⟩
    have e' : b = s1.heap.objs.size + 1 ∨ b = s1.heap.objs.size := by simpa using hb
    have hle : s1.heap.objs.size ≤ b := by
      rcases e' with z | z
      · rw [z]; exact Nat.le_add_right _ _
      · rw [z]; exact Nat.le_refl _
    exact I1.fpOk hle (I1.hok.fresh hle)
theorem walk_enumT {K : PySem.W.Frag} {a : Addr} {xs : List V} : Walk (IteT K a) xs.length (fun H => SqT K H a xs) (YPair (fun i => some (.int (i : Nat))) (fun i => xs[i]?)) := by
  refine ⟨fun i _ hi q => ⟨xs, xs[i], q, by simp [hi]⟩, fun _ q => ⟨xs, q, Nat.le_refl _⟩, fun i H v H' _ q y => ?_⟩
  obtain ⟨T, x, h1, h2, h3, h4⟩ := y
  exact ⟨T, .int (i : Nat), x, h1, h2, h3, rfl, h4 xs q⟩
end MP

set_option Elab.async false
set_option linter.all false
set_option maxRecDepth 100000
/-! Zm: zip of a tuple and a list. -/
namespace MP
open PySem PySem.Spec PyProof.Rows
open L2 hiding St
/-- the tuple at a, the list at b, item by item in new pairs -/
def ItzM (K : PySem.W.Frag) (a b : Addr) : It :=
  ⟨fun i H => ∃ (xs ys : List V) (x y : V), SqT K H a xs ∧ SqL K H b ys ∧ xs[i]? = some x ∧ ys[i]? = some y,
    fun i H v H' => ∃ T x y, v = .ref T ∧ H T = none ∧ H' = upd H T (.tup [x, y]) ∧ (∀ xs, SqT K H a xs → xs[i]? = some x) ∧ ∀ ys, SqL K H b ys → ys[i]? = some y,
    fun i H => ∃ xs ys : List V, SqT K H a xs ∧ SqL K H b ys ∧ i ≤ xs.length ∧ i ≤ ys.length ∧ (xs.length = i ∨ ys.length = i)⟩
abbrev ZmAt (z TI TO i1 i2 a b : Addr) (i : Nat) (h : Heap) : Prop := IsZip h z TI TO .none ∧ IsTupOf2 h TI (.ref i1) (.ref i2) ∧ (∃ x y, IsTupOf2 h TO x y) ∧ h.IsTupleIter i1 a i ∧ h.IsListIter i2 b i
theorem turn_zipM {P : Program} {w : World} {K : PySem.W.Frag} {elts : List Expr} {kk : Nat} {tpos : Pos} {a b z TI TO i1 i2 : Addr} (S : ZipSep2 z TI TO i1 i2 [i1, a] [i2, b]) :
    Turn P w K (.Tuple elts kk tpos) (ItzM K a b) [z, TI, TO, i1, i2] z (fun i h => ZmAt z TI TO i1 i2 a b i h) where
  mem := by simp
  obj := fun i h st c hc => by
    obtain ⟨m1, m2, ⟨x, y, m3⟩, ⟨o1, m4, _, k4⟩, ⟨o2, m5, _, k5⟩⟩ := st
    simp only [List.mem_cons, List.not_mem_nil, or_false] at hc
    rcases hc with rfl | rfl | rfl | rfl | rfl
    · exact ⟨_, m1, fun v q => nomatch q⟩
    · exact ⟨_, m2, fun v q => nomatch q⟩
    · exact ⟨_, m3, fun v q => nomatch q⟩
    · exact ⟨o1, m4, fun v q => by rw [k4] at q; cases q⟩
    · exact ⟨o2, m5, fun v q => by rw [k5] at q; cases q⟩
  keep := fun i h h' st k => by
    obtain ⟨m1, m2, ⟨x, y, m3⟩, m4, m5⟩ := st
    exact ⟨k z (by simp) _ m1, k TI (by simp) _ m2, ⟨x, y, k TO (by simp) _ m3⟩, m4.at fun o q => k i1 (by simp) o q, m5.at fun o q => k i2 (by simp) o q⟩
  item := by
    intro X hP hw hK hc i pins s σ H E I hf st hg
    subst hP hw hK
    obtain ⟨m1, m2, ⟨x0, y0, m3⟩, m4, m5⟩ := st
    obtain ⟨xs, ys, x, y, hqx, hqy, hx, hy⟩ := hg
    obtain ⟨its, rv, p, _⟩ := I.tuple hqx
    obtain ⟨its2, rv2, p2, _⟩ := I.list hqy
    have p : s.heap.IsTuple a its.toArray := p
    obtain ⟨u, hu, ru⟩ := rv.get hx
    obtain ⟨u2, hu2, ru2⟩ := rv2.get hy
    have hd := I.ok.hd hc
    have l1 : i < its.toArray.size := by rw [List.size_toArray]; exact (List.getElem?_eq_some_iff.mp hu).1
    have l2 : i < its2.toArray.size := by rw [List.size_toArray]; exact (List.getElem?_eq_some_iff.mp hu2).1
    have hzl : z < s.heap.objs.size := Heap.lt_size m1
    have D1 := Draws.tuple (prog := X.prog) (w := X.w) (A := X.A.in1) hd i1 a (fun e => by have := p; obtain ⟨o, q, e1, e2⟩ := m4; obtain ⟨o3, q3, e3, _⟩ := p; rw [e, q] at q3; cases q3; rw [e1] at e3; simp at e3) its.toArray
    have D2 := Draws.list (prog := X.prog) (w := X.w) (A := X.A.in1) hd i2 b (fun e => by obtain ⟨o, q, e1, e2⟩ := m5; obtain ⟨o3, q3, e3, _⟩ := p2.isList; rw [e, q] at q3; cases q3; rw [e1] at e3; simp at e3) its2.toArray
    refine wpAny_pyNext_zipD2_item S D1 D2 m1 m2 m3 ⟨m4, p⟩ ⟨m5, p2.isList⟩ l1 l2 fun y1 y2 h' tk e1 e2 n1 n3 n4 n5 hT hsz hk => ?_
    have e1 : u = y1 := by
      have q : its.toArray[i]? = some u := by simpa using hu
      rw [e1] at q; cases q; rfl
    have e2 : u2 = y2 := by
      have q : its2.toArray[i]? = some u2 := by simpa using hu2
      rw [e2] at q; cases q; rfl
    subst e1
    subst e2
    have zT : TI ≠ z ∧ TO ≠ z ∧ i1 ≠ z ∧ i2 ≠ z := ⟨S.TIz, S.TOz, S.zi1.symm, S.zi2.symm⟩
    refine ⟨_, rfl, wpAny_letOwnedTupleGo_zip (s := { s with heap := h', toks := tk }) n1 fun h'' n1' sb => ?_⟩
    have hT2 : h''.get? s.heap.objs.size = some { cls := .type "tuple", data := .seq #[u, u2] } := (sb.2 _ (Nat.ne_of_gt hzl)).trans hT
    have new : ObjOk X.prog X.w (upd H s.heap.objs.size (.tup [x, y])) h'' s.heap.objs.size (.tup [x, y]) :=
      ⟨by show 2 ≤ sizeLine; decide, [u, u2], .cons ru (.cons ru2 .nil), ⟨_, hT2, rfl, _, rfl⟩⟩
    have I1 : Inv X pins σ (upd H s.heap.objs.size (.tup [x, y])) { s with heap := h'', toks := tk } :=
      I.turnedNew (ch := [z, TI, TO, i1, i2]) (fun c o hb q => by
        simp only [List.mem_cons, List.not_mem_nil, or_false, not_or] at hb
        exact (sb.2 c hb.1).trans (hk c o hb.1 hb.2.2.1 hb.2.2.2.1 hb.2.2.2.2 q)) hf (Nat.le_refl _) new
    refine ⟨.ref s.heap.objs.size, _, I1, rfl, ⟨_, x, y, rfl, I.hok.fresh (Nat.le_refl _), rfl, fun l hl => by rw [I.tuple_inj hl hqx]; exact hx, fun l hl => by rw [I.list_inj hl hqy]; exact hy⟩, ⟨n1', ?_, ⟨u, u2, (sb.2 _ zT.2.1).trans n3⟩, n4.1.at fun o q => (sb.2 _ zT.2.2.1).trans q, n5.1.at fun o q => (sb.2 _ zT.2.2.2).trans q⟩, fun c hcm => ?_⟩
    · exact (sb.2 _ zT.1).trans (hk _ _ zT.1 S.TITO S.TIi1 S.TIi2 m2)
    · have hlt : c < s.heap.objs.size := by
        simp only [List.mem_cons, List.not_mem_nil, or_false] at hcm
        rcases hcm with rfl | rfl | rfl | rfl | rfl
        · exact hzl
        · exact Heap.lt_size m2
        · exact Heap.lt_size m3
        · obtain ⟨_, q, _⟩ := m4; exact Heap.lt_size q
        · obtain ⟨_, q, _⟩ := m5; exact Heap.lt_size q
      rw [upd_ne (Nat.ne_of_lt hlt)]
      exact (hf c hcm).1
  done := by
    intro X hP hw hK hc i pins s σ H E I hf st hg
    subst hP hw hK
    obtain ⟨m1, m2, ⟨x0, y0, m3⟩, m4, m5⟩ := st
    obtain ⟨xs, ys, hqx, hqy, h1, h2, hend⟩ := hg
    obtain ⟨its, rv, p, _⟩ := I.tuple hqx
    obtain ⟨its2, rv2, p2, _⟩ := I.list hqy
    have p : s.heap.IsTuple a its.toArray := p
    have hd := I.ok.hd hc
    have g1 := rv.length
    have g2 := rv2.length
    have D1 := Draws.tuple (prog := X.prog) (w := X.w) (A := X.A.in1) hd i1 a (fun e => by obtain ⟨o, q, e1, e2⟩ := m4; obtain ⟨o3, q3, e3, _⟩ := p; rw [e, q] at q3; cases q3; rw [e1] at e3; simp at e3) its.toArray
    have D2 := Draws.list (prog := X.prog) (w := X.w) (A := X.A.in1) hd i2 b (fun e => by obtain ⟨o, q, e1, e2⟩ := m5; obtain ⟨o3, q3, e3, _⟩ := p2.isList; rw [e, q] at q3; cases q3; rw [e1] at e3; simp at e3) its2.toArray
    refine wpAny_pyNext_zipD2_end S D1 D2 m1 m2 m3 ⟨m4, p⟩ ⟨m5, p2.isList⟩ (by rw [List.size_toArray]; omega) (by rw [List.size_toArray]; omega) (by rw [List.size_toArray, List.size_toArray]; omega) fun h' tk hk => ⟨rfl, I.turnedL (ch := [z, TI, TO, i1, i2]) (fun c o hb q => by
        simp only [List.mem_cons, List.not_mem_nil, or_false, not_or] at hb
        exact hk c o hb.1 hb.2.2.1 hb.2.2.2.1 hb.2.2.2.2 q) hf⟩
  self := fun A i s Q E st h => wpAny_pyIter_zip st.1 h
theorem zipSep (n a b : Nat) (la : a < n) (lb : b < n) : ZipSep2 (n + 4) (n + 2) (n + 3) n (n + 1) [n, a] [n + 1, b] := by
  have two : ∀ {x p q : Nat}, x ≠ p → x ≠ q → x ∉ [p, q] := fun h1 h2 h => by
    rcases List.mem_cons.mp h with h | h
    · exact h1 h
    · exact h2 (List.mem_singleton.mp h)
  have ne : ∀ {p q : Nat}, p < q ∨ q < p → p ≠ q := fun h e => by omega
  exact { TIz := ne (by omega), TOz := ne (by omega), TITO := ne (by omega), TIi1 := ne (by omega), mem1 := List.mem_cons_self, zf1 := two (ne (by omega)) (ne (by omega)), Tf1 := two (ne (by omega)) (ne (by omega)), TIi2 := ne (by omega), mem2 := List.mem_cons_self, zf2 := two (ne (by omega)) (ne (by omega)), Tf2 := two (ne (by omega)) (ne (by omega)), sep1_2 := two (ne (by omega)) (ne (by omega)), sep2_1 := two (ne (by omega)) (ne (by omega)) }
def iZipM (K : PySem.W.Frag) (ta : TA) : TI := fun σ H R => ta σ H fun vs H1 => ∃ a b xs ys, vs = [.ref a, .ref b] ∧ SqT K H1 a xs ∧ SqL K H1 b ys ∧ R (ItzM K a b) H1
theorem pi_zipM {X : Cx} {e e2 : Expr} {ta : TA} {p pos tpos : Pos} {elts : List Expr} {kk : Nat} (hg : Gl X "zip") (hm : X.mg "zip" = none) (ha : PA X [e, e2] ta)
    (hs : starEach [e, e2] X.env = (false, eval e X.env) :: starEach [e2] X.env) (hpl : (backTo pos (starEach [e2] X.env)).any (·.1) = false) :
    PI X (.Tuple elts kk tpos) (.Call (.Name "zip" p) [e, e2] [] pos) (iZipM X.K ta) := by
  constructor
  intro pins s σ H R I h
  refine Call_ (ld_blt I hg hm boot_zip (callWith_type1 (thn (ha.run pos pins s σ H _ I h) fun us s1 ⟨vs, H1, I1, r1, q1⟩ => ?_) hs hpl))
  obtain ⟨a, b, xs, ys, rfl, hqx, hqy, q⟩ := q1
  obtain ⟨us1, us2, rfl, r, r'⟩ : ∃ u v, us = [u, v] ∧ RelV (.ref a) u ∧ RelV (.ref b) v := by
    cases r1 with
    | cons r rr =>
      cases rr with
      | cons r' rr =>
        cases rr
        exact ⟨_, _, rfl, r, r'⟩
  · cases r
    cases r'
    obtain ⟨its, rv, p1, _⟩ := I1.tuple hqx
    obtain ⟨its2, rv2, p2, _⟩ := I1.list hqy
    have p1 : s1.heap.IsTuple a its.toArray := p1
    have la : a < s1.heap.objs.size := let ⟨_, q, _⟩ := p1; Heap.lt_size q
    have lb : b < s1.heap.objs.size := p2.lt
    refine zip_begins2 (begins_tuple a its.toArray) (begins_list b its2.toArray) p1 p2.isList fun h' n1 n2 n3 n4 n5 hsz hk => wpAny_pyIter_zip n1 ?_
    have I2 : Inv X pins σ H1 { s1 with heap := h' } := I1.kept (t' := s1.toks) hk
    have S := zipSep s1.heap.objs.size a b la lb
    refine ⟨s1.heap.objs.size + 4, [s1.heap.objs.size + 4, s1.heap.objs.size + 2, s1.heap.objs.size + 3, s1.heap.objs.size, s1.heap.objs.size + 1], _, _, H1, rfl, I2, turn_zipM S, ⟨n1, n2, ⟨_, _, n3⟩, ⟨_, n4, rfl, rfl⟩, ⟨_, n5, rfl, rfl⟩⟩, fun c hcm => ?_, q⟩
    have hle : s1.heap.objs.size ≤ c := by
      simp only [List.mem_cons, List.not_mem_nil, or_false] at hcm
      rcases hcm with rfl | rfl | rfl | rfl | rfl
      · exact Nat.le_add_right _ 4
      · exact Nat.le_add_right _ 2
      · exact Nat.le_add_right _ 3
      · exact Nat.le_refl _
      · exact Nat.le_add_right _ 1
    exact I1.fpOk hle (I1.hok.fresh hle)
theorem walk_zipM {K : PySem.W.Frag} {a b : Addr} {xs ys : List V} {n : Nat} (hn : n = min xs.length ys.length) : Walk (ItzM K a b) n (fun H => SqT K H a xs ∧ SqL K H b ys) (YPair (fun i => xs[i]?) (fun i => ys[i]?)) := by
  subst hn
  refine ⟨fun i _ hi q => ?_, fun _ q => ⟨xs, ys, q.1, q.2, by omega, by omega, by omega⟩, fun i H v H' _ q y => ?_⟩
  · have h1 : i < xs.length := by omega
    have h2 : i < ys.length := by omega
    exact ⟨xs, ys, xs[i], ys[i], q.1, q.2, by simp [h1], by simp [h2]⟩
  · obtain ⟨T, x, z, h1, h2, h3, h4, h5⟩ := y
    exact ⟨T, x, z, h1, h2, h3, h4 xs q.1, h5 ys q.2⟩
end MP

set_option Elab.async false
set_option linter.all false
/-! Snd10: what is walked: range, enumerate, zip. -/
namespace MP
open PySem L2
section
variable {W : Wd} {X : Cx} {sa sb sc : Sm} {a b c : Expr} {pos p : Pos}
theorem Sn.iter {i : En → R (List D × En)} {ast : Expr} (hi : ∀ tg, (needsTup ast = true → isTupE tg = true) → PI X tg ast (trI W (needsTup ast) i)) : Sn W X { itr := i } ast :=
  ⟨bad_pe fun _ _ _ => bad_trV, bad_pe fun _ _ _ => bad_trA, ⟨fun _ _ σ H Q _ q => (bad_trT q).elim⟩, fun _ => ⟨fun _ _ _ σ H Q _ q => (bad_trT q).elim⟩, hi⟩
theorem range_get {lo hi : Int} {i : Nat} (h : i < (rangeD lo hi).length) : (rangeD lo hi)[i]? = some (.int (lo + (i : Int))) := by
  unfold rangeD at h ⊢
  simp at h
  simp [h]
theorem range_walk {u : Bool} {F : Hp} {lo hi : Int} : WalkD W u F (Itr lo (hi - lo).toNat) (rangeD lo hi) := by
  have hl : (rangeD lo hi).length = (hi - lo).toNat := by simp [rangeD]
  refine ⟨fun _ => True, YFn fun i => .int (lo + i), by rw [hl]; exact walk_range, fun _ _ => trivial, fun i F1 H x H' h s1 s2 y => ?_⟩
  obtain ⟨rfl, rfl⟩ := y
  exact ⟨_, F1, range_get h, Stp.refl, s2, .inl rfl⟩
theorem range_arg {n : Int} (h : rangeOk 0 n = true) : -(2 ^ 62) ≤ n ∧ n < 2 ^ 62 := by
  unfold rangeOk at h
  simp only [decide_eq_true_eq] at h
  exact ⟨h.2.2.1, h.2.2.2⟩
theorem sn_range1 (gl : Gl X "range") (hm : X.mg "range" = none) (hs : notStar a = true) (ha : Sn W X sa a) : Sn W X { itr := fun e => do
      let (x, e) ← sa.arg e
      let o ← x.see e
      match o.view with
      | .int n => R.need (rangeOk 0 n) (pure (rangeD 0 n, e))
      | _ => .bad } (.Call (.Name "range" p) [a] [] pos) := by
  have hsc := star_cons hs [] X.env
  refine Sn.iter fun tg _ => PI.imp (pi_range1 gl hm (pa_cons ha.arg pa_nil hsc) hsc) fun σ H RR q => ?_
  obtain ⟨F, L, e, xs, e', ok, hf, k⟩ := q
  obtain ⟨⟨x, e1⟩, h1, hf⟩ := R.bind_ok hf
  obtain ⟨ox, h2, hf⟩ := R.bind_ok hf
  refine ⟨F, L, e, x, e1, ok, h1, fun F1 H1 M1 L1 v1 st1 ok1 got1 => ?_⟩
  split at hf
  · rename_i n en
    obtain ⟨h3, hf⟩ := R.need_ok hf
    cases hf
    obtain ⟨h4, h5⟩ := range_arg h3
    refine ⟨n, by rw [(sees_keep got1 Stp.refl ok1 h2).vint en], h4, h5, k F1 H1 L1 _ st1.drop ok1 ?_⟩
    have z := range_walk (W := W) (u := needsTup (.Call (.Name "range" p) [a] [] pos)) (F := F1) (lo := 0) (hi := n)
    rw [Int.sub_zero] at z
    exact z
  · cases hf
theorem sn_range2 (gl : Gl X "range") (hm : X.mg "range" = none) (hs : notStar a = true) (hs2 : notStar b = true) (ha : Sn W X sa a) (hb : Sn W X sb b) : Sn W X { itr := fun e => do
      let (x, e) ← sa.arg e
      let (y, e) ← sb.arg e
      let o ← x.see e
      let p ← y.see e
      match o.view, p.view with
      | .int m, .int n => R.need (rangeOk m n) (pure (rangeD m n, e))
      | _, _ => .bad } (.Call (.Name "range" p) [a, b] [] pos) := by
  have hsc2 := star_cons hs2 [] X.env
  have hsc := star_cons hs [b] X.env
  refine Sn.iter fun tg _ => PI.imp (pi_range2 gl hm (pa_cons ha.arg (pa_cons hb.arg pa_nil hsc2) hsc) (by rw [hsc, hsc2]; rfl) hsc2) fun σ H RR q => ?_
  obtain ⟨F, L, e, xs, e', ok, hf, k⟩ := q
  obtain ⟨⟨x, e1⟩, h1, hf⟩ := R.bind_ok hf
  obtain ⟨⟨y, e2⟩, h2, hf⟩ := R.bind_ok hf
  obtain ⟨ox, h3, hf⟩ := R.bind_ok hf
  obtain ⟨oy, h4, hf⟩ := R.bind_ok hf
  refine ⟨F, L, e, x, e1, ok, h1, fun F1 H1 M1 L1 v1 st1 ok1 got1 => ⟨F1, L1, e1, y, e2, ok1, h2, fun F2 H2 M2 L2 v2 st2 ok2 got2 => ?_⟩⟩
  split at hf
  · rename_i m n em en
    obtain ⟨h5, hf⟩ := R.need_ok hf
    cases hf
    unfold rangeOk at h5
    simp only [decide_eq_true_eq] at h5
    exact ⟨m, n, by rw [(sees_keep got1 st2.drop ok2 h3).vint em, (sees_keep got2 Stp.refl ok2 h4).vint en], h5, k F2 H2 L2 _ (st1.drop.trans st2.drop) ok2 range_walk⟩
  · cases hf

/-! ### new pairs -/
theorem pair_step {F1 H H' : Hp} {x y : V} {T : Addr} {d1 d2 : D} (s : Sub F1 H) (hT : H T = none) (e : H' = upd H T (.tup [x, y])) (r1 : Rep W F1 d1 x) (r2 : Rep W F1 d2 y) :
    ∃ F2, Stp F1 H [] F2 H' [] ∧ Sub F2 H' ∧ RepG W true F2 (.tup [d1, d2]) (.ref T) := by
  subst e
  have fp := s.none hT
  have sb := sub_upd (o := .tup [x, y]) fp
  refine ⟨upd F1 T (.tup [x, y]), ⟨sb, fun a o' h _ => ?_, fun a h => (by cases h), fun a o' h => ?_⟩, fun a o' h => ?_, .inr ⟨rfl, [d1, d2], T, [x, y], rfl, rfl, upd_same, x, [y], rfl, r1.mono sb, y, [], rfl, r2.mono sb, rfl⟩⟩
  · rw [upd_ne (ne_of_none h hT)]; exact h
  · by_cases z : a = T
    · subst z; exact .inr (.inr hT)
    · rw [upd_ne z] at h; exact .inl h
  · by_cases z : a = T
    · subst z; rw [upd_same] at h ⊢; exact h
    · rw [upd_ne z] at h ⊢; exact s a o' h
theorem enum_get {xs : List D} {i : Nat} {d : D} (h : xs[i]? = some d) : (enumD xs)[i]? = some (.tup [.int (i : Nat), d]) := by
  unfold enumD
  simp [List.getElem?_map, List.getElem?_zipIdx, h]
theorem enum_len {xs : List D} : (enumD xs).length = xs.length := by simp [enumD]
theorem enum_walk {F : Hp} {J : It} {G : Hp → Prop} {xs : List D} {vs : List V} (hr : Reps W F xs vs) (w : Walk J vs.length G (YPair (fun i => some (.int (i : Nat))) (fun i => vs[i]?))) (hG : ∀ H, Sub F H → G H) : WalkD W true F J (enumD xs) := by
  refine ⟨G, _, by rw [enum_len, ← hr.len]; exact w, hG, fun i F1 H x H' h s1 s2 y => ?_⟩
  obtain ⟨T, u, v, rfl, hT, e, eu, ev⟩ := y
  cases eu
  obtain ⟨d, h1, h2⟩ := hr.getV ev
  obtain ⟨F2, a1, a2, a3⟩ := pair_step (W := W) (d1 := .int (i : Nat)) s2 hT e rfl (h2.mono s1)
  exact ⟨_, F2, enum_get h1, a1, a2, a3⟩
/-- a value that came is shared from now on: as a step -/
theorem frz_step {F H F1 H1 F2 : Hp} {L M1 L1 : List Addr} (st : Stp F H L F1 H1 (M1 ++ L1)) (sb : Sub F1 F2) (hf : ∀ a o, F2 a = some o → F1 a = some o ∨ a ∈ M1) : Stp F H L F2 H1 L1 :=
  ⟨st.fs.trans sb, st.kp, fun a ha => st.ow a (List.mem_append_right _ ha), fun a o q => by
    rcases hf a o q with z | z
    · exact st.fr a o z
    · rcases st.ow a (List.mem_append_left _ z) with z | z
      · exact .inr (.inl z)
      · exact .inr (.inr z)⟩
def enumV (v : En → R (O × En)) : En → R (List D × En) := fun e => do
  let (o, e) ← v e
  R.need (noIns o) (match o.view with
  | .lst xs => pure (enumD xs, e)
  | .tup xs => pure (enumD xs, e)
  | _ => .bad)
theorem sn_enum (hK : X.K = W.K) (gl : Gl X "enumerate") (hm : X.mg "enumerate" = none) (hs : notStar a = true) (ha : Sn W X sa a) : Sn W X { itr := enumV sa.val } (.Call (.Name "enumerate" p) [a] [] pos) := by
  have hsc := star_cons hs [] X.env
  refine Sn.iter fun tg ht => ?_
  have ht := ht rfl
  obtain ⟨elts, kk, tpos, rfl⟩ : ∃ elts kk tpos, tg = .Tuple elts kk tpos := by
    cases tg <;> first | exact ⟨_, _, _, rfl⟩ | cases ht
  have hp : PA X [a] (tCons (trV W sa.val) tNil) := pa_cons ha.val pa_nil hsc
  constructor
  intro pins s σ H RR I q
  obtain ⟨F, L, e, xs, e', ok, hf, k⟩ := q
  obtain ⟨⟨o, e1⟩, h1, hf⟩ := R.bind_ok hf
  obtain ⟨h2, hf⟩ := R.need_ok hf
  split at hf
  · rename_i ys ey
    cases hf
    refine (pi_enum (X := X) gl hm hp hsc).run pins s σ H RR I ⟨F, L, e, o, e', ok, h1, fun F1 H1 M1 L1 v1 st1 ok1 got1 => ?_⟩
    obtain ⟨F2, r, ok2, sb, hf2⟩ := got1.frz ok1 h2
    rw [ey] at r
    obtain ⟨p, vs, rfl, h3, h4⟩ := r
    exact ⟨p, vs, rfl, SqL.of (ok2.sub _ _ h3), k F2 H1 L1 _ (frz_step st1 sb hf2) ok2 (enum_walk h4 (walk_enum (K := X.K) (a := p)) fun H s => SqL.of (s _ _ h3))⟩
  · rename_i ys ey
    cases hf
    refine (pi_enumT (X := X) gl hm hp hsc).run pins s σ H RR I ⟨F, L, e, o, e', ok, h1, fun F1 H1 M1 L1 v1 st1 ok1 got1 => ?_⟩
    obtain ⟨F2, r, ok2, sb, hf2⟩ := got1.frz ok1 h2
    rw [ey] at r
    obtain ⟨p, vs, rfl, h3, h4⟩ := r
    exact ⟨p, vs, rfl, h3.sq ok2.sub, k F2 H1 L1 _ (frz_step st1 sb hf2) ok2 (enum_walk h4 (walk_enumT (K := X.K) (a := p)) fun H s => h3.sq s)⟩
  · cases hf

/-! ### zip -/
theorem walk_zipT {K : PySem.W.Frag} {a b : Addr} {xs ys : List V} {n : Nat} (hn : n = min xs.length ys.length) : Walk (RZ.ItzT K a b) n (fun H => SqT K H a xs ∧ SqT K H b ys) (YPair (fun i => xs[i]?) (fun i => ys[i]?)) := by
  subst hn
  refine ⟨fun i _ hi q => ?_, fun _ q => ⟨xs, ys, q.1, q.2, by omega⟩, fun i H v H' _ q y => ?_⟩
  · have h1 : i < xs.length := by omega
    have h2 : i < ys.length := by omega
    exact ⟨xs, ys, xs[i], ys[i], q.1, q.2, by simp [h1], by simp [h2]⟩
  · obtain ⟨T, x, z, h1, h2, h3, h4, h5⟩ := y
    exact ⟨T, x, z, h1, h2, h3, h4 xs q.1, h5 ys q.2⟩
theorem zip_get {xs ys : List D} {i : Nat} {d c : D} (h : xs[i]? = some d) (g : ys[i]? = some c) : (zipD xs ys)[i]? = some (.tup [d, c]) := by
  unfold zipD
  have z : (xs.zip ys)[i]? = some (d, c) := by rw [List.getElem?_zip_eq_some]; exact ⟨h, g⟩
  rw [List.getElem?_map, z]
  rfl
theorem zip_len {xs ys : List D} : (zipD xs ys).length = min xs.length ys.length := by simp [zipD]
theorem zip_walk {F : Hp} {J : It} {G : Hp → Prop} {xs ys : List D} {vs ws : List V} (hr : Reps W F xs vs) (hq : Reps W F ys ws) (w : Walk J (zipD xs ys).length G (YPair (fun i => vs[i]?) (fun i => ws[i]?))) (hG : ∀ H, Sub F H → G H) : WalkD W true F J (zipD xs ys) := by
  refine ⟨G, _, w, hG, fun i F1 H x H' h s1 s2 y => ?_⟩
  obtain ⟨T, u, v, rfl, hT, e, eu, ev⟩ := y
  obtain ⟨d, h1, h2⟩ := hr.getV eu
  obtain ⟨c, h3, h4⟩ := hq.getV ev
  obtain ⟨F2, a1, a2, a3⟩ := pair_step (W := W) s2 hT e (h2.mono s1) (h4.mono s1)
  exact ⟨_, F2, zip_get h1 h3, a1, a2, a3⟩
def zipV (va vb : En → R (O × En)) : En → R (List D × En) := fun e => do
  let (o, e) ← va e
  let (p, e) ← vb e
  R.need (noIns o && noIns p) (match o.view, p.view with
  | .lst xs, .lst ys => pure (zipD xs ys, e)
  | .tup xs, .tup ys => pure (zipD xs ys, e)
  | .tup xs, .lst ys => pure (zipD xs ys, e)
  | _, _ => .bad)
theorem PI.or {X : Cx} {tg e : Expr} {t u : TI} (h : PI X tg e t) (g : PI X tg e u) : PI X tg e (fun σ H R => t σ H R ∨ u σ H R) := ⟨fun pins s σ H R I q => q.elim (h.run pins s σ H R I) (g.run pins s σ H R I)⟩
theorem sn_zip (hK : X.K = W.K) (gl : Gl X "zip") (hm : X.mg "zip" = none) (hs : notStar a = true) (hs2 : notStar b = true) (ha : Sn W X sa a) (hb : Sn W X sb b) : Sn W X { itr := zipV sa.val sb.val } (.Call (.Name "zip" p) [a, b] [] pos) := by
  have hsc2 := star_cons hs2 [] X.env
  have hsc := star_cons hs [b] X.env
  have hany : (backTo pos (starEach [b] X.env)).any (·.1) = false := stars_any (by rw [notStars, hs2]; rfl)
  refine Sn.iter fun tg ht => ?_
  have ht := ht rfl
  obtain ⟨elts, kk, tpos, rfl⟩ : ∃ elts kk tpos, tg = .Tuple elts kk tpos := by
    cases tg <;> first | exact ⟨_, _, _, rfl⟩ | cases ht
  have hp : PA X [a, b] (tCons (trV W sa.val) (tCons (trV W sb.val) tNil)) := pa_cons ha.val (pa_cons hb.val pa_nil hsc2) hsc
  refine PI.imp (PI.or (RZ.pi_zipA gl hm hp hsc hany) (pi_zipM gl hm hp hsc hany)) fun σ H RR q => ?_
  obtain ⟨F, L, e, xs, e', ok, hf, k⟩ := q
  obtain ⟨⟨o, e1⟩, h1, hf⟩ := R.bind_ok hf
  obtain ⟨⟨q, e2⟩, h2, hf⟩ := R.bind_ok hf
  obtain ⟨h3, hf⟩ := R.need_ok hf
  rw [Bool.and_eq_true] at h3
  have both : ∀ {T : List V → Hp → Prop}, (∀ F4 H3 L3 v1 v3, Rep W F4 o.view v1 → Rep W F4 q.view v3 → Stp F H L F4 H3 L3 → Ok W F4 H3 e2 σ L3 → T [v1, v3] H3) → tCons (trV W sa.val) (tCons (trV W sb.val) tNil) σ H T := fun {T} kk => by
    refine ⟨F, L, e, o, e1, ok, h1, fun F1 H1 M1 L1 v1 st1 ok1 got1 => ?_⟩
    obtain ⟨F2, r, ok2, sb2, hf2⟩ := got1.frz ok1 h3.1
    refine ⟨F2, L1, e1, q, e2, ok2, h2, fun F3 H3 M3 L3 v3 st3 ok3 got3 => ?_⟩
    obtain ⟨F4, r4, ok4, sb4, hf4⟩ := got3.frz ok3 h3.2
    exact kk F4 H3 L3 v1 v3 (r.mono (st3.fs.trans sb4)) r4 ((frz_step st1 sb2 hf2).trans (frz_step st3 sb4 hf4)) ok4
  split at hf
  · rename_i ys zs ey ez
    cases hf
    refine .inl (both fun F4 H3 L3 v1 v3 r r4 st ok4 => ?_)
    rw [ey] at r
    rw [ez] at r4
    obtain ⟨p, vs, rfl, h5, h6⟩ := r
    obtain ⟨p2, ws, rfl, h7, h8⟩ := r4
    exact ⟨p, p2, vs, ws, rfl, .inl ⟨SqL.of (ok4.sub _ _ h5), SqL.of (ok4.sub _ _ h7), k F4 H3 L3 _ st ok4 (zip_walk h6 h8 (walk_zip (K := X.K) (a := p) (b := p2) (by rw [zip_len, h6.len, h8.len])) fun H s => ⟨SqL.of (s _ _ h5), SqL.of (s _ _ h7)⟩)⟩⟩
  · rename_i ys zs ey ez
    cases hf
    refine .inl (both fun F4 H3 L3 v1 v3 r r4 st ok4 => ?_)
    rw [ey] at r
    rw [ez] at r4
    obtain ⟨p, vs, rfl, h5, h6⟩ := r
    obtain ⟨p2, ws, rfl, h7, h8⟩ := r4
    exact ⟨p, p2, vs, ws, rfl, .inr ⟨h5.sq ok4.sub, h7.sq ok4.sub, k F4 H3 L3 _ st ok4 (zip_walk h6 h8 (walk_zipT (K := X.K) (a := p) (b := p2) (by rw [zip_len, h6.len, h8.len])) fun H s => ⟨h5.sq s, h7.sq s⟩)⟩⟩
  · rename_i ys zs ey ez
    cases hf
    refine .inr (both fun F4 H3 L3 v1 v3 r r4 st ok4 => ?_)
    rw [ey] at r
    rw [ez] at r4
    obtain ⟨p, vs, rfl, h5, h6⟩ := r
    obtain ⟨p2, ws, rfl, h7, h8⟩ := r4
    exact ⟨p, p2, vs, ws, rfl, h5.sq ok4.sub, SqL.of (ok4.sub _ _ h7), k F4 H3 L3 _ st ok4 (zip_walk h6 h8 (walk_zipM (K := X.K) (a := p) (b := p2) (by rw [zip_len, h6.len, h8.len])) fun H s => ⟨h5.sq s, SqL.of (s _ _ h7)⟩)⟩
  · cases hf
end
end MP

set_option Elab.async false
set_option linter.all false
/-! Snd11: names that a loop or a comprehension binds; list comprehensions. -/
namespace MP
open PySem L2
section
variable {W : Wd} {X : Cx} {F H : Hp} {e : En} {σ : St} {L : List Addr}
/-- a slot takes a shared value -/
theorem Ok.put (k : Ok W F H e σ L) (i : Nat) {d : D} {v : V} (r : Rep W F d v) : ∃ L', Ok W F H (e.set i (some (.sh d))) (σ.set i (some v)) L' ∧ ∀ a ∈ L', a ∈ L := by
  by_cases hi : i < e.length
  · obtain ⟨x, s, A, M, B, e1, e2, e3, h, up⟩ := k.en.at hi
    have u := up F H (some (.sh d)) (some v) [] (Sub.refl _) (fun _ _ _ h => h) ⟨v, rfl, rfl, r⟩
    have m : ∀ a ∈ A ++ [] ++ B, a ∈ L := fun a ha => by
      rw [e3]
      simp only [List.append_nil, List.mem_append] at ha ⊢
      exact ha.elim (fun z => .inl (.inl z)) .inr
    refine ⟨_, ⟨k.sub, ?_, fun a ha => k.dj a (m a ha), u⟩, m⟩
    have nd := k.nd
    rw [e3, List.append_assoc] at nd
    rw [List.append_nil]
    exact nodup_app (nodup_l nd) (nodup_r (nodup_r nd)) fun x hx hy => nodup_d nd x hx (List.mem_append_right _ hy)
  · have hi2 : σ.length ≤ i := by rw [k.en.len]; omega
    rw [List.set_eq_of_length_le (by omega), List.set_eq_of_length_le hi2]
    exact ⟨L, k, fun a h => h⟩
/-- a slot is forgotten -/
theorem Ok.drop (k : Ok W F H e σ L) (i : Nat) : ∃ L', Ok W F H (e.set i none) σ L' ∧ ∀ a ∈ L', a ∈ L := by
  by_cases hi : i < e.length
  · obtain ⟨x, s, A, M, B, e1, e2, e3, h, up⟩ := k.en.at hi
    have u := up F H none s [] (Sub.refl _) (fun _ _ _ h => h) rfl
    rw [set_self e2] at u
    have m : ∀ a ∈ A ++ [] ++ B, a ∈ L := fun a ha => by
      rw [e3]
      simp only [List.append_nil, List.mem_append] at ha ⊢
      exact ha.elim (fun z => .inl (.inl z)) .inr
    refine ⟨_, ⟨k.sub, ?_, fun a ha => k.dj a (m a ha), u⟩, m⟩
    have nd := k.nd
    rw [e3, List.append_assoc] at nd
    rw [List.append_nil]
    exact nodup_app (nodup_l nd) (nodup_r (nodup_r nd)) fun x hx hy => nodup_d nd x hx (List.mem_append_right _ hy)
  · rw [List.set_eq_of_length_le (by omega)]
    exact ⟨L, k, fun a h => h⟩
theorem Ok.wipe (k : Ok W F H e σ L) : ∀ t : List Nat, ∃ L', Ok W F H (wipeE e t) σ L' ∧ ∀ a ∈ L', a ∈ L
  | [] => ⟨L, k, fun a h => h⟩
  | i :: t => by
    obtain ⟨L1, k1, m1⟩ := k.wipe t
    obtain ⟨L2, k2, m2⟩ := k1.drop i
    exact ⟨L2, k2, fun a h => m1 a (m2 a h)⟩
theorem wipeE_len (e : En) : ∀ t, (wipeE e t).length = e.length
  | [] => rfl
  | i :: t => by rw [wipeE, List.length_set, wipeE_len e t]
theorem wipeE_none (e : En) : ∀ (t : List Nat) {i : Nat}, i ∈ t → i < e.length → (wipeE e t)[i]? = some none
  | j :: t, i, h, hi => by
    rw [wipeE]
    by_cases hj : j = i
    · subst hj
      rw [List.getElem?_set_self (by rw [wipeE_len]; exact hi)]
    · rw [List.getElem?_set_ne hj]
      rcases List.mem_cons.mp h with z | z
      · exact absurd z.symm hj
      · exact wipeE_none e t z hi
theorem wipe_get (σ : St) : ∀ (t : List Nat) {i : Nat}, i ∉ t → (wipe σ t)[i]? = σ[i]?
  | [], _, _ => rfl
  | j :: t, i, h => by
    simp only [List.mem_cons, not_or] at h
    rw [wipe, List.getElem?_set_ne (Ne.symm h.1)]
    exact wipe_get σ t h.2
/-- what stands in slots that are not told does not matter -/
theorem Envs.swap : ∀ {e : En} {σ τ : St} {L : List Addr}, Envs W F H e σ L → τ.length = σ.length → (∀ i : Nat, σ[i]? = τ[i]? ∨ e[i]? = some none) → Envs W F H e τ L
  | [], σ, τ, L, h, hl, _ => by
    obtain ⟨rfl, rfl⟩ := h
    exact ⟨List.eq_nil_of_length_eq_zero hl, rfl⟩
  | x :: e, σ, τ, L, h, hl, hs => by
    obtain ⟨s, σ', A, B, rfl, rfl, h1, h2⟩ := h
    cases τ with
    | nil => simp at hl
    | cons t τ' =>
      refine ⟨t, τ', A, B, rfl, rfl, ?_, h2.swap (by simpa using hl) fun i => by simpa using hs (i + 1)⟩
      rcases hs 0 with z | z
      · simp at z
        subst z
        exact h1
      · simp at z
        subst z
        exact h1
theorem Ok.wiped (k : Ok W F H (wipeE e t) σ L) (hl : e.length = σ.length) : Ok W F H (wipeE e t) (L2.wipe σ t) L :=
  ⟨k.sub, k.nd, k.dj, k.en.swap (wipe_length _ _) fun i => by
    by_cases h : i ∈ t
    · by_cases hi : i < e.length
      · exact .inr (wipeE_none e t h hi)
      · refine .inl ?_
        rw [List.getElem?_eq_none (by omega), List.getElem?_eq_none (by rw [wipe_length]; omega)]
    · exact .inl (wipe_get σ t h).symm⟩
theorem Ok.unwiped {τ : St} (k : Ok W F H (wipeE e t) τ L) (hl : e.length = σ.length) (hw : L2.wipe τ t = L2.wipe σ t) : Ok W F H (wipeE e t) σ L := by
  have hl2 : τ.length = σ.length := by rw [← wipe_length τ t, hw, wipe_length]
  exact ⟨k.sub, k.nd, k.dj, k.en.swap hl2.symm fun i => by
    by_cases h : i ∈ t
    · by_cases hi : i < e.length
      · exact .inr (wipeE_none e t h hi)
      · exact .inl (by rw [List.getElem?_eq_none (by omega), List.getElem?_eq_none (by omega)])
    · refine .inl ?_
      rw [← wipe_get τ t h, ← wipe_get σ t h, hw]⟩

/-! ### names bound -/
def setsE (t : List Nat) (ds : List D) (e : En) : En := (t.zip ds).foldl (fun e p => e.set p.1 (some (.sh p.2))) e
def setsS (t : List Nat) (vs : List V) (σ : St) : St := (t.zip vs).foldl (fun σ p => σ.set p.1 (some p.2)) σ
theorem Ok.puts : ∀ {t : List Nat} {ds : List D} {vs : List V} {e : En} {σ : St} {L : List Addr}, Ok W F H e σ L → Reps W F ds vs → ∃ L', Ok W F H (setsE t ds e) (setsS t vs σ) L' ∧ ∀ a ∈ L', a ∈ L
  | [], ds, vs, e, σ, L, k, r => ⟨L, by simpa [setsE, setsS] using k, fun a h => h⟩
  | i :: t, [], vs, e, σ, L, k, r => by
    cases r
    exact ⟨L, by simpa [setsE, setsS] using k, fun a h => h⟩
  | i :: t, d :: ds, vs, e, σ, L, k, r => by
    obtain ⟨v, us, rfl, h1, h2⟩ := r
    obtain ⟨L1, k1, m1⟩ := k.put i h1
    obtain ⟨L2, k2, m2⟩ := Ok.puts (t := t) k1 h2
    exact ⟨L2, k2, fun a h => m1 a (m2 a h)⟩
theorem wipe_set (σ : St) (t : List Nat) {i : Nat} (v : Option V) (h : i ∈ t) : L2.wipe (σ.set i v) t = L2.wipe σ t := by
  apply List.ext_getElem?
  intro j
  by_cases hj : j ∈ t
  · have key : ∀ (σ : St), (L2.wipe σ t)[j]? = if j < σ.length then some none else none := by
      intro σ
      have : ∀ (t : List Nat), j ∈ t → (L2.wipe σ t)[j]? = if j < σ.length then some none else none := by
        intro t
        induction t with
        | nil => intro h; cases h
        | cons k t ih =>
          intro h
          rw [L2.wipe]
          by_cases hk : k = j
          · subst hk
            by_cases hl : k < σ.length
            · rw [List.getElem?_set_self (by rw [wipe_length]; exact hl), if_pos hl]
            · rw [List.getElem?_eq_none (by rw [List.length_set, wipe_length]; omega), if_neg hl]
          · rw [List.getElem?_set_ne hk]
            rcases List.mem_cons.mp h with z | z
            · exact absurd z.symm hk
            · exact ih z
      exact this t hj
    rw [key, key, List.length_set]
  · rw [wipe_get _ _ hj, wipe_get _ _ hj, List.getElem?_set_ne]
    intro z
    exact hj (z ▸ h)
theorem wipe_sets : ∀ {t s : List Nat} {vs : List V} {σ : St}, (∀ i ∈ s, i ∈ t) → L2.wipe (setsS s vs σ) t = L2.wipe σ t
  | t, [], vs, σ, _ => by simp [setsS]
  | t, i :: s, [], σ, _ => by simp [setsS]
  | t, i :: s, v :: vs, σ, h => by
    show L2.wipe (setsS s vs (σ.set i (some v))) t = _
    rw [wipe_sets fun j hj => h j (List.mem_cons_of_mem _ hj), wipe_set _ _ _ (h i List.mem_cons_self)]
/-- a target that takes a shared value -/
def trG (W : Wd) (t : List Nat) (tt : Bool) : TG := fun v σ H Q => ∃ F L e d e', Ok W F H e σ L ∧ RepG W tt F d v ∧ bindT t tt d e = .ok e' ∧
  ∀ σ' L', Ok W F H e' σ' L' → (∀ a ∈ L', a ∈ L) → L2.wipe σ' t = L2.wipe σ t → Q σ' H
/-- the targets are the names of the slots -/
def NamesAt (X : Cx) : List Nat → List Expr → Prop
  | [], [] => True
  | i :: t, .Name x _ :: es => X.N[i]? = some x ∧ Loc X.env.scope x ∧ (X.fn x = true ∨ X.env.scope.names.lookup x = some .local) ∧ NamesAt X t es
  | _, _ => False
def gNames (t : List Nat) : TGs := fun vs σ H Q => vs.length = t.length ∧ Q (setsS t vs σ) H
theorem pgs_names (hN : X.N.Nodup) : ∀ {t : List Nat} {es : List Expr}, NamesAt X t es → PGs X es (gNames t) ∧ (assignEach es X.env).length = t.length ∧ (assignEach es X.env).findIdx? (·.1) = none
  | [], [], _ => by
    refine ⟨⟨fun pins s σ H vs us Q I r h => pgs_nil.run pins s σ H vs us Q I r ⟨List.eq_nil_of_length_eq_zero h.1, ?_⟩⟩, rfl, rfl⟩
    have e := List.eq_nil_of_length_eq_zero h.1
    subst e
    exact h.2
  | [], _ :: _, h => h.elim
  | i :: t, [], h => h.elim
  | i :: t, e :: es, h => by
    cases e with
    | Name x p =>
      obtain ⟨h1, h2, h3, h4⟩ := h
      obtain ⟨g1, g2, g3⟩ := pgs_names hN h4
      refine ⟨⟨fun pins s σ H vs us Q I r h => (pgs_cons (pg_name (pos := p) hN h1 h2 h3) g1 rfl).run pins s σ H vs us Q I r ?_⟩, ?_, ?_⟩
      · obtain ⟨hl, q⟩ := h
        cases vs with
        | nil => simp at hl
        | cons v vs => exact ⟨v, vs, rfl, by simpa using hl, q⟩
      · show (assignEach es X.env).length + 1 = _
        rw [g2]; rfl
      · show ((false, assign (.Name x p) X.env) :: assignEach es X.env).findIdx? (·.1) = none
        rw [List.findIdx?_cons, g3]
        rfl
    | _ => exact h.elim
theorem PG.or {tg : Expr} {t1 t2 : TG} (h1 : PG X tg t1) (h2 : PG X tg t2) : PG X tg (fun v σ H Q => t1 v σ H Q ∨ t2 v σ H Q) :=
  ⟨fun pins s σ H v u Q I r q => q.elim (fun q => h1.run pins s σ H v u Q I r q) fun q => h2.run pins s σ H v u Q I r q⟩
theorem pg_bind1 {i : Nat} {x : Str} {pos : Pos} (hN : X.N.Nodup) (h : NamesAt X [i] [.Name x pos]) : PG X (.Name x pos) (trG W [i] false) := by
  obtain ⟨h1, h2, h3, _⟩ := h
  refine PG.imp (pg_name hN h1 h2 h3) fun v σ H Q q => ?_
  obtain ⟨F, L, e, d, e', ok, r, hb, k⟩ := q
  cases hb
  obtain ⟨L', ok', m⟩ := ok.put i r.plain
  exact k _ L' ok' m (wipe_set _ _ _ (by simp))
theorem pg_bindT {t : List Nat} {es : List Expr} {kk : Nat} {pos : Pos} (hK : X.K = W.K) (hc : X.calm = true) (hN : X.N.Nodup) (h : NamesAt X t es) : PG X (.Tuple es kk pos) (trG W t true) := by
  obtain ⟨g1, g2, g3⟩ := pgs_names hN h
  refine PG.imp (PG.or (pg_tup hc g1 g2 g3) (pg_unl hc g1 g2 g3)) fun v σ H Q q => ?_
  obtain ⟨F, L, e, d, e', ok, r, hb, k⟩ := q
  unfold bindT at hb
  rw [if_pos rfl] at hb
  split at hb
  · split at hb
    · rename_i ds hl
      cases hb
      obtain ⟨p, vs, rfl, h2, h3⟩ : ∃ p vs, v = .ref p ∧ SqT X.K H p vs ∧ Reps W F ds vs := by
        rcases r with ⟨p, vs, rfl, h2, h3⟩ | ⟨_, xs, p, vs, e0, rfl, h2, h3⟩
        · exact ⟨p, vs, rfl, h2.sq ok.sub, h3⟩
        · cases e0
          exact ⟨p, vs, rfl, SqT.of (ok.sub _ _ h2), h3⟩
      obtain ⟨L', ok', m⟩ := Ok.puts (t := t) ok h3
      exact .inl ⟨p, vs, rfl, h2, by rw [h3.len, hl], by rw [h3.len, hl], k _ L' ok' m (wipe_sets fun i hi => hi)⟩
    · cases hb
  · split at hb
    · rename_i ds hl
      cases hb
      obtain ⟨p, vs, rfl, h2, h3⟩ : ∃ p vs, v = .ref p ∧ F p = some (.lst vs) ∧ Reps W F ds vs := by
        rcases r with r | ⟨_, xs, p, vs, e0, _⟩
        · exact r
        · cases e0
      obtain ⟨L', ok', m⟩ := Ok.puts (t := t) ok h3
      exact .inr ⟨p, vs, rfl, SqL.of (ok.sub _ _ h2), by rw [h3.len, hl], by rw [h3.len, hl], k _ L' ok' m (wipe_sets fun i hi => hi)⟩
    · cases hb
  · cases hb
end
end MP

set_option Elab.async false
set_option linter.all false
/-! Snd12: list comprehensions. -/
namespace MP
open PySem L2
section
variable {W : Wd} {X : Cx}
theorem wipe_wipe (σ : St) (t : List Nat) : L2.wipe (L2.wipe σ t) t = L2.wipe σ t := by
  have key : ∀ s : List Nat, (∀ i ∈ s, i ∈ t) → L2.wipe (L2.wipe σ s) t = L2.wipe σ t := by
    intro s
    induction s with
    | nil => intro _; rfl
    | cons i s ih =>
      intro h
      rw [show L2.wipe σ (i :: s) = (L2.wipe σ s).set i none from rfl, wipe_set _ _ _ (h i List.mem_cons_self), ih fun j hj => h j (List.mem_cons_of_mem _ hj)]
  exact key t fun i h => h
theorem wipeE_self (e : En) (t : List Nat) : wipeE (wipeE e t) t = wipeE e t := by
  have key : ∀ s : List Nat, (∀ i ∈ s, i ∈ t) → wipeE (wipeE e t) s = wipeE e t := by
    intro s
    induction s with
    | nil => intro _; rfl
    | cons i s ih =>
      intro h
      rw [wipeE, ih fun j hj => h j (List.mem_cons_of_mem _ hj)]
      apply List.ext_getElem?
      intro j
      by_cases hj : i = j
      · subst hj
        by_cases hl : i < e.length
        · rw [List.getElem?_set_self (by rw [wipeE_len]; exact hl), wipeE_none e t (h i List.mem_cons_self) hl]
        · rw [List.getElem?_eq_none (by rw [List.length_set, wipeE_len]; omega), List.getElem?_eq_none (by rw [wipeE_len]; omega)]
      · rw [List.getElem?_set_ne hj]
  exact key t fun i h => h
theorem Owns.snoc {F H : Hp} {o : O} {y : V} {B : List Addr} (h : Own W F H o y B) : ∀ {xs : List O} {vs : List V} {M : List Addr}, Owns W F H xs vs M → Owns W F H (xs ++ [o]) (vs ++ [y]) (M ++ B)
  | [], _, _, g => by
    obtain ⟨rfl, rfl⟩ := g
    exact ⟨y, [], B, [], rfl, by simp, h, rfl, rfl⟩
  | x :: xs, _, _, g => by
    obtain ⟨v, ws, A, C, rfl, rfl, h1, h2⟩ := g
    exact ⟨v, ws ++ [y], A, C ++ B, rfl, by simp, h1, Owns.snoc h h2⟩
def compB (t : List Nat) (tt : Bool) (el : En → R (O × En)) (tc : En → R (Bool × En)) : D → En → R (Option O × En) := fun d e => do
  let e ← bindT t tt d e
  let (b, e) ← tc e
  if b = true then do
    let (o, e) ← el e
    pure (some o, wipeE e t)
  else pure (none, wipeE e t)
def compV (t : List Nat) (tt : Bool) (el : En → R (O × En)) (it : En → R (List D × En)) (tc : En → R (Bool × En)) : En → R (O × En) := fun e => do
  let (xs, e) ← it e
  let (os, e) ← runC (compB t tt el tc) xs (wipeE e t)
  R.need (decide (xs.length ≤ lim)) (pure (.lst os, e))
/-- where a comprehension stands ahead of turn i -/
def CompAt (W : Wd) (σ : St) (F1 H1 : Hp) (L1 : List Addr) (bd : D → En → R (Option O × En)) (t : List Nat) (xs : List D) (os : List O) (ef : En) (p : Addr) (i : Nat) (H : Hp) : Prop :=
  ∃ (F : Hp) (e : En) (L M : List Addr) (vs : List V) (done rest : List O), Ok W F H e (L2.wipe σ t) L ∧ wipeE e t = e ∧ H p = some (.lst vs) ∧ Owns W F H done vs M ∧ (p :: (M ++ L)).Nodup ∧ (∀ a ∈ p :: M, F a = none) ∧
    Stp F1 H1 L1 F H (p :: (M ++ L)) ∧ runC bd (xs.drop i) e = .ok (rest, ef) ∧ os = done ++ rest ∧ done.length ≤ i
theorem comp_ent {u : Bool} {t : List Nat} {tt : Bool} (hu : u = true → tt = true) {el : En → R (O × En)} {it : En → R (List D × En)} {tc : En → R (Bool × En)} {σ : St} {H : Hp} {Q : VK} (q : trV W (compV t tt el it tc) σ H Q) :
    tLc (trI W u it) (trG W t tt) (trT W tc) (trV W el) t σ H Q := by
  have line : (sizeLine : Nat) = 16777216 := sizeLine_eq
  obtain ⟨F, L, e, o, e', ok, hf, k⟩ := q
  obtain ⟨⟨xs, e1⟩, h1, hf⟩ := R.bind_ok hf
  obtain ⟨⟨os, e2⟩, h2, hf⟩ := R.bind_ok hf
  obtain ⟨h3, hf⟩ := R.need_ok hf
  cases hf
  have h3 := of_decide_eq_true h3
  refine ⟨F, L, e, xs, e1, ok, h1, fun F1 H1 L1 J st1 ok1 wd p hp => ?_⟩
  obtain ⟨G, Y, w, hG, hY⟩ := wd
  have fp := ok1.sub.none hp
  refine lc_it w (CompAt W σ F1 H1 L1 (compB t tt el tc) t xs os e' p) ?_ ?_ ?_ ?_
  · -- the start
    obtain ⟨L2, k2, m2⟩ := ok1.wipe t
    have k3 := k2.wiped ok1.en.len.symm
    have st : Stp F1 H1 [] F1 (upd H1 p (.lst [])) [] := ⟨Sub.refl _, fun a o q _ => by rw [upd_ne (ne_of_none q hp)]; exact q, fun a ha => (by cases ha), fun a o q => .inl q⟩
    have sb : Sub F1 (upd H1 p (.lst [])) := fun a o q => by rw [upd_ne (ne_of_none (ok1.sub a o q) hp)]; exact ok1.sub a o q
    refine ⟨F1, wipeE e1 t, L2, [], [], [], os, k3.keep st sb, wipeE_self _ _, upd_same, ⟨rfl, rfl⟩, ?_, fun a ha => ?_, ?_, h2, rfl, Nat.le_refl _⟩
    · exact List.nodup_cons.mpr ⟨fun z => k3.en.def_ p z hp, k3.nd⟩
    · rcases List.mem_cons.mp ha with rfl | ha
      · exact fp
      · cases ha
    · refine ⟨Sub.refl _, fun a o q _ => by rw [upd_ne (ne_of_none q hp)]; exact q, fun a ha => ?_, fun a o q => .inl q⟩
      rcases List.mem_cons.mp ha with rfl | ha
      · exact .inr hp
      · exact .inl (m2 a ha)
  · -- it may be walked
    rintro i H _ ⟨F3, e3, L3, M, vs, done, rest, k3, _, _, _, _, _, st3, _⟩
    exact hG H (st3.fs.trans k3.sub)
  · -- a turn
    rintro i x H H' hi ⟨F3, e3, L3, M, vs, done, rest, k3, we, hp3, ow3, nd3, fr3, st3, hr, eo, hl⟩ y
    obtain ⟨d, F4, hd, stA, sb4, rd⟩ := hY i F3 H x H' hi st3.fs k3.sub y
    have hdr : xs.drop i = d :: xs.drop (i + 1) := by
      rw [List.drop_eq_getElem_cons hi]
      rw [List.getElem?_eq_getElem hi] at hd
      cases hd
      rfl
    rw [hdr] at hr
    obtain ⟨⟨r, e4⟩, hb, hr⟩ := R.bind_ok hr
    obtain ⟨⟨rs, e5⟩, hr2, hr⟩ := R.bind_ok hr
    cases hr
    obtain ⟨e6, hb1, hb⟩ := R.bind_ok hb
    obtain ⟨⟨b, e7⟩, hb2, hb⟩ := R.bind_ok hb
    have nd3b := List.nodup_cons.mp nd3
    have dT : ∀ z ∈ p :: M, z ∉ L3 := fun z hz hw => by
      rcases List.mem_cons.mp hz with rfl | hz
      · exact nd3b.1 (List.mem_append_right _ hw)
      · exact nodup_d nd3b.2 z hz hw
    have defT : ∀ z ∈ p :: M, H z ≠ none := fun z hz => by
      rcases List.mem_cons.mp hz with rfl | hz
      · rw [hp3]; simp
      · exact ow3.def_ z hz
    have stA' : Stp F3 H L3 F4 H' L3 := Stp.frame (T := L3) stA
    refine ⟨F4, L3, e3, d, e6, k3.keep stA sb4, rd.up hu, hb1, fun σ2 L6 k6 m6 hw => ⟨by rw [hw, wipe_wipe], F4, L6, e6, b, e7, k6, hb2, fun F7 H7 L7 st7 k7 => ?_⟩⟩
    have hw : L2.wipe σ2 t = L2.wipe σ t := by rw [hw, wipe_wipe]
    have S : Stp F3 H L3 F7 H7 L7 := stA'.trans (Stp.trans ⟨Sub.refl _, fun _ _ q _ => q, fun a ha => .inl (m6 a ha), fun a o q => .inl q⟩ st7)
    cases b with
    | true =>
      dsimp only
      rw [if_pos rfl]
      obtain ⟨⟨o, e8⟩, hb3, hb⟩ := R.bind_ok hb
      cases hb
      refine ⟨F7, L7, e7, o, e8, k7, hb3, fun F8 H8 M8 L8 yv st8 k8 got8 => ?_⟩
      have S := S.trans st8
      have kT := S.kept dT
      have aT := S.apart dT defT
      have uT := S.unsh dT defT fr3
      have hp8 : H8 p = some (.lst vs) := kT p List.mem_cons_self _ hp3
      have ow8 := ow3.keep S.fs (kT.sub fun z hz => List.mem_cons_of_mem _ hz)
      refine ⟨vs, hp8, by rw [ow3.len, line]; exact Nat.lt_of_lt_of_le (Nat.lt_of_le_of_lt hl hi) h3, ?_⟩
      obtain ⟨L9, k9, m9⟩ := k8.wipe t
      have k10 := k9.wiped k8.en.len.symm
      rw [hw] at k10
      have np : ∀ z, z ∈ M8 ++ L8 → z ≠ p := fun z hz e0 => aT p List.mem_cons_self (e0 ▸ hz)
      have npM : ∀ z ∈ M, z ≠ p := fun z hz e0 => nd3b.1 (List.mem_append_left _ (e0 ▸ hz))
      have kp : ∀ T : List Addr, (∀ z ∈ T, z ≠ p) → Kp H8 (upd H8 p (.lst (vs ++ [yv]))) T := fun T hT z hz o q => by rw [upd_ne (hT z hz)]; exact q
      have fp8 : F8 p = none := uT p List.mem_cons_self
      have nd9 : ((M ++ M8) ++ L9).Nodup := by
        rw [List.append_assoc]
        refine nodup_app (nodup_l nd3b.2) (nodup_app (nodup_l got8.nd) k9.nd fun z hz hw => nodup_d got8.nd z hz (m9 z hw)) fun z hz hw => ?_
        refine aT z (List.mem_cons_of_mem _ hz) ?_
        rcases List.mem_append.mp hw with hw | hw
        · exact List.mem_append_left _ hw
        · exact List.mem_append_right _ (m9 z hw)
      refine ⟨F8, wipeE e8 t, L9, M ++ M8, vs ++ [yv], done ++ [o], rs, ⟨fun z ob q => ?_, k10.nd, k10.dj, k10.en.keep (Sub.refl _) (kp _ fun z hz => np z (List.mem_append_right _ (m9 z hz)))⟩, wipeE_self _ _, upd_same,
        Owns.snoc (got8.own.keep (Sub.refl _) (kp _ fun z hz => np z (List.mem_append_left _ hz))) (ow8.keep (Sub.refl _) (kp _ npM)), List.nodup_cons.mpr ⟨fun z => ?_, nd9⟩, fun z hz => ?_, ?_, hr2, ?_, ?_⟩
      · rw [upd_ne fun e0 => by rw [e0, fp8] at q; cases q]
        exact k8.sub z ob q
      · rw [List.append_assoc] at z
        rcases List.mem_append.mp z with z | z
        · exact npM p z rfl
        · rcases List.mem_append.mp z with z | z
          · exact np p (List.mem_append_left _ z) rfl
          · exact np p (List.mem_append_right _ (m9 p z)) rfl
      · rcases List.mem_cons.mp hz with rfl | hz
        · exact fp8
        · rcases List.mem_append.mp hz with hz | hz
          · exact uT z (List.mem_cons_of_mem _ hz)
          · exact got8.dj z hz
      · refine st3.trans (Stp.trans (S.mono (M := p :: (M ++ L3)) (M' := p :: ((M ++ M8) ++ L8)) (fun z hz => List.mem_cons_of_mem _ (List.mem_append_right _ hz)) fun z hz => ?_) ⟨Sub.refl _, fun z ob q hz => ?_, fun z hz => .inl ?_, fun z ob q => .inl q⟩)
        · rcases List.mem_cons.mp hz with rfl | hz
          · exact .inr (.inl List.mem_cons_self)
          · rw [List.append_assoc] at hz
            rcases List.mem_append.mp hz with hz | hz
            · exact .inr (.inl (List.mem_cons_of_mem _ (List.mem_append_left _ hz)))
            · exact .inl hz
        · rw [upd_ne fun e0 => hz (by rw [e0]; exact List.mem_cons_self)]
          exact q
        · rcases List.mem_cons.mp hz with rfl | hz
          · exact List.mem_cons_self
          · rcases List.mem_append.mp hz with hz | hz
            · exact List.mem_cons_of_mem _ (List.mem_append_left _ hz)
            · exact List.mem_cons_of_mem _ (List.mem_append_right _ (m9 z hz))
      · rw [eo, List.append_assoc]; rfl
      · rw [List.length_append]; exact Nat.succ_le_succ hl
    | false =>
      dsimp only
      rw [if_neg (by decide)]
      cases hb
      have kT := S.kept dT
      have aT := S.apart dT defT
      have uT := S.unsh dT defT fr3
      have hp8 : H7 p = some (.lst vs) := kT p List.mem_cons_self _ hp3
      have ow8 := ow3.keep S.fs (kT.sub fun z hz => List.mem_cons_of_mem _ hz)
      obtain ⟨L9, k9, m9⟩ := k7.wipe t
      have k10 := k9.wiped k7.en.len.symm
      rw [hw] at k10
      refine ⟨F7, wipeE e7 t, L9, M, vs, done, rs, k10, wipeE_self _ _, hp8, ow8, List.nodup_cons.mpr ⟨fun z => ?_, nodup_app (nodup_l nd3b.2) k9.nd fun z hz hw => aT z (List.mem_cons_of_mem _ hz) (m9 z hw)⟩, uT, ?_, hr2, eo, Nat.le_succ_of_le hl⟩
      · rcases List.mem_append.mp z with z | z
        · exact nd3b.1 (List.mem_append_left _ z)
        · exact aT p List.mem_cons_self (m9 p z)
      · refine st3.trans (S.mono (fun z hz => List.mem_cons_of_mem _ (List.mem_append_right _ hz)) fun z hz => ?_)
        rcases List.mem_cons.mp hz with rfl | hz
        · exact .inr (.inl List.mem_cons_self)
        · rcases List.mem_append.mp hz with hz | hz
          · exact .inr (.inl (List.mem_cons_of_mem _ (List.mem_append_left _ hz)))
          · exact .inl (m9 z hz)
  · -- the end
    rintro H ⟨F3, e3, L3, M, vs, done, rest, k3, we, hp3, ow3, nd3, fr3, st3, hr, eo, hl⟩
    rw [List.drop_length] at hr
    cases hr
    rw [List.append_nil] at eo
    subst eo
    have hl3 : e'.length = σ.length := by rw [← k3.en.len, wipe_length]
    have k4 : Ok W F3 H e' σ L3 := by
      rw [← we] at k3 ⊢
      exact k3.unwiped hl3 (wipe_wipe σ t)
    exact k F3 H (p :: M) L3 (.ref p) (st1.trans st3) k4 ⟨⟨p, vs, M, rfl, hp3, rfl, ow3⟩, nd3, fr3⟩
theorem sn_comp {u : Bool} {t : List Nat} {tt : Bool} (hu : u = true → tt = true) {el : En → R (O × En)} {it : En → R (List D × En)} {tc : En → R (Bool × En)} {tg elt iter : Expr} {ifs : List Expr} {scope : Scope} {own : List (Str × Nat)} {pos : Pos} (hK : X.K = W.K) (hc : X.calm = true) (hN : X.N.Nodup) (ht0 : own.map (·.2) = t) (hi : PI X tg iter (trI W u it)) (ok : BlkOk X.N X.env.scope scope own)
    (hg : ∀ (s : Shared) (H : Hp) (C : Addr) (cl : List (Str × Addr)) (fp : List Addr), PG (X.blk s H scope (compEnvC scope cl C X.env) fp) tg (trG W t tt)) (ht : ∀ (s : Shared) (H : Hp) (C : Addr) (cl : List (Str × Addr)) (fp : List Addr), PTs (X.blk s H scope (compEnvC scope cl C X.env) fp) ifs (trT W tc))
    (he : ∀ (s : Shared) (H : Hp) (C : Addr) (cl : List (Str × Addr)) (fp : List Addr), PE (X.blk s H scope (compEnvC scope cl C X.env) fp) elt (trV W el)) (hs : ∀ x, foldedSetIterable iter X.env x = pure x) :
    Sn W X (Sm.mk1 (compV t tt el it tc)) (.ListComp elt [⟨tg, iter, ifs, 0⟩] scope pos) := by
  subst ht0
  exact Sn.plain hK (PE.imp (pe_lc hc hN hi ok hg ht he hs) fun _ _ _ q => comp_ent hu q) rfl
/-- x = [..] on one line -/
theorem st_comp {u : Bool} {t : List Nat} {tt : Bool} (hu : u = true → tt = true) {el : En → R (O × En)} {it : En → R (List D × En)} {tc : En → R (Bool × En)} {tg elt iter : Expr} {ifs : List Expr} {scope : Scope} {own : List (Str × Nat)} {pos py spos : Pos} {i : Nat} {y : Str} (hK : X.K = W.K) (hc : X.calm = true) (hN : X.N.Nodup) (hy : X.N[i]? = some y) (hyl : X.env.scope.names.lookup y = some .local)
    (hsw : swapsWith (.ListComp elt [⟨tg, iter, ifs, 0⟩] scope pos) (some (.Name y py)) spos.line X.env = pure true) (ht0 : own.map (·.2) = t) (hi : PI X tg iter (trI W u it)) (ok : BlkOk X.N X.env.scope scope own)
    (hg : ∀ (s : Shared) (H : Hp) (C : Addr) (cl : List (Str × Addr)) (fp : List Addr), PG (X.blk s H scope (compEnvC scope cl C X.env) fp) tg (trG W t tt)) (ht : ∀ (s : Shared) (H : Hp) (C : Addr) (cl : List (Str × Addr)) (fp : List Addr), PTs (X.blk s H scope (compEnvC scope cl C X.env) fp) ifs (trT W tc))
    (he : ∀ (s : Shared) (H : Hp) (C : Addr) (cl : List (Str × Addr)) (fp : List Addr), PE (X.blk s H scope (compEnvC scope cl C X.env) fp) elt (trV W el)) (hs : ∀ x, foldedSetIterable iter X.env x = pure x) :
    PS X (.Assign [.Name y py] (.ListComp elt [⟨tg, iter, ifs, 0⟩] scope pos) spos) (tAsg (trV W (compV t tt el it tc)) (gName i)) := by
  subst ht0
  exact PS.imp (ps_setLc hc hN hy hyl hsw hi ok hg ht he hs) fun D σ H q => comp_ent hu q
end
end MP

set_option Elab.async false
set_option linter.all false
/-! Cmp2: list comprehensions of two clauses. -/
namespace MP
open PySem L2
section
variable {W : Wd} {X : Cx}
theorem wipe_app (σ : St) (t : List Nat) : ∀ s : List Nat, L2.wipe σ (s ++ t) = L2.wipe (L2.wipe σ t) s
  | [] => rfl
  | i :: s => by
    show (L2.wipe σ (s ++ t)).set i none = (L2.wipe (L2.wipe σ t) s).set i none
    rw [wipe_app σ t s]
theorem wipe_sup {σ τ : St} {t s : List Nat} (h : L2.wipe σ t = L2.wipe τ t) (sb : ∀ i ∈ t, i ∈ s) : L2.wipe σ s = L2.wipe τ s := by
  have key : ∀ (ρ : St) (q : List Nat), (∀ i ∈ q, i ∈ s) → L2.wipe (L2.wipe ρ q) s = L2.wipe ρ s := by
    intro ρ q
    induction q with
    | nil => intro _; rfl
    | cons i q ih =>
      intro h
      rw [show L2.wipe ρ (i :: q) = (L2.wipe ρ q).set i none from rfl, wipe_set _ _ _ (h i List.mem_cons_self), ih fun j hj => h j (List.mem_cons_of_mem _ hj)]
  rw [← key σ t sb, h, key τ t sb]
theorem wipeE_app (e : En) (t : List Nat) : ∀ s : List Nat, wipeE e (s ++ t) = wipeE (wipeE e t) s
  | [] => rfl
  | i :: s => by
    show (wipeE e (s ++ t)).set i none = (wipeE (wipeE e t) s).set i none
    rw [wipeE_app e t s]
theorem wipeE_id {e : En} : ∀ {s : List Nat}, (∀ i ∈ s, i < e.length → e[i]? = some none) → wipeE e s = e
  | [], _ => rfl
  | i :: s, h => by
    show (wipeE e s).set i none = e
    rw [wipeE_id fun j hj => h j (List.mem_cons_of_mem _ hj)]
    apply List.ext_getElem?
    intro j
    by_cases hj : i = j
    · subst hj
      by_cases hl : i < e.length
      · rw [List.getElem?_set_self hl, h i List.mem_cons_self hl]
      · rw [List.getElem?_eq_none (by rw [List.length_set]; omega), List.getElem?_eq_none (by omega)]
    · rw [List.getElem?_set_ne hj]
theorem wipeE_stays {e : En} {i : Nat} (h : e[i]? = some none) : ∀ s : List Nat, (wipeE e s)[i]? = some none
  | [] => h
  | j :: s => by
    show ((wipeE e s).set j none)[i]? = some none
    have hl : i < (wipeE e s).length := by
      rw [wipeE_len]
      exact (List.getElem?_eq_some_iff.mp h).1
    by_cases hj : j = i
    · subst hj
      exact List.getElem?_set_self hl
    · rw [List.getElem?_set_ne hj]
      exact wipeE_stays h s
theorem wipeE_again {e : En} {t t2 : List Nat} (h : wipeE e t2 = e) : wipeE (wipeE e t) (t ++ t2) = wipeE e t := by
  refine wipeE_id fun i hi hl => ?_
  rw [wipeE_len] at hl
  rcases List.mem_append.mp hi with hi | hi
  · exact wipeE_none e t hi hl
  · refine wipeE_stays ?_ t
    rw [← h]
    exact wipeE_none e t2 hi hl
def comp2B (t : List Nat) (tt : Bool) (tc : En → R (Bool × En)) (t2 : List Nat) (tt2 : Bool) (it2 : En → R (List D × En)) (tc2 : En → R (Bool × En)) (el : En → R (O × En)) : D → En → R (List O × En) := fun d e => do
  let e ← bindT t tt d e
  let (b, e) ← tc e
  if b = true then do
    let (ys, e) ← it2 e
    let (os, e) ← runC (compB t2 tt2 el tc2) ys (wipeE e t2)
    R.need (decide (ys.length ≤ lim)) (pure (os, wipeE e t))
  else pure ([], wipeE (wipeE e t2) t)
def comp2V (t : List Nat) (tt : Bool) (it : En → R (List D × En)) (tc : En → R (Bool × En)) (t2 : List Nat) (tt2 : Bool) (it2 : En → R (List D × En)) (tc2 : En → R (Bool × En)) (el : En → R (O × En)) : En → R (O × En) := fun e => do
  let (xs, e) ← it e
  let (os, e) ← runC2 (comp2B t tt tc t2 tt2 it2 tc2 el) xs (wipeE (wipeE e t2) t)
  R.need (decide (os.length ≤ lim)) (pure (.lst os, e))
/-- the new list's part of where a comprehension stands -/
def NewAt (W : Wd) (F1 H1 : Hp) (L1 : List Addr) (p : Addr) (F H : Hp) (L : List Addr) (done : List O) : Prop :=
  ∃ (M : List Addr) (us : List V), H p = some (.lst us) ∧ Owns W F H done us M ∧ (p :: (M ++ L)).Nodup ∧ (∀ a ∈ p :: M, F a = none) ∧ Stp F1 H1 L1 F H (p :: (M ++ L))
def Comp2At (W : Wd) (σ : St) (F1 H1 : Hp) (L1 : List Addr) (bd : D → En → R (List O × En)) (vs : List Nat) (xs : List D) (os : List O) (ef : En) (p : Addr) (i : Nat) (H : Hp) : Prop :=
  ∃ (F : Hp) (e : En) (L : List Addr) (done rest : List O), Ok W F H e (L2.wipe σ vs) L ∧ wipeE e vs = e ∧ NewAt W F1 H1 L1 p F H L done ∧ runC2 bd (xs.drop i) e = .ok (rest, ef) ∧ os = done ++ rest
def InAt (W : Wd) (σ2 : St) (F1 H1 : Hp) (L1 : List Addr) (bd : D → En → R (List O × En)) (bd1 : D → En → R (Option O × En)) (t t2 : List Nat) (xs ys : List D) (os : List O) (ef : En) (p : Addr) (Fb : Hp) (j : Nat) (H : Hp) : Prop :=
  ∃ (F : Hp) (e : En) (L : List Addr) (done rest : List O) (e2 : En) (rest2 : List O), Ok W F H e (L2.wipe σ2 t2) L ∧ wipeE e t2 = e ∧ NewAt W F1 H1 L1 p F H L done ∧ Sub Fb F ∧ runC bd1 (ys.drop j) e = .ok (rest, e2) ∧ runC2 bd xs (wipeE e2 t) = .ok (rest2, ef) ∧ os = done ++ (rest ++ rest2)
section
variable {F1 H1 : Hp} {L1 : List Addr} {p : Addr}
/-- a step that leaves the new list alone -/
theorem NewAt.step {F H F' H' : Hp} {L L' L9 : List Addr} {done : List O} (n : NewAt W F1 H1 L1 p F H L done) (S : Stp F H L F' H' L') (nd : L9.Nodup) (m : ∀ a ∈ L9, a ∈ L') : NewAt W F1 H1 L1 p F' H' L9 done := by
  obtain ⟨M, us, hp, ow, nd3, fr, st⟩ := n
  have nd3b := List.nodup_cons.mp nd3
  have dT : ∀ z ∈ p :: M, z ∉ L := fun z hz hw => by
    rcases List.mem_cons.mp hz with rfl | hz
    · exact nd3b.1 (List.mem_append_right _ hw)
    · exact nodup_d nd3b.2 z hz hw
  have defT : ∀ z ∈ p :: M, H z ≠ none := fun z hz => by
    rcases List.mem_cons.mp hz with rfl | hz
    · rw [hp]; simp
    · exact ow.def_ z hz
  have kT := S.kept dT
  have aT := S.apart dT defT
  have uT := S.unsh dT defT fr
  refine ⟨M, us, kT p List.mem_cons_self _ hp, ow.keep S.fs (kT.sub fun z hz => List.mem_cons_of_mem _ hz), List.nodup_cons.mpr ⟨fun z => ?_, nodup_app (nodup_l nd3b.2) nd fun z hz hw => aT z (List.mem_cons_of_mem _ hz) (m z hw)⟩, uT, ?_⟩
  · rcases List.mem_append.mp z with z | z
    · exact nd3b.1 (List.mem_append_left _ z)
    · exact aT p List.mem_cons_self (m p z)
  · refine st.trans (S.mono (fun z hz => List.mem_cons_of_mem _ (List.mem_append_right _ hz)) fun z hz => ?_)
    rcases List.mem_cons.mp hz with rfl | hz
    · exact .inr (.inl List.mem_cons_self)
    · rcases List.mem_append.mp hz with hz | hz
      · exact .inr (.inl (List.mem_cons_of_mem _ (List.mem_append_left _ hz)))
      · exact .inl (m z hz)
/-- one more item -/
theorem NewAt.app {F H F8 H8 : Hp} {L L8 M8 : List Addr} {done : List O} {o : O} {yv : V} {e8 : En} {σ2 : St} {t : List Nat} (n : NewAt W F1 H1 L1 p F H L done) (S : Stp F H L F8 H8 (M8 ++ L8)) (k8 : Ok W F8 H8 e8 σ2 L8) (got8 : Got W F8 H8 o yv M8 L8) :
    ∃ us, H8 p = some (.lst us) ∧ us.length = done.length ∧ ∃ L9, Ok W F8 (upd H8 p (.lst (us ++ [yv]))) (wipeE e8 t) (L2.wipe σ2 t) L9 ∧ NewAt W F1 H1 L1 p F8 (upd H8 p (.lst (us ++ [yv]))) L9 (done ++ [o]) := by
  obtain ⟨M, us, hp, ow, nd3, fr, st⟩ := n
  have nd3b := List.nodup_cons.mp nd3
  have dT : ∀ z ∈ p :: M, z ∉ L := fun z hz hw => by
    rcases List.mem_cons.mp hz with rfl | hz
    · exact nd3b.1 (List.mem_append_right _ hw)
    · exact nodup_d nd3b.2 z hz hw
  have defT : ∀ z ∈ p :: M, H z ≠ none := fun z hz => by
    rcases List.mem_cons.mp hz with rfl | hz
    · rw [hp]; simp
    · exact ow.def_ z hz
  have kT := S.kept dT
  have aT := S.apart dT defT
  have uT := S.unsh dT defT fr
  have hp8 : H8 p = some (.lst us) := kT p List.mem_cons_self _ hp
  have ow8 := ow.keep S.fs (kT.sub fun z hz => List.mem_cons_of_mem _ hz)
  refine ⟨us, hp8, ow.len, ?_⟩
  obtain ⟨L9, k9, m9⟩ := k8.wipe t
  have k10 := k9.wiped k8.en.len.symm
  have np : ∀ z, z ∈ M8 ++ L8 → z ≠ p := fun z hz e0 => aT p List.mem_cons_self (e0 ▸ hz)
  have npM : ∀ z ∈ M, z ≠ p := fun z hz e0 => nd3b.1 (List.mem_append_left _ (e0 ▸ hz))
  have kp : ∀ T : List Addr, (∀ z ∈ T, z ≠ p) → Kp H8 (upd H8 p (.lst (us ++ [yv]))) T := fun T hT z hz o q => by rw [upd_ne (hT z hz)]; exact q
  have fp8 : F8 p = none := uT p List.mem_cons_self
  have nd9 : ((M ++ M8) ++ L9).Nodup := by
    rw [List.append_assoc]
    refine nodup_app (nodup_l nd3b.2) (nodup_app (nodup_l got8.nd) k9.nd fun z hz hw => nodup_d got8.nd z hz (m9 z hw)) fun z hz hw => ?_
    refine aT z (List.mem_cons_of_mem _ hz) ?_
    rcases List.mem_append.mp hw with hw | hw
    · exact List.mem_append_left _ hw
    · exact List.mem_append_right _ (m9 z hw)
  refine ⟨L9, ⟨fun z ob q => ?_, k10.nd, k10.dj, k10.en.keep (Sub.refl _) (kp _ fun z hz => np z (List.mem_append_right _ (m9 z hz)))⟩, M ++ M8, us ++ [yv], upd_same,
    Owns.snoc (got8.own.keep (Sub.refl _) (kp _ fun z hz => np z (List.mem_append_left _ hz))) (ow8.keep (Sub.refl _) (kp _ npM)), List.nodup_cons.mpr ⟨fun z => ?_, nd9⟩, fun z hz => ?_, ?_⟩
  · rw [upd_ne fun e0 => by rw [e0, fp8] at q; cases q]
    exact k8.sub z ob q
  · rw [List.append_assoc] at z
    rcases List.mem_append.mp z with z | z
    · exact npM p z rfl
    · rcases List.mem_append.mp z with z | z
      · exact np p (List.mem_append_left _ z) rfl
      · exact np p (List.mem_append_right _ (m9 p z)) rfl
  · rcases List.mem_cons.mp hz with rfl | hz
    · exact fp8
    · rcases List.mem_append.mp hz with hz | hz
      · exact uT z (List.mem_cons_of_mem _ hz)
      · exact got8.dj z hz
  · refine st.trans (Stp.trans (S.mono (M := p :: (M ++ L)) (M' := p :: ((M ++ M8) ++ L8)) (fun z hz => List.mem_cons_of_mem _ (List.mem_append_right _ hz)) fun z hz => ?_) ⟨Sub.refl _, fun z ob q hz => ?_, fun z hz => .inl ?_, fun z ob q => .inl q⟩)
    · rcases List.mem_cons.mp hz with rfl | hz
      · exact .inr (.inl List.mem_cons_self)
      · rw [List.append_assoc] at hz
        rcases List.mem_append.mp hz with hz | hz
        · exact .inr (.inl (List.mem_cons_of_mem _ (List.mem_append_left _ hz)))
        · exact .inl hz
    · rw [upd_ne fun e0 => hz (by rw [e0]; exact List.mem_cons_self)]
      exact q
    · rcases List.mem_cons.mp hz with rfl | hz
      · exact List.mem_cons_self
      · rcases List.mem_append.mp hz with hz | hz
        · exact List.mem_cons_of_mem _ (List.mem_append_left _ hz)
        · exact List.mem_cons_of_mem _ (List.mem_append_right _ (m9 z hz))
end
theorem comp2_ent {u u2 : Bool} {t t2 : List Nat} {tt tt2 : Bool} (hu : u = true → tt = true) (hu2 : u2 = true → tt2 = true) {el : En → R (O × En)} {it it2 : En → R (List D × En)} {tc tc2 : En → R (Bool × En)} {σ : St} {H : Hp} {Q : VK} (q : trV W (comp2V t tt it tc t2 tt2 it2 tc2 el) σ H Q) :
    tLc2 (trI W u it) (trG W t tt) (trT W tc) (trI W u2 it2) (trG W t2 tt2) (trT W tc2) (trV W el) (t ++ t2) t2 σ H Q := by
  have line : (sizeLine : Nat) = 16777216 := sizeLine_eq
  obtain ⟨F, L, e, o, e', ok, hf, k⟩ := q
  obtain ⟨⟨xs, e1⟩, h1, hf⟩ := R.bind_ok hf
  obtain ⟨⟨os, e2⟩, h2, hf⟩ := R.bind_ok hf
  obtain ⟨h3, hf⟩ := R.need_ok hf
  cases hf
  have h3 := of_decide_eq_true h3
  refine ⟨F, L, e, xs, e1, ok, h1, fun F1 H1 L1 J st1 ok1 wd p hp => ?_⟩
  obtain ⟨G, Y, w, hG, hY⟩ := wd
  have fp := ok1.sub.none hp
  generalize hbd : comp2B t tt tc t2 tt2 it2 tc2 el = bd at h2
  refine ⟨fun i m H => m = xs.length - i ∧ i ≤ xs.length ∧ Comp2At W σ F1 H1 L1 bd (t ++ t2) xs os e' p i H, ⟨xs.length, by simp, Nat.zero_le _, ?_⟩, ?_⟩
  · -- the start
    obtain ⟨L2, k2, m2⟩ := ok1.wipe (t ++ t2)
    have k3 := k2.wiped ok1.en.len.symm
    have st : Stp F1 H1 [] F1 (upd H1 p (.lst [])) [] := ⟨Sub.refl _, fun a o q _ => by rw [upd_ne (ne_of_none q hp)]; exact q, fun a ha => (by cases ha), fun a o q => .inl q⟩
    have sb : Sub F1 (upd H1 p (.lst [])) := fun a o q => by rw [upd_ne (ne_of_none (ok1.sub a o q) hp)]; exact ok1.sub a o q
    refine ⟨F1, wipeE e1 (t ++ t2), L2, [], os, k3.keep st sb, wipeE_self _ _, ⟨[], [], upd_same, ⟨rfl, rfl⟩, ?_, fun a ha => ?_, ?_⟩, by rw [wipeE_app]; exact h2, rfl⟩
    · exact List.nodup_cons.mpr ⟨fun z => k3.en.def_ p z hp, k3.nd⟩
    · rcases List.mem_cons.mp ha with rfl | ha
      · exact fp
      · cases ha
    · refine ⟨Sub.refl _, fun a o q _ => by rw [upd_ne (ne_of_none q hp)]; exact q, fun a ha => ?_, fun a o q => .inl q⟩
      rcases List.mem_cons.mp ha with rfl | ha
      · exact .inr hp
      · exact .inl (m2 a ha)
  rintro i m H ⟨rfl, hi, F3, e3, L3, done, rest, k3, we, n3, hr, eo⟩
  have hsub : Sub F1 F3 := by
    obtain ⟨_, _, _, _, _, _, st⟩ := n3
    exact st.fs
  have hGH := hG H (hsub.trans k3.sub)
  by_cases hlt : i < xs.length
  · refine .inr ⟨w.goes i H hlt hGH, Comp2At W σ F1 H1 L1 bd (t ++ t2) xs os e' p (i + 1), fun H' p' => ⟨xs.length - (i + 1), by omega, rfl, hlt, p'⟩, fun x H' y => ?_⟩
    -- a turn
    obtain ⟨d, F4, hd, stA, sb4, rd⟩ := hY i F3 H x H' hlt hsub k3.sub (w.yields i H x H' hlt hGH y)
    have hdr : xs.drop i = d :: xs.drop (i + 1) := by
      rw [List.drop_eq_getElem_cons hlt]
      rw [List.getElem?_eq_getElem hlt] at hd
      cases hd
      rfl
    rw [hdr] at hr
    obtain ⟨⟨r, e4⟩, hb, hr⟩ := R.bind_ok hr
    obtain ⟨⟨rs, e5⟩, hr2, hr⟩ := R.bind_ok hr
    cases hr
    have hb0 := hb
    rw [← hbd] at hb
    obtain ⟨e6, hb1, hb⟩ := R.bind_ok hb
    obtain ⟨⟨b, e7⟩, hb2, hb⟩ := R.bind_ok hb
    have stA' : Stp F3 H L3 F4 H' L3 := Stp.frame (T := L3) stA
    refine ⟨F4, L3, e3, d, e6, k3.keep stA sb4, rd.up hu, hb1, fun σ2 L6 k6 m6 hw0 => ?_⟩
    have hw : L2.wipe σ2 (t ++ t2) = L2.wipe σ (t ++ t2) := by rw [wipe_sup hw0 fun i hi => List.mem_append_left _ hi, wipe_wipe]
    refine ⟨hw, F4, L6, e6, b, e7, k6, hb2, fun F7 H7 L7 st7 k7 => ?_⟩
    have S : Stp F3 H L3 F7 H7 L7 := stA'.trans (Stp.trans ⟨Sub.refl _, fun _ _ q _ => q, fun a ha => .inl (m6 a ha), fun a o q => .inl q⟩ st7)
    cases b with
    | false =>
      dsimp only
      rw [if_neg (by decide)]
      cases hb
      obtain ⟨L9, k9, m9⟩ := k7.wipe (t ++ t2)
      have k10 := k9.wiped k7.en.len.symm
      rw [hw] at k10
      exact ⟨F7, wipeE e7 (t ++ t2), L9, done, rs, k10, wipeE_self _ _, n3.step S k9.nd m9, by rw [wipeE_app]; exact hr2, eo⟩
    | true =>
      dsimp only
      rw [if_pos rfl]
      obtain ⟨⟨ys, e8⟩, hb3, hb⟩ := R.bind_ok hb
      obtain ⟨⟨qs, e9⟩, hb4, hb⟩ := R.bind_ok hb
      obtain ⟨h9, hb⟩ := R.need_ok hb
      cases hb
      refine ⟨F7, L7, e7, ys, e8, k7, hb3, fun F8 H8 L8 J1 st8 k8 wd1 => ?_⟩
      obtain ⟨G1, Y1, w1, hG1, hY1⟩ := wd1
      have S := S.trans st8
      generalize hbd1 : compB t2 tt2 el tc2 = bd1 at hb4
      refine ⟨fun j m H => m = ys.length - j ∧ j ≤ ys.length ∧ InAt W σ2 F1 H1 L1 bd bd1 t t2 (xs.drop (i + 1)) ys os e' p F8 j H, ⟨ys.length, by simp, Nat.zero_le _, ?_⟩, ?_⟩
      · obtain ⟨L9, k9, m9⟩ := k8.wipe t2
        have k10 := k9.wiped k8.en.len.symm
        exact ⟨F8, wipeE e8 t2, L9, done, _, e9, rs, k10, wipeE_self _ _, n3.step S k9.nd m9, Sub.refl _, hb4, hr2, eo⟩
      rintro j m Hj ⟨rfl, hj, Fj, ej, Lj, dj, rj, e2j, r2j, kj, wej, nj, sbj, hrj, hr2j, eoj⟩
      have hGj := hG1 Hj (sbj.trans kj.sub)
      by_cases hjl : j < ys.length
      · refine .inr ⟨w1.goes j Hj hjl hGj, InAt W σ2 F1 H1 L1 bd bd1 t t2 (xs.drop (i + 1)) ys os e' p F8 (j + 1), fun H' p' => ⟨ys.length - (j + 1), by omega, rfl, hjl, p'⟩, fun x1 Hx y1 => ?_⟩
        obtain ⟨d1, Fx, hd1, stB, sbx, rd1⟩ := hY1 j Fj Hj x1 Hx hjl sbj kj.sub (w1.yields j Hj x1 Hx hjl hGj y1)
        have hdr1 : ys.drop j = d1 :: ys.drop (j + 1) := by
          rw [List.drop_eq_getElem_cons hjl]
          rw [List.getElem?_eq_getElem hjl] at hd1
          cases hd1
          rfl
        rw [hdr1] at hrj
        obtain ⟨⟨q1, f4⟩, hc, hrj⟩ := R.bind_ok hrj
        obtain ⟨⟨qs1, f5⟩, hrj2, hrj⟩ := R.bind_ok hrj
        cases hrj
        rw [← hbd1] at hc
        obtain ⟨f6, hc1, hc⟩ := R.bind_ok hc
        obtain ⟨⟨b1, f7⟩, hc2, hc⟩ := R.bind_ok hc
        have stB' : Stp Fj Hj Lj Fx Hx Lj := Stp.frame (T := Lj) stB
        refine ⟨Fx, Lj, ej, d1, f6, kj.keep stB sbx, rd1.up hu2, hc1, fun σ3 L11 k11 m11 hv0 => ?_⟩
        have hv : L2.wipe σ3 t2 = L2.wipe σ2 t2 := by rw [hv0, wipe_wipe]
        refine ⟨hv, Fx, L11, f6, b1, f7, k11, hc2, fun F12 H12 L12 st12 k12 => ?_⟩
        have T : Stp Fj Hj Lj F12 H12 L12 := stB'.trans (Stp.trans ⟨Sub.refl _, fun _ _ q _ => q, fun a ha => .inl (m11 a ha), fun a o q => .inl q⟩ st12)
        cases b1 with
        | false =>
          dsimp only
          rw [if_neg (by decide)]
          cases hc
          obtain ⟨L9, k9, m9⟩ := k12.wipe t2
          have k10 := k9.wiped k12.en.len.symm
          rw [hv] at k10
          exact ⟨F12, wipeE f7 t2, L9, dj, _, _, r2j, k10, wipeE_self _ _, nj.step T k9.nd m9, sbj.trans T.fs, hrj2, hr2j, eoj⟩
        | true =>
          dsimp only
          rw [if_pos rfl]
          obtain ⟨⟨o1, f8⟩, hc3, hc⟩ := R.bind_ok hc
          cases hc
          refine ⟨F12, L12, f7, o1, f8, k12, hc3, fun F13 H13 M13 L13 yv st13 k13 got13 => ?_⟩
          have T := T.trans st13
          obtain ⟨us, hp13, hlen, L14, k14, n14⟩ := nj.app (t := t2) T k13 got13
          rw [hv] at k14
          refine ⟨us, hp13, ?_, F13, wipeE f8 t2, L14, dj ++ [o1], qs1, _, r2j, k14, wipeE_self _ _, n14, sbj.trans T.fs, hrj2, hr2j, ?_⟩
          · have e1 : os.length = dj.length + ((o1 :: qs1).length + r2j.length) := by
              rw [eoj, List.length_append, List.length_append]
            have e2 : (o1 :: qs1).length = qs1.length + 1 := rfl
            rw [hlen, line]
            have : (lim : Nat) = 16777216 := rfl
            omega
          · rw [eoj, List.append_assoc]
            rfl
      · have e0 : j = ys.length := by omega
        subst e0
        refine .inl ⟨w1.stops Hj hGj, ?_⟩
        rw [List.drop_length] at hrj
        cases hrj
        obtain ⟨L9, k9, m9⟩ := kj.wipe t
        have k10 := k9.wiped (by rw [kj.en.len])
        rw [← wipe_app, hw] at k10
        exact ⟨Fj, wipeE ej t, L9, dj, r2j, k10, wipeE_again wej, nj.step Stp.refl k9.nd m9, hr2j, by rw [eoj]; rfl⟩
  · have e0 : i = xs.length := by omega
    subst e0
    refine .inl ⟨w.stops H hGH, ?_⟩
    rw [List.drop_length] at hr
    cases hr
    rw [List.append_nil] at eo
    subst eo
    obtain ⟨M, us, hp3, ow3, nd3, fr3, st3⟩ := n3
    have hl3 : e'.length = σ.length := by rw [← k3.en.len, wipe_length]
    have k4 : Ok W F3 H e' σ L3 := by
      rw [← we] at k3 ⊢
      exact k3.unwiped hl3 (wipe_wipe σ (t ++ t2))
    exact k F3 H (p :: M) L3 (.ref p) (st1.trans st3) k4 ⟨⟨p, us, M, rfl, hp3, rfl, ow3⟩, nd3, fr3⟩
section
variable {u u2 : Bool} {t t2 : List Nat} {tt tt2 : Bool} {el : En → R (O × En)} {it it2 : En → R (List D × En)} {tc tc2 : En → R (Bool × En)} {tg elt iter tg2 iter2 : Expr} {ifs ifs2 : List Expr} {scope : Scope} {own : List (Str × Nat)} {pos : Pos}
/-- the parts of a comprehension of two clauses are sound -/
structure Parts2 (W : Wd) (X : Cx) (u u2 : Bool) (t t2 : List Nat) (tt tt2 : Bool) (el : En → R (O × En)) (it it2 : En → R (List D × En)) (tc tc2 : En → R (Bool × En)) (tg elt iter tg2 iter2 : Expr) (ifs ifs2 : List Expr) (scope : Scope) (own : List (Str × Nat)) : Prop where
  hi : PI X tg iter (trI W u it)
  ok : BlkOk X.N X.env.scope scope own
  ow : own.map (·.2) = t ++ t2
  hg : ∀ (s : Shared) (H : Hp) (C : Addr) (cl : List (Str × Addr)) (fp : List Addr), PG (X.blk s H scope (compEnvC scope cl C X.env) fp) tg (trG W t tt)
  ht : ∀ (s : Shared) (H : Hp) (C : Addr) (cl : List (Str × Addr)) (fp : List Addr), PTs (X.blk s H scope (compEnvC scope cl C X.env) fp) ifs (trT W tc)
  hi2 : ∀ (s : Shared) (H : Hp) (C : Addr) (cl : List (Str × Addr)) (fp : List Addr), PI (X.blk s H scope (compEnvC scope cl C X.env) fp) tg2 iter2 (trI W u2 it2)
  hg2 : ∀ (s : Shared) (H : Hp) (C : Addr) (cl : List (Str × Addr)) (fp : List Addr), PG (X.blk s H scope (compEnvC scope cl C X.env) fp) tg2 (trG W t2 tt2)
  ht2 : ∀ (s : Shared) (H : Hp) (C : Addr) (cl : List (Str × Addr)) (fp : List Addr), PTs (X.blk s H scope (compEnvC scope cl C X.env) fp) ifs2 (trT W tc2)
  he : ∀ (s : Shared) (H : Hp) (C : Addr) (cl : List (Str × Addr)) (fp : List Addr), PE (X.blk s H scope (compEnvC scope cl C X.env) fp) elt (trV W el)
  hs : ∀ x, foldedSetIterable iter X.env x = pure x
  hs2 : ∀ env x, foldedSetIterable iter2 env x = pure x
  hu : u = true → tt = true
  hu2 : u2 = true → tt2 = true
theorem sn_comp2 (hK : X.K = W.K) (hc : X.calm = true) (hN : X.N.Nodup) (h : Parts2 W X u u2 t t2 tt tt2 el it it2 tc tc2 tg elt iter tg2 iter2 ifs ifs2 scope own) :
    Sn W X (Sm.mk1 (comp2V t tt it tc t2 tt2 it2 tc2 el)) (.ListComp elt [⟨tg, iter, ifs, 0⟩, ⟨tg2, iter2, ifs2, 0⟩] scope pos) := by
  have q := pe_lc2 (pos := pos) (vs1 := t2) hc hN h.hi h.ok (by rw [h.ow]; exact fun i hi => List.mem_append_right _ hi) h.hg h.ht h.hi2 h.hg2 h.ht2 h.he h.hs h.hs2
  rw [h.ow] at q
  exact Sn.plain hK (PE.imp q fun _ _ _ q => comp2_ent h.hu h.hu2 q) rfl
theorem st_comp2 {py spos : Pos} {i : Nat} {y : Str} (hc : X.calm = true) (hN : X.N.Nodup) (hy : X.N[i]? = some y) (hyl : X.env.scope.names.lookup y = some .local)
    (hsw : swapsWith (.ListComp elt [⟨tg, iter, ifs, 0⟩, ⟨tg2, iter2, ifs2, 0⟩] scope pos) (some (.Name y py)) spos.line X.env = pure true) (h : Parts2 W X u u2 t t2 tt tt2 el it it2 tc tc2 tg elt iter tg2 iter2 ifs ifs2 scope own) :
    PS X (.Assign [.Name y py] (.ListComp elt [⟨tg, iter, ifs, 0⟩, ⟨tg2, iter2, ifs2, 0⟩] scope pos) spos) (tAsg (trV W (comp2V t tt it tc t2 tt2 it2 tc2 el)) (gName i)) := by
  have q := ps_setLc2 (pos := pos) (spos := spos) (py := py) (i := i) (vs1 := t2) hc hN hy hyl hsw h.hi h.ok (by rw [h.ow]; exact fun i hi => List.mem_append_right _ hi) h.hg h.ht h.hi2 h.hg2 h.ht2 h.he h.hs h.hs2
  rw [h.ow] at q
  exact PS.imp q fun D σ H q => comp2_ent h.hu h.hu2 q
end
end
end MP

set_option Elab.async false
set_option linter.all false
/-! Snd13: targets. -/
namespace MP
open PySem L2
section
variable {W : Wd} {X : Cx}
/-- parameters that are not stored to keep their values -/
def Kept (np : Nat) (asg : List Nat) (σ τ : St) : Prop := ∀ i : Nat, i < np → asg.contains i = false → τ[i]? = σ[i]?
theorem Kept.refl {np : Nat} {asg : List Nat} {σ : St} : Kept np asg σ σ := fun _ _ _ => rfl
theorem Kept.trans {np : Nat} {asg : List Nat} {σ τ υ : St} (a : Kept np asg σ τ) (b : Kept np asg τ υ) : Kept np asg σ υ := fun i h g => (b i h g).trans (a i h g)
/-- a slot that may be stored to -/
def mayPut (np : Nat) (asg : List Nat) (i : Nat) : Bool := decide (np ≤ i) || asg.contains i
theorem Kept.put {np : Nat} {asg : List Nat} {σ : St} {i : Nat} {v : Option V} (h : mayPut np asg i = true) : Kept np asg σ (σ.set i v) := fun j hj ha => by
  rw [List.getElem?_set_ne]
  intro z
  subst z
  rw [mayPut, Bool.or_eq_true, decide_eq_true_eq] at h
  rcases h with h | h
  · omega
  · rw [ha] at h; cases h
theorem Kept.of_wipe {np : Nat} {asg t : List Nat} {σ τ : St} (h : t.all (mayPut np asg) = true) (e : L2.wipe τ t = L2.wipe σ t) : Kept np asg σ τ := fun j hj ha => by
  have nm : j ∉ t := fun z => by
    have q := List.all_eq_true.mp h j z
    rw [mayPut, Bool.or_eq_true, decide_eq_true_eq] at q
    rcases q with q | q
    · omega
    · rw [ha] at q; cases q
  rw [← wipe_get τ t nm, e, wipe_get σ t nm]

/-- a slot takes a value -/
theorem Ok.store {F H : Hp} {e : En} {σ : St} {L M : List Addr} {i : Nat} {o : O} {v : V} (k : Ok W F H e σ L) (g : Got W F H o v M L) (hi : i < e.length) : ∃ L', Ok W F H (e.set i (some o)) (σ.set i (some v)) L' ∧ ∀ a ∈ L', a ∈ M ++ L := by
  obtain ⟨x, s, A, N, B, e1, e2, e3, h, up⟩ := k.en.at hi
  have u := up F H (some o) (some v) M (Sub.refl _) (fun _ _ _ h => h) ⟨v, rfl, g.own⟩
  have m : ∀ a ∈ A ++ M ++ B, a ∈ M ++ L := fun a ha => by
    rw [e3]
    simp only [List.mem_append] at ha ⊢
    rcases ha with (ha | ha) | ha
    · exact .inr (.inl (.inl ha))
    · exact .inl ha
    · exact .inr (.inr ha)
  have dd := nodup_d g.nd
  have nd := k.nd
  rw [e3] at nd dd
  refine ⟨_, ⟨k.sub, ?_, fun a ha => ?_, u⟩, m⟩
  · rw [List.append_assoc] at nd
    refine nodup_app (nodup_app (nodup_l nd) (nodup_l g.nd) fun x hx hy => dd x hy (by simp [hx])) (nodup_r (nodup_r nd)) fun x hx hy => ?_
    rcases List.mem_append.mp hx with hx | hx
    · exact nodup_d nd x hx (by simp [hy])
    · exact dd x hx (by simp [hy])
  · rcases List.mem_append.mp (m a ha) with z | z
    · exact g.dj a z
    · exact k.dj a z
/-- a value, with all that it owns, goes to a target -/
def trGo (W : Wd) (np : Nat) (asg : List Nat) (f : O → En → R En) : TG := fun v σ H Q => ∃ F L M e o e', Ok W F H e σ L ∧ Got W F H o v M L ∧ f o e = .ok e' ∧
  ∀ F' H' σ' L', Stp F H (M ++ L) F' H' L' → Ok W F' H' e' σ' L' → Kept np asg σ σ' → Q σ' H'
def trGs (W : Wd) (np : Nat) (asg : List Nat) (f : List O → En → R En) : TGs := fun vs σ H Q => ∃ F L M e os e', Ok W F H e σ L ∧ Owns W F H os vs M ∧ (M ++ L).Nodup ∧ (∀ a ∈ M, F a = none) ∧ f os e = .ok e' ∧
  ∀ F' H' σ' L', Stp F H (M ++ L) F' H' L' → Ok W F' H' e' σ' L' → Kept np asg σ σ' → Q σ' H'
variable {np : Nat} {asg : List Nat}
theorem tg_var {c : Cfg} {i : Nat} {x : Str} {pos : Pos} (hN : X.N.Nodup) (h : NamesAt X [i] [.Name x pos]) (hp : mayPut np asg i = true) : PG X (.Name x pos) (trGo W np asg (asgT c (.var i))) := by
  obtain ⟨h1, h2, h3, _⟩ := h
  refine PG.imp (pg_name hN h1 h2 h3) fun v σ H Q q => ?_
  obtain ⟨F, L, M, e, o, e', ok, got, hf, k⟩ := q
  unfold asgT at hf
  split at hf
  · rename_i hi
    cases hf
    obtain ⟨L', ok', m⟩ := ok.store got hi
    exact k F H _ L' ⟨Sub.refl _, fun _ _ q _ => q, fun a ha => .inl (m a ha), fun a o q => .inl q⟩ ok' (Kept.put hp)
  · cases hf
theorem Owns.setAt {F H : Hp} {o : O} {v : V} {M : List Addr} (g : Own W F H o v M) : ∀ {xs : List O} {vs : List V} {N : List Addr}, Owns W F H xs vs N → ∀ {j : Nat}, j < xs.length → ∃ A B C, N = A ++ B ++ C ∧ Owns W F H (xs.set j o) (vs.set j v) (A ++ M ++ C)
  | [], _, _, _, j, h => absurd h (Nat.not_lt_zero _)
  | x :: xs, _, _, h, 0, _ => by
    obtain ⟨w, ws, A, B, rfl, rfl, h1, h2⟩ := h
    exact ⟨[], A, B, rfl, v, ws, M, B, rfl, rfl, g, h2⟩
  | x :: xs, _, _, h, j + 1, hj => by
    obtain ⟨w, ws, A, B, rfl, rfl, h1, h2⟩ := h
    obtain ⟨A2, B2, C2, rfl, h3⟩ := Owns.setAt g h2 (j := j) (by simpa using hj)
    exact ⟨A ++ A2, B2, C2, by simp, w, _, A, A2 ++ M ++ C2, rfl, by simp, h1, h3⟩
theorem ixN_lt {n j : Nat} {i : Int} (h : ixN n i = some j) : j < n := (ixN_seq h).2.1
theorem tg_ix {c : Cfg} {i : Nat} {x : Str} {si : Sm} {ie : E} {ia : Expr} {sp pos : Pos} (hK : X.K = W.K) (hN : X.N[i]? = some x) (hv : Vis X.env.scope x) (hd : (x == ("__debug__" : Str)) = false) (hcd : (x == ("__classdict__" : Str)) = false)
    (hsl : notSlice ia = true) (hi : Sn W X (sem c ie) ia) : PG X (.Subscript (.Name x sp) ia pos) (trGo W np asg (asgT c (.ix i ie))) := by
  have ha : ∀ v, assign (.Subscript (.Name x sp) ia pos) X.env v = (do
      let ov ← holding [v] (eval (.Name x sp) X.env)
      let iv ← holding [v, ov] (eval ia X.env)
      standAt pos
      holding [v, ov, iv] (setItem ov iv v)
      release [v, ov, iv] []) := by
    intro v
    cases ia <;> first | rfl | cases hsl
  refine PG.imp (pg_sub (pe_var (X := X) (pos := sp) hN hv hd hcd) hi.arg set_list ha) fun v σ H Q q => ?_
  obtain ⟨F, L, M, e, o, e', ok, got, hf, k⟩ := q
  obtain ⟨p0, h0, hf⟩ := R.bind_ok hf
  obtain ⟨w, _, _, _, hw, _⟩ := ok.en.slot h0
  obtain ⟨⟨kk, e1⟩, h1, hf⟩ := R.bind_ok hf
  obtain ⟨p, h2, hf⟩ := R.bind_ok hf
  obtain ⟨⟨y, e2⟩, h3, h1⟩ := R.bind_ok h1
  obtain ⟨oy, h4, h1⟩ := R.bind_ok h1
  split at h1
  · rename_i k2 ek
    cases h1
    split at hf
    · rename_i xs
      obtain ⟨j, h5, hf⟩ := R.bind_ok hf
      cases hf
      refine ⟨w, hw, F, L, e, y, e1, ok, h3, fun F1 H1 M1 L1 v1 st1 ok1 got1 => ?_⟩
      obtain ⟨w2, A, N, B, g1, g2, own, up⟩ := ok1.en.slot h2
      rw [hw] at g1
      cases g1
      obtain ⟨q, vs, N', rfl, g3, rfl, ow⟩ := own
      have gotv := got.keep st1.drop ok1.nd
      have hj := R.of_ok h5
      obtain ⟨A2, B2, C2, rfl, ow2⟩ := Owns.setAt gotv.own ow (ixN_lt hj)
      have pm : ((A ++ (q :: (A2 ++ M ++ C2)) ++ B) ++ B2).Perm (M ++ L1) := by
        rw [g2, List.perm_iff_count]
        intro z
        simp only [List.count_append, List.count_cons]
        omega
      have ndA := pm.nodup_iff.mpr gotv.nd
      have nd := nodup_l ndA
      have inL : ∀ z ∈ A ++ (q :: (A2 ++ M ++ C2)) ++ B, z ∈ M ++ L1 := fun z hz => pm.mem_iff.mp (List.mem_append_left _ hz)
      have qL : q ∈ L1 := by rw [g2]; simp
      have fq := ok1.dj q qL
      have npI : ∀ z ∈ A2 ++ M ++ C2, z ≠ q := fun z hz e0 => (List.nodup_cons.mp (nodup_r (nodup_l nd))).1 (e0 ▸ hz)
      have npO : ∀ z ∈ A ++ B, z ≠ q := fun z hz e0 => by
        subst e0
        rcases List.mem_append.mp hz with hz | hz
        · exact nodup_d (nodup_l nd) z hz (by simp)
        · exact nodup_d nd z (by simp) hz
      have kp : ∀ T : List Addr, (∀ z ∈ T, z ≠ q) → Kp H1 (upd H1 q (.lst (vs.set j v))) T := fun T hT z hz ob r => by rw [upd_ne (hT z hz)]; exact r
      have u := up F1 (upd H1 q (.lst (vs.set j v))) (some (.lst (xs.set j o))) (some (.ref q)) (q :: (A2 ++ M ++ C2)) (Sub.refl _) (kp _ npO) ⟨.ref q, rfl, q, _, _, rfl, upd_same, rfl, ow2.keep (Sub.refl _) (kp _ npI)⟩
      rw [set_self hw] at u
      refine ⟨q, vs, kk, j, rfl, (sees_keep got1 Stp.refl ok1 h4).vint ek, g3, by rw [ow.len]; exact hj, k F1 _ σ _ ?_ ⟨fun z ob r => ?_, nd, fun z hz => ?_, u⟩ Kept.refl⟩
      · refine Stp.trans (st1.drop.mono (M := M ++ L) (M' := M ++ L1) (fun z hz => List.mem_append_right _ hz) fun z hz => ?_) ⟨Sub.refl _, fun z ob r hz => ?_, fun z hz => .inl (inL z hz), fun z ob r => .inl r⟩
        · rcases List.mem_append.mp hz with hz | hz
          · exact .inr (.inl (List.mem_append_left _ hz))
          · exact .inl hz
        · rw [upd_ne fun e0 => hz (by rw [e0]; exact List.mem_append_right _ qL)]
          exact r
      · rw [upd_ne fun e0 => by rw [e0, fq] at r; cases r]
        exact ok1.sub z ob r
      · rcases List.mem_append.mp (inL z hz) with hz | hz
        · exact gotv.dj z hz
        · exact ok1.dj z hz
    · cases hf
  · cases h1

/-! ### several targets -/
theorem tgs_nil {c : Cfg} : PGs X [] (trGs W np asg (asgO c .nil)) := by
  refine ⟨fun pins s σ H vs us Q I r q => pgs_nil.run pins s σ H vs us Q I r ?_⟩
  obtain ⟨F, L, M, e, os, e', ok, ow, nd, dj, hf, k⟩ := q
  cases os with
  | nil =>
    cases hf
    obtain ⟨rfl, rfl⟩ := ow
    exact ⟨rfl, k F H σ L Stp.refl ok Kept.refl⟩
  | cons o os => cases hf
theorem tgs_cons {c : Cfg} {t r : Tg} {a : Expr} {es : List Expr} (h1 : PG X a (trGo W np asg (asgT c t))) (h2 : PGs X es (trGs W np asg (asgO c r))) (hs : (assignEach (a :: es) X.env).map (·.2) = assign a X.env :: (assignEach es X.env).map (·.2)) :
    PGs X (a :: es) (trGs W np asg (asgO c (.cons t r))) := by
  refine ⟨fun pins s σ H vs us Q I rr q => (pgs_cons h1 h2 hs).run pins s σ H vs us Q I rr ?_⟩
  obtain ⟨F, L, M, e, os, e', ok, ow, nd, dj, hf, k⟩ := q
  cases os with
  | nil => cases hf
  | cons o os =>
    obtain ⟨v, ws, A, B, rfl, rfl, ow1, ow2⟩ := ow
    obtain ⟨e1, hf1, hf⟩ := R.bind_ok hf
    have nd1 : (A ++ L).Nodup := nodup_app (nodup_l (nodup_l nd)) ok.nd fun z hz hw => nodup_d nd z (List.mem_append_left _ hz) hw
    refine ⟨v, ws, rfl, F, L, A, e, o, e1, ok, ⟨ow1, nd1, fun z hz => dj z (List.mem_append_left _ hz)⟩, hf1, fun F1 H1 σ1 L1 st1 ok1 kp1 => ?_⟩
    have dB : ∀ z ∈ B, z ∉ A ++ L := fun z hz hw => by
      rcases List.mem_append.mp hw with hw | hw
      · exact nodup_d (nodup_l nd) z hw hz
      · exact nodup_d nd z (List.mem_append_right _ hz) hw
    have defB := ow2.def_
    refine ⟨F1, L1, B, e1, os, e', ok1, ow2.keep st1.fs (st1.kept dB), nodup_app (nodup_r (nodup_l nd)) ok1.nd (st1.apart dB defB), st1.unsh dB defB (fun z hz => dj z (List.mem_append_right _ hz)), hf, fun F2 H2 σ2 L2 st2 ok2 kp2 => ?_⟩
    refine k F2 H2 σ2 L2 (Stp.trans (st1.mono (M := (A ++ B) ++ L) (M' := B ++ L1) (fun z hz => ?_) fun z hz => ?_) st2) ok2 (kp1.trans kp2)
    · rcases List.mem_append.mp hz with hz | hz
      · exact List.mem_append_left _ (List.mem_append_left _ hz)
      · exact List.mem_append_right _ hz
    · rcases List.mem_append.mp hz with hz | hz
      · exact .inr (.inl (List.mem_append_left _ (List.mem_append_right _ hz)))
      · exact .inl hz
theorem asgL_eq (c : Cfg) : ∀ (t : Tg) (ds : List D) (e : En), asgT.asgL c t ds e = asgO c t (ds.map O.sh) e
  | .nil, [], e => rfl
  | .cons t r, d :: ds, e => by
    show (do let e ← asgT c t (.sh d) e; asgT.asgL c r ds e) = (do let e ← asgT c t (.sh d) e; asgO c r (ds.map O.sh) e)
    congr 1
    funext e
    exact asgL_eq c r ds e
  | .nil, _ :: _, _ => rfl
  | .cons _ _, [], _ => rfl
  | .var _, [], _ => rfl
  | .var _, _ :: _, _ => rfl
  | .ix _ _, [], _ => rfl
  | .ix _ _, _ :: _, _ => rfl
  | .ix2 _ _ _, [], _ => rfl
  | .ix2 _ _ _, _ :: _, _ => rfl
  | .att _ _, [], _ => rfl
  | .att _ _, _ :: _, _ => rfl
  | .tup _, [], _ => rfl
  | .tup _, _ :: _, _ => rfl
/-- how many targets -/
def Tg.count : Tg → Nat
  | .cons _ r => r.count + 1
  | _ => 0
theorem asgO_len (c : Cfg) : ∀ (t : Tg) (os : List O) (e e' : En), asgO c t os e = .ok e' → os.length = t.count
  | .nil, [], e, e', h => rfl
  | .cons t r, o :: os, e, e', h => by
    obtain ⟨e1, h1, h2⟩ := R.bind_ok h
    show os.length + 1 = r.count + 1
    rw [asgO_len c r os e1 e' h2]
  | .nil, _ :: _, _, _, h => by cases h
  | .cons _ _, [], _, _, h => by cases h
  | .var _, [], _, _, h => by cases h
  | .var _, _ :: _, _, _, h => by cases h
  | .ix _ _, [], _, _, h => by cases h
  | .ix _ _, _ :: _, _, _, h => by cases h
  | .ix2 _ _ _, [], _, _, h => by cases h
  | .ix2 _ _ _, _ :: _, _, _, h => by cases h
  | .att _ _, [], _, _, h => by cases h
  | .att _ _, _ :: _, _, _, h => by cases h
  | .tup _, [], _, _, h => by cases h
  | .tup _, _ :: _, _, _, h => by cases h
theorem tg_tup {c : Cfg} {l : Tg} {es : List Expr} {kk : Nat} {pos : Pos} (hK : X.K = W.K) (hc : X.calm = true) (h : PGs X es (trGs W np asg (asgO c l))) (hl : (assignEach es X.env).length = l.count) (hst : (assignEach es X.env).findIdx? (·.1) = none) :
    PG X (.Tuple es kk pos) (trGo W np asg (asgT c (.tup l))) := by
  refine PG.imp (PG.or (pg_tup hc h hl hst) (pg_unl hc h hl hst)) fun v σ H Q q => ?_
  obtain ⟨F, L, M, e, o, e', ok, got, hf, k⟩ := q
  cases o with
  | sh d =>
    cases d with
    | tup ds =>
      have hf : asgT.asgL c l ds e = .ok e' := hf
      rw [asgL_eq] at hf
      have hn := asgO_len _ _ _ _ _ hf
      rw [List.length_map] at hn
      obtain ⟨rfl, p, vs, rfl, h2, h3⟩ := got.own
      exact .inl ⟨p, vs, rfl, h2.sq ok.sub, by rw [h3.len, hn], F, L, [], e, _, e', ok, owns_sh h3, ok.nd, fun a h => (by cases h), hf, k⟩
    | lst ds =>
      have hf : asgT.asgL c l ds e = .ok e' := hf
      rw [asgL_eq] at hf
      have hn := asgO_len _ _ _ _ _ hf
      rw [List.length_map] at hn
      obtain ⟨rfl, p, vs, rfl, h2, h3⟩ := got.own
      exact .inr ⟨p, vs, rfl, SqL.of (ok.sub _ _ h2), by rw [h3.len, hn], F, L, [], e, _, e', ok, owns_sh h3, ok.nd, fun a h => (by cases h), hf, k⟩
    | _ => cases hf
  | lst xs =>
    obtain ⟨ds, hsh, hf⟩ := R.bind_ok (show (R.of (shAll xs)).bind (fun ds => asgT.asgL c l ds e) = .ok e' from hf)
    rw [asgL_eq] at hf
    have hn := asgO_len _ _ _ _ _ hf
    rw [List.length_map] at hn
    obtain ⟨p, vs, N, rfl, h2, rfl, h3⟩ := got.own
    obtain ⟨rfl, h4⟩ := owns_shAll (R.of_ok hsh) h3
    exact .inr ⟨p, vs, rfl, SqL.of h2, by rw [h4.len, hn], F, L, [], e, _, e', ok, owns_sh h4, ok.nd, fun a h => (by cases h), hf, fun F' H' σ' L' st => k F' H' σ' L' (st.mono (fun x hx => List.mem_append_right _ hx) fun x hx => .inl hx)⟩
  | _ => cases hf
end
end MP

set_option Elab.async false
set_option linter.all false
/-! Snd14: statements. -/
namespace MP
open PySem L2
section
variable {W : Wd} {X : Cx} {np : Nat} {asg : List Nat}
/-- what is to hold of an end -/
def EndS (W : Wd) (np : Nat) (asg : List Nat) (D : Ends) (F H : Hp) (L : List Addr) (σ : St) (fl : Fl) (e' : En) : Prop := match fl with
  | .nx => ∀ F' H' σ' L', Stp F H L F' H' L' → Ok W F' H' e' σ' L' → Kept np asg σ σ' → D.nx σ' H'
  | .rt o => ∀ F' H' σ' M L' v, Stp F H L F' H' (M ++ L') → Ok W F' H' e' σ' L' → Got W F' H' o v M L' → Kept np asg σ σ' → D.rt v H'
def trS (W : Wd) (np : Nat) (asg : List Nat) (f : En → R (Fl × En)) : TS := fun D σ H => ∃ F L e fl e', Ok W F H e σ L ∧ f e = .ok (fl, e') ∧ EndS W np asg D F H L σ fl e'
theorem EndS.step {D : Ends} {F H F1 H1 : Hp} {L L1 : List Addr} {σ τ : St} {fl : Fl} {e' : En} (k : EndS W np asg D F H L σ fl e') (st : Stp F H L F1 H1 L1) (kp : Kept np asg σ τ) : EndS W np asg D F1 H1 L1 τ fl e' := by
  cases fl with
  | nx => exact fun F' H' σ' L' st2 ok kp2 => k F' H' σ' L' (st.trans st2) ok (kp.trans kp2)
  | rt o => exact fun F' H' σ' M L' v st2 ok got kp2 => k F' H' σ' M L' v (st.trans st2) ok got (kp.trans kp2)
theorem st_nil : PSs X [] (trS W np asg fun e => .ok (.nx, e)) := PSs.imp pss_nil fun D σ H q => by
  obtain ⟨F, L, e, fl, e', ok, hf, k⟩ := q
  cases hf
  exact k F H σ L Stp.refl ok Kept.refl
variable {fa fb : En → R (Fl × En)} {st : Stmt} {rest : List Stmt} {sa : Sm} {a : Expr} {pos : Pos}
theorem seq_ent {D : Ends} {σ : St} {H : Hp} (q : trS W np asg (fun e => do
    let (f, e) ← fa e
    match f with
    | .nx => fb e
    | .rt o => pure (.rt o, e)) D σ H) : tSeq (trS W np asg fa) (trS W np asg fb) D σ H := by
  obtain ⟨F, L, e, fl, e', ok, hf, k⟩ := q
  obtain ⟨⟨f, e1⟩, h1, hf⟩ := R.bind_ok hf
  cases f with
  | nx => exact ⟨F, L, e, .nx, e1, ok, h1, fun F1 H1 σ1 L1 st1 ok1 kp1 => ⟨F1, L1, e1, fl, e', ok1, hf, k.step st1 kp1⟩⟩
  | rt o =>
    cases hf
    exact ⟨F, L, e, .rt o, e', ok, h1, k⟩
theorem st_seq (h1 : PS X st (trS W np asg fa)) (h2 : PSs X rest (trS W np asg fb)) : PSs X (st :: rest) (trS W np asg fun e => do
    let (f, e) ← fa e
    match f with
    | .nx => fb e
    | .rt o => pure (.rt o, e)) := PSs.imp (pss_cons h1 h2) fun _ _ _ q => seq_ent q
def isComp : Expr → Bool
  | .ListComp .. => true
  | .SetComp .. => true
  | .DictComp .. => true
  | _ => false
theorem noComp {e : Expr} (h : isComp e = false) (t : Option Expr) (l : Nat) (env : Env) : swapsWith e t l env = pure false := by
  unfold swapsWith
  cases e <;> first | rfl | cases h
theorem st_expr (hc : isComp a = false) (ha : Sn W X sa a) : PS X (.Expr a pos) (trS W np asg fun e => do let (_, e) ← sa.val e; pure (.nx, e)) := PS.imp (ps_expr ha.val (noComp hc _ _ _)) fun D σ H q => by
  obtain ⟨F, L, e, fl, e', ok, hf, k⟩ := q
  obtain ⟨⟨o, e1⟩, h1, hf⟩ := R.bind_ok hf
  cases hf
  exact ⟨F, L, e, o, e', ok, h1, fun F1 H1 M1 L1 v1 st1 ok1 got1 => k F1 H1 σ L1 st1.drop ok1 Kept.refl⟩
theorem st_doc {x j p} : PS X (.Expr (.Constant (.str x) j p) pos) (trS W np asg fun e => .ok (.nx, e)) := PS.imp ps_doc fun D σ H q => by
  obtain ⟨F, L, e, fl, e', ok, hf, k⟩ := q
  cases hf
  exact k F H σ L Stp.refl ok Kept.refl
theorem st_ret (ha : Sn W X sa a) : PS X (.Return (some a) pos) (trS W np asg fun e => do let (o, e) ← sa.val e; pure (.rt o, e)) := PS.imp (ps_ret ha.val) fun D σ H q => by
  obtain ⟨F, L, e, fl, e', ok, hf, k⟩ := q
  obtain ⟨⟨o, e1⟩, h1, hf⟩ := R.bind_ok hf
  cases hf
  exact ⟨F, L, e, o, e', ok, h1, fun F1 H1 M1 L1 v1 st1 ok1 got1 => k F1 H1 σ M1 L1 v1 st1 ok1 got1 Kept.refl⟩
theorem st_retV {i : Nat} {x : Str} {p : Pos} (hN : X.N[i]? = some x) (hv : Vis X.env.scope x) (hd : (x == ("__debug__" : Str)) = false) (hcd : (x == ("__classdict__" : Str)) = false) :
    PS X (.Return (some (.Name x p)) pos) (trS W np asg fun e => do
    let o ← e.get i
    if i < np then do
      let (o, e) ← take i e
      pure (.rt o, e)
    else pure (.rt o, e.set i none)) := PS.imp (ps_ret (pe_var (X := X) hN hv hd hcd)) fun D σ H q => by
  obtain ⟨F, L, e, fl, e', ok, hf, k⟩ := q
  obtain ⟨o, h1, hf⟩ := R.bind_ok hf
  split at hf
  · obtain ⟨⟨o1, e1⟩, h2, hf⟩ := R.bind_ok hf
    cases hf
    obtain ⟨v, F', R, e1, st, ok', own⟩ := take_ok ok h2
    exact ⟨v, e1, k F' H σ [] R v st ok' ⟨own, by simpa using ok'.nd, fun a h => (by cases h)⟩ Kept.refl⟩
  · cases hf
    obtain ⟨v, M, R, e1, own, ok', nd, dj, m⟩ := ok.empty h1
    exact ⟨v, e1, k F H σ M R v ⟨Sub.refl _, fun _ _ q _ => q, fun a ha => .inl ((m a).mpr (List.mem_append.mp ha)), fun a o q => .inl q⟩ ok' ⟨own, nd, dj⟩ Kept.refl⟩
theorem st_retN : PS X (.Return none pos) (trS W np asg fun e => .ok (.rt (.sh .non), e)) := PS.imp ps_retN fun D σ H q => by
  obtain ⟨F, L, e, fl, e', ok, hf, k⟩ := q
  cases hf
  exact k F H σ [] L .non Stp.refl ok ⟨⟨rfl, rfl⟩, by simpa using ok.nd, fun a h => (by cases h)⟩ Kept.refl
theorem st_never : PS X st (trS W np asg fun _ => .bad) := ⟨fun _ _ _ _ _ _ ⟨_, _, _, _, _, _, h, _⟩ => by cases h⟩
theorem st_ifs {xs ys : List Stmt} (hc : Sn W X sa a) (ha : PSs X xs (trS W np asg fa)) (hb : PSs X ys (trS W np asg fb)) : PS X (.If a xs ys pos) (trS W np asg fun e => do
    let (r, e) ← sa.tru e
    if r = true then fa e else fb e) := PS.imp (ps_if hc.tru ha hb) fun D σ H q => by
  obtain ⟨F, L, e, fl, e', ok, hf, k⟩ := q
  obtain ⟨⟨r, e1⟩, h1, hf⟩ := R.bind_ok hf
  refine ⟨F, L, e, r, e1, ok, h1, fun F1 H1 L1 st1 ok1 => ?_⟩
  cases r with
  | true =>
    rw [if_pos rfl]
    exact ⟨F1, L1, e1, fl, e', ok1, hf, k.step st1 Kept.refl⟩
  | false => exact ⟨F1, L1, e1, fl, e', ok1, hf, k.step st1 Kept.refl⟩

/-! ### stores -/
theorem asg_ent {v : En → R (O × En)} {f : O → En → R En} {D : Ends} {σ : St} {H : Hp} (q : trS W np asg (fun e => do
    let (o, e) ← v e
    let e ← f o e
    pure (.nx, e)) D σ H) : tAsg (trV W v) (trGo W np asg f) D σ H := by
  obtain ⟨F, L, e, fl, e', ok, hf, k⟩ := q
  obtain ⟨⟨o, e1⟩, h1, hf⟩ := R.bind_ok hf
  obtain ⟨e2, h2, hf⟩ := R.bind_ok hf
  cases hf
  exact ⟨F, L, e, o, e1, ok, h1, fun F1 H1 M1 L1 v1 st1 ok1 got1 => ⟨F1, L1, M1, e1, o, e', ok1, got1, h2, fun F2 H2 σ2 L2 st2 ok2 kp2 => k F2 H2 σ2 L2 (st1.trans st2) ok2 kp2⟩⟩
theorem st_asg {tg : Expr} {f : O → En → R En} (he : PE X a (trV W sa.val)) (hg : PG X tg (trGo W np asg f)) (hs : swapsWith a (some tg) pos.line X.env = pure false) (hw : swappedStores [tg] a X.env = pure none) (h1 : (assignEach [tg] X.env).map (·.2) = [assign tg X.env]) :
    PS X (.Assign [tg] a pos) (trS W np asg fun e => do
    let (o, e) ← sa.val e
    let e ← f o e
    pure (.nx, e)) := PS.imp (ps_asg he hg hs hw h1) fun _ _ _ q => asg_ent q
/-- .. a comprehension to a name, on one line -/
theorem st_asgC {i : Nat} {c : Cfg} {y : Str} {py : Pos} {v : En → R (O × En)} (hp : mayPut np asg i = true) (h : PS X (.Assign [.Name y py] a pos) (tAsg (trV W v) (gName i))) : PS X (.Assign [.Name y py] a pos) (trS W np asg fun e => do
    let (o, e) ← v e
    let e ← asgT c (.var i) o e
    pure (.nx, e)) := PS.imp h fun D σ H q => by
  obtain ⟨F, L, e, fl, e', ok, hf, k⟩ := q
  obtain ⟨⟨o, e1⟩, h1, hf⟩ := R.bind_ok hf
  obtain ⟨e2, h2, hf⟩ := R.bind_ok hf
  cases hf
  refine ⟨F, L, e, o, e1, ok, h1, fun F1 H1 M1 L1 v1 st1 ok1 got1 => ?_⟩
  unfold asgT at h2
  split at h2
  · rename_i hi
    cases h2
    obtain ⟨L', ok', m⟩ := ok1.store got1 hi
    exact k F1 H1 _ L' (st1.trans ⟨Sub.refl _, fun _ _ q _ => q, fun a ha => .inl (m a ha), fun a o q => .inl q⟩) ok' (Kept.put hp)
  · cases h2
/-- a, b = x, y, as a tuple -/
theorem par_ent {v : En → R (List O × En)} {f : List O → En → R En} {D : Ends} {σ : St} {H : Hp} (q : trS W np asg (fun e => do
    let (os, e) ← v e
    let e ← f os e
    pure (.nx, e)) D σ H) : ∃ F L e os e1 e2, Ok W F H e σ L ∧ v e = .ok (os, e1) ∧ f os e1 = .ok e2 ∧ ∀ F' H' σ' L', Stp F H L F' H' L' → Ok W F' H' e2 σ' L' → Kept np asg σ σ' → D.nx σ' H' := by
  obtain ⟨F, L, e, fl, e', ok, hf, k⟩ := q
  obtain ⟨⟨os, e1⟩, h1, hf⟩ := R.bind_ok hf
  obtain ⟨e2, h2, hf⟩ := R.bind_ok hf
  cases hf
  exact ⟨F, L, e, os, e1, e', ok, h1, h2, k⟩
theorem st_parT {c : Cfg} {l : Tg} {ts es : List Expr} {k1 k2 : Nat} {p1 p2 : Pos} (hc : X.calm = true) (he : SnL W X sa es) (hg : PGs X ts (trGs W np asg (asgO c l))) (hl : (assignEach ts X.env).length = l.count) (hst : (assignEach ts X.env).findIdx? (·.1) = none)
    (hle : l.count ≤ lim) (hw : swappedStores [.Tuple ts k1 p1] (.Tuple es k2 p2) X.env = pure none) :
    PS X (.Assign [.Tuple ts k1 p1] (.Tuple es k2 p2) pos) (trS W np asg fun e => do
    let (os, e) ← sa.tks e
    let e ← asgO c l os e
    pure (.nx, e)) := PS.imp (ps_asg (pe_tup he.tks) (pg_tup hc hg hl hst) rfl hw rfl) fun D σ H q => by
  have line : (sizeLine : Nat) = 16777216 := sizeLine_eq
  obtain ⟨F, L, e, os, e1, e2, ok, h1, h2, k⟩ := par_ent q
  refine ⟨F, L, e, os, e1, ok, h1, fun F1 H1 M1 L1 vs st1 ok1 own1 nd1 dj1 => ⟨by rw [own1.len, asgO_len _ _ _ _ _ h2, line]; exact hle, fun p hp => ?_⟩⟩
  have np1 : ∀ z ∈ M1 ++ L1, z ≠ p := fun z hz e0 => by
    subst e0
    rcases List.mem_append.mp hz with hz | hz
    · exact own1.def_ z hz hp
    · exact ok1.en.def_ z hz hp
  have kp : ∀ T : List Addr, (∀ z ∈ T, z ≠ p) → Kp H1 (upd H1 p (.tup vs)) T := fun T hT z hz o q => by rw [upd_ne (hT z hz)]; exact q
  have ok2 : Ok W F1 (upd H1 p (.tup vs)) e1 σ L1 := ⟨fun a o q => by rw [upd_ne (ne_of_none (ok1.sub a o q) hp)]; exact ok1.sub a o q, ok1.nd, ok1.dj, ok1.en.keep (Sub.refl _) (kp _ fun z hz => np1 z (List.mem_append_right _ hz))⟩
  refine ⟨p, vs, rfl, SqT.of upd_same, by rw [own1.len]; exact asgO_len _ _ _ _ _ h2, F1, L1, M1, e1, os, e2, ok2, own1.keep (Sub.refl _) (kp _ fun z hz => np1 z (List.mem_append_left _ hz)), nd1, dj1, h2, fun F2 H2 σ2 L2 st2 ok3 kp2 => ?_⟩
  refine k F2 H2 σ2 L2 ((st1.trans ⟨Sub.refl _, fun a o q _ => ?_, fun a ha => .inl ha, fun a o q => .inl q⟩).trans st2) ok3 kp2
  rw [upd_ne (ne_of_none q hp)]; exact q
/-- .. to plain names: from the right -/
theorem st_par2 {c : Cfg} {i j : Nat} {x y : Str} {a b : Expr} {px py p1 p2 : Pos} {k1 k2 : Nat} (hc : X.calm = true) (hN : X.N.Nodup) (hi : X.N[i]? = some x) (hj : X.N[j]? = some y) (hij : i ≠ j) (hx : X.env.scope.names.lookup x = some .local) (hy : X.env.scope.names.lookup y = some .local)
    (he : SnL W X sa [a, b]) (hpi : mayPut np asg i = true) (hpj : mayPut np asg j = true) (hw : swappedStores [.Tuple [.Name x px, .Name y py] k1 p1] (.Tuple [a, b] k2 p2) X.env = pure (some [x, y])) :
    PS X (.Assign [.Tuple [.Name x px, .Name y py] k1 p1] (.Tuple [a, b] k2 p2) pos) (trS W np asg fun e => do
    let (os, e) ← sa.tks e
    let e ← asgO c (.cons (.var i) (.cons (.var j) .nil)) os e
    pure (.nx, e)) := PS.imp (ps_par hc hN hi hj hij hx hy he.tks hw) fun D σ H q => by
  obtain ⟨F, L, e, os, e1, e2, ok, h1, h2, k⟩ := par_ent q
  refine ⟨F, L, e, os, e1, ok, h1, fun F1 H1 M1 L1 vs st1 ok1 own1 nd1 dj1 => ?_⟩
  cases os with
  | nil => cases h2
  | cons o os =>
    obtain ⟨e3, h3, h2⟩ := R.bind_ok h2
    cases os with
    | nil => cases h2
    | cons o2 os =>
      obtain ⟨e4, h4, h2⟩ := R.bind_ok h2
      cases os with
      | cons _ _ => cases h2
      | nil =>
        cases h2
        obtain ⟨v, ws, A, B, rfl, rfl, ow1, w, us, A2, B2, rfl, rfl, ow2, rfl, rfl⟩ := own1
        unfold asgT at h3 h4
        split at h3 <;> try contradiction
        rename_i hi2
        cases h3
        split at h4 <;> try contradiction
        rename_i hj2
        cases h4
        rw [List.append_nil] at nd1 dj1 st1
        have nd2 : (A ++ L1).Nodup := nodup_app (nodup_l (nodup_l nd1)) ok1.nd fun z hz hw => nodup_d nd1 z (List.mem_append_left _ hz) hw
        obtain ⟨L3, ok3, m3⟩ := ok1.store ⟨ow1, nd2, fun z hz => dj1 z (List.mem_append_left _ hz)⟩ hi2
        have nd3 : (A2 ++ L3).Nodup := nodup_app (nodup_r (nodup_l nd1)) ok3.nd fun z hz hw => by
          rcases List.mem_append.mp (m3 z hw) with q | q
          · exact nodup_d (nodup_l nd1) z q hz
          · exact nodup_d nd1 z (List.mem_append_right _ hz) q
        obtain ⟨L4, ok4, m4⟩ := ok3.store ⟨ow2, nd3, fun z hz => dj1 z (List.mem_append_right _ hz)⟩ hj2
        refine ⟨v, w, rfl, k F1 H1 _ L4 (st1.trans ⟨Sub.refl _, fun _ _ q _ => q, fun a ha => .inl ?_, fun a o q => .inl q⟩) ok4 ((Kept.put hpi).trans (Kept.put hpj))⟩
        rcases List.mem_append.mp (m4 a ha) with q | q
        · exact List.mem_append_left _ (List.mem_append_right _ q)
        · rcases List.mem_append.mp (m3 a q) with q | q
          · exact List.mem_append_left _ (List.mem_append_left _ q)
          · exact List.mem_append_right _ q

/-! ### x.append(e) -/
theorem st_app {i : Nat} {x : Str} {sp apos cpos : Pos} (hN : X.N[i]? = some x) (hv : Vis X.env.scope x) (hd : (x == ("__debug__" : Str)) = false) (hcd : (x == ("__classdict__" : Str)) = false)
    (hbase : attributeBase (.Name x sp) "append" X.env (eval (.Name x sp) X.env) = eval (.Name x sp) X.env) (hline : (apos.endLine == cpos.line) = true) (hs : notStar a = true) (ha : Sn W X sa a) :
    PS X (.Expr (.Call (.Attribute (.Name x sp) "append" apos) [a] [] cpos) pos) (trS W np asg fun e => do
    let p ← e.get i
    R.need (isLst p) (do
      let (o, e) ← sa.val e
      let p ← e.get i
      match p with
      | .lst xs => R.need (decide (xs.length < lim)) (pure (.nx, e.set i (some (.lst (xs ++ [o])))))
      | _ => .bad)) := by
  have line : (sizeLine : Nat) = 16777216 := sizeLine_eq
  have hsc := star_cons hs [] X.env
  have ht : PA X [a] (tCons (trV W sa.val) tNil) := pa_cons ha.val pa_nil hsc
  have hany : (backTo cpos (starEach [] X.env)).any (·.1) = false := stars_any rfl
  have hall : ((backTo cpos (starEach [a] X.env)).all (fun x => !x.1) && (backToKw cpos (keywordEach [] X.env)).all (fun x => x.1.isSome)
      && decide ((a :: []).length + ([] : List Keyword).length + (if ([] : List Keyword).isEmpty then 0 else 1) < 30)) = true := by
    rw [hsc]; rfl
  refine PS.imp (ps_expr (pe_bm PySem.F.plainAttrs_list PySem.F.slot_list_append PySem.F.type_list_append mt_append (pe_var (X := X) hN hv hd hcd) ht hbase hall hline hsc hany) (noComp rfl _ _ _)) fun D σ H q => ?_
  obtain ⟨F, L, e, fl, e', ok, hf, k⟩ := q
  obtain ⟨o1, h1, hf⟩ := R.bind_ok hf
  obtain ⟨h2, hf⟩ := R.need_ok hf
  obtain ⟨ys, rfl⟩ : ∃ ys, o1 = .lst ys := by
    cases o1 with
    | lst ys => exact ⟨ys, rfl⟩
    | _ => cases h2
  obtain ⟨⟨o, e1⟩, h3, hf⟩ := R.bind_ok hf
  obtain ⟨o2, h5, hf⟩ := R.bind_ok hf
  obtain ⟨v, A, M, B, g1, g2, own, _⟩ := ok.en.slot h1
  obtain ⟨p, vs, M', rfl, g3, _, _⟩ := own
  refine ⟨.ref p, g1, .inl ⟨rfl, vs, SqL.of g3⟩, F, L, e, o, e1, ok, h3, fun F1 H1 M1 L1 v1 st1 ok1 got1 => ?_⟩
  split at hf
  · rename_i xs
    obtain ⟨hb, hf⟩ := R.need_ok hf
    cases hf
    have hb := of_decide_eq_true hb
    obtain ⟨v2, A1, M2, B1, g4, g5, own2, up⟩ := ok1.en.slot h5
    rw [g1] at g4
    cases g4
    obtain ⟨p2, vs2, M3, ep, g6, rfl, own3⟩ := own2
    cases ep
    have pm : (A1 ++ (p :: (M3 ++ M1)) ++ B1).Perm (M1 ++ L1) := by
      rw [g5, List.perm_iff_count]
      intro z
      simp only [List.count_append, List.count_cons]
      omega
    have nd := pm.nodup_iff.mpr got1.nd
    have inL : ∀ z ∈ A1 ++ (p :: (M3 ++ M1)) ++ B1, z ∈ M1 ++ L1 := fun z hz => pm.mem_iff.mp hz
    have pL : p ∈ L1 := by rw [g5]; simp
    have fp := ok1.dj p pL
    have npI : ∀ z ∈ M3 ++ M1, z ≠ p := fun z hz e0 => (List.nodup_cons.mp (nodup_r (nodup_l nd))).1 (e0 ▸ hz)
    have npO : ∀ z ∈ A1 ++ B1, z ≠ p := fun z hz e0 => by
      subst e0
      rcases List.mem_append.mp hz with hz | hz
      · exact nodup_d (nodup_l nd) z hz (by simp)
      · exact nodup_d nd z (by simp) hz
    have kp : ∀ T : List Addr, (∀ z ∈ T, z ≠ p) → Kp H1 (upd H1 p (.lst (vs2 ++ [v1]))) T := fun T hT z hz ob r => by rw [upd_ne (hT z hz)]; exact r
    have u := up F1 (upd H1 p (.lst (vs2 ++ [v1]))) (some (.lst (xs ++ [o]))) (some (.ref p)) (p :: (M3 ++ M1)) (Sub.refl _) (kp _ npO) ⟨.ref p, rfl, p, _, _, rfl, upd_same, rfl, (Owns.snoc got1.own own3).keep (Sub.refl _) (kp _ npI)⟩
    rw [set_self g1] at u
    refine ⟨p, vs2, v1, rfl, rfl, g6, by rw [own3.len, line]; exact hb, k F1 _ σ _ (st1.trans ⟨Sub.refl _, fun z ob r hz => ?_, fun z hz => .inl (inL z hz), fun z ob r => .inl r⟩) ⟨fun z ob r => ?_, nd, fun z hz => ?_, u⟩ Kept.refl⟩
    · rw [upd_ne fun e0 => hz (by rw [e0]; exact List.mem_append_right _ pL)]
      exact r
    · rw [upd_ne fun e0 => by rw [e0, fp] at r; cases r]
      exact ok1.sub z ob r
    · rcases List.mem_append.mp (inL z hz) with hz | hz
      · exact got1.dj z hz
      · exact ok1.dj z hz
  · cases hf

/-! ### for -/
def LoopAt (W : Wd) (np : Nat) (asg : List Nat) (σ0 : St) (F1 H1 : Hp) (L1 : List Addr) (bd : D → En → R (Fl × En)) (xs : List D) (fl : Fl) (ef : En) (i : Nat) (σ : St) (H : Hp) : Prop :=
  ∃ (F : Hp) (e : En) (L : List Addr), Ok W F H e σ L ∧ Stp F1 H1 L1 F H L ∧ Kept np asg σ0 σ ∧ runF bd (xs.drop i) e = .ok (fl, ef)
theorem st_loop {u : Bool} {it : En → R (List D × En)} {t : List Nat} {tt : Bool} {tg iter : Expr} {body : List Stmt} (hx : PassesOwn (model X.prog X.w) X.A X.env X.xe) (hc : X.calm = true) (hi : PI X tg iter (trI W u it)) (hu : u = true → tt = true) (hg : PG X tg (trG W t tt)) (hb : PSs X body (trS W np asg fb))
    (hs : ∀ x, foldedSetIterable iter X.env x = pure x) (hp : t.all (mayPut np asg) = true) : PS X (.For tg iter body [] pos) (trS W np asg fun e => do
    let (xs, e) ← it e
    runF (fun d e => do let e ← bindT t tt d e; fb e) xs e) := by
  refine PS.imp (ps_for hx hc hi hg hb hs) fun D σ H q => ?_
  obtain ⟨F, L, e, fl, e', ok, hf, k⟩ := q
  obtain ⟨⟨xs, e1⟩, h1, hf⟩ := R.bind_ok hf
  refine ⟨F, L, e, xs, e1, ok, h1, fun F1 H1 L1 J st1 ok1 wd => ?_⟩
  obtain ⟨G, Y, w, hG, hY⟩ := wd
  refine for_it w (LoopAt W np asg σ F1 H1 L1 (fun d e => do let e ← bindT t tt d e; fb e) xs fl e') ⟨F1, e1, L1, ok1, Stp.refl, Kept.refl, hf⟩ ?_ ?_ ?_
  · rintro i τ H2 _ ⟨F3, e3, L3, k3, st3, _⟩
    exact hG H2 (st3.fs.trans k3.sub)
  · rintro i x τ H2 H' hi ⟨F3, e3, L3, k3, st3, kp3, hr⟩ y
    obtain ⟨d, F4, hd, stA, sb4, rd⟩ := hY i F3 H2 x H' hi st3.fs k3.sub y
    have hdr : xs.drop i = d :: xs.drop (i + 1) := by
      rw [List.drop_eq_getElem_cons hi]
      rw [List.getElem?_eq_getElem hi] at hd
      cases hd
      rfl
    rw [hdr] at hr
    obtain ⟨⟨f, e4⟩, hb1, hr⟩ := R.bind_ok hr
    obtain ⟨e5, hb2, hb1⟩ := R.bind_ok hb1
    have stA' : Stp F3 H2 L3 F4 H' L3 := Stp.frame (T := L3) stA
    refine ⟨F4, L3, e3, d, e5, k3.keep stA sb4, rd.up hu, hb2, fun σ2 L6 k6 m6 hw => ⟨F4, L6, e5, f, e4, k6, hb1, ?_⟩⟩
    have S : Stp F1 H1 L1 F4 H' L6 := st3.trans (stA'.trans ⟨Sub.refl _, fun _ _ q _ => q, fun a ha => .inl (m6 a ha), fun a o q => .inl q⟩)
    have kp6 := kp3.trans (Kept.of_wipe hp hw)
    cases f with
    | nx => exact fun F7 H7 σ7 L7 st7 k7 kp7 => ⟨F7, e4, L7, k7, S.trans st7, kp6.trans kp7, hr⟩
    | rt o =>
      cases hr
      exact fun F7 H7 σ7 M7 L7 v7 st7 k7 got7 kp7 => k F7 H7 σ7 M7 L7 v7 (st1.trans (S.trans st7)) k7 got7 (kp6.trans kp7)
  · rintro τ H2 ⟨F3, e3, L3, k3, st3, kp3, hr⟩
    rw [List.drop_length] at hr
    cases hr
    exact k F3 H2 τ L3 (st1.trans st3) k3 kp3
end
end MP

set_option Elab.async false
set_option linter.all false
/-! Obj1: instances of own classes: attributes, methods, making. -/
namespace MP
open PySem L2

/-- what the classes of the table must have -/
structure ClsOk (K : PySem.W.Frag) (W : Wd) : Prop where
  ok : ∀ k f, f ∈ W.flds k → Cls K (W.cls k) ∧ NoAttr K (W.cls k) f
section
variable {W : Wd} {F H : Hp} {X : Cx} {sa sb sc : Sm} {a b c : Expr} {pos p : Pos} {es : List Expr}
theorem zip_lookup {d : D} {f : Str} : ∀ {ns : List Str} {xs : List D} {vs : List V}, Reps W F xs vs → (ns.zip xs).lookup f = some d → ∃ v, (ns.zip vs).lookup f = some v ∧ Rep W F d v
  | [], _, _, _, h => by simp at h
  | n :: ns, [], _, _, h => by simp at h
  | n :: ns, x :: xs, _, r, h => by
    obtain ⟨v, ws, rfl, h1, h2⟩ := r
    rw [List.zip_cons_cons, List.lookup_cons] at h
    rw [List.zip_cons_cons, List.lookup_cons]
    cases q : f == n with
    | true =>
      rw [q] at h
      cases h
      exact ⟨v, rfl, h1⟩
    | false =>
      rw [q] at h
      exact zip_lookup h2 h
theorem lookup_mem {β : Type} {f : Str} {d : β} : ∀ {xs : List (Str × β)}, xs.lookup f = some d → f ∈ xs.map (·.1)
  | [], h => by cases h
  | x :: xs, h => by
    rw [List.lookup_cons] at h
    cases q : f == x.1 with
    | true =>
      have e : f = x.1 := by simpa using q
      simp [e]
    | false =>
      rw [q] at h
      exact List.mem_cons_of_mem _ (lookup_mem h)
theorem map_lookup {d : D} {f : Str} : ∀ {fs : List (Str × D)} {ws : List (Str × V)}, ws.map (·.1) = fs.map (·.1) → Reps W F (fs.map (·.2)) (ws.map (·.2)) → fs.lookup f = some d → ∃ v, ws.lookup f = some v ∧ Rep W F d v
  | [], _, _, _, h => by cases h
  | x :: fs, [], e, _, _ => by cases e
  | x :: fs, y :: ws, e, r, h => by
    rw [List.map_cons, List.map_cons] at e
    injection e with e1 e2
    obtain ⟨v, us, e3, h1, h2⟩ := r
    rw [List.map_cons] at e3
    injection e3 with e4 e5
    rw [List.lookup_cons] at h
    rw [List.lookup_cons, e1]
    cases q : f == x.1 with
    | true =>
      rw [q] at h
      cases h
      exact ⟨y.2, rfl, by rw [e4]; exact h1⟩
    | false =>
      rw [q] at h
      exact map_lookup e2 (by rw [e5]; exact h2) h
theorem lookup_none {β γ : Type} {f : Str} : ∀ {fs : List (Str × β)} {ws : List (Str × γ)}, ws.map (·.1) = fs.map (·.1) → fs.lookup f = none → ws.lookup f = none
  | [], [], _, _ => rfl
  | [], _ :: _, e, _ => by cases e
  | _ :: _, [], e, _ => by cases e
  | x :: fs, y :: ws, e, h => by
    rw [List.map_cons, List.map_cons] at e
    injection e with e1 e2
    rw [List.lookup_cons] at h
    rw [List.lookup_cons, e1]
    cases q : f == x.1 with
    | true => rw [q] at h; cases h
    | false => rw [q] at h; exact lookup_none e2 h
theorem lookup_no {β : Type} {f : Str} : ∀ {fs : List (Str × β)}, f ∉ fs.map (·.1) → fs.lookup f = none
  | [], _ => rfl
  | x :: fs, h => by
    rw [List.map_cons, List.mem_cons, not_or] at h
    rw [List.lookup_cons]
    have : (f == x.1) = false := by simpa using h.1
    rw [this]
    exact lookup_no h.2
theorem zip_names {ns : List Str} {vs : List V} (h : vs.length = ns.length) : (ns.zip vs).map (·.1) = ns := by
  rw [List.map_fst_zip]
  omega

/-! ### attributes -/
def rFld (K : PySem.W.Frag) (f : Str) : V → Hp → VK → Prop := fun x H Q => ∃ a C dx fs v, x = .ref a ∧ H a = some (.ins C dx fs) ∧ Cls K C ∧ NoAttr K C f ∧ fs.lookup f = some v ∧ Q v H
theorem att_snd (hC : ClsOk X.K W) (f : Str) : UnS W (attD W.flds f) (rFld X.K f) := by
  intro F H o x q Q sb s hq k
  obtain ⟨M, own⟩ := s
  cases o with
  | sh d =>
    cases d with
    | obj c xs =>
      obtain ⟨_, a, dx, vs, rfl, h2, h3, h4⟩ := own
      obtain ⟨d, e1, e2⟩ := R.bind_ok (show (R.of (((W.flds c).zip xs).lookup f)).bind (fun d => R.ok (.sh d)) = .ok q from hq)
      cases e2
      have e1 := R.of_ok e1
      obtain ⟨v, g1, g2⟩ := zip_lookup h4 e1
      have hf : f ∈ W.flds c := by
        have := lookup_mem g1
        rwa [zip_names h3] at this
      obtain ⟨c1, c2⟩ := hC.ok c f hf
      exact ⟨a, _, dx, _, v, rfl, sb _ _ h2, c1, c2, g1, k F H [] v (New.sh sb g2)⟩
    | _ => cases hq
  | lst xs => cases hq
  | ins c fs =>
    obtain ⟨a, dx, ws, rfl, h2, _, h4, h5⟩ := own
    obtain ⟨e0, hq⟩ := R.need_ok hq
    obtain ⟨d, e1, e2⟩ := R.bind_ok (show (R.of (fs.lookup f)).bind (fun d => R.ok (.sh d)) = .ok q from hq)
    cases e2
    have e1 := R.of_ok e1
    obtain ⟨v, g1, g2⟩ := map_lookup h4 h5 e1
    obtain ⟨c1, c2⟩ := hC.ok c f (by simpa using e0)
    exact ⟨a, _, dx, ws, v, rfl, h2, c1, c2, g1, k F H [] v (New.sh sb g2)⟩
theorem sn_att {f : Str} (hK : X.K = W.K) (hC : ClsOk X.K W) (hb : attributeBase a f X.env (eval a X.env) = eval a X.env) (ha : Sn W X sa a) : Sn W X (one sa (attD W.flds f)) (.Attribute a f pos) :=
  Sn.plain hK (PE.imp (pe_fld ha.arg hb) fun _ _ _ q => one_ent (att_snd hC f) q) rfl

/-! ### calls in general -/
/-- a call, at the depth of the frame's own calls or one deeper -/
def callR (asg : List Nat) (run : List O → R (O × List O)) (as : List AV) (e : En) : R (O × En) := do
  let (os, e) ← lend asg 0 as e
  let (r, os') ← run os
  pure (r, giveBack asg 0 as os' e)
theorem callR_go {asg : List Nat} {run : List O → R (O × List O)} {F1 H1 : Hp} {L1 M1 : List Addr} {e1 e' : En} {σ : St} {o : O} {as : List AV} {vs : List V} {Q : VK} {E : XK} (ok1 : Ok W F1 H1 e1 σ L1) (own1 : OwnsA W F1 H1 σ as vs M1) (nd1 : (M1 ++ L1).Nodup) (dj1 : ∀ a ∈ M1, F1 a = none)
    (hf : callR asg run as e1 = .ok (o, e')) (k : ∀ F' H' M L' v, Stp F1 H1 (M1 ++ L1) F' H' (M ++ L') → Ok W F' H' e' σ L' → Got W F' H' o v M L' → Q v H') : spC W run vs H1 Q E := by
  obtain ⟨⟨os, e2⟩, hl, hf⟩ := R.bind_ok hf
  obtain ⟨⟨o', os'⟩, hc, hf⟩ := R.bind_ok hf
  cases hf
  obtain ⟨F2, C, R, ok2, own2, nd2, dj2, st2⟩ := lend_ok asg as 0 F1 e1 L1 M1 vs os e2 ok1 own1 nd1 dj1 hl
  refine ⟨F2, C, os, o, os', ok2.sub, own2, nodup_l nd2, dj2, hc, fun F3 H3 M C' v st3 sb3 own3 own3' nd3 dj3 => ?_⟩
  have dR : ∀ x ∈ R, x ∉ C := fun x hx hy => nodup_d nd2 x hy hx
  have dfR := ok2.en.def_
  have k3 : Ok W F3 H3 e2 σ R := ⟨sb3, ok2.nd, st3.unsh dR dfR ok2.dj, ok2.en.keep st3.fs (st3.kept dR)⟩
  have apR := st3.apart dR dfR
  obtain ⟨R', k4, m4⟩ := giveBack_ok asg as 0 e2 R C' vs os' k3 own1.slots own3' (nodup_app (nodup_r nd3) ok2.nd fun x hx hy => apR x hy (List.mem_append_right _ hx)) fun a ha => dj3 a (List.mem_append_right _ ha)
  refine k F3 H3 M R' v ?_ k4 ⟨own3, nodup_app (nodup_l nd3) k4.nd fun x hx hy => ?_, fun a ha => dj3 a (List.mem_append_left _ ha)⟩
  · refine st2.trans ?_
    refine st3.mono (fun x hx => List.mem_append_left _ hx) fun x hx => ?_
    rcases List.mem_append.mp hx with hx | hx
    · exact .inl (List.mem_append_left _ hx)
    · rcases m4 x hx with z | z
      · exact .inl (List.mem_append_right _ z)
      · exact .inr (.inl (List.mem_append_right _ z))
  · rcases m4 x hy with z | z
    · exact nodup_d nd3 x hx z
    · exact apR x z (List.mem_append_left _ hx)

/-! ### method calls -/
/-- the object of a method call -/
theorem isO_ok {k : Nat} {m : Str} {o : O} {v : V} (sb : Sub F H) (s : Sees W F H o v) (h : isO W.flds k m o = true) : ∃ a dx fs, v = .ref a ∧ H a = some (.ins (W.cls k) dx fs) ∧ fs.lookup m = none := by
  obtain ⟨M, own⟩ := s
  cases o with
  | sh d =>
    cases d with
    | obj c xs =>
      obtain ⟨_, a, dx, vs, rfl, h2, h3, h4⟩ := own
      have h : (decide (c = k) && !(W.flds k).contains m) = true := h
      rw [Bool.and_eq_true, decide_eq_true_eq, Bool.not_eq_true'] at h
      obtain ⟨rfl, h5⟩ := h
      refine ⟨a, dx, _, rfl, sb _ _ h2, lookup_no ?_⟩
      rw [zip_names h3]
      intro z
      rw [List.contains_iff_mem.mpr z] at h5
      cases h5
    | _ => cases h
  | lst xs => cases h
  | ins c fs =>
    obtain ⟨a, dx, ws, rfl, h2, _, h4, h5⟩ := own
    have h : (decide (c = k) && (fs.lookup m).isNone) = true := h
    rw [Bool.and_eq_true, decide_eq_true_eq, Option.isNone_iff_eq_none] at h
    obtain ⟨rfl, h6⟩ := h
    exact ⟨a, dx, ws, rfl, h2, lookup_none h4 h6⟩
/-- o.m(..): the receiver, then the written arguments -/
def tMt (C : Addr) (m : Str) (sp : Sp) (ta : TE) (t : TA) : TE := fun σ H Q => ta σ H fun x H1 => ∃ a dx fs, x = .ref a ∧ H1 a = some (.ins C dx fs) ∧ fs.lookup m = none ∧ t σ H1 fun vs H2 => sp (x :: vs) H2 Q fun _ _ _ => False
theorem OwnsA.cons {F1 H1 F2 H2 : Hp} {M1 L1 M2 L2 : List Addr} {σ : St} {x : AV} {v : V} {as : List AV} {vs : List V} (g : GotA W F1 H1 σ x v M1 L1) (st : Stp F1 H1 L1 F2 H2 (M2 ++ L2)) (h : OwnsA W F2 H2 σ as vs M2) (nd : (M2 ++ L2).Nodup) (dj : ∀ a ∈ M2, F2 a = none) :
    ∃ M, OwnsA W F2 H2 σ (x :: as) (v :: vs) M ∧ (M ++ L2).Nodup ∧ (∀ a ∈ M, F2 a = none) ∧ ∀ F H L, Stp F H L F1 H1 (M1 ++ L1) → Stp F H L F2 H2 (M ++ L2) := by
  cases x with
  | val o =>
    have g : Got W F1 H1 o v M1 L1 := g
    have dd := nodup_d g.nd
    refine ⟨M1 ++ M2, ⟨v, vs, M1, M2, rfl, rfl, g.own.keep st.fs (st.kept dd), h⟩, nd_cons g.nd st nd g.own.def_, fun a ha => ?_, fun F H L s => stp_cons s st⟩
    rcases List.mem_append.mp ha with z | z
    · exact st.unsh dd g.own.def_ g.dj a z
    · exact dj a z
  | «at» i =>
    have e0 : M1 = [] := g.1
    subst e0
    exact ⟨M2, ⟨v, vs, rfl, g.2.2, h⟩, nd, dj, fun F H L s => s.trans st⟩
theorem meth_ent {k : Nat} {m : Str} {asg : List Nat} {run : List O → R (O × List O)} {A : En → R (List AV × En)} {σ : St} {H : Hp} {Q : VK} (q : trV W (fun e => do
      let (x, e) ← sa.arg e
      let o ← x.see e
      R.need (isO W.flds k m o) (do
        let (as, e) ← A e
        callR asg run (x :: as) e)) σ H Q) : tMt (W.cls k) m (spC W run) (trA W sa.arg) (trL W A) σ H Q := by
  obtain ⟨F, L, e, o, e', ok, hf, kk⟩ := q
  obtain ⟨⟨x, e1⟩, h1, hf⟩ := R.bind_ok hf
  obtain ⟨ox, h2, hf⟩ := R.bind_ok hf
  obtain ⟨h3, hf⟩ := R.need_ok hf
  obtain ⟨⟨as, e2⟩, h4, hf⟩ := R.bind_ok hf
  refine ⟨F, L, e, x, e1, ok, h1, fun F1 H1 M1 L1 v1 st1 ok1 got1 => ?_⟩
  obtain ⟨a, dx, fs, rfl, g1, g2⟩ := isO_ok ok1.sub (sees_keep got1 Stp.refl ok1 h2) h3
  refine ⟨a, dx, fs, rfl, g1, g2, F1, L1, e1, as, e2, ok1, h4, fun F2 H2 M2 L2 vs st2 ok2 own2 nd2 dj2 => ?_⟩
  obtain ⟨M, o1, o2, o3, o4⟩ := OwnsA.cons got1 st2 own2 nd2 dj2
  exact callR_go ok2 o1 o2 o3 hf fun F' H' M' L' v st ok' got' => kk F' H' M' L' v ((o4 _ _ _ st1).trans st) ok' got'
section
variable {cf : Cfg} {k n : Nat} {f fa : Addr} {fd : FuncData} {ps : List Str} {m : Str} {sp : Sp} {ta : TE} {t : TA} {apos : Pos}
/-- the tree of a method call -/
def MTree (X : Cx) (a : Expr) (m : Str) (apos pos : Pos) (es : List Expr) (kws : List Keyword) : Prop := ∃ pl : Sem Bool, eval (.Call (.Attribute a m apos) es kws pos) X.env = (do
      let ov ← eval a X.env
      standAt apos.atName
      let (f, first) ← holding [ov] (getMethod ov m pl)
      PySem.callWith pos f first (backTo pos (starEach es X.env)) (backToKw pos (keywordEach kws X.env)))
theorem pe_mtG {C : Addr} (he : PE X a ta) (c : Cls X.K C) (hm : Meth X.K C m fa) (F : FnG X.prog X.w X.K X.mg X.base k fa fd ps sp) (hr : Room k X.A) (hg : X.A.guards = some [])
    (hb : ∀ us : List Value, us.length = ps.length → bindArgs fd ⟨us, []⟩ = pure (ps.zip us)) (ha : PA X (b :: es) t)
    (hst : starEach (b :: es) X.env = (false, eval b X.env) :: starEach es X.env) (hpl : (backTo pos (starEach es X.env)).any (·.1) = false) (ht : MTree X a m apos pos (b :: es) []) :
    PE X (.Call (.Attribute a m apos) (b :: es) [] pos) (tMt C m sp ta t) := by
  obtain ⟨pl, ht⟩ := ht
  refine ⟨fun pins s σ H Q I h => ?_⟩
  refine PySem.W.methodCall_KW (pl := pl) (thn (he.run pins s σ H _ I h) fun u s1 ⟨x, H1, I1, rx, a, dx, fs, ex, ea, l, q⟩ => ?_) ht
  subst ex
  obtain rfl : u = Value.ref a := rx
  refine getmeth_ok I1 ea c hm l ?_
  refine PySem.W.callWith_K (first := [.ref a]) (h₀ := X.base) I.ok.mod.kin hm.kp (thn (ha.run pos pins s1 σ H1 _ I1 q) fun us s2 ⟨vs, H2, I2, r, q2⟩ => ⟨I2.kIn, ?_⟩) hst hpl
  have hl := F.len _ _ _ _ q2
  exact run_fng (us := .ref a :: us) (vs := .ref a :: vs) F hr hg I2 (.of_eq (hb (.ref a :: us) (by rw [← hl, List.length_cons, List.length_cons, r.length]))) (.cons rfl r) q2
theorem pe_mtG0 {C : Addr} (he : PE X a ta) (c : Cls X.K C) (hm : Meth X.K C m fa) (F : FnG X.prog X.w X.K X.mg X.base k fa fd ps sp) (hr : Room k X.A) (hg : X.A.guards = some [])
    (hb : ∀ us : List Value, us.length = ps.length → bindArgs fd ⟨us, []⟩ = pure (ps.zip us)) (ht : MTree X a m apos pos [] []) :
    PE X (.Call (.Attribute a m apos) [] [] pos) (tMt C m sp ta tNil) := by
  obtain ⟨pl, ht⟩ := ht
  refine ⟨fun pins s σ H Q I h => ?_⟩
  refine PySem.W.methodCall_KW (pl := pl) (thn (he.run pins s σ H _ I h) fun u s1 ⟨x, H1, I1, rx, a, dx, fs, ex, ea, l, q⟩ => ?_) ht
  subst ex
  obtain rfl : u = Value.ref a := rx
  refine getmeth_ok I1 ea c hm l ?_
  have q : sp [.ref a] H1 Q _ := q
  have hl := F.len _ _ _ _ q
  exact PySem.W.callWith_K0 (first := [.ref a]) I1.kIn hm.kp (run_fng (us := [.ref a]) (vs := [.ref a]) F hr hg I1 (.of_eq (hb [.ref a] (by rw [← hl]; rfl))) (.cons rfl .nil) q)
end
end
end MP

set_option Elab.async false
set_option linter.all false
/-! Obj2: method calls as nodes; new instances. -/
namespace MP
open PySem L2
section
variable {W : Wd} {F H : Hp} {X : Cx} {sa sb sc : Sm} {a b c : Expr} {pos p : Pos} {es : List Expr} {cf : Cfg} {k n : Nat} {f fa : Addr} {fd : FuncData} {ps ks : List Str} {x m : Str} {g : List Nat} {kws : List Keyword} {apos : Pos} {i j : Nat}
theorem kwNs_len : ∀ {kws : List Keyword} {ks : List Str}, kwNs kws = some ks → ks.length = kws.length
  | [], _, h => by cases h; rfl
  | ⟨some n, e, p⟩ :: kws, _, h => by
    simp only [kwNs, Option.map_eq_some_iff] at h
    obtain ⟨ks, h1, rfl⟩ := h
    rw [List.length_cons, List.length_cons, kwNs_len h1]
  | ⟨none, _, _⟩ :: _, _, h => by cases h
theorem mt_imp {C : Addr} {sp : Sp} {ta : TE} {t t' : TA} (h : ∀ σ H Q, t' σ H Q → t σ H Q) (hm : ∀ (σ : St) (H : Hp) (Q Q' : V → Hp → Prop), (∀ v H, Q v H → Q' v H) → ta σ H Q → ta σ H Q') {σ : St} {H : Hp} {Q : VK} (q : tMt C m sp ta t' σ H Q) : tMt C m sp ta t σ H Q :=
  hm _ _ _ _ (fun v H ⟨a, dx, fs, h1, h2, h3, h4⟩ => ⟨a, dx, fs, h1, h2, h3, h _ _ _ h4⟩) q
theorem trA_mono {fa : En → R (AV × En)} (σ : St) (H : Hp) (Q Q' : V → Hp → Prop) (h : ∀ v H, Q v H → Q' v H) (q : trA W fa σ H Q) : trA W fa σ H Q' := by
  obtain ⟨F, L, e, o, e', ok, hf, k⟩ := q
  exact ⟨F, L, e, o, e', ok, hf, fun F' H' M L' v st ok' got => h _ _ (k F' H' M L' v st ok' got)⟩
theorem sn_meth {k : Nat} (hK : X.K = W.K) (hc : Cls X.K (W.cls k)) (hm : Meth X.K (W.cls k) m fa) (Fn : FnG X.prog X.w X.K X.mg X.base n fa fd ps (spC W (cf.call i))) (hr : Room n X.A) (hg : X.A.guards = some [])
    (hb : ∀ us : List Value, us.length = ps.length → bindArgs fd ⟨us, []⟩ = pure (ps.zip us)) (hs : notStars (b :: es) = true) (ht : MTree X a m apos pos (b :: es) []) (ha : Sn W X sa a) (hl : SnL W X sb (b :: es)) :
    Sn W X (Sm.mk1 fun e => do
      let (x, e) ← sa.arg e
      let o ← x.see e
      R.need (isO W.flds k m o) (do
        let (as, e) ← sb.ags e
        callWith cf i (x :: as) e)) (.Call (.Attribute a m apos) (b :: es) [] pos) := by
  have hs2 := hs
  rw [notStars, Bool.and_eq_true] at hs2
  exact Sn.plain hK (PE.imp (pe_mtG ha.arg hc hm Fn hr hg hb hl.ags (star_cons hs2.1 es X.env) (stars_any hs2.2) ht) fun _ _ _ q => meth_ent q) rfl
theorem sn_meth0 {k : Nat} (hK : X.K = W.K) (hc : Cls X.K (W.cls k)) (hm : Meth X.K (W.cls k) m fa) (Fn : FnG X.prog X.w X.K X.mg X.base n fa fd ps (spC W (cf.call i))) (hr : Room n X.A) (hg : X.A.guards = some [])
    (hb : ∀ us : List Value, us.length = ps.length → bindArgs fd ⟨us, []⟩ = pure (ps.zip us)) (ht : MTree X a m apos pos [] []) (ha : Sn W X sa a) :
    Sn W X (Sm.mk1 fun e => do
      let (x, e) ← sa.arg e
      let o ← x.see e
      R.need (isO W.flds k m o) (do
        let (as, e) ← (fun e => R.ok ([], e) : En → R (List AV × En)) e
        callWith cf i (x :: as) e)) (.Call (.Attribute a m apos) [] [] pos) := by
  refine Sn.plain hK (PE.imp (pe_mtG0 ha.arg hc hm Fn hr hg hb ht) fun σ H Q q => ?_) rfl
  exact mt_imp (fun σ H Q z => nil_ent z) trA_mono (meth_ent q)
/-- .. with keywords -/
def tMtK (C : Addr) (m : Str) (sp : Sp) (ta : TE) (t tk : TA) (g : List Nat) : TE := fun σ H Q => ta σ H fun x H1 => ∃ a dx fs, x = .ref a ∧ H1 a = some (.ins C dx fs) ∧ fs.lookup m = none ∧ t σ H1 fun vs H2 => tk σ H2 fun zs H3 => ∃ ws, pick (vs ++ zs) g = some ws ∧ sp (x :: ws) H3 Q fun _ _ _ => False
theorem ownsA_def {F1 H1 : Hp} {σ : St} : ∀ {as : List AV} {vs : List V} {M : List Addr}, OwnsA W F1 H1 σ as vs M → ∀ a ∈ M, H1 a ≠ none
  | [], vs, M, h, a, ha => by rw [h.2] at ha; cases ha
  | .val o :: as, vs, M, h, a, ha => by
    obtain ⟨v, us, A, B, rfl, rfl, h3, h4⟩ := h
    rcases List.mem_append.mp ha with ha | ha
    · exact h3.def_ a ha
    · exact ownsA_def h4 a ha
  | .at i :: as, vs, M, h, a, ha => by
    obtain ⟨v, us, rfl, h3, h4⟩ := h
    exact ownsA_def h4 a ha
/-- positional and keyword values, picked -/
theorem pick_go {F1 H1 F2 H2 : Hp} {L1 L2 M1 M2 : List Addr} {σ : St} {e2 : En} {as bs xs : List AV} {vs zs : List V} (own1 : OwnsA W F1 H1 σ as vs M1) (nd1 : (M1 ++ L1).Nodup) (dj1 : ∀ a ∈ M1, F1 a = none) (st2 : Stp F1 H1 L1 F2 H2 (M2 ++ L2))
    (ok2 : Ok W F2 H2 e2 σ L2) (own2 : OwnsA W F2 H2 σ bs zs M2) (nd2 : (M2 ++ L2).Nodup) (dj2 : ∀ a ∈ M2, F2 a = none) (hg : g.Nodup) (hp : MP.pick (as ++ bs) g = some xs) :
    ∃ ws N, pick (vs ++ zs) g = some ws ∧ OwnsA W F2 H2 σ xs ws N ∧ (N ++ L2).Nodup ∧ (∀ a ∈ N, F2 a = none) ∧ ∀ F H L, Stp F H L F1 H1 (M1 ++ L1) → Stp F H L F2 H2 (N ++ L2) := by
  have dd := nodup_d nd1
  have def1 := ownsA_def own1
  have own := (own2.app (own1.keep st2.fs (st2.kept dd)))
  have ndA := nd_cons nd1 st2 nd2 def1
  obtain ⟨ws, N, p1, p2, p3, p4⟩ := own.pick (nodup_l ndA) hg hp
  refine ⟨ws, N, p1, p2, nodup_app p3 ok2.nd fun x hx hy => nodup_d ndA x (p4 x hx) hy, fun a ha => ?_, fun F H L st1 => ?_⟩
  · rcases List.mem_append.mp (p4 a ha) with z | z
    · exact st2.unsh dd def1 dj1 a z
    · exact dj2 a z
  · have s := stp_cons st1 st2
    exact ⟨s.fs, s.kp, fun x hx => s.ow x (by
      rcases List.mem_append.mp hx with hx | hx
      · exact List.mem_append_left _ (p4 x hx)
      · exact List.mem_append_right _ hx), s.fr⟩
theorem methK_ent {k : Nat} {asg : List Nat} {run : List O → R (O × List O)} {A B : En → R (List AV × En)} {σ : St} {H : Hp} {Q : VK} (q : trV W (fun e => do
      let (x, e) ← sa.arg e
      let o ← x.see e
      R.need (isO W.flds k m o) (do
        let (as, e) ← A e
        let (bs, e) ← B e
        R.need (decide g.Nodup) (do
          let xs ← R.of (pick (as ++ bs) g)
          callR asg run (x :: xs) e))) σ H Q) : tMtK (W.cls k) m (spC W run) (trA W sa.arg) (trL W A) (trL W B) g σ H Q := by
  obtain ⟨F, L, e, o, e', ok, hf, kk⟩ := q
  obtain ⟨⟨x, e1⟩, h1, hf⟩ := R.bind_ok hf
  obtain ⟨ox, h2, hf⟩ := R.bind_ok hf
  obtain ⟨h3, hf⟩ := R.need_ok hf
  obtain ⟨⟨as, e2⟩, h4, hf⟩ := R.bind_ok hf
  obtain ⟨⟨bs, e3⟩, h5, hf⟩ := R.bind_ok hf
  obtain ⟨h6, hf⟩ := R.need_ok hf
  obtain ⟨xs, h7, hf⟩ := R.bind_ok hf
  refine ⟨F, L, e, x, e1, ok, h1, fun F1 H1 M1 L1 v1 st1 ok1 got1 => ?_⟩
  obtain ⟨a, dx, fs, rfl, g1, g2⟩ := isO_ok ok1.sub (sees_keep got1 Stp.refl ok1 h2) h3
  refine ⟨a, dx, fs, rfl, g1, g2, F1, L1, e1, as, e2, ok1, h4, fun F2 H2 M2 L2 vs st2 ok2 own2 nd2 dj2 => ⟨F2, L2, e2, bs, e3, ok2, h5, fun F3 H3 M3 L3 zs st3 ok3 own3 nd3 dj3 => ?_⟩⟩
  obtain ⟨ws, N, p1, p2, p3, p4, p5⟩ := pick_go own2 nd2 dj2 st3 ok3 own3 nd3 dj3 (of_decide_eq_true h6) (R.of_ok h7)
  obtain ⟨M, o1, o2, o3, o4⟩ := OwnsA.cons got1 (p5 _ _ _ st2) p2 p3 p4
  exact ⟨ws, p1, callR_go ok3 o1 o2 o3 hf fun F' H' M' L' v st ok' got' => kk F' H' M' L' v ((o4 _ _ _ st1).trans st) ok' got'⟩
theorem pe_mtK0 {C : Addr} {sp : Sp} {ta : TE} {tk : TA} (he : PE X a ta) (c : Cls X.K C) (hm : Meth X.K C m fa) (F : FnG X.prog X.w X.K X.mg X.base n fa fd ps sp) (hr : Room n X.A) (hg : X.A.guards = some [])
    (hb : ∀ (u : Value) (zs ys : List Value), zs.length = ks.length → pick ([] ++ zs) g = some ys → (u :: ys).length = ps.length → bindArgs fd ⟨[u], ks.zip zs⟩ = pure (ps.zip (u :: ys))) (hkn : kwNs kws = some ks) (hkw : PK X kws tk)
    (hlk : ∀ σ H Q, tk σ H Q → tk σ H fun zs H' => zs.length = kws.length ∧ Q zs H') (ht : MTree X a m apos pos [] kws) :
    PE X (.Call (.Attribute a m apos) [] kws pos) (tMtK C m sp ta tNil tk g) := by
  obtain ⟨k1, k2, k3⟩ := kw_facts (pos := pos) (env := X.env) hkn
  have hpl : ((backTo pos (starEach [] X.env)).any (·.1) || (backToKw pos (keywordEach kws X.env)).any (·.1.isNone)) = false := by rw [stars_any (es := []) rfl, k3]; rfl
  obtain ⟨pl, ht⟩ := ht
  refine ⟨fun pins s σ H Q I h => ?_⟩
  refine PySem.W.methodCall_KW (pl := pl) (thn (he.run pins s σ H _ I h) fun u s1 ⟨x, H1, I1, rx, a, dx, fs, ex, ea, l, q⟩ => ?_) ht
  subst ex
  obtain rfl : u = Value.ref a := rx
  refine getmeth_ok I1 ea c hm l ?_
  have q : tk σ H1 _ := q
  refine PySem.W.callWith_KW0 (first := [.ref a]) (h₀ := X.base) I.ok.mod.kin hm.kp k1 (thn (hkw.run pos pins s1 σ H1 _ I1 (hlk _ _ _ q)) fun ws s2 ⟨zs, H2, I2, rz, hl2, xs, hp, q2⟩ => ⟨I2.kIn, ?_⟩) hpl
  rw [k2]
  obtain ⟨ys, h1, h2⟩ := vals_pick rz hp
  have hl := F.len _ _ _ _ q2
  refine run_fng (us := .ref a :: ys) (vs := .ref a :: xs) F hr hg I2 (.of_eq ?_) (.cons rfl h2) q2
  exact hb (.ref a) ws ys (by rw [← rz.length, hl2, kwNs_len hkn]) h1 (by rw [← hl, List.length_cons, List.length_cons, h2.length])
theorem sn_methK {k : Nat} (hK : X.K = W.K) (hc : Cls X.K (W.cls k)) (hm : Meth X.K (W.cls k) m fa) (Fn : FnG X.prog X.w X.K X.mg X.base n fa fd ps (spC W (cf.call i))) (hr : Room n X.A) (hg : X.A.guards = some [])
    (hb : ∀ (u : Value) (zs ys : List Value), zs.length = ks.length → pick ([] ++ zs) g = some ys → (u :: ys).length = ps.length → bindArgs fd ⟨[u], ks.zip zs⟩ = pure (ps.zip (u :: ys))) (hkn : kwNs kws = some ks)
    (ht : MTree X a m apos pos [] kws) (ha : Sn W X sa a) (hkw : PK X kws (trL W sb.ags)) (hlb : ∀ e as e', sb.ags e = .ok (as, e') → as.length = kws.length) :
    Sn W X (Sm.mk1 fun e => do
      let (x, e) ← sa.arg e
      let o ← x.see e
      R.need (isO W.flds k m o) (do
        let (as, e) ← (fun e => R.ok ([], e) : En → R (List AV × En)) e
        let (bs, e) ← sb.ags e
        R.need (decide g.Nodup) (do
          let xs ← R.of (pick (as ++ bs) g)
          callWith cf i (x :: xs) e))) (.Call (.Attribute a m apos) [] kws pos) := by
  refine Sn.plain hK (PE.imp (pe_mtK0 ha.arg hc hm Fn hr hg hb hkn hkw (fun σ H Q q => ?_) ht) fun σ H Q q => ?_) rfl
  · obtain ⟨F3, L3, e3, bs, e4, ok3, h3, kk3⟩ := q
    exact ⟨F3, L3, e3, bs, e4, ok3, h3, fun F4 H4 M4 L4 zs st4 ok4 own4 nd4 dj4 => ⟨by rw [own4.len, hlb _ _ _ h3], kk3 F4 H4 M4 L4 zs st4 ok4 own4 nd4 dj4⟩⟩
  · have z := methK_ent (asg := cf.asg i) (run := cf.call i) (A := fun e => R.ok ([], e)) (B := sb.ags) (g := g) (Q := Q) q
    refine trA_mono _ _ _ _ (fun v H h => ?_) z
    obtain ⟨a, dx, fs, h1, h2, h3, h4⟩ := h
    exact ⟨a, dx, fs, h1, h2, h3, nil_ent h4⟩

/-! ### new instances -/
/-- C(..), by the values in the parameters' order -/
theorem frz_obj {F H : Hp} {q : Addr} {o : HO} (sb : Sub F H) (hq : H q = some o) (fq : F q = none) : Sub F (upd F q o) ∧ Sub (upd F q o) H ∧ ∀ a u, upd F q o a = some u → F a = some u ∨ a = q := by
  refine ⟨sub_upd fq, fun a u h => ?_, fun a u h => ?_⟩
  · by_cases z : a = q
    · subst z; rw [upd_same] at h; rw [← h]; exact hq
    · rw [upd_ne z] at h; exact sb a u h
  · by_cases z : a = q
    · exact .inr z
    · rw [upd_ne z] at h; exact .inl h
theorem putD_names {f : Str} {v : D} : ∀ {fs : List (Str × D)} {ws : List (Str × V)} {y : V}, ws.map (·.1) = fs.map (·.1) → (putF f y ws).map (·.1) = (putD f v fs).map (·.1)
  | [], [], _, _ => rfl
  | [], _ :: _, _, e => by cases e
  | _ :: _, [], _, e => by cases e
  | x :: fs, w :: ws, y, e => by
    rw [List.map_cons, List.map_cons] at e
    injection e with e1 e2
    obtain ⟨x1, x2⟩ := x
    obtain ⟨w1, w2⟩ := w
    have e1 : w1 = x1 := e1
    subst e1
    show (if w1 = f then (w1, y) :: ws else (w1, w2) :: putF f y ws).map (·.1) = (if w1 = f then (w1, v) :: fs else (w1, x2) :: putD f v fs).map (·.1)
    split
    · simp [e2]
    · simp [putD_names (v := v) (y := y) e2]
theorem putD_reps {f : Str} {v : D} {y : V} (r0 : Rep W F v y) : ∀ {fs : List (Str × D)} {ws : List (Str × V)}, ws.map (·.1) = fs.map (·.1) → Reps W F (fs.map (·.2)) (ws.map (·.2)) → Reps W F ((putD f v fs).map (·.2)) ((putF f y ws).map (·.2))
  | [], [], _, _ => Reps.one r0
  | [], _ :: _, e, _ => by cases e
  | _ :: _, [], e, _ => by cases e
  | (x1, x2) :: fs, (w1, w2) :: ws, e, r => by
    rw [List.map_cons, List.map_cons] at e
    injection e with e1 e2
    have e1 : w1 = x1 := e1
    subst e1
    obtain ⟨u, us, e3, h1, h2⟩ := r
    rw [List.map_cons] at e3
    injection e3 with e4 e5
    have e4 : w2 = u := e4
    subst e4
    show Reps W F ((if w1 = f then (w1, v) :: fs else (w1, x2) :: putD f v fs).map (·.2)) ((if w1 = f then (w1, y) :: ws else (w1, w2) :: putF f y ws).map (·.2))
    split
    · exact ⟨y, _, rfl, r0, by rw [e5]; exact h2⟩
    · exact ⟨w2, _, rfl, h1, putD_reps r0 e2 (by rw [e5]; exact h2)⟩
end
end MP

set_option Elab.async false
set_option linter.all false
/-! Obj3: new instances, their __init__ called. -/
namespace MP
open PySem L2
section
variable {W : Wd} {F H : Hp} {X : Cx} {sa sb sc : Sm} {a b c : Expr} {pos p : Pos} {es : List Expr} {cf : Cfg} {n : Nat} {f fa : Addr} {fd : FuncData} {ps ks : List Str} {x m : Str} {g : List Nat} {kws : List Keyword} {apos : Pos} {i j : Nat}
theorem zip_self : ∀ {ns : List Str} {ws : List (Str × V)}, ws.map (·.1) = ns → ns.zip (ws.map (·.2)) = ws
  | [], [], _ => rfl
  | [], _ :: _, e => by cases e
  | _ :: _, [], e => by cases e
  | n :: ns, (w1, w2) :: ws, e => by
    rw [List.map_cons] at e
    injection e with e1 e2
    have e1 : w1 = n := e1
    subst e1
    rw [List.map_cons, List.zip_cons_cons, zip_self e2]
theorem make_inv {k : Nat} {fl : List Str} {o' : O} {os' : List O} {gb : List O → En} {r : O × En} (hf : (match o', os' with
  | .sh .non, .ins j fs :: os'' => R.need (decide (j = k) && decide (fs.map (·.1) = fl)) (pure (O.sh (.obj k (fs.map (·.2))), gb os''))
  | _, _ => .bad : R (O × En)) = .ok r) : ∃ fs os'', o' = .sh .non ∧ os' = .ins k fs :: os'' ∧ fs.map (·.1) = fl ∧ r = (O.sh (.obj k (fs.map (·.2))), gb os'') := by
  split at hf
  · obtain ⟨h1, hf⟩ := R.need_ok hf
    rw [Bool.and_eq_true, decide_eq_true_eq, decide_eq_true_eq] at h1
    obtain ⟨rfl, h2⟩ := h1
    cases hf
    exact ⟨_, _, rfl, rfl, h2, rfl⟩
  · cases hf
/-- the making, from the arguments -/
theorem make_go {k : Nat} {F1 H1 : Hp} {L1 M1 : List Addr} {e1 e' : En} {σ : St} {o : O} {as : List AV} {vs : List V} {Q : VK} (hF : cf.flds = W.flds) (ok1 : Ok W F1 H1 e1 σ L1) (own1 : OwnsA W F1 H1 σ as vs M1) (nd1 : (M1 ++ L1).Nodup) (dj1 : ∀ a ∈ M1, F1 a = none)
    (hf : makeW cf k i as e1 = .ok (o, e')) (kk : ∀ F' H' M L' v, Stp F1 H1 (M1 ++ L1) F' H' (M ++ L') → Ok W F' H' e' σ L' → Got W F' H' o v M L' → Q v H') (x dx : Addr) (hx : H1 x = none) (hdx : H1 dx = none) (hne : dx ≠ x) :
    spC W (cf.low i) (.ref x :: vs) (upd (upd H1 dx (.own x)) x (.ins (W.cls k) dx [])) (fun v H2 => v = .non ∧ Q (.ref x) H2) fun _ _ _ => False := by
  obtain ⟨⟨os, e2⟩, hl, hf⟩ := R.bind_ok hf
  obtain ⟨⟨o', os'⟩, hc, hf⟩ := R.bind_ok hf
  obtain ⟨F2, C, R, ok2, own2, nd2, dj2, st2⟩ := lend_ok (cf.asg i) as 1 F1 e1 L1 M1 vs os e2 ok1 own1 nd1 dj1 hl
  have hn : ∀ a u, H1 a = some u → upd (upd H1 dx (.own x)) x (.ins (W.cls k) dx []) a = some u := fun a u h => by
    rw [upd_ne (ne_of_none h hx), upd_ne (ne_of_none h hdx)]
    exact h
  have hnn : ∀ a, upd (upd H1 dx (.own x)) x (.ins (W.cls k) dx []) a = none → H1 a = none := fun a h => by
    cases q : H1 a with
    | none => rfl
    | some u => rw [hn a u q] at h; cases h
  have kpn : ∀ T : List Addr, Kp H1 (upd (upd H1 dx (.own x)) x (.ins (W.cls k) dx [])) T := fun T a _ u h => hn a u h
  have hxC : x ∉ C := fun z => by
    have : ∀ {os : List O} {vs : List V} {C : List Addr}, Owns W F2 H1 os vs C → ∀ a ∈ C, H1 a ≠ none := fun h => h.def_
    exact this own2 x z hx
  have hxR : x ∉ R := fun z => ok2.en.def_ x z hx
  refine ⟨F2, x :: C, .ins k [] :: os, o', os', fun a u h => hn a u (ok2.sub a u h), ⟨.ref x, vs, [x], C, rfl, rfl, ⟨x, dx, [], rfl, upd_same, rfl, rfl, rfl⟩, own2.keep (Sub.refl _) (kpn C)⟩, List.nodup_cons.mpr ⟨hxC, nodup_l nd2⟩, fun a ha => ?_, hc,
    fun F3 H3 M C3 v st3 sb3 own3 own3' nd3 dj3 => ?_⟩
  · rcases List.mem_cons.mp ha with rfl | ha
    · exact ok2.sub.none hx
    · exact dj2 a ha
  · obtain ⟨fs, os'', rfl, rfl, h2, er⟩ := make_inv (gb := fun os'' => giveBack (cf.asg i) 1 as os'' e2) hf
    cases er
    · obtain ⟨rfl, rv⟩ := own3
      obtain ⟨w, us, A, B, e3, rfl, oi, os3⟩ := own3'
      cases e3
      obtain ⟨y, dy, ws, e4, h3, rfl, h4, h5⟩ := oi
      cases e4
      have fx : F3 x = none := dj3 x (by simp)
      have nd3 : (x :: B).Nodup := by simpa using nd3
      have hxB : x ∉ B := (List.nodup_cons.mp nd3).1
      obtain ⟨s4, s5, s6⟩ := frz_obj sb3 h3 fx
      have dR : ∀ a ∈ R, a ∉ x :: C := fun a ha z => by
        rcases List.mem_cons.mp z with rfl | z
        · exact hxR ha
        · exact nodup_d nd2 a z ha
      have dfR : ∀ a ∈ R, upd (upd H1 dx (.own x)) x (.ins (W.cls k) dx []) a ≠ none := fun a ha z => ok2.en.def_ a ha (hnn a z)
      have k3 : Ok W F3 H3 e2 σ R := ⟨sb3, ok2.nd, st3.unsh dR dfR ok2.dj, (ok2.en.keep (Sub.refl _) (kpn R)).keep st3.fs (st3.kept dR)⟩
      have apR : ∀ a ∈ R, a ∉ x :: B := by
        have := st3.apart dR dfR
        simpa using this
      obtain ⟨R', k4, m4⟩ := giveBack_ok (cf.asg i) as 1 e2 R B vs os'' k3 own1.slots os3 (nodup_app (List.nodup_cons.mp nd3).2 ok2.nd fun a ha hb => apR a hb (List.mem_cons_of_mem _ ha)) fun a ha => dj3 a (by simp [ha])
      have hxR' : x ∉ R' := fun z => by
        rcases m4 x z with z | z
        · exact hxB z
        · exact hxR z
      have k5 : Ok W (upd F3 x (.ins (W.cls k) dy ws)) H3 (giveBack (cf.asg i) 1 as os'' e2) σ R' := ⟨s5, k4.nd, fun a ha => by
        rw [upd_ne (show a ≠ x from fun z => hxR' (by rw [← z]; exact ha))]
        exact k4.dj a ha, k4.en.keep s4 fun _ _ _ h => h⟩
      refine ⟨rv, kk (upd F3 x (.ins (W.cls k) dy ws)) H3 [] R' (.ref x) (st2.trans ⟨st3.fs.trans s4, fun a u h na => ?_, fun a ha => ?_, fun a u h => ?_⟩) k5 ⟨⟨rfl, x, dy, ws.map (·.2), rfl, ?_, ?_, ?_⟩, by simpa using k4.nd, fun a ha => (by cases ha)⟩⟩
      · refine st3.kp a u (hn a u h) fun z => ?_
        rcases List.mem_cons.mp z with rfl | z
        · rw [hx] at h; cases h
        · exact na (List.mem_append_left _ z)
      · rcases m4 a (by simpa using ha) with z | z
        · rcases st3.ow a (by simp [z]) with y | y
          · rcases List.mem_cons.mp y with rfl | y
            · exact .inr hx
            · exact .inl (List.mem_append_left _ y)
          · exact .inr (hnn a y)
        · exact .inl (List.mem_append_right _ z)
      · rcases s6 a u h with z | rfl
        · rcases st3.fr a u z with y | y | y
          · exact .inl y
          · rcases List.mem_cons.mp y with rfl | y
            · exact .inr (.inr hx)
            · exact .inr (.inl (List.mem_append_left _ y))
          · exact .inr (.inr (hnn a y))
        · exact .inr (.inr hx)
      · rw [upd_same, zip_self (by rw [h4, h2, hF])]
      · rw [List.length_map, ← hF, ← h2, List.length_map, ← List.length_map (f := (·.1)) (as := ws), h4, List.length_map]
      · exact h5.mono s4
/-- C(..), the values in the parameters' order -/
def tMk (C : Addr) (sp : Sp) (t : TA) : TE := fun σ H Q => t σ H fun vs H1 => ∀ x dx, H1 x = none → H1 dx = none → dx ≠ x → sp (.ref x :: vs) (upd (upd H1 dx (.own x)) x (.ins C dx [])) (fun v H2 => v = .non ∧ Q (.ref x) H2) fun _ _ _ => False
theorem make_ent {k : Nat} {A : En → R (List AV × En)} {σ : St} {H : Hp} {Q : VK} (hF : cf.flds = W.flds) (q : trV W (fun e => do let (as, e) ← A e; makeW cf k i as e) σ H Q) : tMk (W.cls k) (spC W (cf.low i)) (trL W A) σ H Q := by
  obtain ⟨F, L, e, o, e', ok, hf, kk⟩ := q
  obtain ⟨⟨as, e1⟩, h1, hf⟩ := R.bind_ok hf
  refine ⟨F, L, e, as, e1, ok, h1, fun F1 H1 M1 L1 vs st1 ok1 own1 nd1 dj1 x dx hx hdx hne => ?_⟩
  exact make_go hF ok1 own1 nd1 dj1 hf (fun F' H' M L' v st ok' got => kk F' H' M L' v (st1.trans st) ok' got) x dx hx hdx hne
def tMkK (C : Addr) (sp : Sp) (tk : TA) (g : List Nat) : TE := fun σ H Q => tk σ H fun zs H1 => ∃ ws, pick ([] ++ zs) g = some ws ∧ ∀ x dx, H1 x = none → H1 dx = none → dx ≠ x → sp (.ref x :: ws) (upd (upd H1 dx (.own x)) x (.ins C dx [])) (fun v H2 => v = .non ∧ Q (.ref x) H2) fun _ _ _ => False
theorem makeK_ent {k : Nat} {B : En → R (List AV × En)} {σ : St} {H : Hp} {Q : VK} (hF : cf.flds = W.flds) (q : trV W (fun e => do
      let (as, e) ← (fun e => R.ok ([], e) : En → R (List AV × En)) e
      let (bs, e) ← B e
      R.need (decide g.Nodup) (do
        let xs ← R.of (pick (as ++ bs) g)
        makeW cf k i xs e)) σ H Q) : tMkK (W.cls k) (spC W (cf.low i)) (trL W B) g σ H Q := by
  obtain ⟨F, L, e, o, e', ok, hf, kk⟩ := q
  obtain ⟨⟨as, e0⟩, h0, hf⟩ := R.bind_ok hf
  cases h0
  obtain ⟨⟨bs, e1⟩, h1, hf⟩ := R.bind_ok hf
  obtain ⟨h3, hf⟩ := R.need_ok hf
  obtain ⟨xs, h4, hf⟩ := R.bind_ok hf
  refine ⟨F, L, e, bs, e1, ok, h1, fun F1 H1 M1 L1 vs st1 ok1 own1 nd1 dj1 => ?_⟩
  have h4 := R.of_ok h4
  rw [List.nil_append] at h4
  obtain ⟨ws, N, p1, p2, p3, p4⟩ := own1.pick (nodup_l nd1) (of_decide_eq_true h3) h4
  refine ⟨ws, by rw [List.nil_append]; exact p1, fun x dx hx hdx hne => make_go hF ok1 p2 (nodup_app p3 ok1.nd fun x hx hy => nodup_d nd1 x (p4 x hx) hy) (fun a ha => dj1 a (p4 a ha)) hf (fun F' H' M L' v st ok' got => kk F' H' M L' v (Stp.trans ⟨st1.fs, st1.kp, fun y hy => ?_, st1.fr⟩ st) ok' got) x dx hx hdx hne⟩
  rcases List.mem_append.mp hy with hy | hy
  · exact st1.ow y (List.mem_append_left _ (p4 y hy))
  · exact st1.ow y (List.mem_append_right _ hy)
theorem make_guards {A : Around} {C : Addr} {us : List Value} {kw : List (Str × Value)} : (A.under (.builtin "type.__call__" ⟨.ref C :: us, kw⟩)).guards = A.guards := by
  rfl
theorem run_mkG {pins : List (Addr × Obj)} {σ : St} {H : Hp} {s : Shared} {Q : VK} {us ys : List Value} {kw : List (Str × Value)} {vs : List V} {sp : Sp} {C : Addr} (M : Mk X.K C fa) (Fn : FnG X.prog X.w X.K X.mg X.base n fa fd ps sp) (hr : Room (n + 1) X.A) (hg : X.A.guards = some [])
    (I : Inv X pins σ H s) (r : Vals vs ys) (hb : ∀ u : Value, (u :: ys).length = ps.length → bindArgs fd ⟨u :: us, kw⟩ = pure (ps.zip (u :: ys)))
    (h : ∀ x dx, H x = none → H dx = none → dx ≠ x → sp (.ref x :: vs) (upd (upd H dx (.own x)) x (.ins C dx [])) (fun v H2 => v = .non ∧ Q (.ref x) H2) fun _ _ _ => False) :
    wpAny (model X.prog X.w) X.A (call (.ref C) us kw) (EP X pins σ Q) X.xe s := by
  have hq := h (s.heap.objs.size + 1) s.heap.objs.size (I.hok.fresh (Nat.le_succ _)) (I.hok.fresh (Nat.le_refl _)) (Nat.ne_of_lt (Nat.lt_succ_self _))
  have I2 := Inv.made (C := C) I
  have r2 : Vals (V.ref (s.heap.objs.size + 1) :: vs) (Value.ref (s.heap.objs.size + 1) :: ys) := .cons rfl r
  have hl : (Value.ref (s.heap.objs.size + 1) :: ys).length = ps.length := by
    have e := r2.length
    rw [Fn.len _ _ _ _ hq] at e
    exact e.symm
  refine wpAny_call (make_map (f := fa) I.kIn M.makes M.init (beq_iff_eq.mp M.fn) (codeAny_mono (Fn.run _ X.stack _ _ ⟨Value.ref (s.heap.objs.size + 1) :: us, kw⟩ (Value.ref (s.heap.objs.size + 1) :: ys) _ _ _ (hr.make C us kw) (make_guards.trans hg)
    (I2.env0.make C us kw) (.of_eq (hb _ hl)) r2 hq) fun r s' hq' => ?_))
  cases r with
  | error e => exact hq'.elim
  | ok fl =>
    cases fl with
    | ret u =>
      obtain ⟨v, H', I3, rv, ev, q3⟩ := I2.after hq'
      subst ev
      exact ⟨rv, ⟨V.ref (s.heap.objs.size + 1), H', I3, rfl, q3⟩⟩
    | next => exact False.elim hq'
    | brk => exact False.elim hq'
    | cont => exact False.elim hq'
/-- how a level below is told -/
def Below (n : Nat) (run : List O → R (O × List O)) (P : Nat → Prop) : Prop := (∀ os, run os = .bad) ∨ ∃ j, n = j + 1 ∧ P j
theorem spC_bad {run : List O → R (O × List O)} (h : ∀ os, run os = .bad) {vs : List V} {H : Hp} {Q : VK} {E : XK} : ¬ spC W run vs H Q E := fun ⟨_, _, os, _, _, _, _, _, _, e, _⟩ => by
  rw [h os] at e
  cases e
theorem pe_mkG {C : Addr} {t : TA} (M : Mk X.K C fa) (Fn : Below n (cf.low i) fun j => FnG X.prog X.w X.K X.mg X.base j fa fd ps (spC W (cf.low i))) (hr : Room n X.A) (hg : X.A.guards = some []) (gl : Gl X x) (hm : X.mg x = some (.ref C))
    (hb : ∀ us : List Value, us.length = ps.length → bindArgs fd ⟨us, []⟩ = pure (ps.zip us)) (ha : PA X (b :: es) t) (hdb : (x == ("__debug__" : Str)) = false) (he : starEach (b :: es) X.env = (false, eval b X.env) :: starEach es X.env) (hpl : (backTo pos (starEach es X.env)).any (·.1) = false) :
    PE X (.Call (.Name x p) (b :: es) [] pos) (tMk C (spC W (cf.low i)) t) := by
  refine ⟨fun pins s σ H Q I h => ?_⟩
  refine wpAny_Call_Name_kw (ld_glob I gl hm ?_ hdb)
  refine PySem.W.callWith_K (h₀ := X.base) I.ok.mod.kin M.kp (thn (ha.run pos pins s σ H _ I h) fun us s1 ⟨vs, H1, I1, r, q⟩ => ⟨I1.kIn, ?_⟩) he hpl
  rcases Fn with hbad | ⟨j, rfl, Fn⟩
  · exact (spC_bad hbad (q (s1.heap.objs.size + 1) s1.heap.objs.size (I1.hok.fresh (Nat.le_succ _)) (I1.hok.fresh (Nat.le_refl _)) (Nat.ne_of_lt (Nat.lt_succ_self _)))).elim
  · exact run_mkG M Fn hr hg I1 r (fun u hl => hb _ hl) q
theorem pe_mkKG {C : Addr} {tk : TA} (M : Mk X.K C fa) (Fn : Below n (cf.low i) fun j => FnG X.prog X.w X.K X.mg X.base j fa fd ps (spC W (cf.low i))) (hr : Room n X.A) (hg : X.A.guards = some []) (gl : Gl X x) (hm : X.mg x = some (.ref C))
    (hb : ∀ (u : Value) (zs ys : List Value), zs.length = ks.length → pick ([] ++ zs) g = some ys → (u :: ys).length = ps.length → bindArgs fd ⟨[u], ks.zip zs⟩ = pure (ps.zip (u :: ys))) (hkn : kwNs kws = some ks) (hkw : PK X kws tk)
    (hlk : ∀ σ H Q, tk σ H Q → tk σ H fun zs H' => zs.length = kws.length ∧ Q zs H') (hdb : (x == ("__debug__" : Str)) = false) : PE X (.Call (.Name x p) [] kws pos) (tMkK C (spC W (cf.low i)) tk g) := by
  obtain ⟨k1, k2, k3⟩ := kw_facts (pos := pos) (env := X.env) hkn
  have hpl : ((backTo pos (starEach [] X.env)).any (·.1) || (backToKw pos (keywordEach kws X.env)).any (·.1.isNone)) = false := by rw [stars_any (es := []) rfl, k3]; rfl
  refine ⟨fun pins s σ H Q I h => ?_⟩
  refine wpAny_Call_Name_kw (ld_glob I gl hm ?_ hdb)
  refine PySem.W.callWith_KW0 (h₀ := X.base) I.ok.mod.kin M.kp k1 (thn (hkw.run pos pins s σ H _ I (hlk _ _ _ h)) fun zs0 s1 ⟨zs, H1, I1, rz, hl2, ws, hp, q⟩ => ⟨I1.kIn, ?_⟩) hpl
  rw [k2]
  obtain ⟨ys, h1, h2⟩ := vals_pick rz hp
  rcases Fn with hbad | ⟨j, rfl, Fn⟩
  · exact (spC_bad hbad (q (s1.heap.objs.size + 1) s1.heap.objs.size (I1.hok.fresh (Nat.le_succ _)) (I1.hok.fresh (Nat.le_refl _)) (Nat.ne_of_lt (Nat.lt_succ_self _)))).elim
  · exact run_mkG (us := []) M Fn hr hg I1 h2 (fun u hl => hb u zs0 ys (by rw [← rz.length, hl2, kwNs_len hkn]) h1 hl) q
theorem sn_make {k : Nat} {C : Addr} (hK : X.K = W.K) (hF : cf.flds = W.flds) (hC : W.cls k = C) (M : Mk X.K C fa) (Fn : Below n (cf.low i) fun j => FnG X.prog X.w X.K X.mg X.base j fa fd ps (spC W (cf.low i))) (hr : Room n X.A) (hg : X.A.guards = some []) (gl : Gl X x) (hm : X.mg x = some (.ref C))
    (hb : ∀ us : List Value, us.length = ps.length → bindArgs fd ⟨us, []⟩ = pure (ps.zip us)) (hdb : (x == ("__debug__" : Str)) = false) (hs : notStars (b :: es) = true) (hl : SnL W X sb (b :: es)) :
    Sn W X (Sm.mk1 fun e => do let (as, e) ← sb.ags e; makeW cf k i as e) (.Call (.Name x p) (b :: es) [] pos) := by
  have hs2 := hs
  rw [notStars, Bool.and_eq_true] at hs2
  subst hC
  exact Sn.plain hK (PE.imp (pe_mkG M Fn hr hg gl hm hb hl.ags hdb (star_cons hs2.1 es X.env) (stars_any hs2.2)) fun _ _ _ q => make_ent hF q) rfl
theorem sn_makeK {k : Nat} {C : Addr} (hK : X.K = W.K) (hF : cf.flds = W.flds) (hC : W.cls k = C) (M : Mk X.K C fa) (Fn : Below n (cf.low i) fun j => FnG X.prog X.w X.K X.mg X.base j fa fd ps (spC W (cf.low i))) (hr : Room n X.A) (hg : X.A.guards = some []) (gl : Gl X x) (hm : X.mg x = some (.ref C))
    (hb : ∀ (u : Value) (zs ys : List Value), zs.length = ks.length → pick ([] ++ zs) g = some ys → (u :: ys).length = ps.length → bindArgs fd ⟨[u], ks.zip zs⟩ = pure (ps.zip (u :: ys))) (hkn : kwNs kws = some ks) (hkw : PK X kws (trL W sb.ags))
    (hlb : ∀ e as e', sb.ags e = .ok (as, e') → as.length = kws.length) (hdb : (x == ("__debug__" : Str)) = false) :
    Sn W X (Sm.mk1 fun e => do
      let (as, e) ← (fun e => R.ok ([], e) : En → R (List AV × En)) e
      let (bs, e) ← sb.ags e
      R.need (decide g.Nodup) (do
        let xs ← R.of (pick (as ++ bs) g)
        makeW cf k i xs e)) (.Call (.Name x p) [] kws pos) := by
  subst hC
  refine Sn.plain hK (PE.imp (pe_mkKG M Fn hr hg gl hm hb hkn hkw (fun σ H Q q => ?_) hdb) fun σ H Q q => makeK_ent hF q) rfl
  obtain ⟨F3, L3, e3, bs, e4, ok3, h3, kk3⟩ := q
  exact ⟨F3, L3, e3, bs, e4, ok3, h3, fun F4 H4 M4 L4 zs st4 ok4 own4 nd4 dj4 => ⟨by rw [own4.len, hlb _ _ _ h3], kk3 F4 H4 M4 L4 zs st4 ok4 own4 nd4 dj4⟩⟩

/-! ### targets: an attribute, an item of an item -/
variable {np : Nat} {asg : List Nat}
theorem pg_att {o : Expr} {to : TE} {nm : Str} (ho : PE X o to) : PG X (.Attribute o nm pos) (fun v σ H Q => to σ H fun x H1 => ∃ a C dx fs, x = .ref a ∧ H1 a = some (.ins C dx fs) ∧ Cls X.K C ∧ NoAttr X.K C nm ∧ fs.length < 1000 ∧ Q σ (upd H1 a (.ins C dx (putF nm v fs)))) := by
  refine ⟨fun pins s σ H v u Q I r h => ?_⟩
  rw [assign_Attribute]
  refine wpAny_bind (wpAny_holding (thn (ho.run pins s σ H _ I h) fun ov s1 ⟨x, H1, I1, r1, a, C, dx, fs, ex, ea, c, n, l, q⟩ => ?_))
  subst ex
  obtain rfl : ov = Value.ref a := r1
  refine wpAny_bind (wpAny_standAt (wpAny_bind (wpAny_holding (setattr_ok I1 ea c n l r fun s3 I3 => ?_))))
  exact wpAny_release ⟨σ, _, I3, q⟩
theorem tg_att {c : Cfg} {i : Nat} {x nm : Str} {sp pos : Pos} (hK : X.K = W.K) (hF : c.flds = W.flds) (hC : ClsOk X.K W) (hN : X.N[i]? = some x) (hv : Vis X.env.scope x) (hd : (x == ("__debug__" : Str)) = false) (hcd : (x == ("__classdict__" : Str)) = false) :
    PG X (.Attribute (.Name x sp) nm pos) (trGo W np asg (asgT c (.att i nm))) := by
  refine PG.imp (pg_att (pe_var (X := X) (pos := sp) hN hv hd hcd)) fun v σ H Q q => ?_
  obtain ⟨F, L, M, e, o, e', ok, got, hf, k⟩ := q
  obtain ⟨p, h0, hf⟩ := R.bind_ok hf
  obtain ⟨w, A, N, B, hw, rfl, own, up⟩ := ok.en.slot h0
  split at hf
  · rename_i kc fs
    obtain ⟨h1, hf⟩ := R.need_ok hf
    simp only [Bool.and_eq_true, decide_eq_true_eq] at h1
    obtain ⟨⟨h1, h2⟩, h3⟩ := h1
    cases hf
    obtain ⟨a, dx, ws, rfl, g2, rfl, g4, g5⟩ := own
    have hmem : nm ∈ W.flds kc := by rw [← hF]; simpa using h1
    obtain ⟨c1, c2⟩ := hC.ok kc nm hmem
    obtain ⟨F1, r1, ok1, sb1, fr1⟩ := got.frz ok h2
    have aL : a ∈ A ++ [a] ++ B := by simp
    have fa1 := ok1.dj a aL
    have sbu : Sub F1 (upd H a (.ins (W.cls kc) dx (putF nm v ws))) := fun z u r => by
      rw [upd_ne (fun e0 => by rw [e0, fa1] at r; cases r)]
      exact ok1.sub z u r
    have hlen : ws.length = fs.length := by
      have := congrArg List.length g4
      simpa using this
    have u := up F1 (upd H a (.ins (W.cls kc) dx (putF nm v ws))) (some (.ins kc (putD nm o.view fs))) (some (.ref a)) [a] sb1 (fun z hz ob r => by
      rw [upd_ne (fun e0 => ?_)]
      · exact r
      · subst e0
        have nd := ok.nd
        rcases List.mem_append.mp hz with hz | hz
        · exact nodup_d (nodup_l nd) z hz (by simp)
        · exact nodup_d nd z (by simp) hz) ⟨.ref a, rfl, a, dx, _, rfl, upd_same, rfl, putD_names g4, putD_reps r1 g4 (g5.mono sb1)⟩
    rw [set_self hw] at u
    refine ⟨.ref a, hw, a, _, dx, ws, rfl, g2, c1, c2, by omega, k F1 _ σ (A ++ [a] ++ B) ⟨sb1, fun z ob r hz => ?_, fun z hz => .inl (List.mem_append_right _ hz), fun z ob r => ?_⟩ ⟨sbu, ok.nd, ok1.dj, u⟩ Kept.refl⟩
    · rw [upd_ne (fun e0 => hz (by rw [e0]; exact List.mem_append_right _ aL))]
      exact r
    · rcases fr1 z ob r with q | q
      · exact .inl q
      · exact .inr (.inl (List.mem_append_left _ q))
  · cases hf
end
end MP

set_option Elab.async false
set_option linter.all false
/-! Obj4: x[i][j] = v; an expression that only reads; tests of classes. -/
namespace MP
open PySem L2
section
variable {W : Wd} {F H : Hp} {X : Cx} {sa sb sc : Sm} {a b c : Expr} {pos p : Pos} {es : List Expr} {np : Nat} {asg : List Nat}
/-- one item apart -/
theorem Owns.item {x : O} : ∀ {xs : List O} {vs : List V} {N : List Addr} {m : Nat}, Owns W F H xs vs N → xs[m]? = some x → ∃ v A B C, vs[m]? = some v ∧ N = A ++ B ++ C ∧ Own W F H x v B ∧
    ∀ (F' H' : Hp) (x' : O) (B' : List Addr), Sub F F' → Kp H H' (A ++ C) → Own W F' H' x' v B' → Owns W F' H' (xs.set m x') vs (A ++ B' ++ C)
  | [], _, _, m, _, h => by simp at h
  | y :: xs, _, _, 0, g, h => by
    obtain ⟨w, ws, A, B, rfl, rfl, h1, h2⟩ := g
    simp at h
    subst h
    exact ⟨w, [], A, B, rfl, rfl, h1, fun F' H' x' B' s k o => ⟨w, ws, B', B, rfl, rfl, o, h2.keep s k⟩⟩
  | y :: xs, _, _, m + 1, g, h => by
    obtain ⟨w, ws, A, B, rfl, rfl, h1, h2⟩ := g
    obtain ⟨v, A2, B2, C2, e1, rfl, h3, h4⟩ := Owns.item (m := m) h2 (by simpa using h)
    refine ⟨v, A ++ A2, B2, C2, by simpa using e1, by simp, h3, fun F' H' x' B' s k o => ?_⟩
    refine ⟨w, ws, A, A2 ++ B' ++ C2, rfl, by simp, h1.keep s (k.sub fun z hz => by simp [hz]), h4 F' H' x' B' s (k.sub fun z hz => ?_) o⟩
    rcases List.mem_append.mp hz with hz | hz <;> simp [hz]
theorem ix2_inv {a b p o : O} {e r : En} {l : Nat} (hf : (match a, b, p with
    | .sh (.int k), .sh (.int l'), .lst xs => do
      let m ← R.of (ixN xs.length k)
      let q ← R.of (xs[m]?)
      match q with
      | .lst ys => do
        let n ← R.of (ixN ys.length l')
        pure (e.set l (some (.lst (xs.set m (.lst (ys.set n o))))))
      | _ => .bad
    | _, _, _ => .bad : R En) = .ok r) : ∃ kk ll xs m ys n, a = .sh (.int kk) ∧ b = .sh (.int ll) ∧ p = .lst xs ∧ ixN xs.length kk = some m ∧ xs[m]? = some (.lst ys) ∧ ixN ys.length ll = some n ∧ r = e.set l (some (.lst (xs.set m (.lst (ys.set n o))))) := by
  split at hf
  · obtain ⟨m, h1, hf⟩ := R.bind_ok hf
    obtain ⟨q, h2, hf⟩ := R.bind_ok hf
    split at hf
    · obtain ⟨n, h3, hf⟩ := R.bind_ok hf
      cases hf
      exact ⟨_, _, _, m, _, n, rfl, rfl, rfl, R.of_ok h1, R.of_ok h2, R.of_ok h3, rfl⟩
    · cases hf
  · cases hf
theorem tg_ix2 {c : Cfg} {i j l : Nat} {x y z : Str} {p1 p2 p3 p4 pos : Pos} (hK : X.K = W.K) (hx : X.N[l]? = some x) (hvx : Vis X.env.scope x) (hdx : (x == ("__debug__" : Str)) = false ∧ (x == ("__classdict__" : Str)) = false)
    (hy : X.N[i]? = some y) (hvy : Vis X.env.scope y) (hdy : (y == ("__debug__" : Str)) = false ∧ (y == ("__classdict__" : Str)) = false)
    (hz : X.N[j]? = some z) (hvz : Vis X.env.scope z) (hdz : (z == ("__debug__" : Str)) = false ∧ (z == ("__classdict__" : Str)) = false) :
    PG X (.Subscript (.Subscript (.Name x p1) (.Name y p2) p3) (.Name z p4) pos) (trGo W np asg (asgT c (.ix2 l i j))) := by
  have ho : PE X (.Subscript (.Name x p1) (.Name y p2) p3) _ := pe_ix ix_list (pe_var (X := X) (pos := p1) hx hvx hdx.1 hdx.2) (pe_var (X := X) (pos := p2) hy hvy hdy.1 hdy.2) (fun _ _ => rfl)
  refine PG.imp (pg_sub (pos := pos) ho (pe_var (X := X) (pos := p4) hz hvz hdz.1 hdz.2) set_list (fun _ => rfl)) fun v σ H Q q => ?_
  obtain ⟨F, L, M, e, o, e', ok, got, hf, k⟩ := q
  obtain ⟨a, ha, hf⟩ := R.bind_ok hf
  obtain ⟨b, hb, hf⟩ := R.bind_ok hf
  obtain ⟨p, hp, hf⟩ := R.bind_ok hf
  obtain ⟨wi, _, _, _, ei, _, oi, _⟩ := ok.en.slot ha
  obtain ⟨wj, _, _, _, ej, _, oj, _⟩ := ok.en.slot hb
  obtain ⟨w, A0, N, B0, ew, g2, own, up⟩ := ok.en.slot hp
  obtain ⟨kk, ll, xs, m, ys, n, rfl, rfl, rfl, h1, h2, h3, rfl⟩ := ix2_inv hf
  · · obtain ⟨_, ri⟩ := oi
      obtain ⟨_, rj⟩ := oj
      have ri : wi = .int kk := ri
      have rj : wj = .int ll := rj
      subst ri rj
      obtain ⟨q, vs, N', rfl, g3, rfl, ow⟩ := own
      obtain ⟨u, A1, I1, C1, ev, rfl, own1, up1⟩ := ow.item h2
      obtain ⟨r, us, I2, rfl, g4, rfl, ow2⟩ := own1
      obtain ⟨A2, B2, C2, rfl, ow3⟩ := Owns.setAt got.own ow2 (ixN_lt h3)
      have pm : ((A0 ++ (q :: (A1 ++ (r :: (A2 ++ M ++ C2)) ++ C1)) ++ B0) ++ B2).Perm (M ++ L) := by
        rw [g2, List.perm_iff_count]
        intro z
        simp only [List.count_append, List.count_cons]
        omega
      have ndA := pm.nodup_iff.mpr got.nd
      have nd := nodup_l ndA
      have inL : ∀ z ∈ A0 ++ (q :: (A1 ++ (r :: (A2 ++ M ++ C2)) ++ C1)) ++ B0, z ∈ M ++ L := fun z hz => pm.mem_iff.mp (List.mem_append_left _ hz)
      have rL : r ∈ L := by rw [g2]; simp
      have fr := ok.dj r rL
      have nd2 : (q :: (A1 ++ (r :: (A2 ++ M ++ C2)) ++ C1)).Nodup := nodup_r (nodup_l nd)
      have nqr : q ≠ r := fun e0 => (List.nodup_cons.mp nd2).1 (by rw [e0]; simp)
      have nd3 := (List.nodup_cons.mp nd2).2
      have nd4 : (r :: (A2 ++ M ++ C2)).Nodup := nodup_r (nodup_l nd3)
      have ne0 : ∀ z ∈ A0 ++ B0, z ≠ r := fun z hz e0 => by
        subst e0
        rcases List.mem_append.mp hz with hz | hz
        · exact nodup_d (nodup_l nd) z hz (by simp)
        · exact nodup_d nd z (by simp) hz
      have ne1 : ∀ z ∈ A1 ++ C1, z ≠ r := fun z hz e0 => by
        subst e0
        rcases List.mem_append.mp hz with hz | hz
        · exact nodup_d (nodup_l nd3) z hz (by simp)
        · exact nodup_d nd3 z (by simp) hz
      have ne2 : ∀ z ∈ A2 ++ M ++ C2, z ≠ r := fun z hz e0 => (List.nodup_cons.mp nd4).1 (e0 ▸ hz)
      have kp : ∀ T : List Addr, (∀ z ∈ T, z ≠ r) → Kp H (upd H r (.lst (us.set n v))) T := fun T hT z hz ob rr => by rw [upd_ne (hT z hz)]; exact rr
      have i3 : Own W F (upd H r (.lst (us.set n v))) (.lst (ys.set n o)) (.ref r) (r :: (A2 ++ M ++ C2)) := ⟨r, _, _, rfl, upd_same, rfl, ow3.keep (Sub.refl _) (kp _ ne2)⟩
      have i2 := up1 F _ _ _ (Sub.refl _) (kp _ ne1) i3
      have i1 : Own W F (upd H r (.lst (us.set n v))) (.lst (xs.set m (.lst (ys.set n o)))) (.ref q) (q :: (A1 ++ (r :: (A2 ++ M ++ C2)) ++ C1)) := ⟨q, vs, _, rfl, by rw [upd_ne nqr]; exact g3, rfl, i2⟩
      have u := up F (upd H r (.lst (us.set n v))) (some (.lst (xs.set m (.lst (ys.set n o))))) (some (.ref q)) _ (Sub.refl _) (kp _ ne0) ⟨.ref q, rfl, i1⟩
      rw [set_self ew] at u
      refine ⟨.ref q, ew, .int kk, ei, q, vs, kk, .ref r, rfl, rfl, SqL.of g3, ?_, .int ll, ej, r, us, ll, n, rfl, rfl, g4, by rw [ow2.len]; exact h3, k F _ σ _ ?_ ⟨fun z ob rr => ?_, nd, fun z hz => ?_, u⟩ Kept.refl⟩
      · unfold atI
        rw [ow.len, h1]
        exact ev
      · refine ⟨Sub.refl _, fun z ob rr hz => ?_, fun z hz => .inl (inL z hz), fun z ob rr => .inl rr⟩
        rw [upd_ne fun e0 => hz (by rw [e0]; exact List.mem_append_right _ rL)]
        exact rr
      · rw [upd_ne fun e0 => by rw [e0, fr] at rr; cases rr]
        exact ok.sub z ob rr
      · rcases List.mem_append.mp (inL z hz) with hz | hz
        · exact got.dj z hz
        · exact ok.dj z hz

/-! ### an expression that only reads -/
open Classical in
/-- the lists among what is owned are shared -/
noncomputable def frzL (F H : Hp) (L : List Addr) : Hp := fun a => if a ∈ L ∧ ∃ vs, H a = some (.lst vs) then H a else F a
theorem frzL_sub {L : List Addr} (d : ∀ a ∈ L, F a = none) : Sub F (frzL F H L) := fun a o h => by
  unfold frzL
  rw [if_neg fun z => by rw [d a z.1] at h; cases h]
  exact h
theorem frzL_in {L : List Addr} (s : Sub F H) : Sub (frzL F H L) H := fun a o h => by
  unfold frzL at h
  split at h
  · exact h
  · exact s a o h
theorem frzL_from {L : List Addr} {a : Addr} {o : HO} (h : frzL F H L a = some o) : F a = some o ∨ (a ∈ L ∧ ∃ vs, H a = some (.lst vs)) := by
  unfold frzL at h
  split at h
  · exact .inr (by assumption)
  · exact .inl h
mutual
theorem Own.frzL {L0 : List Addr} (d0 : ∀ a ∈ L0, F a = none) : ∀ {o : O} {v : V} {L : List Addr}, Own W F H o v L → noIns o = true → (∀ a ∈ L, a ∈ L0) → Rep W (MP.frzL F H L0) o.view v
  | .sh d, _, _, h, _, _ => h.2.mono (frzL_sub d0)
  | .lst xs, _, _, h, n, i => by
    obtain ⟨a, vs, M, h1, h2, rfl, h4⟩ := h
    refine ⟨a, vs, h1, ?_, Owns.frzL d0 h4 n fun b hb => i b (List.mem_cons_of_mem _ hb)⟩
    unfold MP.frzL
    rw [if_pos ⟨i a (by simp), vs, h2⟩]
    exact h2
  | .ins c fs, _, _, h, n, i => by cases n
theorem Owns.frzL {L0 : List Addr} (d0 : ∀ a ∈ L0, F a = none) : ∀ {xs : List O} {vs : List V} {L : List Addr}, Owns W F H xs vs L → noInss xs = true → (∀ a ∈ L, a ∈ L0) → Reps W (MP.frzL F H L0) (views xs) vs
  | [], _, _, h, _, _ => h.1
  | x :: xs, _, _, h, n, i => by
    obtain ⟨v, ws, A, B, h1, rfl, h3, h4⟩ := h
    rw [noInss, Bool.and_eq_true] at n
    exact ⟨v, ws, h1, Own.frzL d0 h3 n.1 fun b hb => i b (List.mem_append_left _ hb), Owns.frzL d0 h4 n.2 fun b hb => i b (List.mem_append_right _ hb)⟩
end
theorem Envs.share {L0 : List Addr} (d0 : ∀ a ∈ L0, F a = none) : ∀ {e : En} {σ : St} {L : List Addr}, Envs W F H e σ L → (∀ a ∈ L, a ∈ L0) → Envs W (frzL F H L0) H (shareAll e) σ []
  | [], _, _, h, _ => ⟨h.1, rfl⟩
  | x :: e, _, _, h, i => by
    obtain ⟨s, τ, A, B, h1, rfl, h3, h4⟩ := h
    refine ⟨s, τ, [], [], h1, rfl, ?_, Envs.share d0 h4 fun b hb => i b (List.mem_append_right _ hb)⟩
    cases x with
    | none => exact rfl
    | some o =>
      obtain ⟨v, e1, own⟩ := h3
      cases o with
      | sh d => exact ⟨v, e1, rfl, own.2.mono (frzL_sub d0)⟩
      | lst xs =>
        show OwnS W _ H (if noIns (.lst xs) = true then some (.sh (O.view (.lst xs))) else none) s []
        split
        · rename_i hn
          exact ⟨v, e1, rfl, Own.frzL d0 own hn fun b hb => i b (List.mem_append_left _ hb)⟩
        · exact rfl
      | ins c fs => exact rfl
/-- .. and are owned again -/
def thaw (F : Hp) (L : List Addr) : Hp := fun a => if a ∈ L then none else F a
mutual
theorem Rep.thaw {G : Hp} {L : List Addr} (hl : ∀ a ∈ L, ∀ o, G a = some o → ∃ vs, o = .lst vs) : ∀ {d : D} {v : V}, Rep W G d v → d.lf = true → Rep W (MP.thaw G L) d v
  | .non, _, h, _ => h
  | .bl _, _, h, _ => h
  | .int _, _, h, _ => h
  | .str _, _, h, _ => h
  | .tup xs, _, h, n => by
    obtain ⟨a, vs, h1, ⟨o, h2, ho⟩, h3⟩ := h
    refine ⟨a, vs, h1, ⟨o, ?_, ho⟩, Reps.thaw hl h3 n⟩
    unfold MP.thaw
    rw [if_neg fun z => by obtain ⟨ws, e⟩ := hl a z _ h2; cases e]
    exact h2
  | .obj c xs, _, h, n => by
    obtain ⟨a, dx, vs, h1, h2, h3, h4⟩ := h
    refine ⟨a, dx, vs, h1, ?_, h3, Reps.thaw hl h4 n⟩
    unfold MP.thaw
    rw [if_neg fun z => by obtain ⟨ws, e⟩ := hl a z _ h2; cases e]
    exact h2
  | .lst _, _, _, n => by cases n
  | .arr _, _, _, n => by cases n
theorem Reps.thaw {G : Hp} {L : List Addr} (hl : ∀ a ∈ L, ∀ o, G a = some o → ∃ vs, o = .lst vs) : ∀ {xs : List D} {vs : List V}, Reps W G xs vs → lfs xs = true → Reps W (MP.thaw G L) xs vs
  | [], _, h, _ => h
  | x :: xs, _, h, n => by
    obtain ⟨v, ws, h1, h2, h3⟩ := h
    rw [lfs, Bool.and_eq_true] at n
    exact ⟨v, ws, h1, Rep.thaw hl h2 n.1, Reps.thaw hl h3 n.2⟩
end
mutual
theorem Own.thaw {G : Hp} {L : List Addr} (hl : ∀ a ∈ L, ∀ o, G a = some o → ∃ vs, o = .lst vs) : ∀ {o : O} {v : V} {M : List Addr}, Own W G H o v M → indep o = true → Own W (MP.thaw G L) H o v M
  | .sh d, _, _, h, n => ⟨h.1, Rep.thaw hl h.2 n⟩
  | .lst xs, _, _, h, n => by
    obtain ⟨a, vs, M, h1, h2, h3, h4⟩ := h
    exact ⟨a, vs, M, h1, h2, h3, Owns.thaw hl h4 n⟩
  | .ins .., _, _, _, n => by cases n
theorem Owns.thaw {G : Hp} {L : List Addr} (hl : ∀ a ∈ L, ∀ o, G a = some o → ∃ vs, o = .lst vs) : ∀ {xs : List O} {vs : List V} {M : List Addr}, Owns W G H xs vs M → indeps xs = true → Owns W (MP.thaw G L) H xs vs M
  | [], _, _, h, _ => h
  | x :: xs, _, _, h, n => by
    obtain ⟨v, ws, A, B, h1, h2, h3, h4⟩ := h
    rw [indeps, Bool.and_eq_true] at n
    exact ⟨v, ws, A, B, h1, h2, Own.thaw hl h3 n.1, Owns.thaw hl h4 n.2⟩
end
theorem bor_ent {v : En → R (O × En)} {σ : St} {H : Hp} {Q : VK} (q : trV W (fun e => do let (o, _) ← v (shareAll e); R.need (indep o) (pure (o, e))) σ H Q) : trV W v σ H Q := by
  obtain ⟨F, L, e, o, e', ok, hf, k⟩ := q
  obtain ⟨⟨o1, e1⟩, h1, hf⟩ := R.bind_ok hf
  obtain ⟨h2, hf⟩ := R.need_ok hf
  cases hf
  refine ⟨frzL F H L, [], shareAll e, o, e1, ⟨frzL_in ok.sub, List.nodup_nil, fun a h => (by cases h), Envs.share ok.dj ok.en fun a h => h⟩, h1, fun F' H' M L' w st ok' got => ?_⟩
  have kp : ∀ a u, H a = some u → H' a = some u := fun a u h => st.kp a u h (by simp)
  have hl : ∀ a ∈ L, ∀ u, F' a = some u → ∃ vs, u = .lst vs := fun a ha u hu => by
    rcases st.fr a u hu with z | z | z
    · rcases frzL_from z with y | ⟨_, vs, y⟩
      · rw [ok.dj a ha] at y; cases y
      · have := ok'.sub a u hu
        rw [kp a _ y] at this
        cases this
        exact ⟨vs, rfl⟩
    · cases z
    · exact (ok.en.def_ a ha z).elim
  have fs : Sub F (thaw F' L) := fun a u h => by
    unfold thaw
    rw [if_neg fun z => by rw [ok.dj a z] at h; cases h]
    exact st.fs a u (frzL_sub ok.dj a u h)
  have dM : ∀ a ∈ M, a ∉ L := fun a ha hb => by
    rcases st.ow a (List.mem_append_left _ ha) with z | z
    · cases z
    · exact ok.en.def_ a hb z
  refine k (thaw F' L) H' M L w ⟨fs, fun a u h _ => kp a u h, fun a ha => ?_, fun a u h => ?_⟩ ⟨fun a u h => ?_, ok.nd, fun a ha => ?_, ok.en.keep fs fun a _ u h => kp a u h⟩ ⟨Own.thaw hl got.own h2, nodup_app (nodup_l got.nd) ok.nd dM, fun a ha => ?_⟩
  · rcases List.mem_append.mp ha with ha | ha
    · rcases st.ow a (List.mem_append_left _ ha) with z | z
      · cases z
      · exact .inr z
    · exact .inl ha
  · unfold thaw at h
    split at h
    · cases h
    · rename_i hn
      rcases st.fr a u h with z | z | z
      · rcases frzL_from z with y | ⟨y, _⟩
        · exact .inl y
        · exact (hn y).elim
      · cases z
      · exact .inr (.inr z)
  · unfold thaw at h
    split at h
    · cases h
    · exact ok'.sub a u h
  · unfold thaw
    rw [if_pos ha]
  · unfold thaw
    split
    · rfl
    · exact got.dj a ha
theorem sn_bor (hK : X.K = W.K) (ha : Sn W X sa a) (hp : plainT a = true) : Sn W X (Sm.mk1 fun e => do let (o, _) ← sa.val (shareAll e); R.need (indep o) (pure (o, e))) a :=
  Sn.plain hK (PE.imp ha.val fun _ _ _ q => bor_ent q) hp
end
end MP

set_option Elab.async false
set_option linter.all false
/-! Obj5: t.index(x), list(range(n)), isinstance of own classes. -/
namespace MP
open PySem L2
section
variable {W : Wd} {F H : Hp} {X : Cx} {sa sb sc : Sm} {a b c : Expr} {pos p : Pos} {es : List Expr}
theorem findIdx_first {α : Type} {f : α → Bool} : ∀ {xs : List α} {j : Nat}, xs.findIdx? f = some j → ∃ x, xs[j]? = some x ∧ f x = true ∧ ∀ m y, m < j → xs[m]? = some y → f y = false
  | [], j, h => by simp at h
  | x :: xs, j, h => by
    rw [List.findIdx?_cons] at h
    cases q : f x with
    | true =>
      rw [q] at h
      simp at h
      subst h
      exact ⟨x, rfl, q, fun m y hm _ => absurd hm (Nat.not_lt_zero _)⟩
    | false =>
      rw [q] at h
      simp at h
      obtain ⟨i, h1, rfl⟩ := h
      obtain ⟨y, h2, h3, h4⟩ := findIdx_first h1
      refine ⟨y, by simpa using h2, h3, fun m z hm hz => ?_⟩
      cases m with
      | zero => simp at hz; rw [← hz]; exact q
      | succ m => exact h4 m z (by omega) (by simpa using hz)
/-- t.m(..), t a known tuple -/
def tBT (r : V → List V → Hp → VK → Prop) (to : TE) (t : TA) : TE := fun σ H Q => to σ H fun x H1 => (∃ p vs, x = .ref p ∧ Tu H1 p vs) ∧ t σ H1 fun xs H2 => r x xs H2 Q
theorem pe_bmT {o e : Expr} {es : List Expr} {to : TE} {t : TA} {name : Str} {id : String} {apos cpos : Pos} {r : V → List V → Hp → VK → Prop} (slot : PySem.Slot "tuple" name id) (hty : typeOf (.builtin id) = pure (.type "method_descriptor")) (hm : MtR X id r) (ho : PE X o to) (ha : PA X (e :: es) t)
    (hb : attributeBase o name X.env (eval o X.env) = eval o X.env)
    (hfew : ((backTo cpos (starEach (e :: es) X.env)).all (fun x => !x.1) && (backToKw cpos (keywordEach [] X.env)).all (fun x => x.1.isSome) && decide ((e :: es).length + ([] : List Keyword).length + (if ([] : List Keyword).isEmpty then 0 else 1) < 30)) = true)
    (hline : (apos.endLine == cpos.line) = true) (hs : starEach (e :: es) X.env = (false, eval e X.env) :: starEach es X.env) (hpl : (backTo cpos (starEach es X.env)).any (·.1) = false) :
    PE X (.Call (.Attribute o name apos) (e :: es) [] cpos) (tBT r to t) := by
  constructor
  intro pins s σ H Q I h
  refine wpAny_Call_method_late hb hfew hline rfl (thn (ho.run pins s σ H _ I h) ?_)
  rintro v s1 ⟨x, H1, I1, r1, ⟨p, vs, rfl, ob, hp, hd⟩, q1⟩
  cases r1
  obtain ⟨g1, g2⟩ := I1.hok p _ hp
  obtain ⟨_, its, _, o2, g3, g4, _⟩ := g2
  rw [g1] at g3
  cases g3
  refine ⟨"tuple", id, PySem.F.plainAttrs_tuple, slot, hty, ⟨ob, g1, g4⟩, fun a ea => (by cases ea; exact ⟨ob, g1, hd⟩), ?_⟩
  have hA := ha.run cpos pins s1 σ H1 _ I1 q1
  rw [hs] at hA ⊢
  refine PySem.Calls.callWith_builtin (by show (false || (backTo cpos (starEach es X.env)).any (·.1)) = false; rw [hpl]; rfl) (PySem.Calls.evalArgs_plain (thn hA ?_))
  rintro us s2 ⟨vs2, H2, I2, r2, q2⟩
  exact hm pins s2 σ H2 (.ref p) vs2 (.ref p) us Q I2 rfl r2 q2
def idxT : Bool → String
  | true => "tuple"
  | false => "list"
def idxId : Bool → String
  | true => "tuple.index"
  | false => "list.index"
theorem idx_snd (hK : X.K = W.K) (t : Bool) : ∃ r, MtR X (idxId t) r ∧ OpS W (fun o p => do let d ← idxD t o.view p.view; pure (.sh d)) (fun x y H Q => r x [y] H Q) := by
  cases t with
  | true =>
    refine ⟨_, mt_tup_index, ?_⟩
    intro F H o p x y q Q sb s1 s2 hq k
    obtain ⟨d, h1, hq⟩ := R.bind_ok hq
    cases hq
    obtain ⟨xs, z, e, e2, h1⟩ : ∃ xs z, o.view = .tup xs ∧ p.view = .str z ∧ ((R.of (strsD xs)).bind fun ys => (R.of (ys.findIdx? fun y => decide (y = z))).bind fun j => R.ok (D.int (j : Nat))) = .ok d := by
      unfold idxD at h1
      split at h1
      · rename_i e0 e e2
        exact ⟨_, _, e, e2, h1⟩
      · rename_i e0 e
        cases e0
      · cases h1
    obtain ⟨ys, h2, h1⟩ := R.bind_ok h1
    obtain ⟨j, h3, h1⟩ := R.bind_ok h1
    have ed : D.int (j : Nat) = d := by
      injection h1
    subst ed
    have h2 := strsD_some (R.of_ok h2)
    subst h2
    obtain ⟨w, h4, h5, h6⟩ := findIdx_first (R.of_ok h3)
    have h5 := of_decide_eq_true h5
    subst h5
    obtain ⟨a, vs, rfl, h7, h8⟩ := s1.vtup e
    have h8 := reps_strs h8
    subst h8
    refine ⟨a, ys, w, j, rfl, by rw [s2.vstr e2], h7.sq sb, h4, fun m hm hz => ?_, k F H [] _ (New.sh sb rfl)⟩
    have := h6 m w hm hz
    simp at this
  | false =>
    refine ⟨_, mt_index, ?_⟩
    intro F H o p x y q Q sb s1 s2 hq k
    obtain ⟨d, h1, hq⟩ := R.bind_ok hq
    cases hq
    obtain ⟨xs, e, h1⟩ : ∃ xs, o.view = .lst xs ∧ R.need (flatD p.view && xs.all flatD) ((R.of (xs.findIdx? fun y => eqF y p.view)).bind fun j => R.ok (D.int (j : Nat))) = .ok d := by
      unfold idxD at h1
      split at h1
      · rename_i e0 e e2
        cases e0
      · rename_i e0 e
        exact ⟨_, e, h1⟩
      · cases h1
    obtain ⟨h2, h1⟩ := R.need_ok h1
    rw [Bool.and_eq_true] at h2
    obtain ⟨j, h3, h1⟩ := R.bind_ok h1
    cases h1
    obtain ⟨a, vs, rfl, h7, h8⟩ := s1.vlstF sb e h2.2
    have r2 := s2.flatRep h2.1
    obtain ⟨c, h4, h5, h6⟩ := findIdx_first (R.of_ok h3)
    obtain ⟨v, g1, g2⟩ := h8.get h4
    have fl : ∀ (m : Nat) (c : D), xs[m]? = some c → flatD c = true := fun m c hm => List.all_eq_true.mp h2.2 c (List.mem_of_getElem? hm)
    refine ⟨a, vs, y, j, v, rfl, rfl, SqL.of h7, flat_v r2 h2.1, flats_v h8 h2.2, g1, by rw [← eqF_v g2 r2 (fl _ _ h4) h2.1]; exact h5, fun m w hm hw => ?_, k F H [] _ (New.sh sb rfl)⟩
    obtain ⟨c2, g3, g4⟩ := h8.getV hw
    rw [← eqF_v g4 r2 (fl _ _ g3) h2.1]
    exact h6 m c2 hm g3
theorem idx_entT {r : V → List V → Hp → VK → Prop} (hr : OpS W (fun o p => do let d ← idxD true o.view p.view; pure (.sh d)) (fun x y H Q => r x [y] H Q)) {σ : St} {H : Hp} {Q : VK} (q : trV W (fun e => do
      let (x, e) ← sa.arg e
      let o ← x.see e
      R.need (isSeqD true o.view) (do
        let (y, e) ← sb.arg e
        let o ← x.see e
        let p ← y.see e
        let d ← idxD true o.view p.view
        pure (.sh d, e))) σ H Q) : tBT r (trA W sa.arg) (tCons (trA W sb.arg) tNil) σ H Q := by
  obtain ⟨F, L, e, o, e', ok, hf, k⟩ := q
  obtain ⟨⟨x, e1⟩, h1, hf⟩ := R.bind_ok hf
  obtain ⟨ox, h2, hf⟩ := R.bind_ok hf
  obtain ⟨h3, hf⟩ := R.need_ok hf
  obtain ⟨⟨y, e2⟩, h4, hf⟩ := R.bind_ok hf
  obtain ⟨ox', h5, hf⟩ := R.bind_ok hf
  obtain ⟨oy, h6, hf⟩ := R.bind_ok hf
  obtain ⟨d, h7, hf⟩ := R.bind_ok hf
  cases hf
  refine ⟨F, L, e, x, e1, ok, h1, fun F1 H1 M1 L1 v1 st1 ok1 got1 => ⟨?_, ?_⟩⟩
  · have s := sees_keep got1 Stp.refl ok1 h2
    cases hv : ox.view with
    | tup xs =>
      obtain ⟨a, vs, rfl, g1, _⟩ := s.vtup hv
      exact ⟨a, vs, rfl, g1.mono ok1.sub⟩
    | _ => rw [hv] at h3; cases h3
  · refine ⟨F1, L1, e1, y, e', ok1, h4, fun F2 H2 M2 L2 v2 st2 ok2 got2 => ?_⟩
    exact hr F2 H2 ox' oy v1 v2 (.sh d) Q ok2.sub (sees_keep got1 st2.drop ok2 h5) (sees_keep got2 Stp.refl ok2 h6) (by show (do let d ← idxD true ox'.view oy.view; pure (O.sh d) : R O) = _; rw [h7]; rfl) (fin_new (e := e) (st1.drop.trans st2.drop) ok2 k)
theorem idx_entL {r : V → List V → Hp → VK → Prop} {K : PySem.W.Frag} (hr : OpS W (fun o p => do let d ← idxD false o.view p.view; pure (.sh d)) (fun x y H Q => r x [y] H Q)) {σ : St} {H : Hp} {Q : VK} (q : trV W (fun e => do
      let (x, e) ← sa.arg e
      let o ← x.see e
      R.need (isSeqD false o.view) (do
        let (y, e) ← sb.arg e
        let o ← x.see e
        let p ← y.see e
        let d ← idxD false o.view p.view
        pure (.sh d, e))) σ H Q) : tBM K "list" r (trA W sa.arg) (tCons (trA W sb.arg) tNil) σ H Q := by
  obtain ⟨F, L, e, o, e', ok, hf, k⟩ := q
  obtain ⟨⟨x, e1⟩, h1, hf⟩ := R.bind_ok hf
  obtain ⟨ox, h2, hf⟩ := R.bind_ok hf
  obtain ⟨h3, hf⟩ := R.need_ok hf
  obtain ⟨⟨y, e2⟩, h4, hf⟩ := R.bind_ok hf
  obtain ⟨ox', h5, hf⟩ := R.bind_ok hf
  obtain ⟨oy, h6, hf⟩ := R.bind_ok hf
  obtain ⟨d, h7, hf⟩ := R.bind_ok hf
  cases hf
  refine ⟨F, L, e, x, e1, ok, h1, fun F1 H1 M1 L1 v1 st1 ok1 got1 => ⟨?_, ?_⟩⟩
  · have s := sees_keep got1 Stp.refl ok1 h2
    cases hv : ox.view with
    | lst xs =>
      obtain ⟨a, vs, rfl, g1, _⟩ := s.vlst ok1.sub hv
      exact .inl ⟨rfl, _, SqL.of g1⟩
    | _ => rw [hv] at h3; cases h3
  · refine ⟨F1, L1, e1, y, e', ok1, h4, fun F2 H2 M2 L2 v2 st2 ok2 got2 => ?_⟩
    exact hr F2 H2 ox' oy v1 v2 (.sh d) Q ok2.sub (sees_keep got1 st2.drop ok2 h5) (sees_keep got2 Stp.refl ok2 h6) (by show (do let d ← idxD false ox'.view oy.view; pure (O.sh d) : R O) = _; rw [h7]; rfl) (fin_new (e := e) (st1.drop.trans st2.drop) ok2 k)
theorem sn_idx {t : Bool} {apos cpos : Pos} (hK : X.K = W.K) (hbase : attributeBase a "index" X.env (eval a X.env) = eval a X.env) (hline : (apos.endLine == cpos.line) = true) (hs : notStar b = true) (ha : Sn W X sa a) (hb : Sn W X sb b) :
    Sn W X (Sm.mk1 fun e => do
      let (x, e) ← sa.arg e
      let o ← x.see e
      R.need (isSeqD t o.view) (do
        let (y, e) ← sb.arg e
        let o ← x.see e
        let p ← y.see e
        let d ← idxD t o.view p.view
        pure (.sh d, e))) (.Call (.Attribute a "index" apos) [b] [] cpos) := by
  obtain ⟨r, h1, h2⟩ := idx_snd (X := X) (W := W) hK t
  have hsc := star_cons hs [] X.env
  have ht : PA X [b] (tCons (trA W sb.arg) tNil) := pa_cons hb.arg pa_nil hsc
  have hany : (backTo cpos (starEach [] X.env)).any (·.1) = false := stars_any rfl
  have hall : ((backTo cpos (starEach [b] X.env)).all (fun x => !x.1) && (backToKw cpos (keywordEach [] X.env)).all (fun x => x.1.isSome)
      && decide ((b :: []).length + ([] : List Keyword).length + (if ([] : List Keyword).isEmpty then 0 else 1) < 30)) = true := by
    rw [hsc]; rfl
  cases t with
  | true => exact Sn.plain hK (PE.imp (pe_bmT PySem.F.slot_tuple_index PySem.F.type_tuple_index h1 ha.arg ht hbase hall hline hsc hany) fun _ _ _ q => idx_entT h2 q) rfl
  | false => exact Sn.plain hK (PE.imp (pe_bm PySem.F.plainAttrs_list PySem.F.slot_list_index PySem.F.type_list_index h1 ha.arg ht hbase hall hline hsc hany) fun _ _ _ q => idx_entL (K := X.K) h2 q) rfl

/-! ### isinstance of own classes -/
/-- what isinstance asks of the classes of the table -/
structure IsiOk (K : PySem.W.Frag) (W : Wd) (ks : List Nat) : Prop where
  one : ∀ k ∈ ks, Cls K (W.cls k) ∧ PySem.W.findIn K (.ref (W.cls k)) "__class__" = some (some (.builtin "object.__class__")) ∧ PySem.W.mroIn K (W.cls k) (.type "object") = some true
  cn : ks ≠ [] → PySem.W.specialIn K (.builtin "object.__class__") "__get__" = some (some (.builtin "getset_descriptor.__get__")) ∧ PySem.W.takesIn K (.builtin "object.__class__") = some true
  two : ∀ j ∈ ks, ∀ k ∈ ks, PySem.W.kitOne K (.ref (W.cls j)) (.ref (W.cls k)) = some (decide (j = k))
  blt : ∀ k ∈ ks, ∀ t ∈ ["NoneType", "bool", "int", "str", "tuple", "list"], PySem.W.kitOne K (.type t) (.ref (W.cls k)) = some false
theorem dTy_mem : ∀ d : D, hasTy d = true → dTy d ∈ ["NoneType", "bool", "int", "str", "tuple", "list"]
  | .non, _ => by decide
  | .bl _, _ => by show "bool" ∈ _; decide
  | .int _, _ => by show "int" ∈ _; decide
  | .str _, _ => by show "str" ∈ _; decide
  | .tup _, _ => by show "tuple" ∈ _; decide
  | .lst _, _ => by show "list" ∈ _; decide
  | .obj .., h => by cases h
  | .arr _, h => by cases h
theorem isCl_ty {ks : List Nat} {k : Nat} (hI : IsiOk X.K W ks) (hk : k ∈ ks) (sb : Sub F H) {o q : O} {v : V} (s : Sees W F H o v) (hq : isClD ks k o = .ok q) : ∃ t b, TyX X.K H v t ∧ PySem.W.kitOne X.K t (.ref (W.cls k)) = some b ∧ q = shB b := by
  cases o with
  | sh d =>
    by_cases hh : hasTy d = true
    · have e : isClD ks k (.sh d) = .ok (shB false) := by
        cases d <;> first | rfl | cases hh
      rw [e] at hq
      cases hq
      exact ⟨_, false, s.ty sb hh, hI.blt k hk _ (dTy_mem d hh), rfl⟩
    · cases d with
      | obj j xs =>
        obtain ⟨h1, h2⟩ := R.need_ok (show R.need (ks.contains j) (.ok (.sh (.bl (decide (j = k))))) = .ok q from hq)
        cases h2
        have hj : j ∈ ks := by simpa using h1
        obtain ⟨c1, c2, c3⟩ := hI.one j hj
        obtain ⟨c4, c5⟩ := hI.cn (fun z => by rw [z] at hj; cases hj)
        obtain ⟨L, _, a, dx, vs, rfl, h2, _⟩ := s
        exact ⟨_, _, .base (.ins (sb _ _ h2) c1 c2 c4 c5 c3), hI.two j hj k hk, rfl⟩
      | arr ns => cases hq
      | _ => exact absurd rfl hh
  | lst xs =>
    cases hq
    exact ⟨_, false, s.ty sb rfl, hI.blt k hk _ (by show "list" ∈ _; decide), rfl⟩
  | ins c fs => cases hq
theorem sn_isCl {ks : List Nat} {k : Nat} {x : Str} {p2 : Pos} (hK : X.K = W.K) (hI : IsiOk X.K W ks) (hk : k ∈ ks) (gl : Gl X "isinstance") (hm : X.mg "isinstance" = none) (gt : Gl X x) (hmt : X.mg x = some (.ref (W.cls k))) (hd : (x == ("__debug__" : Str)) = false) (hs : notStar a = true) (ha : Sn W X sa a) :
    Sn W X (one sa (isClD ks k)) (.Call (.Name "isinstance" p) [a, .Name x p2] [] pos) := by
  have ht : PA X [a, .Name x p2] (tCons (trA W sa.arg) (tCons (tC (.ref (W.cls k))) tNil)) :=
    pa_cons ha.arg (pa_cons (pe_glob gt hmt (show RelV (.ref (W.cls k)) _ from rfl) hd) pa_nil) (star_cons hs _ X.env)
  refine Sn.plain hK (PE.imp (pe_callB call_isi gl hm (by decide +kernel) ht (by decide +kernel) (by decide +kernel) (star_cons hs _ X.env) (stars_any rfl)) fun σ H Q q => ?_) rfl
  obtain ⟨F, L, e, o, e', ok, hf, kk⟩ := q
  obtain ⟨⟨x, e1⟩, h1, hf⟩ := R.bind_ok hf
  obtain ⟨ox, h2, hf⟩ := R.bind_ok hf
  obtain ⟨q, h3, hf⟩ := R.bind_ok hf
  cases hf
  refine ⟨F, L, e, x, e', ok, h1, fun F1 H1 M1 L1 v1 st1 ok1 got1 => ?_⟩
  obtain ⟨t, b, g1, g2, g3⟩ := isCl_ty hI hk ok1.sub (sees_keep got1 Stp.refl ok1 h2) h3
  subst g3
  refine ⟨v1, .ref (W.cls k), t, .ref (W.cls k), b, rfl, .own _, g1, g2, ?_⟩
  exact fin_new (e := e) st1.drop ok1 kk F1 H1 [] _ (New.sh ok1.sub rfl)
end
end MP

set_option Elab.async false
set_option linter.all false
set_option maxRecDepth 100000
/-! Obj6: == of own objects. -/
namespace MP
open PySem L2
section
variable {prog : Program} {w : World} {A : Around} {E : Value → Shared → Prop} {s : Shared} {K : PySem.W.Frag} {x C f : Addr} {ox : Obj} {od : Option Obj} {b : Value}
open PySem.W in
theorem objNe_own (hu : A.units < cLine) (X : K.In s.heap) (I : InstAt s.heap x ox C od) (hs : findIn K (.ref C) "__eq__" = some (some (.ref f))) (hf : isFn K (.ref f) = true) {Q : Fin → Shared → Prop}
    (h : wpAny (model prog w) A (call (.ref f) [.ref x, b]) (fun v s' => ∃ z, v = .bool z ∧ Q (.done (.ret (.bool (!z)))) s') E s) : wpAny (model prog w) A (Builtin.«object.__ne__» ⟨[.ref x, b], []⟩) Q E s := by
  unfold Builtin.«object.__ne__»
  repeat (first
    | with_reducible refine wpAny_cRoomFor hu ?_
    | (refine wpAny_bind (m := callSpecialIfBound? (.ref x) (Str.ofString "__eq__") [b])
        (ifBound_K X I hs hf (wpAny_mono h (fun r s' hr => by
          obtain ⟨z, rfl, hq⟩ := hr
          repeat (first | exact hq | exact wpAny_pure hq | exact wpAny_truthy_bool hq | (refine wpAny_bind (m := truthy (.bool _)) (wpAny_truthy_bool ?_)) | wp_step)) fun _ _ e => e)))
    | wp_step)
open PySem.W in
/-- != where the class has no __ne__ of its own: not its ==, one call below -/
theorem ne_own (hu : A.units + 1 < cLine) (X : K.In s.heap) (I : InstAt s.heap x ox C od) (hb : Looks (model prog w) s.heap (typeOf b) (.ref C)) (hn : findIn K (.ref C) "__ne__" = some (some (.builtin "object.__ne__")))
    (hm : mroIn K C (.type "object") = some true) (hs : findIn K (.ref C) "__eq__" = some (some (.ref f))) (hf : isFn K (.ref f) = true) {Q : Value → Shared → Prop}
    (h : wpAny (model prog w) A.in1 (call (.ref f) [.ref x, b]) (fun v s' => ∃ z, v = .bool z ∧ Q (.bool (!z)) s') E s) : wpAny (model prog w) A (richCompare .NotEq (.ref x) b) Q E s := by
  have S : Slot "object" "__ne__" "object.__ne__" := F.cmp_object.ne
  have fin : wpAny (model prog w) A (call (.builtin "object.__ne__") (.ref x :: [b])) (fun v s' => ∃ z, v = .bool z ∧ Q (.bool z) s') E s := by
    refine wpAny_call (codeAny_call_builtin S.plain F.cmpEntry_ne (check_slot F.cmpKind_ne F.cmpSplit_ne (I.type.andThen (looks_mroIn X hm)) (F.cmpArgs_ne _ _) (objNe_own (A := A.in1) hu X I hs hf (wpAny_mono h (fun v s' hv => ?_) fun _ _ e => e))))
    obtain ⟨z, rfl, hq⟩ := hv
    exact ⟨z, rfl, _, rfl, hq⟩
  have fin2 : wpAny (model prog w) A (call (.builtin "object.__ne__") ([.ref x] ++ [b]) >>= fun v => pure (some v)) (fun r s' => ∃ z, r = some (.bool z) ∧ Q (.bool z) s') E s :=
    wpAny_bind (wpAny_mono fin (fun v s' hv => by obtain ⟨z, rfl, hq⟩ := hv; exact wpAny_pure ⟨z, rfl, hq⟩) fun _ _ e => e)
  have one : wpAny (model prog w) A (tryCompare (.ref x) "__ne__" b) (fun r s' => ∃ z, r = some (.bool z) ∧ Q (.bool z) s') E s := by
    unfold tryCompare
    have q2 : wpAny (model prog w) A (callSpecialIfBound? (.ref x) "__ne__" [b]) (fun r s' => ∃ z, r = some (.bool z) ∧ Q (.bool z) s') E s := by
      simp only [callSpecialIfBound?, bindSpecialIfBound?]
      refine wpAny_holding (wpAny_bind (wpAny_bind (wpAny_bind (I.type.here ((looks_findIn X hn).here ?_)))))
      simp only [S.bind]
      refine wpAny_bind (wpAny_askSetting (wpAny_ite ?_))
      split
      · exact wpAny_bind (wpAny_pure (wpAny_pure fin2))
      · exact wpAny_tryCatch (wpAny_bind (wpAny_pure (wpAny_pure fin2)))
    refine wpAny_bind (wpAny_mono q2 (fun r s' hr => ?_) fun _ _ e => e)
    obtain ⟨z, rfl, hq⟩ := hr
    exact wpAny_pure ⟨z, rfl, hq⟩
  unfold richCompare
  simp only [oneThing_ref]
  refine wpAny_holding (wpAny_bind (wpAny_cRoomFor (Nat.lt_of_succ_lt hu) ?_))
  rw [cmpInfo_NotEq]
  dsimp only
  refine wpAny_bind (I.type.here (wpAny_bind (hb.here ?_)))
  rw [show (Value.ref C != Value.ref C) = false from by simp]
  simp only [Bool.false_eq_true, if_false]
  refine wpAny_bind (wpAny_pure ?_)
  simp only [Bool.false_eq_true, if_false]
  refine wpAny_bind (wpAny_mono one (fun r s' hr => ?_) fun _ _ e => e)
  obtain ⟨z, rfl, hq⟩ := hr
  exact wpAny_pure hq
end
section
variable {X : Cx} {n : Nat} {f C : Addr} {fd : FuncData} {ps : List Str} {sp : Sp}
/-- what == of two objects of one class gives, by its own def -/
def rOwnEq (C : Addr) (sp : Sp) : R2 := fun x y H Q => ∃ a b dx dy fs gs, x = .ref a ∧ y = .ref b ∧ H a = some (.ins C dx fs) ∧ H b = some (.ins C dy gs) ∧ sp [.ref a, .ref b] H (fun v H' => ∃ z, v = .bl z ∧ Q v H') (fun _ _ _ => False)
theorem op_ownEq (Fn : FnG X.prog X.w X.K X.mg X.base n f fd ps sp) (hr : Room n X.A) (hg : X.A.guards = some []) (hs : PySem.W.findIn X.K (.ref C) "__eq__" = some (some (.ref f))) (hf : PySem.W.isFn X.K (.ref f) = true)
    (hb : ∀ us : List Value, us.length = ps.length → bindArgs fd ⟨us, []⟩ = pure (ps.zip us)) : OpR X (compareOp .Eq) (rOwnEq C sp) := by
  intro pins s σ H x y v u Q I rx ry hq
  obtain ⟨a, b, dx, dy, fs, gs, rfl, rfl, ha, hb', q⟩ := hq
  cases rx
  cases ry
  obtain ⟨mA, J, _⟩ := ins_get I.hok ha
  obtain ⟨mB, J', _⟩ := ins_get I.hok hb'
  obtain ⟨od, J, _⟩ := J.look
  obtain ⟨od', J', _⟩ := J'.look
  obtain ⟨m, hF⟩ := I.fr
  have hl := Fn.len _ _ _ _ q
  show wpAny (model X.prog X.w) X.A (richCompare .Eq (.ref a) (.ref b)) (EP X pins σ Q) X.xe s
  refine PySem.W.cmp_K (op := .Eq) (tb := .ref C) hr.units0 hF I.ok.mod.kin J J'.type (by simp [PySem.W.notFirst]) hs hf ?_
  refine wpAny_mono (run_fng (us := [.ref a, .ref b]) (vs := [.ref a, .ref b]) Fn hr hg I (.of_eq (hb [.ref a, .ref b] (by rw [← hl]; rfl))) (.cons rfl (.cons rfl .nil)) q) (fun r s' z => ?_) fun _ _ x => x
  obtain ⟨v, H', I', rv, z, hz, q2⟩ := z
  subst hz
  cases rv
  exact ⟨.bl z, H', I', rfl, q2⟩
/-- what != gives -/
def rOwnNe (C : Addr) (sp : Sp) : R2 := fun x y H Q => ∃ a b dx dy fs gs, x = .ref a ∧ y = .ref b ∧ H a = some (.ins C dx fs) ∧ H b = some (.ins C dy gs) ∧ sp [.ref a, .ref b] H (fun v H' => ∃ z, v = .bl z ∧ Q (.bl (!z)) H') (fun _ _ _ => False)
theorem op_ownNe (Fn : FnG X.prog X.w X.K X.mg X.base n f fd ps sp) (hr : Room (n + 1) X.A) (hg : X.A.guards = some []) (hs : PySem.W.findIn X.K (.ref C) "__eq__" = some (some (.ref f))) (hf : PySem.W.isFn X.K (.ref f) = true)
    (hn : PySem.W.findIn X.K (.ref C) "__ne__" = some (some (.builtin "object.__ne__"))) (hm : PySem.W.mroIn X.K C (.type "object") = some true)
    (hb : ∀ us : List Value, us.length = ps.length → bindArgs fd ⟨us, []⟩ = pure (ps.zip us)) : OpR X (compareOp .NotEq) (rOwnNe C sp) := by
  intro pins s σ H x y v u Q I rx ry hq
  obtain ⟨a, b, dx, dy, fs, gs, rfl, rfl, ha, hb', q⟩ := hq
  cases rx
  cases ry
  obtain ⟨mA, J, _⟩ := ins_get I.hok ha
  obtain ⟨mB, J', _⟩ := ins_get I.hok hb'
  obtain ⟨od, J, _⟩ := J.look
  obtain ⟨od', J', _⟩ := J'.look
  have hl := Fn.len _ _ _ _ q
  have sb : L2.Sub X n X.A.in1 := L2.Sub.in1 ⟨hr, rfl⟩
  have e0 : Env0 X.prog X.w X.K X.mg X.base X.A.in1 X.stack s H := by
    have e := I.env0
    exact ⟨by rw [sb.fr]; exact e.frames, e.mod, e.bs, e.bsz, e.funs, e.frf, e.hok, e.bare⟩
  have r2 : Vals [V.ref a, V.ref b] [Value.ref a, Value.ref b] := .cons rfl (.cons rfl .nil)
  show wpAny (model X.prog X.w) X.A (richCompare .NotEq (.ref a) (.ref b)) (EP X pins σ Q) X.xe s
  refine ne_own (Nat.lt_of_le_of_lt (Nat.le_refl _) sb.room.units0) I.kIn J J'.type hn hm hs hf ?_
  refine wpAny_call (codeAny_mono (Fn.run X.A.in1 X.stack s H ⟨[.ref a, .ref b], []⟩ [.ref a, .ref b] [.ref a, .ref b] _ _ sb.room hg e0 (.of_eq (hb [.ref a, .ref b] (by rw [← hl]; rfl))) r2 q) fun r s' hq => ?_)
  cases r with
  | error e => exact False.elim hq
  | ok fl =>
    cases fl with
    | ret w =>
      obtain ⟨v, H', I', rv, z, hz, q3⟩ := I.after hq
      subst hz
      cases rv
      exact ⟨z, rfl, .bl (!z), H', I', rfl, q3⟩
    | next => exact False.elim hq
    | brk => exact False.elim hq
    | cont => exact False.elim hq
end
end MP

set_option Elab.async false
set_option linter.all false
set_option maxRecDepth 100000
/-! Obj7: own ==, own len, str by the evaluator. -/
namespace MP
open PySem L2
section
variable {W : Wd} {X : Cx} {F H : Hp} {cf : Cfg} {i k : Nat}
theorem isSh_ok {o : O} {v : V} (sb : Sub F H) (s : Sees W F H o v) (h : isSh k o = true) : ∃ a dx fs, v = .ref a ∧ H a = some (.ins (W.cls k) dx fs) ∧ Own W F H o v [] := by
  obtain ⟨M, own⟩ := s
  cases o with
  | sh d =>
    cases d with
    | obj c xs =>
      obtain ⟨hM, a, dx, vs, rfl, h2, h3, h4⟩ := own
      obtain rfl : c = k := of_decide_eq_true h
      exact ⟨a, dx, _, rfl, sb _ _ h2, rfl, a, dx, vs, rfl, h2, h3, h4⟩
    | _ => cases h
  | lst xs => cases h
  | ins c fs => cases h
theorem allSh_owns : ∀ {os : List O} {vs : List V} {C : List Addr}, allSh os = true → Owns W F H os vs C → C = []
  | [], _, _, _, h => h.2
  | .sh d :: os, _, _, ha, h => by
    obtain ⟨v, ws, A, B, rfl, rfl, h1, h2⟩ := h
    rw [h1.1, allSh_owns (os := os) ha h2]
    rfl
  | .lst _ :: _, _, _, ha, _ => by cases ha
  | .ins _ _ :: _, _, _, ha, _ => by cases ha
theorem eqOD_inv {ne : Bool} {r q : O} (h : eqOD ne r = .ok q) : ∃ b, r = .sh (.bl b) ∧ q = .sh (.bl (if ne then !b else b)) := by
  cases r with
  | sh d =>
    cases d with
    | bl b => cases h; exact ⟨b, rfl, rfl⟩
    | _ => cases h
  | _ => cases h
theorem eqO_snd (ne : Bool) : OpS W (eqOF cf k i ne) (fun x y H Q => ∃ a b dx dy fs gs, x = .ref a ∧ y = .ref b ∧ H a = some (.ins (W.cls k) dx fs) ∧ H b = some (.ins (W.cls k) dy gs) ∧
    spC W (cf.low i) [.ref a, .ref b] H (fun v H' => ∃ z, v = .bl z ∧ Q (.bl (if ne then !z else z)) H') fun _ _ _ => False) := by
  intro F H o p x y q Q sb s1 s2 e kk
  obtain ⟨h1, e⟩ := MP.R.need_ok e
  rw [Bool.and_eq_true] at h1
  obtain ⟨⟨r, os'⟩, h2, e⟩ := MP.R.bind_ok e
  obtain ⟨h3, e⟩ := MP.R.need_ok e
  obtain ⟨b, h4, rfl⟩ := eqOD_inv e
  have h4 : r = .sh (.bl b) := h4
  subst h4
  obtain ⟨a1, dx, fs, rfl, g1, w1⟩ := isSh_ok sb s1 h1.1
  obtain ⟨a2, dy, gs, rfl, g2, w2⟩ := isSh_ok sb s2 h1.2
  refine ⟨a1, a2, dx, dy, fs, gs, rfl, rfl, g1, g2, F, [], [o, p], _, os', sb, ⟨_, _, [], [], rfl, rfl, w1, _, _, [], [], rfl, rfl, w2, rfl, rfl⟩, List.nodup_nil, fun a ha => (by cases ha), h2, fun F' H' M C' v st sb' own owns nd dj => ?_⟩
  have hC := allSh_owns h3 owns
  subst hC
  obtain ⟨hM, hv⟩ := own
  subst hM
  have hv : v = .bl b := hv
  subst hv
  exact ⟨b, rfl, kk F' H' [] _ ⟨st, sb', ⟨rfl, rfl⟩, List.nodup_nil, fun a ha => (by cases ha)⟩⟩
def neOp (ne : Bool) : CmpOp := if ne then .NotEq else .Eq
/-- what the two classes' facts are -/
structure EqC (K : PySem.W.Frag) (C f : Addr) : Prop where
  eq : PySem.W.findIn K (.ref C) "__eq__" = some (some (.ref f))
  fn : PySem.W.isFn K (.ref f) = true
  ne : PySem.W.findIn K (.ref C) "__ne__" = some (some (.builtin "object.__ne__"))
  ob : PySem.W.mroIn K C (.type "object") = some true
def rEqO (W : Wd) (cf : Cfg) (k i : Nat) (ne : Bool) : R2 := fun x y H Q => ∃ a b dx dy fs gs, x = .ref a ∧ y = .ref b ∧ H a = some (.ins (W.cls k) dx fs) ∧ H b = some (.ins (W.cls k) dy gs) ∧
    spC W (cf.low i) [.ref a, .ref b] H (fun v H' => ∃ z, v = .bl z ∧ Q (.bl (if ne then !z else z)) H') fun _ _ _ => False
theorem op_eqO {n : Nat} {f : Addr} {fd : FuncData} {ps : List Str} (ne : Bool) (c : EqC X.K (W.cls k) f) (Fn : Below n (cf.low i) fun j => FnG X.prog X.w X.K X.mg X.base j f fd ps (spC W (cf.low i))) (hr : Room n X.A) (hg : X.A.guards = some [])
    (hb : ∀ us : List Value, us.length = ps.length → bindArgs fd ⟨us, []⟩ = pure (ps.zip us)) : OpR X (compareOp (neOp ne)) (rEqO W cf k i ne) := by
  rcases Fn with hbad | ⟨j, rfl, Fn⟩
  · intro pins s σ H x y v u Q I rx ry hq
    obtain ⟨a, b, dx, dy, fs, gs, _, _, _, _, q⟩ := hq
    exact (spC_bad hbad q).elim
  · cases ne with
    | false =>
      intro pins s σ H x y v u Q I rx ry hq
      obtain ⟨a, b, dx, dy, fs, gs, h1, h2, h3, h4, q⟩ := hq
      refine op_ownEq Fn (hr.mono (Nat.le_succ _)) hg c.eq c.fn hb pins s σ H x y v u Q I rx ry ⟨a, b, dx, dy, fs, gs, h1, h2, h3, h4, ?_⟩
      obtain ⟨F, C, os, o, os', e1, e2, e3, e4, e5, e6⟩ := q
      refine ⟨F, C, os, o, os', e1, e2, e3, e4, e5, fun F' H' M C' v st sb own owns nd dj => ?_⟩
      obtain ⟨z, rfl, q⟩ := e6 F' H' M C' v st sb own owns nd dj
      exact ⟨z, rfl, q⟩
    | true => exact op_ownNe Fn hr hg c.eq c.fn c.ne c.ob hb
theorem sn_eqO {n : Nat} {f : Addr} {fd : FuncData} {ps : List Str} {ne : Bool} {sa sb : Sm} {a b : Expr} {pos : Pos} (hK : X.K = W.K) (c : EqC X.K (W.cls k) f) (Fn : Below n (cf.low i) fun j => FnG X.prog X.w X.K X.mg X.base j f fd ps (spC W (cf.low i))) (hr : Room n X.A) (hg : X.A.guards = some [])
    (hb : ∀ us : List Value, us.length = ps.length → bindArgs fd ⟨us, []⟩ = pure (ps.zip us)) (hb' : notSet b = true) (ha : Sn W X sa a) (hbb : Sn W X sb b) : Sn W X (two sa sb (eqOF cf k i ne)) (.Compare a [neOp ne] [b] pos) := by
  have h1 := op_eqO (X := X) (W := W) (cf := cf) (k := k) (i := i) ne c Fn hr hg hb
  have hm := notSet_mark hb' (neOp ne)
  have val := PE.imp (pe_cmpR (pos := pos) h1 ha.arg hbb.arg hm) fun _ _ _ q => two_ent (eqO_snd ne) q
  refine ⟨val, arg_gen val, PT.imp (pt_cmpR h1 ha.arg hbb.arg hm) fun σ H Q q => ?_, fun z => (by cases z), fun tg _ => pi_gen hK val⟩
  refine two_ent (eqO_snd ne) (tru_of_val (fun e o e' z => ?_) q)
  obtain ⟨_, _, z⟩ := MP.R.bind_ok z
  obtain ⟨_, _, z⟩ := MP.R.bind_ok z
  obtain ⟨_, _, z⟩ := MP.R.bind_ok z
  obtain ⟨_, _, z⟩ := MP.R.bind_ok z
  obtain ⟨_, z1, z⟩ := MP.R.bind_ok z
  cases z
  obtain ⟨_, z1⟩ := MP.R.need_ok z1
  obtain ⟨_, _, z1⟩ := MP.R.bind_ok z1
  obtain ⟨_, z1⟩ := MP.R.need_ok z1
  obtain ⟨b, _, rfl⟩ := eqOD_inv z1
  exact ⟨_, rfl⟩
end
end MP

set_option Elab.async false
set_option linter.all false
set_option maxRecDepth 100000
/-! Ex1: list(range(..)), xs[:0:-1], len and str of own objects. -/
namespace MP
open PySem L2
section
variable {W : Wd} {X : Cx} {sa sb : Sm} {a b : Expr} {p p2 p3 pos pos2 : Pos}
theorem rgV_reps {W : Wd} {F : Hp} (lo hi : Int) : Reps W F (rangeD lo hi) (rgV lo hi) := by
  unfold rangeD rgV
  generalize (hi - lo).toNat = n
  have key : ∀ (ks : List Nat), Reps W F (ks.map fun (k : Nat) => D.int (lo + (k : Int))) (ks.map fun k => V.int (lo + (k : Nat))) := by
    intro ks
    induction ks with
    | nil => rfl
    | cons k ks ih => exact ⟨_, _, rfl, rfl, ih⟩
  exact key _
theorem rangeOk_rg {lo hi : Int} (h : rangeOk lo hi = true) (hl : (rangeD lo hi).length ≤ lim) : RgOk lo hi := by
  unfold rangeOk at h
  have h := of_decide_eq_true h
  have e : (rangeD lo hi).length = (hi - lo).toNat := by simp [rangeD]
  rw [e] at hl
  exact ⟨h.1, h.2.1, h.2.2.1, h.2.2.2, hl⟩
def lrV (it : En → R (List D × En)) : En → R (O × En) := fun e => do
  let (xs, e) ← it e
  R.need (decide (xs.length ≤ lim)) (pure (.lst (xs.map O.sh), e))
theorem sn_lrange1 (hK : X.K = W.K) (hc : X.calm = true) (gl : Gl X "range") (hm : X.mg "range" = none) (gl2 : Gl X "list") (hm2 : X.mg "list" = none) (hs : notStar a = true) (ha : Sn W X sa a) : Sn W X (Sm.mk1 (lrV fun e => do
      let (x, e) ← sa.arg e
      let o ← x.see e
      match o.view with
      | .int n => R.need (rangeOk 0 n) (pure (rangeD 0 n, e))
      | _ => .bad)) (.Call (.Name "list" p2) [.Call (.Name "range" p) [a] [] pos] [] pos2) := by
  have hsc := star_cons hs [] X.env
  refine Sn.plain hK (PE.imp (pe_listRg (p := p2) (pos := pos2) hc gl2 hm2 (prg_1 (p := p) (pos := pos) gl hm ha.arg hsc)) fun σ H Q q => ?_) rfl
  obtain ⟨F, L, e, o, e', ok, hf, k⟩ := q
  obtain ⟨⟨xs, e2⟩, hi, hf⟩ := R.bind_ok hf
  obtain ⟨hl, hf⟩ := R.need_ok hf
  cases hf
  obtain ⟨⟨x, e1⟩, h1, hi⟩ := R.bind_ok hi
  obtain ⟨ox, h2, hi⟩ := R.bind_ok hi
  refine ⟨F, L, e, x, e1, ok, h1, fun F1 H1 M1 L1 v1 st1 ok1 got1 => ?_⟩
  split at hi
  · rename_i n en
    obtain ⟨h3, hi⟩ := R.need_ok hi
    cases hi
    refine ⟨n, (sees_keep got1 Stp.refl ok1 h2).vint en, rangeOk_rg h3 (of_decide_eq_true hl), fun q hq => ?_⟩
    exact fin_new (e := e) st1.drop ok1 k _ _ _ _ (New.lst ok1.sub hq (rgV_reps 0 n))
  · cases hi
theorem sn_lrange2 (hK : X.K = W.K) (hc : X.calm = true) (gl : Gl X "range") (hm : X.mg "range" = none) (gl2 : Gl X "list") (hm2 : X.mg "list" = none) (hs : notStar a = true) (hs2 : notStar b = true) (ha : Sn W X sa a) (hb : Sn W X sb b) : Sn W X (Sm.mk1 (lrV fun e => do
      let (x, e) ← sa.arg e
      let (y, e) ← sb.arg e
      let o ← x.see e
      let p ← y.see e
      match o.view, p.view with
      | .int m, .int n => R.need (rangeOk m n) (pure (rangeD m n, e))
      | _, _ => .bad)) (.Call (.Name "list" p2) [.Call (.Name "range" p) [a, b] [] pos] [] pos2) := by
  have hsc2 := star_cons hs2 [] X.env
  have hsc := star_cons hs [b] X.env
  refine Sn.plain hK (PE.imp (pe_listRg (p := p2) (pos := pos2) hc gl2 hm2 (prg_2 (p := p) (pos := pos) gl hm ha.arg hb.arg hsc hsc2 (by rw [hsc2]; rfl))) fun σ H Q q => ?_) rfl
  obtain ⟨F, L, e, o, e', ok, hf, k⟩ := q
  obtain ⟨⟨xs, e0⟩, hi, hf⟩ := R.bind_ok hf
  obtain ⟨hl, hf⟩ := R.need_ok hf
  cases hf
  obtain ⟨⟨x, e1⟩, h1, hi⟩ := R.bind_ok hi
  obtain ⟨⟨y, e2⟩, h2, hi⟩ := R.bind_ok hi
  obtain ⟨ox, h3, hi⟩ := R.bind_ok hi
  obtain ⟨oy, h4, hi⟩ := R.bind_ok hi
  refine ⟨F, L, e, x, e1, ok, h1, fun F1 H1 M1 L1 v1 st1 ok1 got1 => ⟨F1, L1, e1, y, e2, ok1, h2, fun F2 H2 M2 L2 v2 st2 ok2 got2 => ?_⟩⟩
  split at hi
  · rename_i m n em en
    obtain ⟨h5, hi⟩ := R.need_ok hi
    cases hi
    refine ⟨m, n, (sees_keep got1 st2.drop ok2 h3).vint em, (sees_keep got2 Stp.refl ok2 h4).vint en, rangeOk_rg h5 (of_decide_eq_true hl), fun q hq => ?_⟩
    exact fin_new (e := e) (st1.drop.trans st2.drop) ok2 k _ _ _ _ (New.lst ok2.sub hq (rgV_reps m n))
  · cases hi
end
end MP
/-! ### xs[:0:-1] -/
namespace HT
open PySem PySem.Spec PyProof.Rows
theorem r0_bounds (n : Nat) : sliceBounds none (some 0) (some (-1)) n = ((n : Int) - 1, (if n = 0 then -1 else 0), -1) := by
  unfold sliceBounds
  have h1 : ¬ ((-1 : Int) > 0) := by decide
  simp only [Option.getD_some, h1, if_false]
  cases n with
  | zero => decide
  | succ n =>
    have e : max (-1 : Int) (min 0 (((n + 1 : Nat) : Int) - 1)) = 0 := by omega
    simp [e]
    omega
theorem r0_range (n : Nat) : sliceRange ((n : Int) - 1) (if n = 0 then -1 else 0) (-1) = ((List.range (n - 1)).map fun k => 1 + k).reverse := by
  unfold sliceRange
  have h1 : ¬ ((-1 : Int) > 0) := by decide
  cases n with
  | zero => decide
  | succ n =>
    have hn : ¬ (n + 1 = 0) := by omega
    simp only [h1, if_false, hn]
    have ec : (if ((n + 1 : Nat) : Int) - 1 > 0 then (((n + 1 : Nat) : Int) - 1 - 0 - -1 - 1) / (- -1) else 0) = (n : Int) := by
      rw [show (- -1 : Int) = 1 by decide, Int.ediv_one]
      split <;> omega
    rw [ec, Int.toNat_natCast]
    apply List.ext_getElem
    · simp
    · intro i g1 g2
      rw [List.getElem_map, List.getElem_reverse]
      simp at g1
      simp
      omega
theorem r0_pick (items : Array Value) : slicePick items none (some 0) (some (-1)) = (items.toList.drop 1).reverse.toArray := by
  unfold slicePick
  rw [r0_bounds]
  show ((sliceRange ((items.size : Int) - 1) (if items.size = 0 then -1 else 0) (-1)).filterMap (items[·]?)).toArray = _
  rw [r0_range, List.filterMap_reverse]
  have h := pick_run items 1 (items.size - 1)
  rw [h, List.take_of_length_le (by rw [List.length_drop, Array.length_toList]; exact Nat.le_refl _)]
end HT
namespace L2
open PySem PySem.Spec PyProof.Rows
def tRev0 (K : PySem.W.Frag) (te : TE) : TE := fun σ H Q => te σ H fun x H1 => ∃ a xs, x = .ref a ∧ SqL K H1 a xs ∧ ∀ p, H1 p = none → Q (.ref p) (upd H1 p (.lst (xs.drop 1).reverse))
theorem pe_rev0 {X : Cx} {e : Expr} {te : TE} {k k0 : Nat} {p0 p1 p2 p3 pos : Pos} (he : PE X e te) : PE X (.Subscript e (.Slice none (some (.Constant (.int 0) k0 p0)) (some (.UnaryOp .USub (.Constant (.int 1) k p1) p2)) p3) pos) (tRev0 X.K te) := by
  refine ⟨fun pins s σ H Q I h => ?_⟩
  refine Subscript_ (thn (he.run pins s σ H _ I h) fun v s1 ⟨x, H1, I1, r1, q1⟩ => ?_)
  obtain ⟨a, xs, ex, hx, q⟩ := q1
  subst ex
  cases r1
  have hst : PO X (some (.UnaryOp .USub (.Constant (.int 1) k p1) p2)) (tPart (tUn (rU fun i => .int (-i)) (tC (.int 1)))) := po_some (pe_un un_neg pe_int)
  have hup : PO X (some (.Constant (.int 0) k0 p0)) (tPart (tC (.int 0))) := po_some pe_int
  refine wpAny_Slice (thn (po_none.run pins s1 σ H1 (fun o H2 => o = none ∧ H2 = H1) I1 ⟨rfl, rfl⟩) fun vl s2 ⟨l, H2, I2, pl, el, e2⟩ => ?_)
  subst el e2
  refine thn (hup.run pins s2 σ H2 (fun o H3 => o = some 0 ∧ H3 = H2) I2 ⟨0, rfl, rfl, rfl⟩) fun vu s3 ⟨u, H3, I3, pu, eu, e3⟩ => ?_
  subst eu e3
  refine thn (hst.run pins s3 σ H3 (fun o H4 => o = some (-1) ∧ H4 = H3) I3 ⟨1, rfl, -1, rfl, rfl, rfl⟩) fun vs s4 ⟨o, H4, I4, ps, eo, e4⟩ => ?_
  subst eo e4
  have I5 : Inv X pins σ H4 { s4 with heap := s4.heap.push { cls := .type "slice", data := .fields #[vl, vu, vs] } } := I4.kept (t' := s4.toks) fun b ob q => Heap.get?_push_of_some _ q
  obtain ⟨its, r, ht, hz⟩ := I5.list hx
  have hlen := r.length
  show wpAny (model X.prog X.w) X.A (subscriptTail e (.Slice none (some (.Constant (.int 0) k0 p0)) (some (.UnaryOp .USub (.Constant (.int 1) k p1) p2)) p3) (.ref a) (.ref s4.heap.objs.size)) (EP X pins σ Q) X.xe { s4 with heap := s4.heap.push { cls := .type "slice", data := .fields #[vl, vu, vs] } }
  refine tail_any (ops := [.ref a, .ref s4.heap.objs.size]) ht.isList.typeIs (PySem.slot_list_getitem.lookup) ?_ (by with_unfolding_all rfl)
  refine wpAny_getItem_list_slice ht.isList (Heap.IsSliceOf.new _ vl vu vs) pl pu ps (by decide) ?_ (by rw [List.size_toArray]; omega)
  rw [HT.r0_pick]
  refine ⟨.ref _, _, I5.laid (t' := s4.toks) (o := .lst (xs.drop 1).reverse) (fun b ob q => Heap.get?_push_of_some _ q) (Nat.le_refl _) ?_, rfl, q _ (I5.hok.fresh (Nat.le_refl _))⟩
  exact ⟨by rw [List.length_reverse, List.length_drop]; omega, _, 0, (r.drop 1).reverse, Heap.get?_push_size _ rfl⟩
end L2
namespace MP
open PySem L2
section
variable {W : Wd} {X : Cx} {sa sb : Sm} {a b : Expr} {pos : Pos}
theorem sn_revR {k k0 : Nat} {p0 p1 p2 p3 : Pos} (hK : X.K = W.K) (ha : Sn W X sa a) : Sn W X (one sa revRD) (.Subscript a (.Slice none (some (.Constant (.int 0) k0 p0)) (some (.UnaryOp .USub (.Constant (.int 1) k p1) p2)) p3) pos) := by
  refine Sn.plain hK (PE.imp (pe_rev0 (p3 := p3) (pos := pos) ha.arg) fun _ _ _ q => one_ent (r := fun x H1 Q => ∃ a xs, x = .ref a ∧ SqL X.K H1 a xs ∧ ∀ p, H1 p = none → Q (.ref p) (upd H1 p (.lst (xs.drop 1).reverse))) ?_ q) rfl
  intro F H o x q Q sb s e k
  unfold revRD at e
  split at e
  · rename_i xs ex
    cases e
    obtain ⟨M, own⟩ := s
    obtain ⟨a, vs, rfl, h2, h3⟩ := own.flat_lst sb ex
    exact ⟨a, vs, rfl, SqL.of h2, fun p hp => k _ _ _ _ (New.lst sb hp (h3.drop 1).rev)⟩
  · cases e
end
end MP

set_option Elab.async false
set_option linter.all false
set_option maxRecDepth 100000
/-! Ex2: len, str, bool of own objects. -/
namespace MP
open PySem L2
section
variable {prog : Program} {w : World} {A : Around} {E : Value → Shared → Prop} {s : Shared} {K : PySem.W.Frag} {x C f : Addr} {ox : Obj} {od : Option Obj}
open PySem.W in
theorem len_body {Q : Fin → Shared → Prop} (X : K.In s.heap) (I : InstAt s.heap x ox C od) (hs : findIn K (.ref C) "__len__" = some (some (.ref f))) (hf : isFn K (.ref f) = true)
    (hcall : wpAny (model prog w) A (call (.ref f) [.ref x]) (fun r s' => ∃ n u, r = .int n u ∧ 0 ≤ n ∧ n < 2 ^ 63 ∧ Q (.done (.ret (.int n s'.toks))) { s' with toks := s'.toks + 1 }) E s) :
    wpAny (model prog w) A (Builtin.«len» ⟨[.ref x], []⟩) Q E s := by
  unfold Builtin.«len»
  refine wpAny_bind (m := oneArg "len" _) (wpAny_pure ?_)
  refine wpAny_bind (m := callSpecial? (.ref x) (Str.ofString "__len__")) (special_fn X I hs (beq_iff_eq.mp hf) (wpAny_mono hcall (fun r s' hr => ?_) fun _ _ y => y))
  obtain ⟨n, u, rfl, h0, h1, hq⟩ := hr
  refine wpAny_bind (wpAny_holding (wpAny_pure ?_))
  refine wpAny_bind (wpAny_letGo ?_)
  show wpAny _ _ (if n < 0 then _ else _) _ _ _
  rw [if_neg (by omega)]
  show wpAny _ _ (if n ≥ 2 ^ 63 then _ else _) _ _ _
  rw [if_neg (by omega)]
  exact wpAny_bind (wpAny_mkInt (wpAny_pure hq))
open PySem.W in
theorem len_K {Q : Value → Shared → Prop} (X : K.In s.heap) (I : InstAt s.heap x ox C od) (hs : findIn K (.ref C) "__len__" = some (some (.ref f))) (hf : isFn K (.ref f) = true)
    (hcall : wpAny (model prog w) A.in1 (call (.ref f) [.ref x]) (fun r s' => ∃ n u, r = .int n u ∧ 0 ≤ n ∧ n < 2 ^ 63 ∧ Q (.int n s'.toks) { s' with toks := s'.toks + 1 }) E s) :
    wpAny (model prog w) A (call (.builtin "len") [.ref x]) Q E s := by
  refine Calls.call_function_entry kind_len plain_len entry_len (args_len1 _) ?_
  refine len_body X I hs hf (wpAny_mono hcall (fun r s' hr => ?_) fun _ _ y => y)
  obtain ⟨n, u, h, h0, h1, hq⟩ := hr
  exact ⟨n, u, h, h0, h1, ⟨_, rfl, hq⟩⟩
open PySem.W in
theorem truthyLen_K {Q : Bool → Shared → Prop} (X : K.In s.heap) (I : InstAt s.heap x ox C od) (hb : findIn K (.ref C) "__bool__" = some none) (hs : findIn K (.ref C) "__len__" = some (some (.ref f))) (hf : isFn K (.ref f) = true)
    (hcall : wpAny (model prog w) A.in1 (call (.ref f) [.ref x]) (fun r s' => ∃ n u, r = .int n u ∧ 0 ≤ n ∧ n < 2 ^ 63 ∧ Q (n != 0) { s' with toks := s'.toks + 1 }) E s) :
    wpAny (model prog w) A (truthy (.ref x)) Q E s := by
  unfold truthy
  refine wpAny_bind (m := callSpecial? (.ref x) (Str.ofString "__bool__")) (wpAny_bind (wpAny_bind (I.type.here ((looks_findIn X hb).here (wpAny_pure ?_)))))
  refine wpAny_bind (wpAny_bind (I.type.here ((looks_findIn X hs).here ?_)))
  show wpAny _ _ (if (some (Value.ref f)).isNone = true then _ else _) _ _ _
  rw [if_neg (by simp)]
  refine wpAny_bind (wpAny_runValue (codeAny_builtin entry_len ?_))
  rw [show A.under (.builtin "len" ⟨[.ref x], []⟩) = A.in1 from Around.under_plainId plain_len _]
  refine len_body X I hs hf (wpAny_mono hcall (fun r s' hr => ?_) fun _ _ y => y)
  obtain ⟨n, u, h, h0, h1, hq⟩ := hr
  exact ⟨n, u, h, h0, h1, wpAny_pure hq⟩
open PySem.W in
theorem bool_K {Q : Value → Shared → Prop} (X : K.In s.heap) (I : InstAt s.heap x ox C od)
    (h : wpAny (model prog w) A.in1.in1 (truthy (.ref x)) (fun b s' => Q (.bool b) s') E s) : wpAny (model prog w) A (call (.type "bool") [.ref x]) Q E s := by
  refine callType_codes (T := "bool") (Bi := Builtin.«object.__init__») (Q₁ := fun r s₁ => ∃ b, r = .bool b ∧ Q r s₁) PySem.F.called_bool (PySem.F.typeCall_bool_1 _) PySem.F.entry_object_init ?_ ?_
  · refine codeAny_of_tree ?_
    show wpAny _ A.in1.in1 (do checkBuiltinCall "bool.__new__" ⟨[.type "bool", .ref x], []⟩; again (.builtin "bool.__new__" ⟨[.type "bool", .ref x], []⟩)) _ _ s
    refine wpAny_bind (wpAny_of_eq (PySem.F.newCall_bool_1 _) (wpAny_pure ⟨plainId_quiet (by decide +kernel) _, codeAny_builtin PySem.F.entry_bool_new ?_⟩))
    rw [Around.under_plainId (by decide +kernel) _]
    have f1 := PySem.F.conv_sub_bool
    unfold Builtin.«bool.__new__»
    repeat (first
      | (refine wpAny_bind (m := truthy (.ref x)) (wpAny_mono h (fun b s₁ hq => ?_) fun _ _ y => y))
      | assumption
      | wp_step)
    exact (⟨b, rfl, hq⟩ : ∃ b', Value.bool b = Value.bool b' ∧ Q (Value.bool b) s₁)
  · rintro obj s₁ ⟨y, rfl, hq⟩
    exact ⟨typeIs_bool _ _, PySem.F.args_object_init_2 _ _, object_init_meets PySem.F.called_bool.init.lookup PySem.F.called_bool.made (by decide) prog w A.in1 _ s₁ ⟨typeIs_bool _ _, rfl, hq⟩⟩
end
section
variable {X : Cx} {n : Nat} {f C a : Addr} {fd : FuncData} {ps : List Str} {sp : Sp} {pins : List (Addr × Obj)} {s : Shared} {σ : St} {H : Hp}
theorem run_in {A' : Around} {Qv : VK} (Fn : FnG X.prog X.w X.K X.mg X.base n f fd ps sp) (hA : A'.frames = X.A.frames) (hr : Room n A') (hg : A'.guards = some []) (I : Inv X pins σ H s)
    (hb : ∀ us : List Value, us.length = ps.length → bindArgs fd ⟨us, []⟩ = pure (ps.zip us)) (q : sp [.ref a] H Qv fun _ _ _ => False) :
    wpAny (model X.prog X.w) A' (call (.ref f) [.ref a]) (fun r s' => ∃ v H', Inv X pins σ H' s' ∧ RelV v r ∧ Qv v H') X.xe s := by
  have hl := Fn.len _ _ _ _ q
  have e0 : Env0 X.prog X.w X.K X.mg X.base A' X.stack s H := by
    have e := I.env0
    exact ⟨by rw [hA]; exact e.frames, e.mod, e.bs, e.bsz, e.funs, e.frf, e.hok, e.bare⟩
  have r2 : Vals [V.ref a] [Value.ref a] := .cons rfl .nil
  refine wpAny_call (codeAny_mono (Fn.run A' X.stack s H ⟨[.ref a], []⟩ [.ref a] [.ref a] _ _ hr hg e0 (.of_eq (hb [.ref a] (by rw [← hl]; rfl))) r2 q) fun r s' hq => ?_)
  cases r with
  | error e => exact False.elim hq
  | ok fl =>
    cases fl with
    | ret w =>
      obtain ⟨v, H', I', rv, z⟩ := I.after hq
      exact ⟨v, H', I', rv, z⟩
    | next => exact False.elim hq
    | brk => exact False.elim hq
    | cont => exact False.elim hq
/-- len, str, bool of an own object, by its own def -/
def rOwn1 (C : Addr) (sp : Sp) (G : V → VK → Hp → Prop) : List V → Hp → VK → Prop := fun xs H Q => ∃ a dx fs, xs = [.ref a] ∧ H a = some (.ins C dx fs) ∧ sp [.ref a] H (fun v H' => G v Q H') fun _ _ _ => False
theorem call_ownLen (Fn : FnG X.prog X.w X.K X.mg X.base n f fd ps sp) (hr : Room (n + 1) X.A) (hg : X.A.guards = some []) (hs : PySem.W.findIn X.K (.ref C) "__len__" = some (some (.ref f))) (hf : PySem.W.isFn X.K (.ref f) = true)
    (hb : ∀ us : List Value, us.length = ps.length → bindArgs fd ⟨us, []⟩ = pure (ps.zip us)) : CallR X (.builtin "len") (rOwn1 C sp fun v Q H' => ∃ m : Int, v = .int m ∧ 0 ≤ m ∧ m < 2 ^ 63 ∧ Q (.int m) H') := by
  intro pins s σ H xs us Q I rx hq
  obtain ⟨a, dx, fs, rfl, ha, q⟩ := hq
  obtain ⟨u, rfl, r1⟩ := vals1 rx
  cases r1
  obtain ⟨mA, J, _⟩ := ins_get I.hok ha
  obtain ⟨od, J, _⟩ := J.look
  refine len_K I.kIn J hs hf (wpAny_mono (run_in Fn rfl hr.in1 hg I hb q) (fun r s' z => ?_) fun _ _ x => x)
  obtain ⟨v, H', I', rv, m, rfl, h0, h1, q2⟩ := z
  obtain ⟨t, rfl⟩ := rv
  exact ⟨m, t, rfl, h0, h1, .int m, H', I'.tok _, ⟨_, rfl⟩, q2⟩
theorem call_ownStr (Fn : FnG X.prog X.w X.K X.mg X.base n f fd ps sp) (hr : Room (n + 1) X.A) (hg : X.A.guards = some []) (hs : PySem.W.findIn X.K (.ref C) "__str__" = some (some (.ref f))) (hf : PySem.W.isFn X.K (.ref f) = true)
    (hb : ∀ us : List Value, us.length = ps.length → bindArgs fd ⟨us, []⟩ = pure (ps.zip us)) : CallR X (.type "str") (rOwn1 C sp fun v Q H' => ∃ z : Str, v = .str z ∧ Q (.str z) H') := by
  intro pins s σ H xs us Q I rx hq
  obtain ⟨a, dx, fs, rfl, ha, q⟩ := hq
  obtain ⟨u, rfl, r1⟩ := vals1 rx
  cases r1
  obtain ⟨mA, J, _⟩ := ins_get I.hok ha
  obtain ⟨od, J, _⟩ := J.look
  have hr2 : Room n X.A.in1.in1 := ⟨hr.hd, by have := hr.dp; show X.A.depth + 3 * n + 5 < _; omega, by have := hr.un; show X.A.units + 1 + 1 + 16 * n + 200 < _; omega⟩
  refine PySem.W.kso_call hr2.units0 I.kIn J hs hf (wpAny_mono (run_in Fn rfl hr2 hg I hb q) (fun r s' z => ?_) fun _ _ x => x)
  obtain ⟨v, H', I', rv, m, rfl, q2⟩ := z
  obtain ⟨t, rfl⟩ := rv
  exact ⟨.str m, H', I', ⟨_, rfl⟩, q2⟩
theorem call_ownBool (Fn : FnG X.prog X.w X.K X.mg X.base n f fd ps sp) (hr : Room (n + 1) X.A) (hg : X.A.guards = some []) (hn : PySem.W.findIn X.K (.ref C) "__bool__" = some none) (hs : PySem.W.findIn X.K (.ref C) "__len__" = some (some (.ref f))) (hf : PySem.W.isFn X.K (.ref f) = true)
    (hb : ∀ us : List Value, us.length = ps.length → bindArgs fd ⟨us, []⟩ = pure (ps.zip us)) : CallR X (.type "bool") (rOwn1 C sp fun v Q H' => ∃ m : Int, v = .int m ∧ 0 ≤ m ∧ m < 2 ^ 63 ∧ Q (.bl (m != 0)) H') := by
  intro pins s σ H xs us Q I rx hq
  obtain ⟨a, dx, fs, rfl, ha, q⟩ := hq
  obtain ⟨u, rfl, r1⟩ := vals1 rx
  cases r1
  obtain ⟨mA, J, _⟩ := ins_get I.hok ha
  obtain ⟨od, J, _⟩ := J.look
  have hr2 : Room n X.A.in1.in1.in1 := ⟨hr.hd, by have := hr.dp; show X.A.depth + 3 * n + 5 < _; omega, by have := hr.un; show X.A.units + 1 + 1 + 1 + 16 * n + 200 < _; omega⟩
  refine bool_K I.kIn J (truthyLen_K I.kIn J hn hs hf (wpAny_mono (run_in Fn rfl hr2 hg I hb q) (fun r s' z => ?_) fun _ _ x => x))
  obtain ⟨v, H', I', rv, m, rfl, h0, h1, q2⟩ := z
  obtain ⟨t, rfl⟩ := rv
  exact ⟨m, t, rfl, h0, h1, .bl (m != 0), H', I'.tok _, rfl, q2⟩
end
end MP

set_option Elab.async false
set_option linter.all false
set_option maxRecDepth 100000
/-! Ex3: len, str, bool of own objects: soundness. -/
namespace MP
open PySem L2
/-- what is said of a def by which a class answers -/
structure SpIs (K : PySem.W.Frag) (C : Addr) (m : Str) (f : Addr) : Prop where
  at_ : PySem.W.findIn K (.ref C) m = some (some (.ref f))
  fn : PySem.W.isFn K (.ref f) = true
  ne : m = "__eq__" → PySem.W.findIn K (.ref C) "__ne__" = some (some (.builtin "object.__ne__"))
  bo : m = "__len__" → PySem.W.findIn K (.ref C) "__bool__" = some none
  ob : PySem.W.mroIn K C (.type "object") = some true
def owFn : Ow → Str
  | .len => "len"
  | .str => "str"
  | .bool => "bool"
section
variable {W : Wd} {X : Cx} {cf : Cfg} {i k : Nat}
def owG : Ow → V → VK → Hp → Prop
  | .len => fun v Q H' => ∃ m : Int, v = .int m ∧ 0 ≤ m ∧ m < 2 ^ 63 ∧ Q (.int m) H'
  | .str => fun v Q H' => ∃ z : Str, v = .str z ∧ Q (.str z) H'
  | .bool => fun v Q H' => ∃ m : Int, v = .int m ∧ 0 ≤ m ∧ m < 2 ^ 63 ∧ Q (.bl (m != 0)) H'
theorem own_snd (w : Ow) {F H : Hp} {o : O} {x : V} {q : O} {Q : VK} (sb : Sub F H) (s1 : Sees W F H o x) (e : ownF cf w k i o = .ok q) (kk : ∀ F' H' M v, New W F H q v M F' H' → Q v H') :
    rOwn1 (W.cls k) (spC W (cf.low i)) (owG w) [x] H Q := by
  obtain ⟨h1, e⟩ := MP.R.need_ok e
  obtain ⟨⟨r, os'⟩, h2, e⟩ := MP.R.bind_ok e
  obtain ⟨h3, e⟩ := MP.R.need_ok e
  obtain ⟨a1, dx, fs, rfl, g1, w1⟩ := isSh_ok sb s1 h1
  refine ⟨a1, dx, fs, rfl, g1, F, [], [o], _, os', sb, ⟨_, _, [], [], rfl, rfl, w1, rfl, rfl⟩, List.nodup_nil, fun a ha => (by cases ha), h2, fun F' H' M C' v st sb' own owns nd dj => ?_⟩
  have hC := allSh_owns h3 owns
  subst hC
  have e : owD w r = .ok q := e
  cases r with
  | sh d =>
    obtain ⟨hM, hv⟩ := own
    subst hM
    have fin : ∀ {d : D} {v : V}, q = .sh d → Rep W F' d v → Q v H' := fun {d v} e1 e2 => by
      subst e1
      exact kk F' H' [] _ ⟨st, sb', ⟨rfl, e2⟩, List.nodup_nil, fun a ha => (by cases ha)⟩
    cases w with
    | len =>
      cases d with
      | int n =>
        have hv : v = .int n := hv
        obtain ⟨h4, e⟩ := MP.R.need_ok e
        cases e
        simp only [Bool.and_eq_true, decide_eq_true_eq] at h4
        exact ⟨n, hv, h4.1, h4.2, fin rfl rfl⟩
      | _ => cases e
    | str =>
      cases d with
      | str n =>
        have hv : v = .str n := hv
        cases e
        exact ⟨n, hv, fin rfl rfl⟩
      | _ => cases e
    | bool =>
      cases d with
      | int n =>
        have hv : v = .int n := hv
        obtain ⟨h4, e⟩ := MP.R.need_ok e
        cases e
        simp only [Bool.and_eq_true, decide_eq_true_eq] at h4
        exact ⟨n, hv, h4.1, h4.2, fin rfl rfl⟩
      | _ => cases e
  | lst xs => cases w <;> cases e
  | ins c fs => cases w <;> cases e
theorem sn_own {n : Nat} {f : Addr} {fd : FuncData} {ps : List Str} {w : Ow} {sa : Sm} {a : Expr} {p pos : Pos} (hK : X.K = W.K) (c : SpIs X.K (W.cls k) (owNm w) f) (Fn : Below n (cf.low i) fun j => FnG X.prog X.w X.K X.mg X.base j f fd ps (spC W (cf.low i))) (hr : Room n X.A) (hg : X.A.guards = some [])
    (hb : ∀ us : List Value, us.length = ps.length → bindArgs fd ⟨us, []⟩ = pure (ps.zip us)) (gl : Gl X (owFn w)) (hm : X.mg (owFn w) = none) (hs : notStar a = true) (ha : Sn W X sa a) : Sn W X (one sa (ownF cf w k i)) (.Call (.Name (owFn w) p) [a] [] pos) := by
  have hsc := star_cons hs [] X.env
  have hn : owFn w ≠ "__name__" := by cases w <;> decide +kernel
  have hd : (owFn w == ("__debug__" : Str)) = false := by cases w <;> decide +kernel
  have key : PE X (.Call (.Name (owFn w) p) [a] [] pos) (tCB (rOwn1 (W.cls k) (spC W (cf.low i)) (owG w)) (tCons (trA W sa.arg) tNil)) := by
    have vac : ∀ {f : Value} {G : V → VK → Hp → Prop}, (∀ os, cf.low i os = .bad) → CallR X f (rOwn1 (W.cls k) (spC W (cf.low i)) G) := fun hbad pins s σ H xs us Q I rv q => by
      obtain ⟨a, dx, fs, _, _, q⟩ := q
      exact (spC_bad hbad q).elim
    have hL : w = .len → CallR X (.builtin "len") (rOwn1 (W.cls k) (spC W (cf.low i)) (owG .len)) := fun e => by
      subst e
      rcases Fn with hbad | ⟨j, rfl, Fn⟩
      · exact vac hbad
      · exact call_ownLen Fn hr hg c.at_ c.fn hb
    have hS : w = .str → CallR X (.type "str") (rOwn1 (W.cls k) (spC W (cf.low i)) (owG .str)) := fun e => by
      subst e
      rcases Fn with hbad | ⟨j, rfl, Fn⟩
      · exact vac hbad
      · exact call_ownStr Fn hr hg c.at_ c.fn hb
    have hB : w = .bool → CallR X (.type "bool") (rOwn1 (W.cls k) (spC W (cf.low i)) (owG .bool)) := fun e => by
      subst e
      rcases Fn with hbad | ⟨j, rfl, Fn⟩
      · exact vac hbad
      · exact call_ownBool Fn hr hg (c.bo rfl) c.at_ c.fn hb
    cases w with
    | len => exact pe_callB (hL rfl) gl hm (by decide +kernel) (pa_cons ha.arg pa_nil hsc) hn hd hsc rfl
    | str => exact pe_callTy (hS rfl) gl hm (by decide +kernel) (pa_cons ha.arg pa_nil hsc) hn hd hsc rfl
    | bool => exact pe_callTy (hB rfl) gl hm (by decide +kernel) (pa_cons ha.arg pa_nil hsc) hn hd hsc rfl
  exact Sn.plain hK (PE.imp key fun _ _ _ q => one_ent (r := fun x H Q => rOwn1 (W.cls k) (spC W (cf.low i)) (owG w) [x] H Q) (fun F H o x q Q sb s1 e kk => own_snd w sb s1 e kk) q) rfl
end
end MP

set_option Elab.async false
set_option linter.all false
/-! Snd15: the check of the language's terms against the text, and what it is worth. -/
namespace MP
open PySem L2

/-- what the terms of a program lean on: slot names, global constants, defs, built-in names, ways to call by keyword -/
structure Tab where
  gn : List (Nat × Str)
  fs : List (Nat × Str)
  bt : List Str
  kw : List (Nat × Nat × List Str × List Nat)
  /-- classes, their __init__, methods by the def's number, ways to call these by keyword -/
  cl : List (Nat × Str) := []
  ini : List (Nat × Nat) := []
  ms : List (Nat × Nat × Str) := []
  kwm : List (Nat × List Str × List Nat) := []
  /-- defs by which an own class answers len, str, == -/
  sp : List (Nat × Nat × Str) := []
inductive A where
  | e (x : Expr) | l (xs : List Expr) | k (ks : List Keyword) | o (x : Option Expr)

def visC (sc : Scope) (x : Str) : Bool := match sc.names.lookup x with
  | some .local => true
  | some .cell => true
  | some .free => true
  | _ => false
theorem vis_of {sc : Scope} {x : Str} (h : visC sc x = true) : Vis sc x := by
  unfold visC at h
  split at h
  · exact .inl (by assumption)
  · exact .inr (.inl (by assumption))
  · exact .inr (.inr (by assumption))
  · cases h
def locC (sc : Scope) (x : Str) : Bool := match sc.names.lookup x with
  | some .local => true
  | some .cell => true
  | _ => false
theorem loc_of {sc : Scope} {x : Str} (h : locC sc x = true) : Loc sc x := by
  unfold locC at h
  split at h
  · exact .inl (by assumption)
  · exact .inr (by assumption)
  · cases h
def glC (sc : Scope) (x : Str) : Bool := decide (sc.names.lookup x = some .globalImplicit)
def dbgC (x : Str) : Bool := !(x == ("__debug__" : Str)) && !(x == ("__classdict__" : Str))
def baseOk : Expr → Bool
  | .Call (.Name _ _) [] [] _ => false
  | _ => true
theorem base_of {o : Expr} (h : baseOk o = true) (attr : Str) (env : Env) (whole : Sem Value) : attributeBase o attr env whole = whole := by
  unfold baseOk at h
  split at h
  · cases h
  · rename_i hn
    unfold attributeBase
    split
    · rename_i id pos
      exact absurd rfl (hn _ _ _)
    · rfl
def notBor : E → Bool
  | .bor _ => false
  | _ => true
/-- the names of a target -/
def nmsC (N : List Str) (sc : Scope) (fn : Str → Bool) : List Nat → List Expr → Bool
  | [], [] => true
  | i :: t, .Name x _ :: es => decide (N[i]? = some x) && locC sc x && (fn x || decide (sc.names.lookup x = some .local)) && nmsC N sc fn t es
  | _, _ => false
def tgC (N : List Str) (sc : Scope) (fn : Str → Bool) (t : List Nat) (tt : Bool) : Expr → Bool
  | .Name x p => !tt && (match t with | [_] => true | _ => false) && nmsC N sc fn t [.Name x p]
  | .Tuple es _ _ => tt && nmsC N sc fn t es
  | _ => false
def ownL (N : List Str) (t : List Nat) : List (Str × Nat) := t.map fun i => ((N[i]?).getD "", i)
theorem ownL_snd (N : List Str) (t : List Nat) : (ownL N t).map (·.2) = t := by
  unfold ownL
  rw [List.map_map]
  induction t with
  | nil => rfl
  | cons i t ih => rw [List.map_cons, ih]; rfl
def cellC (sc : Scope) (x : Str) : Bool := sc.names.lookup x == some .cell

def chk (T : Tab) (N : List Str) : E → Scope → A → Bool
  | .non, sc, z => match z with
    | .e (.Constant .none _ _) => true
    | _ => false
  | .bl b, sc, z => match z with
    | .e (.Constant (.bool c) _ _) => decide (b = c)
    | _ => false
  | .int i, sc, z => match z with
    | .e (.Constant (.int j) _ _) => decide (i = j)
    | _ => false
  | .str s, sc, z => match z with
    | .e (.Constant (.str t) _ _) => decide (s = t)
    | _ => false
  | .var i, sc, z => match z with
    | .e (.Name x _) => decide (N[i]? = some x) && visC sc x && dbgC x
    | _ => false
  | .glb g, sc, z => match z with
    | .e (.Name x _) => decide (T.gn.lookup g = some x) && glC sc x && dbgC x
    | _ => false
  | .op o a b, sc, z => match z with
    | .e (.BinOp l p r _) => decide (p = opr o) && chk T N a sc (.e l) && chk T N b sc (.e r)
    | _ => false
  | .neg a, sc, z => match z with
    | .e (.UnaryOp .USub x _) => chk T N a sc (.e x)
    | _ => false
  | .cm k a b, sc, z => match z with
    | .e (.Compare x [p] [y] _) => decide (p = cmo k) && notSet y && chk T N a sc (.e x) && chk T N b sc (.e y)
    | _ => false
  | .ch k l a b c, sc, z => match z with
    | .e (.Compare x [p, q] [y, z] _) => decide (p = cmo k) && decide (q = cmo l) && notSet z && chk T N a sc (.e x) && chk T N b sc (.e y) && chk T N c sc (.e z)
    | _ => false
  | .and a b, sc, z => match z with
    | .e (.BoolOp .And (x :: y :: rest) pos) => chk T N a sc (.e x) && (match rest with
    | [] => chk T N b sc (.e y)
    | _ :: _ => chk T N b sc (.e (.BoolOp .And (y :: rest) pos)))
    | _ => false
  | .or a b, sc, z => match z with
    | .e (.BoolOp .Or (x :: y :: rest) pos) => chk T N a sc (.e x) && (match rest with
    | [] => chk T N b sc (.e y)
    | _ :: _ => chk T N b sc (.e (.BoolOp .Or (y :: rest) pos)))
    | _ => false
  | .not a, sc, z => match z with
    | .e (.UnaryOp .Not x _) => chk T N a sc (.e x)
    | _ => false
  | .ite c a b, sc, z => match z with
    | .e (.IfExp z x y _) => chk T N c sc (.e z) && chk T N a sc (.e x) && chk T N b sc (.e y)
    | _ => false
  | .ix a i, sc, z => match z with
    | .e (.Subscript x y _) => notSlice y && chk T N a sc (.e x) && chk T N i sc (.e y)
    | _ => false
  | .sl a lo hi, sc, z => match z with
    | .e (.Subscript x (.Slice l h none _) _) => chk T N a sc (.e x) && (match l with | none => isNil lo | some z => !isNil lo && chk T N lo sc (.e z)) && (match h with | none => isNil hi | some z => !isNil hi && chk T N hi sc (.e z))
    | _ => false
  | .rev a, sc, z => match z with
    | .e (.Subscript x (.Slice none none (some (.UnaryOp .USub (.Constant (.int j) _ _) _)) _) _) => decide (j = 1) && chk T N a sc (.e x)
    | _ => false
  | .nil, sc, z => match z with
    | .l [] => true
    | .k [] => true
    | _ => false
  | .cons a r, sc, z => match z with
    | .l (x :: xs) => notStar x && chk T N a sc (.e x) && chk T N r sc (.l xs)
    | .k (x :: xs) => chk T N a sc (.e x.value) && chk T N r sc (.k xs)
    | _ => false
  | .star a r, sc, z => match z with
    | .l (.Starred x _ :: xs) => chk T N a sc (.e x) && chk T N r sc (.l xs)
    | _ => false
  | .tup l, sc, z => match z with
    | .e (.Tuple es _ _) => chk T N l sc (.l es)
    | _ => false
  | .lst l, sc, z => match z with
    | .e (.List es _) => chk T N l sc (.l es)
    | _ => false
  | .call f l, sc, z => match z with
    | .e (.Call (.Name x _) es [] _) => decide (T.fs.lookup f = some x) && glC sc x && dbgC x && notStars es && (match es with | [] => isNil l | _ :: _ => true) && chk T N l sc (.l es)
    | _ => false
  | .callK f l ks g kl, sc, z => match z with
    | .e (.Call (.Name x _) es kws _) => decide (T.fs.lookup f = some x) && glC sc x && dbgC x && notStars es && decide (kwNs kws = some ks) && decide ((f, es.length, ks, g) ∈ T.kw) && (match es with | [] => isNil l | _ :: _ => true) && chk T N l sc (.l es) && chk T N kl sc (.k kws)
    | _ => false
  | .bl1 b l, sc, z => match z with
    | .e (.Call (.Name x _) es [] _) => decide (x = blId b) && glC sc x && decide (x ∈ T.bt) && notStars es && !es.isEmpty && chk T N l sc (.l es)
    | _ => false
  | .mt m a b, sc, z => match z with
    | .e (.Call (.Attribute x nm ap) [y] [] cp) => decide (nm = mtNm m) && (ap.endLine == cp.line) && baseOk x && notStar y && chk T N a sc (.e x) && chk T N b sc (.e y)
    | _ => false
  | .isTy t a, sc, z => match z with
    | .e (.Call (.Name x _) [y, .Name z _] [] _) => decide (x = "isinstance") && glC sc x && decide (x ∈ T.bt) && decide (z = tyX t) && glC sc z && decide (z ∈ T.bt) && notStar y && chk T N a sc (.e y)
    | _ => false
  | .pop i b, sc, z => match z with
    | .e (.Call (.Attribute (.Name x _) nm ap) [y] [] cp) => decide (nm = "pop") && decide (N[i]? = some x) && visC sc x && dbgC x && (ap.endLine == cp.line) && notStar y && chk T N b sc (.e y)
    | _ => false
  | .range1 a, sc, z => match z with
    | .e (.Call (.Name x _) [y] [] _) => decide (x = "range") && glC sc x && decide (x ∈ T.bt) && notStar y && chk T N a sc (.e y)
    | _ => false
  | .range2 a b, sc, z => match z with
    | .e (.Call (.Name x _) [y, z] [] _) => decide (x = "range") && glC sc x && decide (x ∈ T.bt) && notStar y && notStar z && chk T N a sc (.e y) && chk T N b sc (.e z)
    | _ => false
  | .enum a, sc, z => match z with
    | .e (.Call (.Name x _) [y] [] _) => decide (x = "enumerate") && glC sc x && decide (x ∈ T.bt) && notStar y && chk T N a sc (.e y)
    | _ => false
  | .zip a b, sc, z => match z with
    | .e (.Call (.Name x _) [y, z] [] _) => decide (x = "zip") && glC sc x && decide (x ∈ T.bt) && notStar y && notStar z && chk T N a sc (.e y) && chk T N b sc (.e z)
    | _ => false
  | .comp t tt el it cnd, sc, z => match z with
    | .e (.ListComp x [⟨tg, iter, ifs, j⟩] scope _) => decide (j = 0) && notSet iter && (!needsTup iter || isTupE tg) && blkC N sc scope (ownL N t) && tgC N (relS scope sc) (cellC scope) t tt tg &&
    chk T N it sc (.e iter) && (match ifs with | [] => isNil cnd | [y] => !isNil cnd && chk T N cnd (relS scope sc) (.e y) | _ => false) && chk T N el (relS scope sc) (.e x)
    | _ => false
  | .att a f, sc, z => match z with
    | .e (.Attribute x nm _) => decide (nm = f) && baseOk x && chk T N a sc (.e x)
    | _ => false
  | .make k f l, sc, z => match z with
    | .e (.Call (.Name x _) es [] _) => decide (T.cl.lookup k = some x) && decide (T.ini.lookup k = some f) && glC sc x && dbgC x && notStars es && !es.isEmpty && chk T N l sc (.l es)
    | _ => false
  | .makeK k f l ks g kl, sc, z => match z with
    | .e (.Call (.Name x _) [] kws _) => decide (T.cl.lookup k = some x) && decide (T.ini.lookup k = some f) && glC sc x && dbgC x && isNil l && decide (kwNs kws = some ks) && decide ((f, ks, g) ∈ T.kwm) && chk T N kl sc (.k kws)
    | _ => false
  | .meth k f m a l, sc, z => match z with
    | .e (.Call (.Attribute x nm ap) es [] cp) => decide (nm = m) && decide (T.ms.lookup f = some (k, m)) && baseOk x && (ap.endLine == cp.line) && decide (es.length < 29) && notStars es && (match es with | [] => isNil l | _ :: _ => true) && chk T N a sc (.e x) && chk T N l sc (.l es)
    | _ => false
  | .methK k f m a l ks g kl, sc, z => match z with
    | .e (.Call (.Attribute x nm ap) [] kws cp) => decide (nm = m) && decide (T.ms.lookup f = some (k, m)) && baseOk x && (ap.endLine == cp.line) && decide (kws.length < 28) && isNil l && decide (kwNs kws = some ks) && decide ((f, ks, g) ∈ T.kwm) && chk T N a sc (.e x) && chk T N kl sc (.k kws)
    | _ => false
  | .isCl k a, sc, z => match z with
    | .e (.Call (.Name x _) [y, .Name z _] [] _) => decide (x = "isinstance") && glC sc x && decide (x ∈ T.bt) && decide (T.cl.lookup k = some z) && glC sc z && dbgC z && notStar y && chk T N a sc (.e y)
    | _ => false
  | .idx t a b, sc, z => match z with
    | .e (.Call (.Attribute x nm ap) [y] [] cp) => decide (nm = "index") && (ap.endLine == cp.line) && baseOk x && notStar y && chk T N a sc (.e x) && chk T N b sc (.e y)
    | _ => false
  | .bor a, sc, z => match z with
    | .e x => plainT x && notBor a && chk T N a sc (.e x)
    | _ => false
  | .own w k f a, sc, z => match z with
    | .e (.Call (.Name x _) [y] [] _) => decide (x = owFn w) && glC sc x && decide (x ∈ T.bt) && notStar y && decide (T.sp.lookup f = some (k, owNm w)) && chk T N a sc (.e y)
    | _ => false
  | .eqO k f ne a b, sc, z => match z with
    | .e (.Compare x [p] [y] _) => decide (p = neOp ne) && notSet y && decide (T.sp.lookup f = some (k, ("__eq__" : Str))) && chk T N a sc (.e x) && chk T N b sc (.e y)
    | _ => false
  | .comp2 t tt it cnd t2 tt2 it2 cnd2 el, sc, z => match z with
    | .e (.ListComp x [⟨tg, iter, ifs, j⟩, ⟨tg2, iter2, ifs2, j2⟩] scope _) => decide (j = 0) && decide (j2 = 0) && notSet iter && notSet iter2 && (!needsTup iter || isTupE tg) && (!needsTup iter2 || isTupE tg2) && blkC N sc scope (ownL N (t ++ t2)) && tgC N (relS scope sc) (cellC scope) t tt tg && tgC N (relS scope sc) (cellC scope) t2 tt2 tg2 &&
      chk T N it sc (.e iter) && chk T N it2 (relS scope sc) (.e iter2) && (match ifs with | [] => isNil cnd | [y] => !isNil cnd && chk T N cnd (relS scope sc) (.e y) | _ => false) && (match ifs2 with | [] => isNil cnd2 | [y] => !isNil cnd2 && chk T N cnd2 (relS scope sc) (.e y) | _ => false) && chk T N el (relS scope sc) (.e x)
    | _ => false
  | .revR a, sc, z => match z with
    | .e (.Subscript x (.Slice none (some (.Constant (.int z0) _ _)) (some (.UnaryOp .USub (.Constant (.int j) _ _) _)) _) _) => decide (z0 = 0) && decide (j = 1) && chk T N a sc (.e x)
    | _ => false
  | .lrange (.range1 a), sc, z => match z with
    | .e (.Call (.Name x _) [.Call (.Name r _) [y] [] _] [] _) => decide (x = "list") && glC sc x && decide (x ∈ T.bt) && decide (r = "range") && glC sc r && decide (r ∈ T.bt) && notStar y && chk T N a sc (.e y)
    | _ => false
  | .lrange (.range2 a b), sc, z => match z with
    | .e (.Call (.Name x _) [.Call (.Name r _) [y, u] [] _] [] _) => decide (x = "list") && glC sc x && decide (x ∈ T.bt) && decide (r = "range") && glC sc r && decide (r ∈ T.bt) && notStar y && notStar u && chk T N a sc (.e y) && chk T N b sc (.e u)
    | _ => false
  | .lrange _, _, _ => false

theorem isNil_eq {e : E} (h : isNil e = true) : e = .nil := by
  cases e <;> first | rfl | cases h
/-! ### the context -/
structure Gd (W : Wd) (T : Tab) (N : List Str) (c : Cfg) (k : Nat) (X : Cx) (sc : Scope) (fn : Str → Bool) : Prop where
  hK : X.K = W.K
  calm : X.calm = true
  eN : X.N = N
  nd : N.Nodup
  esc : X.env.scope = sc
  efn : ∀ x, fn x = true → X.fn x = true
  gd : X.A.guards = some []
  room : Room k X.A
  glob : ∀ g x, T.gn.lookup g = some x → ∃ v u, X.mg x = some u ∧ RelV v u ∧ ∀ F, Rep W F (c.glob g) v
  blt : ∀ x ∈ T.bt, X.mg x = none
  fns : ∀ f x, T.fs.lookup f = some x → ∃ fa fd ps, X.mg x = some (.ref fa) ∧ PySem.W.keepIn X.K (.ref fa) = true ∧ FnG X.prog X.w X.K X.mg X.base k fa fd ps (spC W (c.call f)) ∧
    (∀ us : List Value, us.length = ps.length → bindArgs fd ⟨us, []⟩ = pure (ps.zip us)) ∧
    ∀ n ks g, (f, n, ks, g) ∈ T.kw → ∀ us zs ys : List Value, us.length = n → zs.length = ks.length → pick (us ++ zs) g = some ys → ys.length = ps.length → bindArgs fd ⟨us, ks.zip zs⟩ = pure (ps.zip ys)
  hF : c.flds = W.flds
  hCl : c.cls = T.cl.map (·.1)
  clo : ClsOk X.K W
  isi : IsiOk X.K W (T.cl.map (·.1))
  cls : ∀ j x, T.cl.lookup j = some x → X.mg x = some (.ref (W.cls j)) ∧ Cls X.K (W.cls j)
  ini : ∀ j f, T.ini.lookup j = some f → ∃ fa fd ps, Mk X.K (W.cls j) fa ∧ (Below k (c.low f) fun l => FnG X.prog X.w X.K X.mg X.base l fa fd ps (spC W (c.low f))) ∧
    (∀ us : List Value, us.length = ps.length → bindArgs fd ⟨us, []⟩ = pure (ps.zip us)) ∧
    ∀ ks g, (f, ks, g) ∈ T.kwm → ∀ (u : Value) (zs ys : List Value), zs.length = ks.length → pick ([] ++ zs) g = some ys → (u :: ys).length = ps.length → bindArgs fd ⟨[u], ks.zip zs⟩ = pure (ps.zip (u :: ys))
  ms : ∀ f j m, T.ms.lookup f = some (j, m) → ∃ fa fd ps, Meth X.K (W.cls j) m fa ∧ Cls X.K (W.cls j) ∧ FnG X.prog X.w X.K X.mg X.base k fa fd ps (spC W (c.call f)) ∧
    (∀ us : List Value, us.length = ps.length → bindArgs fd ⟨us, []⟩ = pure (ps.zip us)) ∧
    ∀ ks g, (f, ks, g) ∈ T.kwm → ∀ (u : Value) (zs ys : List Value), zs.length = ks.length → pick ([] ++ zs) g = some ys → (u :: ys).length = ps.length → bindArgs fd ⟨[u], ks.zip zs⟩ = pure (ps.zip (u :: ys))
  spf : ∀ f j m, T.sp.lookup f = some (j, m) → ∃ fa fd ps, SpIs X.K (W.cls j) m fa ∧ (Below k (c.low f) fun l => FnG X.prog X.w X.K X.mg X.base l fa fd ps (spC W (c.low f))) ∧ (∀ us : List Value, us.length = ps.length → bindArgs fd ⟨us, []⟩ = pure (ps.zip us))
section
variable {W : Wd} {T : Tab} {N : List Str} {c : Cfg} {k : Nat} {X : Cx} {sc : Scope} {fn : Str → Bool}
theorem Gd.gl (g : Gd W T N c k X sc fn) {x : Str} (h : glC sc x = true) : Gl X x := by
  show X.env.scope.names.lookup x = _
  rw [g.esc]
  exact of_decide_eq_true h
theorem Gd.vis (g : Gd W T N c k X sc fn) {x : Str} (h : visC sc x = true) : Vis X.env.scope x := by
  rw [g.esc]
  exact vis_of h
theorem Gd.un (g : Gd W T N c k X sc fn) : X.A.units + 70 < cLine := by have := g.room.un; omega
theorem Gd.blk (g : Gd W T N c k X sc fn) (scope : Scope) (s : Shared) (H : Hp) (C : Addr) (cl : List (Str × Addr)) (fp : List Addr) : Gd W T N c k (X.blk s H scope (compEnvC scope cl C X.env) fp) (relS scope sc) (cellC scope) :=
  ⟨g.hK, g.calm, g.eN, g.nd, by rw [← g.esc]; rfl, fun x h => h, g.gd, g.room, g.glob, g.blt, g.fns, g.hF, g.hCl, g.clo, g.isi, g.cls, g.ini, g.ms, g.spf⟩
theorem dbg_of {x : Str} (h : dbgC x = true) : (x == ("__debug__" : Str)) = false ∧ (x == ("__classdict__" : Str)) = false := by
  unfold dbgC at h
  simpa using h
theorem nms_of (g : Gd W T N c k X sc fn) : ∀ {t : List Nat} {es : List Expr}, nmsC N sc fn t es = true → NamesAt X t es
  | [], [], _ => trivial
  | [], _ :: _, h => by cases h
  | i :: t, [], h => by cases h
  | i :: t, e :: es, h => by
    cases e with
    | Name x p =>
      unfold nmsC at h
      simp only [Bool.and_eq_true, Bool.or_eq_true, decide_eq_true_eq] at h
      obtain ⟨⟨⟨h1, h2⟩, h3⟩, h4⟩ := h
      exact ⟨by rw [g.eN]; exact h1, by rw [g.esc]; exact loc_of h2, h3.imp (g.efn x) fun z => by rw [g.esc]; exact z, nms_of g h4⟩
    | _ => cases h
theorem tg_of (g : Gd W T N c k X sc fn) {t : List Nat} {tt : Bool} {tg : Expr} (h : tgC N sc fn t tt tg = true) : PG X tg (trG W t tt) := by
  have hN : X.N.Nodup := by rw [g.eN]; exact g.nd
  cases tg with
  | Name x p =>
    unfold tgC at h
    simp only [Bool.and_eq_true, Bool.not_eq_true'] at h
    obtain ⟨⟨rfl, h1⟩, h2⟩ := h
    split at h1
    · exact pg_bind1 hN (nms_of g h2)
    · cases h1
  | Tuple es kk p =>
    unfold tgC at h
    rw [Bool.and_eq_true] at h
    obtain ⟨rfl, h2⟩ := h
    exact pg_bindT g.hK g.calm hN (nms_of g h2)
  | _ => cases h
end
end MP

set_option Elab.async false
set_option linter.all false
/-! Snd16: what the check is worth: expressions. -/
namespace MP
open PySem L2
section
variable {W : Wd} {T : Tab} {N : List Str} {c : Cfg} {k : Nat}
def Good (W : Wd) (c : Cfg) (X : Cx) (e : E) : A → Prop
  | .e x => Sn W X (sem c e) x
  | .l xs => SnL W X (sem c e) xs
  | .k ks => PK X ks (trL W (sem c e).ags)
  | .o _ => True
/-- the check of a term is worth what it says -/
def Fine (W : Wd) (T : Tab) (N : List Str) (c : Cfg) (k : Nat) (e : E) : Prop := ∀ (X : Cx) (sc : Scope) (fn : Str → Bool), Gd W T N c k X sc fn → ∀ a : A, chk T N e sc a = true → Good W c X e a
variable {a b d : E}
theorem fine_non : Fine W T N c k .non := fun X sc fn g z h => by
  unfold chk at h
  split at h <;> first | cases h | skip
  exact sn_non g.hK
theorem fine_bl {v : Bool} : Fine W T N c k (.bl v) := fun X sc fn g z h => by
  unfold chk at h
  split at h <;> first | cases h | skip
  have e := of_decide_eq_true h
  subst e
  exact sn_bl g.hK
theorem fine_int {v : Int} : Fine W T N c k (.int v) := fun X sc fn g z h => by
  unfold chk at h
  split at h <;> first | cases h | skip
  have e := of_decide_eq_true h
  subst e
  exact sn_int g.hK
theorem fine_str {v : Str} : Fine W T N c k (.str v) := fun X sc fn g z h => by
  unfold chk at h
  split at h <;> first | cases h | skip
  have e := of_decide_eq_true h
  subst e
  exact sn_str g.hK
theorem fine_var {i : Nat} : Fine W T N c k (.var i) := fun X sc fn g z h => by
  unfold chk at h
  split at h <;> first | cases h | skip
  simp only [Bool.and_eq_true, decide_eq_true_eq] at h
  obtain ⟨⟨h1, h2⟩, h3⟩ := h
  obtain ⟨h4, h5⟩ := dbg_of h3
  exact sn_var (w := fun _ => .bad) g.hK (by rw [g.eN]; exact h1) (g.vis h2) h4 h5
theorem fine_glb {i : Nat} : Fine W T N c k (.glb i) := fun X sc fn g z h => by
  unfold chk at h
  split at h <;> first | cases h | skip
  simp only [Bool.and_eq_true, decide_eq_true_eq] at h
  obtain ⟨⟨h1, h2⟩, h3⟩ := h
  obtain ⟨h4, h5⟩ := dbg_of h3
  obtain ⟨v, u, h6, h7, h8⟩ := g.glob _ _ h1
  exact sn_glb g.hK (g.gl h2) h6 h7 h8 h4
theorem fine_op {o : Op} (ha : Fine W T N c k a) (hb : Fine W T N c k b) : Fine W T N c k (.op o a b) := fun X sc fn g z h => by
  unfold chk at h
  split at h <;> first | cases h | skip
  simp only [Bool.and_eq_true, decide_eq_true_eq] at h
  obtain ⟨⟨rfl, h2⟩, h3⟩ := h
  exact sn_op g.hK (ha X sc fn g _ h2) (hb X sc fn g _ h3)
theorem fine_neg (ha : Fine W T N c k a) : Fine W T N c k (.neg a) := fun X sc fn g z h => by
  unfold chk at h
  split at h <;> first | cases h | skip
  exact sn_neg g.hK (ha X sc fn g _ h)
theorem fine_cm {o : Cm} (ha : Fine W T N c k a) (hb : Fine W T N c k b) : Fine W T N c k (.cm o a b) := fun X sc fn g z h => by
  unfold chk at h
  split at h <;> first | cases h | skip
  simp only [Bool.and_eq_true, decide_eq_true_eq] at h
  obtain ⟨⟨⟨rfl, h4⟩, h2⟩, h3⟩ := h
  have := g.un
  exact sn_cm g.hK (by omega) h4 (ha X sc fn g _ h2) (hb X sc fn g _ h3)
theorem fine_ch {o p : Cm} (ha : Fine W T N c k a) (hb : Fine W T N c k b) (hd : Fine W T N c k d) : Fine W T N c k (.ch o p a b d) := fun X sc fn g z h => by
  unfold chk at h
  split at h <;> first | cases h | skip
  simp only [Bool.and_eq_true, decide_eq_true_eq] at h
  obtain ⟨⟨⟨⟨⟨rfl, rfl⟩, h4⟩, h2⟩, h3⟩, h5⟩ := h
  have := g.un
  exact sn_ch (cf := c) g.hK (by omega) h4 (ha X sc fn g _ h2) (hb X sc fn g _ h3) (hd X sc fn g _ h5)
theorem fine_and (ha : Fine W T N c k a) (hb : Fine W T N c k b) : Fine W T N c k (.and a b) := fun X sc fn g z h => by
  unfold chk at h
  split at h <;> first | cases h | skip
  rename_i x y rest pos
  rw [Bool.and_eq_true] at h
  have g1 := ha X sc fn g _ h.1
  cases rest with
  | nil =>
    have g2 : Sn W X (sem c b) y := hb X sc fn g _ h.2
    exact sn_and g.hK g1 (pe_one g2.val) (pw_and1 g2.tru)
  | cons q rest =>
    have g2 : Sn W X (sem c b) (.BoolOp .And (y :: q :: rest) pos) := hb X sc fn g _ h.2
    exact sn_and g.hK g1 g2.val (g2.pw rfl)
theorem fine_or (ha : Fine W T N c k a) (hb : Fine W T N c k b) : Fine W T N c k (.or a b) := fun X sc fn g z h => by
  unfold chk at h
  split at h <;> first | cases h | skip
  rename_i x y rest pos
  rw [Bool.and_eq_true] at h
  have g1 := ha X sc fn g _ h.1
  cases rest with
  | nil =>
    have g2 : Sn W X (sem c b) y := hb X sc fn g _ h.2
    exact sn_or g.hK g1 (pe_one g2.val) (pw_or1 g2.tru)
  | cons q rest =>
    have g2 : Sn W X (sem c b) (.BoolOp .Or (y :: q :: rest) pos) := hb X sc fn g _ h.2
    exact sn_or g.hK g1 g2.val (g2.pw rfl)
theorem fine_not (ha : Fine W T N c k a) : Fine W T N c k (.not a) := fun X sc fn g z h => by
  unfold chk at h
  split at h <;> first | cases h | skip
  exact sn_not g.hK (ha X sc fn g _ h)
theorem fine_ite (hd : Fine W T N c k d) (ha : Fine W T N c k a) (hb : Fine W T N c k b) : Fine W T N c k (.ite d a b) := fun X sc fn g z h => by
  unfold chk at h
  split at h <;> first | cases h | skip
  simp only [Bool.and_eq_true] at h
  exact sn_ite g.hK (hd X sc fn g _ h.1.1) (ha X sc fn g _ h.1.2) (hb X sc fn g _ h.2)
theorem fine_ix (ha : Fine W T N c k a) (hb : Fine W T N c k b) : Fine W T N c k (.ix a b) := fun X sc fn g z h => by
  unfold chk at h
  split at h <;> first | cases h | skip
  simp only [Bool.and_eq_true] at h
  exact sn_ix g.hK h.1.1 (ha X sc fn g _ h.1.2) (hb X sc fn g _ h.2)
theorem fine_sl (ha : Fine W T N c k a) (hb : Fine W T N c k b) (hd : Fine W T N c k d) : Fine W T N c k (.sl a b d) := fun X sc fn g z h => by
  unfold chk at h
  split at h <;> first | cases h | skip
  simp only [Bool.and_eq_true] at h
  obtain ⟨⟨h1, h2⟩, h3⟩ := h
  have key : ∀ (e : E), Fine W T N c k e → ∀ x : Option Expr, (match x with | none => isNil e | some z => !isNil e && chk T N e sc (.e z)) = true → PO X x (trP W (optI (sem c e) (isNil e))) := by
    intro e he x hx
    cases x with
    | none =>
      have hx : isNil e = true := hx
      rw [hx]
      exact po_opt0
    | some z =>
      have hx : (!isNil e && chk T N e sc (.e z)) = true := hx
      simp only [Bool.and_eq_true, Bool.not_eq_true'] at hx
      rw [hx.1]
      exact po_opt1 (he X sc fn g _ hx.2)
  exact sn_sl g.hK (ha X sc fn g _ h1) (key b hb _ h2) (key d hd _ h3)
theorem fine_rev (ha : Fine W T N c k a) : Fine W T N c k (.rev a) := fun X sc fn g z h => by
  unfold chk at h
  split at h <;> first | cases h | skip
  simp only [Bool.and_eq_true, decide_eq_true_eq] at h
  obtain ⟨rfl, h2⟩ := h
  exact sn_rev g.hK (ha X sc fn g _ h2)
theorem fine_nil : Fine W T N c k .nil := fun X sc fn g z h => by
  unfold chk at h
  split at h <;> first | cases h | skip
  · exact snl_nil
  · exact snk_nil
theorem fine_cons (ha : Fine W T N c k a) (hb : Fine W T N c k b) : Fine W T N c k (.cons a b) := fun X sc fn g z h => by
  unfold chk at h
  split at h <;> first | cases h | skip
  · simp only [Bool.and_eq_true] at h
    exact snl_cons h.1.1 (ha X sc fn g _ h.1.2) (hb X sc fn g _ h.2)
  · simp only [Bool.and_eq_true] at h
    rename_i x xs
    obtain ⟨nm, v, p⟩ := x
    have g1 : Sn W X (sem c a) v := ha X sc fn g _ h.1
    exact snk_cons g1 (hb X sc fn g _ h.2)
theorem fine_star (ha : Fine W T N c k a) (hb : Fine W T N c k b) : Fine W T N c k (.star a b) := fun X sc fn g z h => by
  unfold chk at h
  split at h <;> first | cases h | skip
  simp only [Bool.and_eq_true] at h
  exact snl_star (ha X sc fn g _ h.1) (hb X sc fn g _ h.2)
theorem fine_tup (ha : Fine W T N c k a) : Fine W T N c k (.tup a) := fun X sc fn g z h => by
  unfold chk at h
  split at h <;> first | cases h | skip
  exact sn_tup g.hK (ha X sc fn g _ h)
theorem fine_lst (ha : Fine W T N c k a) : Fine W T N c k (.lst a) := fun X sc fn g z h => by
  unfold chk at h
  split at h <;> first | cases h | skip
  exact sn_lst g.hK (ha X sc fn g _ h)
theorem fine_call {f : Nat} (ha : Fine W T N c k a) : Fine W T N c k (.call f a) := fun X sc fn g z h => by
  unfold chk at h
  split at h <;> first | cases h | skip
  simp only [Bool.and_eq_true, decide_eq_true_eq] at h
  obtain ⟨⟨⟨⟨⟨h1, h2⟩, h3⟩, h4⟩, h5⟩, h6⟩ := h
  obtain ⟨h7, h8⟩ := dbg_of h3
  obtain ⟨fa, fd, ps, hm, hk, F, hb, _⟩ := g.fns _ _ h1
  have gl := g.gl h2
  have ga := ha X sc fn g _ h6
  split at h5
  · have e0 := isNil_eq h5
    subst e0
    exact sn_call0 g.hK F g.room g.gd gl hm hk hb h7
  · exact sn_call g.hK F g.room g.gd gl hm hk hb h7 h4 ga
theorem fine_bl1 {b : Bl} (ha : Fine W T N c k a) : Fine W T N c k (.bl1 b a) := fun X sc fn g z h => by
  unfold chk at h
  split at h <;> first | cases h | skip
  rename_i x p es cp
  simp only [Bool.and_eq_true, decide_eq_true_eq] at h
  obtain ⟨⟨⟨⟨⟨rfl, h2⟩, h3⟩, h4⟩, h5⟩, h6⟩ := h
  cases es with
  | nil => cases h5
  | cons y es => exact sn_bl1 g.hK g.calm g.gd g.un (g.gl h2) (g.blt _ h3) h4 (ha X sc fn g _ h6)
theorem fine_mt {m : Mt} (ha : Fine W T N c k a) (hb : Fine W T N c k b) : Fine W T N c k (.mt m a b) := fun X sc fn g z h => by
  unfold chk at h
  split at h <;> first | cases h | skip
  simp only [Bool.and_eq_true, decide_eq_true_eq] at h
  obtain ⟨⟨⟨⟨⟨rfl, h2⟩, h3⟩, h4⟩, h5⟩, h6⟩ := h
  exact sn_mt g.hK (base_of h3 _ _ _) h2 h4 (ha X sc fn g _ h5) (hb X sc fn g _ h6)
theorem fine_isTy {t : Ty} (ha : Fine W T N c k a) : Fine W T N c k (.isTy t a) := fun X sc fn g z h => by
  unfold chk at h
  split at h <;> first | cases h | skip
  simp only [Bool.and_eq_true, decide_eq_true_eq] at h
  obtain ⟨⟨⟨⟨⟨⟨⟨rfl, h2⟩, h3⟩, rfl⟩, h4⟩, h5⟩, h6⟩, h7⟩ := h
  exact sn_isTy g.hK (g.gl h2) (g.blt _ h3) (g.gl h4) (g.blt _ h5) h6 (ha X sc fn g _ h7)
theorem fine_pop {i : Nat} (ha : Fine W T N c k a) : Fine W T N c k (.pop i a) := fun X sc fn g z h => by
  unfold chk at h
  split at h <;> first | cases h | skip
  simp only [Bool.and_eq_true, decide_eq_true_eq] at h
  obtain ⟨⟨⟨⟨⟨⟨rfl, h2⟩, h3⟩, h4⟩, h5⟩, h6⟩, h7⟩ := h
  obtain ⟨h8, h9⟩ := dbg_of h4
  exact sn_pop g.hK (by rw [g.eN]; exact h2) (g.vis h3) h8 h9 (base_of rfl _ _ _) h5 h6 (ha X sc fn g _ h7)
theorem fine_range1 (ha : Fine W T N c k a) : Fine W T N c k (.range1 a) := fun X sc fn g z h => by
  unfold chk at h
  split at h <;> first | cases h | skip
  simp only [Bool.and_eq_true, decide_eq_true_eq] at h
  obtain ⟨⟨⟨⟨rfl, h2⟩, h3⟩, h4⟩, h5⟩ := h
  exact sn_range1 (g.gl h2) (g.blt _ h3) h4 (ha X sc fn g _ h5)
theorem fine_range2 (ha : Fine W T N c k a) (hb : Fine W T N c k b) : Fine W T N c k (.range2 a b) := fun X sc fn g z h => by
  unfold chk at h
  split at h <;> first | cases h | skip
  simp only [Bool.and_eq_true, decide_eq_true_eq] at h
  obtain ⟨⟨⟨⟨⟨⟨rfl, h2⟩, h3⟩, h4⟩, h5⟩, h6⟩, h7⟩ := h
  exact sn_range2 (g.gl h2) (g.blt _ h3) h4 h5 (ha X sc fn g _ h6) (hb X sc fn g _ h7)
theorem fine_enum (ha : Fine W T N c k a) : Fine W T N c k (.enum a) := fun X sc fn g z h => by
  unfold chk at h
  split at h <;> first | cases h | skip
  simp only [Bool.and_eq_true, decide_eq_true_eq] at h
  obtain ⟨⟨⟨⟨rfl, h2⟩, h3⟩, h4⟩, h5⟩ := h
  exact sn_enum g.hK (g.gl h2) (g.blt _ h3) h4 (ha X sc fn g _ h5)
theorem fine_zip (ha : Fine W T N c k a) (hb : Fine W T N c k b) : Fine W T N c k (.zip a b) := fun X sc fn g z h => by
  unfold chk at h
  split at h <;> first | cases h | skip
  simp only [Bool.and_eq_true, decide_eq_true_eq] at h
  obtain ⟨⟨⟨⟨⟨⟨rfl, h2⟩, h3⟩, h4⟩, h5⟩, h6⟩, h7⟩ := h
  exact sn_zip g.hK (g.gl h2) (g.blt _ h3) h4 h5 (ha X sc fn g _ h6) (hb X sc fn g _ h7)
theorem tup_tt {N : List Str} {sc : Scope} {fn : Str → Bool} {t : List Nat} {tt : Bool} {tg : Expr} (h : tgC N sc fn t tt tg = true) (h2 : isTupE tg = true) : tt = true := by
  cases tg <;> first | cases h2 | skip
  unfold tgC at h
  rw [Bool.and_eq_true] at h
  exact h.1
/-- a comprehension's parts -/
theorem comp_parts {t : List Nat} {tt : Bool} {el it cnd : E} {X : Cx} {sc scope : Scope} {fn : Str → Bool} {x tg iter : Expr} {ifs : List Expr} (hel : Fine W T N c k el) (hit : Fine W T N c k it) (hcn : Fine W T N c k cnd) (g : Gd W T N c k X sc fn)
    (h : (notSet iter && (!needsTup iter || isTupE tg) && blkC N sc scope (ownL N t) && tgC N (relS scope sc) (cellC scope) t tt tg && chk T N it sc (.e iter) && (match ifs with | [] => isNil cnd | [y] => !isNil cnd && chk T N cnd (relS scope sc) (.e y) | _ => false) && chk T N el (relS scope sc) (.e x)) = true) :
    PI X tg iter (trI W (needsTup iter) (sem c it).itr) ∧ BlkOk X.N X.env.scope scope (ownL N t) ∧ (∀ (s : Shared) (H : Hp) (C : Addr) (cl : List (Str × Addr)) (fp : List Addr), PG (X.blk s H scope (compEnvC scope cl C X.env) fp) tg (trG W t tt)) ∧
    (∀ (s : Shared) (H : Hp) (C : Addr) (cl : List (Str × Addr)) (fp : List Addr), PTs (X.blk s H scope (compEnvC scope cl C X.env) fp) ifs (trT W fun e => if isNil cnd then R.ok (true, e) else (sem c cnd).tru e)) ∧
    (∀ (s : Shared) (H : Hp) (C : Addr) (cl : List (Str × Addr)) (fp : List Addr), PE (X.blk s H scope (compEnvC scope cl C X.env) fp) x (trV W (sem c el).val)) ∧ (∀ y, foldedSetIterable iter X.env y = pure y) ∧ (needsTup iter = true → tt = true) := by
  simp only [Bool.and_eq_true, Bool.or_eq_true, Bool.not_eq_true'] at h
  obtain ⟨⟨⟨⟨⟨⟨h1, h2⟩, h3⟩, h4⟩, h5⟩, h6⟩, h7⟩ := h
  have g1 : Sn W X (sem c it) iter := hit X sc fn g _ h5
  refine ⟨g1.itr tg fun z => h2.elim (fun q => by rw [q] at z; cases z) id, by rw [g.eN, g.esc]; exact blkOk_by h3, fun s H C cl fp => tg_of (g.blk scope s H C cl fp) h4, fun s H C cl fp => ?_, fun s H C cl fp => ?_, notSet_fold h1 X.env, fun z => ?_⟩
  · split at h6
    · rw [h6]
      refine ⟨fun pins s σ H Q I q => pts_nil.run pins s σ H Q I ?_⟩
      obtain ⟨F, L, e, b, e', ok, hf, k⟩ := q
      cases hf
      exact k F H L Stp.refl ok
    · simp only [Bool.and_eq_true, Bool.not_eq_true'] at h6
      rw [h6.1]
      have g2 : Sn W _ (sem c cnd) _ := hcn _ _ _ (g.blk scope s H C cl fp) _ h6.2
      exact pts_one g2.tru
    · cases h6
  · have g2 : Sn W _ (sem c el) x := hel _ _ _ (g.blk scope s H C cl fp) _ h7
    exact g2.val
  · exact tup_tt h4 (h2.elim (fun q => by rw [q] at z; cases z) id)
theorem fine_comp {t : List Nat} {tt : Bool} {el it cnd : E} (hel : Fine W T N c k el) (hit : Fine W T N c k it) (hcn : Fine W T N c k cnd) : Fine W T N c k (.comp t tt el it cnd) := fun X sc fn g z h => by
  unfold chk at h
  split at h <;> first | cases h | skip
  simp only [Bool.and_assoc] at h
  rw [Bool.and_eq_true, decide_eq_true_eq] at h
  obtain ⟨rfl, h⟩ := h
  simp only [← Bool.and_assoc] at h
  obtain ⟨h1, h2, h3, h4, h5, h6, h7⟩ := comp_parts hel hit hcn g h
  exact sn_comp h7 g.hK g.calm (by rw [g.eN]; exact g.nd) (ownL_snd N t) h1 h2 h3 h4 h5 h6
/-- arguments' number -/
theorem ags_len : ∀ (e : E) (sc : Scope) (es : List Expr), chk T N e sc (.l es) = true → ∀ s as s', (sem c e).ags s = .ok (as, s') → as.length = es.length
  | .nil, sc, es, h, s, as, s', hs => by
    unfold chk at h
    split at h <;> first | cases h | skip
    · rename_i e0
      cases e0
      cases hs
      rfl
    · rename_i e0
      cases e0
  | .cons a r, sc, es, h, s, as, s', hs => by
    unfold chk at h
    split at h <;> first | cases h | skip
    · rename_i x xs e0
      cases e0
      simp only [Bool.and_eq_true] at h
      obtain ⟨⟨o, s1⟩, h1, hs⟩ := R.bind_ok hs
      obtain ⟨⟨os, s2⟩, h2, hs⟩ := R.bind_ok hs
      cases hs
      rw [List.length_cons, List.length_cons, ags_len r sc xs h.2 s1 os s' h2]
    · rename_i e0
      cases e0
  | .star a r, sc, es, h, s, as, s', hs => by cases hs
  | .non, sc, es, h, s, as, s', hs => by cases hs
  | .bl _, sc, es, h, s, as, s', hs => by cases hs
  | .int _, sc, es, h, s, as, s', hs => by cases hs
  | .str _, sc, es, h, s, as, s', hs => by cases hs
  | .var _, sc, es, h, s, as, s', hs => by cases hs
  | .glb _, sc, es, h, s, as, s', hs => by cases hs
  | .op .., sc, es, h, s, as, s', hs => by cases hs
  | .neg _, sc, es, h, s, as, s', hs => by cases hs
  | .cm .., sc, es, h, s, as, s', hs => by cases hs
  | .ch .., sc, es, h, s, as, s', hs => by cases hs
  | .and .., sc, es, h, s, as, s', hs => by cases hs
  | .or .., sc, es, h, s, as, s', hs => by cases hs
  | .not _, sc, es, h, s, as, s', hs => by cases hs
  | .ite .., sc, es, h, s, as, s', hs => by cases hs
  | .ix .., sc, es, h, s, as, s', hs => by cases hs
  | .sl .., sc, es, h, s, as, s', hs => by cases hs
  | .rev _, sc, es, h, s, as, s', hs => by cases hs
  | .tup _, sc, es, h, s, as, s', hs => by cases hs
  | .lst _, sc, es, h, s, as, s', hs => by cases hs
  | .call .., sc, es, h, s, as, s', hs => by cases hs
  | .callK .., sc, es, h, s, as, s', hs => by cases hs
  | .bl1 .., sc, es, h, s, as, s', hs => by cases hs
  | .mt .., sc, es, h, s, as, s', hs => by cases hs
  | .isTy .., sc, es, h, s, as, s', hs => by cases hs
  | .pop .., sc, es, h, s, as, s', hs => by cases hs
  | .range1 _, sc, es, h, s, as, s', hs => by cases hs
  | .range2 .., sc, es, h, s, as, s', hs => by cases hs
  | .enum _, sc, es, h, s, as, s', hs => by cases hs
  | .zip .., sc, es, h, s, as, s', hs => by cases hs
  | .comp .., sc, es, h, s, as, s', hs => by cases hs
  | .att .., sc, es, h, s, as, s', hs => by cases hs
  | .make .., sc, es, h, s, as, s', hs => by cases hs
  | .makeK .., sc, es, h, s, as, s', hs => by cases hs
  | .meth .., sc, es, h, s, as, s', hs => by cases hs
  | .methK .., sc, es, h, s, as, s', hs => by cases hs
  | .own .., sc, es, h, s, as, s', hs => by cases hs
  | .eqO .., sc, es, h, s, as, s', hs => by cases hs
  | .isCl .., sc, es, h, s, as, s', hs => by cases hs
  | .comp2 .., sc, es, h, s, as, s', hs => by cases hs
  | .idx .., sc, es, h, s, as, s', hs => by cases hs
  | .revR _, sc, es, h, s, as, s', hs => by cases hs
  | .lrange _, sc, es, h, s, as, s', hs => by cases hs
  | .bor _, sc, es, h, s, as, s', hs => by cases hs
theorem kws_len : ∀ (e : E) (sc : Scope) (es : List Keyword), chk T N e sc (.k es) = true → ∀ s as s', (sem c e).ags s = .ok (as, s') → as.length = es.length
  | .nil, sc, es, h, s, as, s', hs => by
    unfold chk at h
    split at h <;> first | cases h | skip
    · rename_i e0
      cases e0
    · rename_i e0
      cases e0
      cases hs
      rfl
  | .cons a r, sc, es, h, s, as, s', hs => by
    unfold chk at h
    split at h <;> first | cases h | skip
    · rename_i e0
      cases e0
    · rename_i x xs e0
      cases e0
      simp only [Bool.and_eq_true] at h
      obtain ⟨⟨o, s1⟩, h1, hs⟩ := R.bind_ok hs
      obtain ⟨⟨os, s2⟩, h2, hs⟩ := R.bind_ok hs
      cases hs
      rw [List.length_cons, List.length_cons, kws_len r sc xs h.2 s1 os s' h2]
  | .star a r, sc, es, h, s, as, s', hs => by cases hs
  | .non, sc, es, h, s, as, s', hs => by cases hs
  | .bl _, sc, es, h, s, as, s', hs => by cases hs
  | .int _, sc, es, h, s, as, s', hs => by cases hs
  | .str _, sc, es, h, s, as, s', hs => by cases hs
  | .var _, sc, es, h, s, as, s', hs => by cases hs
  | .glb _, sc, es, h, s, as, s', hs => by cases hs
  | .op .., sc, es, h, s, as, s', hs => by cases hs
  | .neg _, sc, es, h, s, as, s', hs => by cases hs
  | .cm .., sc, es, h, s, as, s', hs => by cases hs
  | .ch .., sc, es, h, s, as, s', hs => by cases hs
  | .and .., sc, es, h, s, as, s', hs => by cases hs
  | .or .., sc, es, h, s, as, s', hs => by cases hs
  | .not _, sc, es, h, s, as, s', hs => by cases hs
  | .ite .., sc, es, h, s, as, s', hs => by cases hs
  | .ix .., sc, es, h, s, as, s', hs => by cases hs
  | .sl .., sc, es, h, s, as, s', hs => by cases hs
  | .rev _, sc, es, h, s, as, s', hs => by cases hs
  | .tup _, sc, es, h, s, as, s', hs => by cases hs
  | .lst _, sc, es, h, s, as, s', hs => by cases hs
  | .call .., sc, es, h, s, as, s', hs => by cases hs
  | .callK .., sc, es, h, s, as, s', hs => by cases hs
  | .bl1 .., sc, es, h, s, as, s', hs => by cases hs
  | .mt .., sc, es, h, s, as, s', hs => by cases hs
  | .isTy .., sc, es, h, s, as, s', hs => by cases hs
  | .pop .., sc, es, h, s, as, s', hs => by cases hs
  | .range1 _, sc, es, h, s, as, s', hs => by cases hs
  | .range2 .., sc, es, h, s, as, s', hs => by cases hs
  | .enum _, sc, es, h, s, as, s', hs => by cases hs
  | .zip .., sc, es, h, s, as, s', hs => by cases hs
  | .comp .., sc, es, h, s, as, s', hs => by cases hs
  | .att .., sc, es, h, s, as, s', hs => by cases hs
  | .make .., sc, es, h, s, as, s', hs => by cases hs
  | .makeK .., sc, es, h, s, as, s', hs => by cases hs
  | .meth .., sc, es, h, s, as, s', hs => by cases hs
  | .methK .., sc, es, h, s, as, s', hs => by cases hs
  | .own .., sc, es, h, s, as, s', hs => by cases hs
  | .eqO .., sc, es, h, s, as, s', hs => by cases hs
  | .isCl .., sc, es, h, s, as, s', hs => by cases hs
  | .comp2 .., sc, es, h, s, as, s', hs => by cases hs
  | .idx .., sc, es, h, s, as, s', hs => by cases hs
  | .revR _, sc, es, h, s, as, s', hs => by cases hs
  | .lrange _, sc, es, h, s, as, s', hs => by cases hs
  | .bor _, sc, es, h, s, as, s', hs => by cases hs
theorem fine_callK {f : Nat} {ks : List Str} {gs : List Nat} (ha : Fine W T N c k a) (hb : Fine W T N c k b) : Fine W T N c k (.callK f a ks gs b) := fun X sc fn g z h => by
  unfold chk at h
  split at h <;> first | cases h | skip
  rename_i x p es kws cp
  simp only [Bool.and_eq_true, decide_eq_true_eq] at h
  obtain ⟨⟨⟨⟨⟨⟨⟨⟨h1, h2⟩, h3⟩, h4⟩, h5⟩, h6⟩, h7⟩, h8⟩, h9⟩ := h
  obtain ⟨d1, d2⟩ := dbg_of h3
  obtain ⟨fa, fd, ps, hm, hk, F, _, hkw⟩ := g.fns _ _ h1
  have ga : SnL W X (sem c a) es := ha X sc fn g _ h8
  have gb : PK X kws (trL W (sem c b).ags) := hb X sc fn g _ h9
  refine sn_callK g.hK F g.room g.gd (g.gl h2) hm hk (fun us zs ys l1 l2 => hkw _ _ _ h6 us zs ys l1 (by rw [l2, kwNs_len h5])) d1 (fun e0 => ?_) h4 h5 ga (ags_len a sc es h8) gb (kws_len b sc kws h9)
  subst e0
  rw [isNil_eq (e := a) h7]
  rfl
theorem tree_of {X : Cx} {a : Expr} {m : Str} {apos pos : Pos} {es : List Expr} {kws : List Keyword} (hb : attributeBase a m X.env (eval a X.env) = eval a X.env) (hl : (apos.endLine == pos.line) = true)
    (hf : methodCallForm (es.length + kws.length) (backTo pos (starEach es X.env)) (backToKw pos (keywordEach kws X.env)) = true) : MTree X a m apos pos es kws := by
  refine ⟨(do return (← importBound a X.env).getD true), ?_⟩
  rw [arm_eval_Call, hb]
  have hp : methodCallPos true a X.env apos pos = pure pos := by
    unfold methodCallPos
    simp [hl]
  unfold methodCall calleeOf
  rw [hf, hp]
  simp only [if_true]
  rfl
theorem stars_all {pos : Pos} {env : Env} : ∀ {es : List Expr}, notStars es = true → (backTo pos (starEach es env)).all (fun x => !x.1) = true ∧ (starEach es env).length = es.length
  | [], _ => ⟨rfl, rfl⟩
  | a :: as, h => by
    rw [notStars, Bool.and_eq_true] at h
    rw [star_cons h.1]
    obtain ⟨h1, h2⟩ := stars_all (pos := pos) (env := env) h.2
    refine ⟨?_, by rw [List.length_cons, List.length_cons, h2]⟩
    show (!false && (backTo pos (starEach as env)).all (fun x => !x.1)) = true
    rw [h1]
    rfl
theorem fine_att {f : Str} (ha : Fine W T N c k a) : Fine W T N c k (.att a f) := fun X sc fn g z h => by
  unfold chk at h
  split at h <;> first | cases h | skip
  rename_i x nm ap
  simp only [Bool.and_eq_true, decide_eq_true_eq] at h
  obtain ⟨⟨rfl, h2⟩, h3⟩ := h
  have z := sn_att (f := nm) (pos := ap) g.hK g.clo (base_of h2 _ _ _) (ha X sc fn g _ h3)
  rw [← g.hF] at z
  exact z
theorem fine_bor (ha : Fine W T N c k a) : Fine W T N c k (.bor a) := fun X sc fn g z h => by
  unfold chk at h
  split at h <;> first | cases h | skip
  rw [Bool.and_eq_true, Bool.and_eq_true] at h
  exact sn_bor g.hK (ha X sc fn g _ h.2) h.1.1
theorem fine_idx {t : Bool} (ha : Fine W T N c k a) (hb : Fine W T N c k b) : Fine W T N c k (.idx t a b) := fun X sc fn g z h => by
  unfold chk at h
  split at h <;> first | cases h | skip
  simp only [Bool.and_eq_true, decide_eq_true_eq] at h
  obtain ⟨⟨⟨⟨⟨rfl, h2⟩, h3⟩, h4⟩, h5⟩, h6⟩ := h
  exact sn_idx g.hK (base_of h3 _ _ _) h2 h4 (ha X sc fn g _ h5) (hb X sc fn g _ h6)
theorem lookupN_mem {β : Type} {j : Nat} {d : β} : ∀ {xs : List (Nat × β)}, xs.lookup j = some d → j ∈ xs.map (·.1)
  | [], h => by cases h
  | x :: xs, h => by
    rw [List.lookup_cons] at h
    cases q : j == x.1 with
    | true =>
      have e : j = x.1 := by simpa using q
      simp [e]
    | false =>
      rw [q] at h
      exact List.mem_cons_of_mem _ (lookupN_mem h)
theorem fine_isCl {j : Nat} (ha : Fine W T N c k a) : Fine W T N c k (.isCl j a) := fun X sc fn g z h => by
  unfold chk at h
  split at h <;> first | cases h | skip
  rename_i x0 p y zn p2 cp
  simp only [Bool.and_eq_true, decide_eq_true_eq] at h
  obtain ⟨⟨⟨⟨⟨⟨⟨rfl, h2⟩, h3⟩, h4⟩, h5⟩, h6⟩, h7⟩, h8⟩ := h
  obtain ⟨d1, _⟩ := dbg_of h6
  obtain ⟨m1, _⟩ := g.cls _ _ h4
  have hk : j ∈ T.cl.map (·.1) := lookupN_mem h4
  have z := sn_isCl (pos := cp) (p := p) (p2 := p2) g.hK g.isi hk (g.gl h2) (g.blt _ h3) (g.gl h5) m1 d1 h7 (ha X sc fn g _ h8)
  rw [← g.hCl] at z
  exact z
theorem fine_make {j f : Nat} (ha : Fine W T N c k a) : Fine W T N c k (.make j f a) := fun X sc fn g z h => by
  unfold chk at h
  split at h <;> first | cases h | skip
  rename_i x p es cp
  simp only [Bool.and_eq_true, decide_eq_true_eq] at h
  obtain ⟨⟨⟨⟨⟨⟨h1, h2⟩, h3⟩, h4⟩, h5⟩, h6⟩, h7⟩ := h
  obtain ⟨d1, _⟩ := dbg_of h4
  obtain ⟨m1, _⟩ := g.cls _ _ h1
  obtain ⟨fa, fd, ps, M, Fn, hb, _⟩ := g.ini _ _ h2
  cases es with
  | nil => cases h6
  | cons y es => exact sn_make g.hK g.hF rfl M Fn g.room g.gd (g.gl h3) m1 hb d1 h5 (ha X sc fn g _ h7)
theorem fine_makeK {j f : Nat} {ks : List Str} {gs : List Nat} (hb : Fine W T N c k b) : Fine W T N c k (.makeK j f a ks gs b) := fun X sc fn g z h => by
  unfold chk at h
  split at h <;> first | cases h | skip
  rename_i x p kws cp
  simp only [Bool.and_eq_true, decide_eq_true_eq] at h
  obtain ⟨⟨⟨⟨⟨⟨⟨h1, h2⟩, h3⟩, h4⟩, h5⟩, h6⟩, h7⟩, h8⟩ := h
  obtain ⟨d1, _⟩ := dbg_of h4
  obtain ⟨m1, _⟩ := g.cls _ _ h1
  obtain ⟨fa, fd, ps, M, Fn, _, hkw⟩ := g.ini _ _ h2
  have gb : PK X kws (trL W (sem c b).ags) := hb X sc fn g _ h8
  rw [isNil_eq h5]
  exact sn_makeK g.hK g.hF rfl M Fn g.room g.gd (g.gl h3) m1 (hkw _ _ h7) h6 gb (kws_len b sc kws h8) d1
theorem fine_meth {j f : Nat} {m : Str} (ha : Fine W T N c k a) (hb : Fine W T N c k b) : Fine W T N c k (.meth j f m a b) := fun X sc fn g z h => by
  unfold chk at h
  split at h <;> first | cases h | skip
  rename_i x nm ap es cp
  simp only [Bool.and_eq_true, decide_eq_true_eq] at h
  obtain ⟨⟨⟨⟨⟨⟨⟨⟨rfl, h2⟩, h3⟩, h4⟩, h5⟩, h6⟩, h7⟩, h8⟩, h9⟩ := h
  obtain ⟨fa, fd, ps, hm, hc, Fn, hbd, _⟩ := g.ms _ _ _ h2
  have ga := ha X sc fn g _ h8
  have gb := hb X sc fn g _ h9
  have ht : MTree X x nm ap cp es [] := tree_of (base_of h3 _ _ _) h4 (by
    unfold methodCallForm
    rw [(stars_all (pos := cp) (env := X.env) h6).1]
    have : es.length + 0 + 0 < 30 := by omega
    show (true && true && decide (es.length + 0 + 0 < 30)) = true
    rw [decide_eq_true this]
    rfl)
  cases es with
  | nil =>
    have e0 := isNil_eq h7
    subst e0
    have z := sn_meth0 (k := j) g.hK hc hm Fn g.room g.gd hbd ht ga
    rw [← g.hF] at z
    exact z
  | cons y es =>
    have z := sn_meth (k := j) g.hK hc hm Fn g.room g.gd hbd h6 ht ga gb
    rw [← g.hF] at z
    exact z
theorem fine_methK {j f : Nat} {m : Str} {ks : List Str} {gs : List Nat} (ha : Fine W T N c k a) (hb : Fine W T N c k b) : Fine W T N c k (.methK j f m a d ks gs b) := fun X sc fn g z h => by
  unfold chk at h
  split at h <;> first | cases h | skip
  rename_i x nm ap kws cp
  simp only [Bool.and_eq_true, decide_eq_true_eq] at h
  obtain ⟨⟨⟨⟨⟨⟨⟨⟨⟨rfl, h2⟩, h3⟩, h4⟩, h5⟩, h6⟩, h7⟩, h8⟩, h9⟩, h10⟩ := h
  obtain ⟨fa, fd, ps, hm, hc, Fn, _, hkw⟩ := g.ms _ _ _ h2
  have ga := ha X sc fn g _ h9
  have gb : PK X kws (trL W (sem c b).ags) := hb X sc fn g _ h10
  rw [isNil_eq h6]
  obtain ⟨k1, k2, k3⟩ := kw_facts (pos := cp) (env := X.env) h7
  have ht : MTree X x nm ap cp [] kws := tree_of (base_of h3 _ _ _) h4 (by
    unfold methodCallForm
    rw [k1]
    have : 0 + kws.length + (if (backToKw cp (keywordEach kws X.env)).isEmpty then 0 else 1) < 30 := by split <;> omega
    simpa [backTo, starEach] using this)
  have z := sn_methK (k := j) g.hK hc hm Fn g.room g.gd (hkw _ _ h8) h7 ht ga gb (kws_len b sc kws h10)
  rw [← g.hF] at z
  exact z
theorem fine_own {w : Ow} {j f : Nat} (ha : Fine W T N c k a) : Fine W T N c k (.own w j f a) := fun X sc fn g z h => by
  unfold chk at h
  split at h <;> first | cases h | skip
  simp only [Bool.and_eq_true, decide_eq_true_eq] at h
  obtain ⟨⟨⟨⟨⟨rfl, h2⟩, h3⟩, h4⟩, h5⟩, h6⟩ := h
  obtain ⟨fa, fd, ps, S, Fn, hb⟩ := g.spf _ _ _ h5
  exact sn_own g.hK S Fn g.room g.gd hb (g.gl h2) (g.blt _ h3) h4 (ha X sc fn g _ h6)
theorem fine_eqO {j f : Nat} {ne : Bool} (ha : Fine W T N c k a) (hb : Fine W T N c k b) : Fine W T N c k (.eqO j f ne a b) := fun X sc fn g z h => by
  unfold chk at h
  split at h <;> first | cases h | skip
  simp only [Bool.and_eq_true, decide_eq_true_eq] at h
  obtain ⟨⟨⟨⟨rfl, h2⟩, h3⟩, h4⟩, h5⟩ := h
  obtain ⟨fa, fd, ps, S, Fn, hbd⟩ := g.spf _ _ _ h3
  exact sn_eqO g.hK ⟨S.at_, S.fn, S.ne rfl, S.ob⟩ Fn g.room g.gd hbd h2 (ha X sc fn g _ h4) (hb X sc fn g _ h5)
theorem fine_revR (ha : Fine W T N c k a) : Fine W T N c k (.revR a) := fun X sc fn g z h => by
  unfold chk at h
  split at h <;> first | cases h | skip
  simp only [Bool.and_eq_true, decide_eq_true_eq] at h
  obtain ⟨⟨rfl, rfl⟩, h2⟩ := h
  exact sn_revR g.hK (ha X sc fn g _ h2)
theorem fine_lrange1 (ha : Fine W T N c k a) : Fine W T N c k (.lrange (.range1 a)) := fun X sc fn g z h => by
  unfold chk at h
  split at h <;> first | cases h | skip
  simp only [Bool.and_eq_true, decide_eq_true_eq] at h
  obtain ⟨⟨⟨⟨⟨⟨⟨rfl, h2⟩, h3⟩, rfl⟩, h4⟩, h5⟩, h6⟩, h7⟩ := h
  exact sn_lrange1 g.hK g.calm (g.gl h4) (g.blt _ h5) (g.gl h2) (g.blt _ h3) h6 (ha X sc fn g _ h7)
theorem fine_lrange2 (ha : Fine W T N c k a) (hb : Fine W T N c k b) : Fine W T N c k (.lrange (.range2 a b)) := fun X sc fn g z h => by
  unfold chk at h
  split at h <;> first | cases h | skip
  simp only [Bool.and_eq_true, decide_eq_true_eq] at h
  obtain ⟨⟨⟨⟨⟨⟨⟨⟨⟨rfl, h2⟩, h3⟩, rfl⟩, h4⟩, h5⟩, h6⟩, h7⟩, h8⟩, h9⟩ := h
  exact sn_lrange2 g.hK g.calm (g.gl h4) (g.blt _ h5) (g.gl h2) (g.blt _ h3) h6 h7 (ha X sc fn g _ h8) (hb X sc fn g _ h9)
/-- .. of two clauses -/
theorem comp2_parts {t t2 : List Nat} {tt tt2 : Bool} {el it cnd it2 cnd2 : E} {X : Cx} {sc scope : Scope} {fn : Str → Bool} {x tg iter tg2 iter2 : Expr} {ifs ifs2 : List Expr} (hel : Fine W T N c k el) (hit : Fine W T N c k it) (hcn : Fine W T N c k cnd) (hit2 : Fine W T N c k it2) (hcn2 : Fine W T N c k cnd2) (g : Gd W T N c k X sc fn)
    (h : (notSet iter && notSet iter2 && (!needsTup iter || isTupE tg) && (!needsTup iter2 || isTupE tg2) && blkC N sc scope (ownL N (t ++ t2)) && tgC N (relS scope sc) (cellC scope) t tt tg && tgC N (relS scope sc) (cellC scope) t2 tt2 tg2 &&
      chk T N it sc (.e iter) && chk T N it2 (relS scope sc) (.e iter2) && (match ifs with | [] => isNil cnd | [y] => !isNil cnd && chk T N cnd (relS scope sc) (.e y) | _ => false) && (match ifs2 with | [] => isNil cnd2 | [y] => !isNil cnd2 && chk T N cnd2 (relS scope sc) (.e y) | _ => false) && chk T N el (relS scope sc) (.e x)) = true) :
    Parts2 W X (needsTup iter) (needsTup iter2) t t2 tt tt2 (sem c el).val (sem c it).itr (sem c it2).itr (fun e => if isNil cnd then R.ok (true, e) else (sem c cnd).tru e) (fun e => if isNil cnd2 then R.ok (true, e) else (sem c cnd2).tru e) tg x iter tg2 iter2 ifs ifs2 scope (ownL N (t ++ t2)) := by
  simp only [Bool.and_eq_true, Bool.or_eq_true, Bool.not_eq_true'] at h
  obtain ⟨⟨⟨⟨⟨⟨⟨⟨⟨⟨⟨h1, h1b⟩, h2⟩, h2b⟩, h3⟩, h4⟩, h4b⟩, h5⟩, h5b⟩, h6⟩, h6b⟩, h7⟩ := h
  have g1 : Sn W X (sem c it) iter := hit X sc fn g _ h5
  have tests : ∀ {cnd : E} {ifs : List Expr}, Fine W T N c k cnd → (match ifs with | [] => isNil cnd = true | [y] => isNil cnd = false ∧ chk T N cnd (relS scope sc) (.e y) = true | _ => False) → ∀ (s : Shared) (H : Hp) (C : Addr) (cl : List (Str × Addr)) (fp : List Addr), PTs (X.blk s H scope (compEnvC scope cl C X.env) fp) ifs (trT W fun e => if isNil cnd then R.ok (true, e) else (sem c cnd).tru e) := by
    intro cnd ifs hcn h6 s H C cl fp
    match ifs, h6 with
    | [], h6 =>
      have h6 : isNil cnd = true := h6
      rw [h6]
      refine ⟨fun pins s σ H Q I q => pts_nil.run pins s σ H Q I ?_⟩
      obtain ⟨F, L, e, b, e', ok, hf, k⟩ := q
      cases hf
      exact k F H L Stp.refl ok
    | [y], h6 =>
      have h6 : isNil cnd = false ∧ chk T N cnd (relS scope sc) (.e y) = true := h6
      rw [h6.1]
      have g2 : Sn W _ (sem c cnd) _ := hcn _ _ _ (g.blk scope s H C cl fp) _ h6.2
      exact pts_one g2.tru
    | _ :: _ :: _, h6 => exact h6.elim
  exact { hi := g1.itr tg fun z => h2.elim (fun q => by rw [q] at z; cases z) id
          ok := by rw [g.eN, g.esc]; exact blkOk_by h3
          ow := ownL_snd N (t ++ t2)
          hg := fun s H C cl fp => tg_of (g.blk scope s H C cl fp) h4
          ht := tests hcn (by revert h6; split <;> simp)
          hi2 := fun s H C cl fp => by
            have g2 : Sn W _ (sem c it2) iter2 := hit2 _ _ _ (g.blk scope s H C cl fp) _ h5b
            exact g2.itr tg2 fun z => h2b.elim (fun q => by rw [q] at z; cases z) id
          hg2 := fun s H C cl fp => tg_of (g.blk scope s H C cl fp) h4b
          ht2 := tests hcn2 (by revert h6b; split <;> simp)
          he := fun s H C cl fp => by
            have g2 : Sn W _ (sem c el) x := hel _ _ _ (g.blk scope s H C cl fp) _ h7
            exact g2.val
          hs := notSet_fold h1 X.env
          hs2 := fun env => notSet_fold h1b env
          hu := fun z => tup_tt h4 (h2.elim (fun q => by rw [q] at z; cases z) id)
          hu2 := fun z => tup_tt h4b (h2b.elim (fun q => by rw [q] at z; cases z) id) }
theorem fine_comp2 {t t2 : List Nat} {tt tt2 : Bool} {el it cnd it2 cnd2 : E} (hel : Fine W T N c k el) (hit : Fine W T N c k it) (hcn : Fine W T N c k cnd) (hit2 : Fine W T N c k it2) (hcn2 : Fine W T N c k cnd2) : Fine W T N c k (.comp2 t tt it cnd t2 tt2 it2 cnd2 el) := fun X sc fn g z h => by
  unfold chk at h
  split at h <;> first | cases h | skip
  simp only [Bool.and_assoc] at h
  rw [Bool.and_eq_true, Bool.and_eq_true, decide_eq_true_eq, decide_eq_true_eq] at h
  obtain ⟨rfl, rfl, h⟩ := h
  simp only [← Bool.and_assoc] at h
  exact sn_comp2 g.hK g.calm (by rw [g.eN]; exact g.nd) (comp2_parts hel hit hcn hit2 hcn2 g h)
theorem fine_no {e : E} (h : ∀ sc z, chk T N e sc z = false) : Fine W T N c k e := fun X sc fn g z hz => by
  rw [h] at hz
  cases hz
theorem chk_ok : ∀ e : E, Fine W T N c k e
  | .non => fine_non
  | .bl _ => fine_bl
  | .int _ => fine_int
  | .str _ => fine_str
  | .var _ => fine_var
  | .glb _ => fine_glb
  | .op _ a b => fine_op (chk_ok a) (chk_ok b)
  | .neg a => fine_neg (chk_ok a)
  | .cm _ a b => fine_cm (chk_ok a) (chk_ok b)
  | .ch _ _ a b d => fine_ch (chk_ok a) (chk_ok b) (chk_ok d)
  | .and a b => fine_and (chk_ok a) (chk_ok b)
  | .or a b => fine_or (chk_ok a) (chk_ok b)
  | .not a => fine_not (chk_ok a)
  | .ite d a b => fine_ite (chk_ok d) (chk_ok a) (chk_ok b)
  | .ix a b => fine_ix (chk_ok a) (chk_ok b)
  | .sl a b d => fine_sl (chk_ok a) (chk_ok b) (chk_ok d)
  | .rev a => fine_rev (chk_ok a)
  | .nil => fine_nil
  | .cons a b => fine_cons (chk_ok a) (chk_ok b)
  | .star a b => fine_star (chk_ok a) (chk_ok b)
  | .tup a => fine_tup (chk_ok a)
  | .lst a => fine_lst (chk_ok a)
  | .call _ a => fine_call (chk_ok a)
  | .callK _ a _ _ b => fine_callK (chk_ok a) (chk_ok b)
  | .bl1 _ a => fine_bl1 (chk_ok a)
  | .mt _ a b => fine_mt (chk_ok a) (chk_ok b)
  | .isTy _ a => fine_isTy (chk_ok a)
  | .pop _ a => fine_pop (chk_ok a)
  | .range1 a => fine_range1 (chk_ok a)
  | .range2 a b => fine_range2 (chk_ok a) (chk_ok b)
  | .enum a => fine_enum (chk_ok a)
  | .zip a b => fine_zip (chk_ok a) (chk_ok b)
  | .comp _ _ a b d => fine_comp (chk_ok a) (chk_ok b) (chk_ok d)
  | .att a _ => fine_att (chk_ok a)
  | .make _ _ a => fine_make (chk_ok a)
  | .makeK _ _ _ _ _ b => fine_makeK (chk_ok b)
  | .meth _ _ _ a b => fine_meth (chk_ok a) (chk_ok b)
  | .methK _ _ _ a _ _ _ b => fine_methK (chk_ok a) (chk_ok b)
  | .isCl _ a => fine_isCl (chk_ok a)
  | .idx _ a b => fine_idx (chk_ok a) (chk_ok b)
  | .bor a => fine_bor (chk_ok a)
  | .own _ _ _ a => fine_own (chk_ok a)
  | .eqO _ _ _ a b => fine_eqO (chk_ok a) (chk_ok b)
  | .comp2 _ _ it cnd _ _ it2 cnd2 el => fine_comp2 (chk_ok el) (chk_ok it) (chk_ok cnd) (chk_ok it2) (chk_ok cnd2)
  | .revR a => fine_revR (chk_ok a)
  | .lrange (.range1 a) => fine_lrange1 (chk_ok a)
  | .lrange (.range2 a b) => fine_lrange2 (chk_ok a) (chk_ok b)
  | .lrange (.non) | .lrange (.bl _) | .lrange (.int _) | .lrange (.str _) | .lrange (.var _) | .lrange (.glb _) | .lrange (.op ..) | .lrange (.neg _) | .lrange (.cm ..) | .lrange (.ch ..) | .lrange (.and ..) | .lrange (.or ..) | .lrange (.not _) | .lrange (.ite ..) | .lrange (.ix ..) | .lrange (.sl ..) | .lrange (.rev _) | .lrange .nil | .lrange (.cons ..) | .lrange (.star ..) | .lrange (.tup _) | .lrange (.lst _) | .lrange (.call ..) | .lrange (.callK ..) | .lrange (.bl1 ..) | .lrange (.mt ..) | .lrange (.isTy ..) | .lrange (.pop ..) | .lrange (.enum _) | .lrange (.zip ..) | .lrange (.comp ..) | .lrange (.att ..) | .lrange (.make ..) | .lrange (.makeK ..) | .lrange (.meth ..) | .lrange (.methK ..) | .lrange (.own ..) | .lrange (.eqO ..) | .lrange (.isCl ..) | .lrange (.comp2 ..) | .lrange (.revR _) | .lrange (.lrange _) | .lrange (.bor _) | .lrange (.idx ..) => fine_no fun _ _ => by unfold chk; rfl
end
end MP

set_option Elab.async false
set_option linter.all false
/-! Snd17: the check of statements. -/
namespace MP
open PySem L2

def isStarE : Expr → Bool
  | .Starred .. => true
  | _ => false
/-- the model's swapped stores, by the scope -/
def swapC (sc : Scope) (ts vs : List Expr) : Option (Option (List Str)) :=
  if !(ts.length == 2 || ts.length == 3) || vs.length != ts.length then some none
  else if vs.any isStarE then some none
  else
    let line := (ts.head?.map (·.pos.line)).getD 0
    let names := ts.filterMap fun
      | .Name id pos => if sc.names.lookup id == some .local && pos.line == line then some id else none
      | _ => none
    if names.length != ts.length || names.eraseDups.length != names.length then some none
    else if vs.all (foldedForSure 8) then some none
    else if vs.all (constantsAlone 8) then none
    else some (some names)
theorem swapC_ok {env : Env} {ts vs : List Expr} {k k2 : Nat} {p p2 : Pos} {r : Option (List Str)} (hk : env.scope.kind = .function) (h : swapC env.scope ts vs = some r) : swappedStores [.Tuple ts k p] (.Tuple vs k2 p2) env = pure r := by
  have hb : env.blockKind = .function := by unfold Env.blockKind; rw [hk]; rfl
  unfold swappedStores
  unfold swapC at h
  simp only [hb]
  have e0 : (bne (ScopeKind.function) ScopeKind.function) = false := by decide
  rw [e0, Bool.or_false]
  split at h
  · rename_i h1
    cases h
    exact if_pos h1
  · rename_i h1
    refine (if_neg h1).trans ?_
    split at h
    · rename_i h2
      cases h
      exact if_pos h2
    · rename_i h2
      refine (if_neg h2).trans ?_
      dsimp only at h
      split at h
      · rename_i h3
        cases h
        exact if_pos h3
      · rename_i h3
        refine (if_neg h3).trans ?_
        split at h
        · rename_i h4
          cases h
          exact if_pos h4
        · rename_i h4
          refine (if_neg h4).trans ?_
          split at h
          · cases h
          · rename_i h5
            cases h
            exact if_neg h5

theorem asgEach_cons {a : Expr} (h : notStar a = true) (es : List Expr) (env : Env) : assignEach (a :: es) env = (false, assign a env) :: assignEach es env := by
  cases a <;> first | rfl | cases h
theorem asgEach_facts {env : Env} : ∀ {es : List Expr}, notStars es = true → (assignEach es env).length = es.length ∧ (assignEach es env).findIdx? (·.1) = none
  | [], _ => ⟨rfl, rfl⟩
  | a :: as, h => by
    rw [notStars, Bool.and_eq_true] at h
    obtain ⟨h1, h2⟩ := asgEach_facts (env := env) h.2
    rw [asgEach_cons h.1]
    refine ⟨by rw [List.length_cons, List.length_cons, h1], ?_⟩
    rw [List.findIdx?_cons, h2]
    rfl
def chkTg (T : Tab) (N : List Str) (sc : Scope) (np : Nat) (asg : List Nat) : Tg → A → Bool
  | .var i, z => match z with
    | .e (.Name x _) => decide (N[i]? = some x) && locC sc x && mayPut np asg i
    | _ => false
  | .ix i e, z => match z with
    | .e (.Subscript (.Name x _) y _) => decide (N[i]? = some x) && visC sc x && dbgC x && notSlice y && chk T N e sc (.e y)
    | _ => false
  | .tup l, z => match z with
    | .e (.Tuple es _ _) => notStars es && chkTg T N sc np asg l (.l es)
    | _ => false
  | .nil, z => match z with
    | .l [] => true
    | _ => false
  | .cons t r, z => match z with
    | .l (x :: xs) => notStar x && chkTg T N sc np asg t (.e x) && chkTg T N sc np asg r (.l xs)
    | _ => false
  | .ix2 l i j, z => match z with
    | .e (.Subscript (.Subscript (.Name x _) (.Name y _) _) (.Name z _) _) => decide (N[l]? = some x) && visC sc x && dbgC x && decide (N[i]? = some y) && visC sc y && dbgC y && decide (N[j]? = some z) && visC sc z && dbgC z
    | _ => false
  | .att i f, z => match z with
    | .e (.Attribute (.Name x _) nm _) => decide (nm = f) && decide (N[i]? = some x) && visC sc x && dbgC x
    | _ => false
section
variable {W : Wd} {T : Tab} {N : List Str} {c : Cfg} {k : Nat} {X : Cx} {sc : Scope} {np : Nat} {asg : List Nat}
abbrev GdF (W : Wd) (T : Tab) (N : List Str) (c : Cfg) (k : Nat) (X : Cx) (sc : Scope) : Prop := Gd W T N c k X sc (fun _ => true)
def GoodT (W : Wd) (c : Cfg) (X : Cx) (np : Nat) (asg : List Nat) (t : Tg) : A → Prop
  | .e x => PG X x (trGo W np asg (asgT c t))
  | .l xs => PGs X xs (trGs W np asg (asgO c t)) ∧ xs.length = t.count
  | _ => True
theorem chkTg_ok (g : GdF W T N c k X sc) : ∀ (t : Tg) (a : A), chkTg T N sc np asg t a = true → GoodT W c X np asg t a
  | .var i, z, h => by
    unfold chkTg at h
    split at h <;> first | cases h | skip
    simp only [Bool.and_eq_true, decide_eq_true_eq] at h
    obtain ⟨⟨h1, h2⟩, h3⟩ := h
    exact tg_var (by rw [g.eN]; exact g.nd) ⟨by rw [g.eN]; exact h1, by rw [g.esc]; exact loc_of h2, .inl (g.efn _ rfl), trivial⟩ h3
  | .ix i e, z, h => by
    unfold chkTg at h
    split at h <;> first | cases h | skip
    simp only [Bool.and_eq_true, decide_eq_true_eq] at h
    obtain ⟨⟨⟨⟨h1, h2⟩, h3⟩, h4⟩, h5⟩ := h
    obtain ⟨d1, d2⟩ := dbg_of h3
    exact tg_ix (si := {}) g.hK (by rw [g.eN]; exact h1) (g.vis h2) d1 d2 h4 (chk_ok e X sc _ g _ h5)
  | .tup l, z, h => by
    unfold chkTg at h
    split at h <;> first | cases h | skip
    rename_i es kk p
    rw [Bool.and_eq_true] at h
    have gl : GoodT W c X np asg l (.l es) := chkTg_ok g l _ h.2
    obtain ⟨h1, h2⟩ := asgEach_facts (env := X.env) h.1
    exact tg_tup g.hK g.calm gl.1 (by rw [h1]; exact gl.2) h2
  | .nil, z, h => by
    unfold chkTg at h
    split at h <;> first | cases h | skip
    exact ⟨tgs_nil, rfl⟩
  | .cons t r, z, h => by
    unfold chkTg at h
    split at h <;> first | cases h | skip
    rename_i x xs
    simp only [Bool.and_eq_true] at h
    have g1 : GoodT W c X np asg t (.e x) := chkTg_ok g t _ h.1.2
    have g2 : GoodT W c X np asg r (.l xs) := chkTg_ok g r _ h.2
    exact ⟨tgs_cons g1 g2.1 (by rw [asgEach_cons h.1.1]; rfl), by rw [List.length_cons, g2.2]; rfl⟩
  | .ix2 l i j, z, h => by
    unfold chkTg at h
    split at h <;> first | cases h | skip
    simp only [Bool.and_eq_true, decide_eq_true_eq] at h
    obtain ⟨⟨⟨⟨⟨⟨⟨⟨h1, h2⟩, h3⟩, h4⟩, h5⟩, h6⟩, h7⟩, h8⟩, h9⟩ := h
    exact tg_ix2 g.hK (by rw [g.eN]; exact h1) (g.vis h2) (dbg_of h3) (by rw [g.eN]; exact h4) (g.vis h5) (dbg_of h6) (by rw [g.eN]; exact h7) (g.vis h8) (dbg_of h9)
  | .att i f, z, h => by
    unfold chkTg at h
    split at h <;> first | cases h | skip
    rename_i x sp nm ap
    simp only [Bool.and_eq_true, decide_eq_true_eq] at h
    obtain ⟨⟨⟨rfl, h2⟩, h3⟩, h4⟩ := h
    obtain ⟨d1, d2⟩ := dbg_of h4
    exact tg_att (nm := nm) (pos := ap) g.hK g.hF g.clo (by rw [g.eN]; exact h2) (g.vis h3) d1 d2
end

/-- blocks and statements -/
inductive B where
  | b (xs : List Stmt) | s (x : Stmt)
/-- a comprehension that goes to a name on one line -/
def swC (sc : Scope) (x tg : Expr) : Bool := match x with
  | .ListComp _ _ scope pos => match tg with
    | .Name t p => decide (sc.names.lookup t = some .local) && (p.line == pos.line) && !(scope.names.any fun (n, k) => n == t && (k == .local || k == .cell))
    | _ => false
  | _ => false
/-- .. or not -/
def swN (sc : Scope) (x tg : Expr) : Bool := match x with
  | .ListComp _ _ scope pos => match tg with
    | .Name t p => !((sc.names.lookup t == some .local) && (p.line == pos.line) && !(scope.names.any fun (n, k) => n == t && (k == .local || k == .cell)))
    | _ => true
  | x => !isComp x
def isListE : Expr → Bool
  | .List .. => true
  | _ => false
def isTupP (x tg : Expr) : Bool := isTupE x && (isTupE tg || isListE tg)
def parC (sc : Scope) (np : Nat) (asg : List Nat) (ts : Tg) (tl xs : List Expr) : Bool := match swapC sc tl xs with
  | none => false
  | some none => true
  | some (some names) => match ts with
    | .cons (.var i) (.cons (.var j) .nil) => (match tl with
      | [.Name x _, .Name y _] => decide (names = [x, y]) && decide (i ≠ j) && decide (sc.names.lookup x = some .local) && decide (sc.names.lookup y = some .local) && decide (xs.length = 2)
      | _ => false)
    | _ => false
def chkS (T : Tab) (N : List Str) (sc : Scope) (np : Nat) (asg : List Nat) : S → B → Bool
  | .nil, z => match z with
    | .b [] => true
    | _ => false
  | .seq a r, z => match z with
    | .b (x :: xs) => chkS T N sc np asg a (.s x) && chkS T N sc np asg r (.b xs)
    | _ => false
  | .expr e, z => match z with
    | .s (.Expr x _) => !isComp x && chk T N e sc (.e x)
    | _ => false
  | .app i e, z => match z with
    | .s (.Expr (.Call (.Attribute (.Name x _) nm ap) [y] [] cp) _) => decide (nm = "append") && decide (N[i]? = some x) && visC sc x && dbgC x && (ap.endLine == cp.line) && notStar y && chk T N e sc (.e y)
    | _ => false
  | .asg t e, z => match z with
    | .s (.Assign [tg] x _) => !isTupP x tg && notStar tg && chkTg T N sc np asg t (.e tg) && chk T N e sc (.e x) && (swN sc x tg || swC sc x tg)
    | _ => false
  | .par ts e, z => match z with
    | .s (.Assign [.Tuple tl _ _] (.Tuple xs _ _) _) => notStars tl && chkTg T N sc np asg ts (.l tl) && chk T N e sc (.l xs) && decide (ts.count ≤ lim) && parC sc np asg ts tl xs
    | _ => false
  | .ifs d a b, z => match z with
    | .s (.If x xs ys _) => chk T N d sc (.e x) && chkS T N sc np asg a (.b xs) && chkS T N sc np asg b (.b ys)
    | _ => false
  | .loop t tt it b, z => match z with
    | .s (.For tg iter body [] _) => notSet iter && (!needsTup iter || isTupE tg) && tgC N sc (fun _ => true) t tt tg && t.all (mayPut np asg) && chk T N it sc (.e iter) && chkS T N sc np asg b (.b body)
    | _ => false
  | .ret e, z => match z with
    | .s (.Return (some x) _) => chk T N e sc (.e x)
    | _ => false
  | .retN, z => match z with
    | .s (.Return none _) => true
    | _ => false
  | .never, z => match z with
    | .s _ => true
    | _ => false
end MP

set_option Elab.async false
set_option linter.all false
/-! Snd18: what the check of statements is worth. -/
namespace MP
open PySem L2
section
variable {W : Wd} {T : Tab} {N : List Str} {c : Cfg} {k : Nat} {X : Cx} {sc : Scope} {np : Nat} {asg : List Nat}
def GoodS (W : Wd) (c : Cfg) (X : Cx) (np : Nat) (asg : List Nat) (s : S) : B → Prop
  | .b xs => PSs X xs (trS W np asg (exe c np s))
  | .s x => PS X x (trS W np asg (exe c np s))
theorem hN_of (g : GdF W T N c k X sc) : X.N.Nodup := by rw [g.eN]; exact g.nd
theorem swN_ok {env : Env} {x tg : Expr} {l : Nat} (hk : env.scope.kind = .function) (h : swN env.scope x tg = true) : swapsWith x (some tg) l env = pure false := by
  unfold swN at h
  split at h
  · rename_i scope pos
    have hb : env.blockKind = .function := by unfold Env.blockKind; rw [hk]; rfl
    unfold swapsWith
    split at h
    · rename_i t p
      rw [Bool.not_eq_true'] at h
      have h : ((env.kindOf t == some .local) && (p.line == pos.line) && !(scope.names.any fun (n, k) => n == t && (k == .local || k == .cell))) = false := h
      dsimp only
      rw [hb]
      show (pure (((ScopeKind.function == ScopeKind.function) && (env.kindOf t == some .local) && (p.line == _)) && !(scope.names.any fun (n, k) => n == t && (k == .local || k == .cell))) : Sem Bool) = pure false
      have e1 : (ScopeKind.function == ScopeKind.function) = true := by decide
      rw [e1, Bool.true_and]
      exact congrArg pure h
    · rename_i hn
      cases tg <;> first | rfl | exact absurd rfl (hn _ _)
  · rw [Bool.not_eq_true'] at h
    exact noComp h _ _ _
theorem chkS_asg (g : GdF W T N c k X sc) (hk : sc.kind = .function) {t : Tg} {e : E} {tg x : Expr} {pos : Pos} (h1 : isTupP x tg = false) (h2 : notStar tg = true) (h3 : chkTg T N sc np asg t (.e tg) = true) (h4 : chk T N e sc (.e x) = true) (h5 : (swN sc x tg || swC sc x tg) = true) :
    PS X (.Assign [tg] x pos) (trS W np asg (exe c np (.asg t e))) := by
  have gt : PG X tg (trGo W np asg (asgT c t)) := chkTg_ok g t _ h3
  have ge : Sn W X (sem c e) x := chk_ok e X sc _ g _ h4
  have hke : X.env.scope.kind = .function := by rw [g.esc]; exact hk
  rw [Bool.or_eq_true] at h5
  by_cases h6 : swN sc x tg = true
  · refine st_asg ge.val gt (swN_ok hke (by rw [g.esc]; exact h6)) ?_ (by rw [asgEach_cons h2]; rfl)
    unfold isTupP at h1
    unfold swappedStores
    cases tg <;> first
      | rfl
      | (cases x <;> first | rfl | cases h1)
  · have h7 : swC sc x tg = true := h5.elim (fun z => absurd z h6) id
    unfold swC at h7
    split at h7
    · rename_i el gs scope cpos
      split at h7
      · rename_i y py
        simp only [Bool.and_eq_true, decide_eq_true_eq, Bool.not_eq_true'] at h7
        obtain ⟨⟨h8, h9⟩, h10⟩ := h7
        have hyl : X.env.scope.names.lookup y = some .local := by rw [g.esc]; exact h8
        -- the term is a comprehension, its target a slot
        cases t with
        | var i =>
          unfold chkTg at h3
          simp only [Bool.and_eq_true, decide_eq_true_eq] at h3
          obtain ⟨⟨h11, h12⟩, h13⟩ := h3
          cases e with
          | comp tt b el2 it cnd =>
            unfold chk at h4
            split at h4 <;> first | cases h4 | skip
            rename_i x0 tg0 iter0 ifs0 j0 scope0 pos0 ez
            cases ez
            simp only [Bool.and_assoc] at h4
            rw [Bool.and_eq_true, decide_eq_true_eq] at h4
            obtain ⟨rfl, h4⟩ := h4
            simp only [← Bool.and_assoc] at h4
            obtain ⟨q1, q2, q3, q4, q5, q6, q7⟩ := comp_parts (chk_ok el2) (chk_ok it) (chk_ok cnd) g h4
            have hz := sw_true (elt := el) (gs := [⟨tg0, iter0, ifs0, 0⟩]) (l := pos.line) hke hyl h9 h10
            exact st_asgC h13 (st_comp (spos := pos) q7 g.hK g.calm (hN_of g) (by rw [g.eN]; exact h11) hyl hz (ownL_snd N tt) q1 q2 q3 q4 q5 q6)
          | comp2 tt b it cnd t2 b2 it2 cnd2 el2 =>
            unfold chk at h4
            split at h4 <;> first | cases h4 | skip
            rename_i x0 tg0 iter0 ifs0 j0 tg1 iter1 ifs1 j1 scope0 pos0 ez
            cases ez
            simp only [Bool.and_assoc] at h4
            rw [Bool.and_eq_true, Bool.and_eq_true, decide_eq_true_eq, decide_eq_true_eq] at h4
            obtain ⟨rfl, rfl, h4⟩ := h4
            simp only [← Bool.and_assoc] at h4
            have q := comp2_parts (chk_ok el2) (chk_ok it) (chk_ok cnd) (chk_ok it2) (chk_ok cnd2) g h4
            have hz := sw_true (elt := el) (gs := [⟨tg0, iter0, ifs0, 0⟩, ⟨tg1, iter1, ifs1, 0⟩]) (l := pos.line) hke hyl h9 h10
            exact st_asgC h13 (st_comp2 (spos := pos) g.calm (hN_of g) (by rw [g.eN]; exact h11) hyl hz q)
          | bor e2 =>
            cases e2 with
            | comp2 tt b it cnd t2 b2 it2 cnd2 el2 =>
              unfold chk at h4
              dsimp only at h4
              rw [Bool.and_eq_true] at h4
              obtain ⟨_, h4⟩ := h4
              unfold chk at h4
              split at h4 <;> first | cases h4 | skip
              rename_i x0 tg0 iter0 ifs0 j0 tg1 iter1 ifs1 j1 scope0 pos0 ez
              cases ez
              simp only [Bool.and_assoc] at h4
              rw [Bool.and_eq_true, Bool.and_eq_true, decide_eq_true_eq, decide_eq_true_eq] at h4
              obtain ⟨rfl, rfl, h4⟩ := h4
              simp only [← Bool.and_assoc] at h4
              have q := comp2_parts (chk_ok el2) (chk_ok it) (chk_ok cnd) (chk_ok it2) (chk_ok cnd2) g h4
              have hz := sw_true (elt := el) (gs := [⟨tg0, iter0, ifs0, 0⟩, ⟨tg1, iter1, ifs1, 0⟩]) (l := pos.line) hke hyl h9 h10
              exact st_asgC h13 (PS.imp (st_comp2 (spos := pos) g.calm (hN_of g) (by rw [g.eN]; exact h11) hyl hz q) fun D σ H q => bor_ent q)
            | comp tt b el2 it cnd =>
              unfold chk at h4
              dsimp only at h4
              rw [Bool.and_eq_true] at h4
              obtain ⟨_, h4⟩ := h4
              unfold chk at h4
              split at h4 <;> first | cases h4 | skip
              rename_i x0 tg0 iter0 ifs0 j0 scope0 pos0 ez
              cases ez
              simp only [Bool.and_assoc] at h4
              rw [Bool.and_eq_true, decide_eq_true_eq] at h4
              obtain ⟨rfl, h4⟩ := h4
              simp only [← Bool.and_assoc] at h4
              obtain ⟨q1, q2, q3, q4, q5, q6, q7⟩ := comp_parts (chk_ok el2) (chk_ok it) (chk_ok cnd) g h4
              have hz := sw_true (elt := el) (gs := [⟨tg0, iter0, ifs0, 0⟩]) (l := pos.line) hke hyl h9 h10
              exact st_asgC h13 (PS.imp (st_comp (spos := pos) q7 g.hK g.calm (hN_of g) (by rw [g.eN]; exact h11) hyl hz (ownL_snd N tt) q1 q2 q3 q4 q5 q6) fun D σ H q => bor_ent q)
            | bor e3 =>
              unfold chk at h4
              dsimp only at h4
              simp [notBor] at h4
            | _ => (unfold chk at h4; dsimp only at h4; rw [Bool.and_eq_true] at h4; obtain ⟨_, h4⟩ := h4; unfold chk at h4; first | cases h4 | (split at h4 <;> first | (rename_i ez; cases ez; done) | cases h4))
          | _ => (unfold chk at h4; first | cases h4 | (split at h4 <;> first | (rename_i ez; cases ez; done) | cases h4))
        | _ => (unfold chkTg at h3; split at h3 <;> first | (rename_i ez; cases ez; done) | cases h3)
      · cases h7
    · cases h7
theorem chkS_par (g : GdF W T N c k X sc) (hk : sc.kind = .function) {ts : Tg} {e : E} {tl xs : List Expr} {k1 k2 : Nat} {p1 p2 pos : Pos} (h1 : notStars tl = true) (h2 : chkTg T N sc np asg ts (.l tl) = true) (h3 : chk T N e sc (.l xs) = true) (h4 : ts.count ≤ lim) (h5 : parC sc np asg ts tl xs = true) :
    PS X (.Assign [.Tuple tl k1 p1] (.Tuple xs k2 p2) pos) (trS W np asg (exe c np (.par ts e))) := by
  have gt : GoodT W c X np asg ts (.l tl) := chkTg_ok g ts _ h2
  have ge : SnL W X (sem c e) xs := chk_ok e X sc _ g _ h3
  have hke : X.env.scope.kind = .function := by rw [g.esc]; exact hk
  obtain ⟨f1, f2⟩ := asgEach_facts (env := X.env) h1
  unfold parC at h5
  split at h5
  · cases h5
  · rename_i hs
    exact st_parT g.calm ge gt.1 (by rw [f1]; exact gt.2) f2 h4 (swapC_ok hke (by rw [g.esc]; exact hs))
  · rename_i names hs
    split at h5
    · rename_i i j
      split at h5
      · rename_i x px y py
        simp only [Bool.and_eq_true, decide_eq_true_eq] at h5
        obtain ⟨⟨⟨⟨rfl, h6⟩, h7⟩, h8⟩, h9⟩ := h5
        have h2' := h2
        unfold chkTg at h2
        simp only [Bool.and_eq_true] at h2
        obtain ⟨⟨_, h10⟩, h11⟩ := h2
        unfold chkTg at h10 h11
        simp only [Bool.and_eq_true, decide_eq_true_eq] at h10 h11
        obtain ⟨⟨_, h12⟩, _⟩ := h11
        unfold chkTg at h12
        simp only [Bool.and_eq_true, decide_eq_true_eq] at h12
        obtain ⟨a, b, rfl⟩ : ∃ a b, xs = [a, b] := by
          match xs, h9 with
          | [a, b], _ => exact ⟨a, b, rfl⟩
        exact st_par2 g.calm (hN_of g) (by rw [g.eN]; exact h10.1.1) (by rw [g.eN]; exact h12.1.1) h6 (by rw [g.esc]; exact h7) (by rw [g.esc]; exact h8) ge h10.2 h12.2 (swapC_ok hke (by rw [g.esc]; exact hs))
      · cases h5
    · cases h5
theorem chkS_ok (g : GdF W T N c k X sc) (hk : sc.kind = .function) (hx : PassesOwn (model X.prog X.w) X.A X.env X.xe) : ∀ (s : S) (z : B), chkS T N sc np asg s z = true → GoodS W c X np asg s z
  | .nil, z, h => by
    unfold chkS at h
    split at h <;> first | cases h | skip
    exact st_nil
  | .seq a r, z, h => by
    unfold chkS at h
    split at h <;> first | cases h | skip
    rw [Bool.and_eq_true] at h
    exact st_seq (chkS_ok g hk hx a _ h.1) (chkS_ok g hk hx r _ h.2)
  | .expr e, z, h => by
    unfold chkS at h
    split at h <;> first | cases h | skip
    simp only [Bool.and_eq_true, Bool.not_eq_true'] at h
    exact st_expr h.1 (chk_ok e X sc _ g _ h.2)
  | .app i e, z, h => by
    unfold chkS at h
    split at h <;> first | cases h | skip
    simp only [Bool.and_eq_true, decide_eq_true_eq] at h
    obtain ⟨⟨⟨⟨⟨⟨rfl, h1⟩, h2⟩, h3⟩, h4⟩, h5⟩, h6⟩ := h
    obtain ⟨d1, d2⟩ := dbg_of h3
    exact st_app (by rw [g.eN]; exact h1) (g.vis h2) d1 d2 (base_of rfl _ _ _) h4 h5 (chk_ok e X sc _ g _ h6)
  | .asg t e, z, h => by
    unfold chkS at h
    split at h <;> first | cases h | skip
    simp only [Bool.and_assoc] at h
    simp only [Bool.and_eq_true, Bool.not_eq_true'] at h
    obtain ⟨h1, h2, h3, h4, h5⟩ := h
    exact chkS_asg g hk h1 h2 h3 h4 h5
  | .par ts e, z, h => by
    unfold chkS at h
    split at h <;> first | cases h | skip
    simp only [Bool.and_eq_true, decide_eq_true_eq] at h
    obtain ⟨⟨⟨⟨h1, h2⟩, h3⟩, h4⟩, h5⟩ := h
    exact chkS_par g hk h1 h2 h3 h4 h5
  | .ifs d a b, z, h => by
    unfold chkS at h
    split at h <;> first | cases h | skip
    simp only [Bool.and_eq_true] at h
    obtain ⟨⟨h1, h2⟩, h3⟩ := h
    exact st_ifs (chk_ok d X sc _ g _ h1) (chkS_ok g hk hx a _ h2) (chkS_ok g hk hx b _ h3)
  | .loop t tt it b, z, h => by
    unfold chkS at h
    split at h <;> first | cases h | skip
    simp only [Bool.and_assoc] at h
    simp only [Bool.and_eq_true, Bool.or_eq_true, Bool.not_eq_true'] at h
    obtain ⟨h1, h2, h3, h4, h5, h6⟩ := h
    have gi : Sn W X (sem c it) _ := chk_ok it X sc _ g _ h5
    exact st_loop hx g.calm (gi.itr _ fun z => h2.elim (fun q => by rw [q] at z; cases z) id) (fun z => tup_tt h3 (h2.elim (fun q => by rw [q] at z; cases z) id)) (tg_of g h3) (chkS_ok g hk hx b _ h6) (notSet_fold h1 X.env) h4
  | .ret e, z, h => by
    unfold chkS at h
    split at h <;> first | cases h | skip
    rename_i x pos
    have ge : Sn W X (sem c e) x := chk_ok e X sc _ g _ h
    cases e with
    | var i =>
      unfold chk at h
      split at h <;> first | cases h | skip
      rename_i y p ez
      cases ez
      simp only [Bool.and_eq_true, decide_eq_true_eq] at h
      obtain ⟨⟨h1, h2⟩, h3⟩ := h
      obtain ⟨d1, d2⟩ := dbg_of h3
      exact st_retV (by rw [g.eN]; exact h1) (g.vis h2) d1 d2
    | _ => exact st_ret ge
  | .retN, z, h => by
    unfold chkS at h
    split at h <;> first | cases h | skip
    exact st_retN
  | .never, z, h => by
    unfold chkS at h
    split at h <;> first | cases h | skip
    exact st_never
end
end MP

set_option Elab.async false
set_option linter.all false
/-! Snd19: defs: the evaluator's word is kept. -/
namespace MP
open PySem L2
section
variable {W : Wd}
theorem Envs.nones {F H : Hp} : ∀ (n : Nat) (σ : St), σ.length = n → Envs W F H (List.replicate n none) σ []
  | 0, σ, h => ⟨List.eq_nil_of_length_eq_zero h, rfl⟩
  | n + 1, σ, h => by
    cases σ with
    | nil => simp at h
    | cons s σ => exact ⟨s, σ, [], [], rfl, rfl, rfl, Envs.nones n σ (by simpa using h)⟩
theorem Envs.start {F H : Hp} {n : Nat} : ∀ {os : List O} {vs : List V} {C : List Addr}, Owns W F H os vs C → Envs W F H (os.map some ++ List.replicate n none) (vs.map some ++ List.replicate n none) C
  | [], _, _, h => by
    obtain ⟨rfl, rfl⟩ := h
    exact Envs.nones n _ (by simp)
  | o :: os, _, _, h => by
    obtain ⟨v, ws, A, B, rfl, rfl, h1, h2⟩ := h
    exact ⟨some v, _, A, B, rfl, rfl, ⟨v, rfl, h1⟩, Envs.start h2⟩
theorem en_get_set {e : En} {i j : Nat} {x : Option O} (h : i ≠ j) : En.get (e.set i x) j = En.get e j := by
  unfold En.get
  rw [List.getElem?_set_ne h]
theorem leftOver_set {asg : List Nat} {e : En} {x : Option O} {i : Nat} : ∀ {os : List O} {k : Nat}, i < k → leftOver asg (e.set i x) k os = leftOver asg e k os
  | [], _, _ => rfl
  | o :: os, k, h => by
    unfold leftOver
    rw [leftOver_set (Nat.lt_succ_of_lt h), en_get_set (Nat.ne_of_lt h)]
/-- what the parameters hold at the end -/
theorem left_ok {F H : Hp} {σ : St} {asg : List Nat} : ∀ {os : List O} {vs : List V} {k : Nat} {e : En} {L : List Addr} {l : List O}, Ok W F H e σ L → leftOver asg e k os = .ok l → vs.length = os.length →
    (∀ j v, vs[j]? = some v → asg.contains (k + j) = false → σ[k + j]? = some (some v)) → (∀ j v o, vs[j]? = some v → os[j]? = some o → asg.contains (k + j) = true → Own W F H o v []) →
    ∃ C, Owns W F H l vs C ∧ C.Nodup ∧ ∀ a ∈ C, a ∈ L
  | [], vs, k, e, L, l, ok, h, hl, _, _ => by
    cases h
    have := List.eq_nil_of_length_eq_zero hl
    subst this
    exact ⟨[], ⟨rfl, rfl⟩, List.nodup_nil, fun a h => (by cases h)⟩
  | o :: os, [], k, e, L, l, ok, h, hl, _, _ => by simp at hl
  | o :: os, v :: vs, k, e, L, l, ok, h, hl, h1, h2 => by
    have hl' : vs.length = os.length := by simpa using hl
    obtain ⟨r, hr, h⟩ := R.bind_ok h
    have n1 : ∀ j w, vs[j]? = some w → asg.contains (k + 1 + j) = false → σ[k + 1 + j]? = some (some w) := fun j w hw ha => by
      have e0 : k + 1 + j = k + (j + 1) := by omega
      rw [e0] at ha ⊢
      exact h1 (j + 1) w (by simpa using hw) ha
    have n2 : ∀ j w p, vs[j]? = some w → os[j]? = some p → asg.contains (k + 1 + j) = true → Own W F H p w [] := fun j w p hw hp ha => by
      have e0 : k + 1 + j = k + (j + 1) := by omega
      rw [e0] at ha
      exact h2 (j + 1) w p (by simpa using hw) (by simpa using hp) ha
    split at h
    · rename_i ha
      cases h
      obtain ⟨C, c1, c2, c3⟩ := left_ok ok hr hl' n1 n2
      exact ⟨C, ⟨v, vs, [], C, rfl, rfl, h2 0 v o rfl rfl ha, c1⟩, c2, c3⟩
    · rename_i ha
      obtain ⟨p, hp, h⟩ := R.bind_ok h
      cases h
      obtain ⟨w, M, R, e1, own, ok', nd, dj, m⟩ := ok.empty hp
      have e2 := h1 0 v rfl (by simpa using ha)
      rw [Nat.add_zero, e1] at e2
      cases e2
      obtain ⟨C, c1, c2, c3⟩ := left_ok ok' (by rw [leftOver_set (Nat.lt_succ_self k)]; exact hr) hl' n1 n2
      exact ⟨M ++ C, ⟨v, vs, M, C, rfl, rfl, own, c1⟩, nodup_app (nodup_l nd) c2 fun x hx hy => nodup_d nd x hx (c3 x hy), fun a ha => by
        rcases List.mem_append.mp ha with z | z
        · exact (m a).mpr (.inl z)
        · exact (m a).mpr (.inr (c3 a z))⟩
theorem okArgs_sh {asg : List Nat} : ∀ {os : List O} {k : Nat}, okArgs asg k os = true → ∀ j o, os[j]? = some o → asg.contains (k + j) = true → ∃ d, o = .sh d
  | [], _, _, j, o, h, _ => by simp at h
  | p :: os, k, h, 0, o, ho, ha => by
    unfold okArgs at h
    simp at ho
    subst ho
    rw [Bool.and_eq_true, Bool.or_eq_true, Bool.not_eq_true', show asg.contains k = true from ha] at h
    rcases h.1 with z | z
    · cases z
    · cases p with
      | sh d => exact ⟨d, rfl⟩
      | _ => cases z
  | p :: os, k, h, j + 1, o, ho, ha => by
    unfold okArgs at h
    rw [Bool.and_eq_true] at h
    exact okArgs_sh h.2 j o (by simpa using ho) (by rw [show k + 1 + j = k + (j + 1) by omega]; exact ha)
theorem Owns.at {F H : Hp} : ∀ {xs : List O} {vs : List V} {M : List Addr}, Owns W F H xs vs M → ∀ {j : Nat} {o : O} {v : V}, xs[j]? = some o → vs[j]? = some v → ∃ A, Own W F H o v A
  | [], _, _, _, j, o, v, h, _ => by simp at h
  | x :: xs, _, _, g, 0, o, v, h, hv => by
    obtain ⟨w, ws, A, B, rfl, rfl, h1, h2⟩ := g
    simp at h hv
    subst h hv
    exact ⟨A, h1⟩
  | x :: xs, _, _, g, j + 1, o, v, h, hv => by
    obtain ⟨w, ws, A, B, rfl, rfl, h1, h2⟩ := g
    exact h2.at (j := j) (by simpa using h) (by simpa using hv)

/-- a def of the program: its text is the term's -/
structure DefIs (K : PySem.W.Frag) (T : Tab) (i : Nat) (fn : Fn) (fa : Addr) (fd : FuncData) (ps : List Str) : Prop where
  ex : ∃ x qual st N, Fun K x qual st fa fd ∧ FnScope N ps (defScope st) ∧ N.length = fn.n ∧ chkS T N (defScope st) fn.np fn.asg fn.body (.b (defBody st)) = true
  np : ps.length = fn.np
  bind : ∀ us : List Value, us.length = ps.length → bindArgs fd ⟨us, []⟩ = pure (ps.zip us)
  kw : ∀ n ks g, (i, n, ks, g) ∈ T.kw → ∀ us zs ys : List Value, us.length = n → zs.length = ks.length → pick (us ++ zs) g = some ys → ys.length = ps.length → bindArgs fd ⟨us, ks.zip zs⟩ = pure (ps.zip ys)
  kwm : ∀ ks g, (i, ks, g) ∈ T.kwm → ∀ (u : Value) (zs ys : List Value), zs.length = ks.length → pick ([] ++ zs) g = some ys → (u :: ys).length = ps.length → bindArgs fd ⟨[u], ks.zip zs⟩ = pure (ps.zip (u :: ys))
structure PrgIs (K : PySem.W.Frag) (mg : Str → Option Value) (W : Wd) (T : Tab) (P : Prg) : Prop where
  hK : K = W.K
  hF : P.flds = W.flds
  hC : P.cls = T.cl.map (·.1)
  defs : ∀ i x, T.fs.lookup i = some x → ∃ fn fa fd ps, P.fns.lookup i = some fn ∧ DefIs K T i fn fa fd ps ∧ mg x = some (.ref fa)
  glob : ∀ g x, T.gn.lookup g = some x → ∃ v u, mg x = some u ∧ RelV v u ∧ ∀ F, Rep W F ((P.glob.lookup g).getD .non) v
  blt : ∀ x ∈ T.bt, mg x = none
  clo : ClsOk K W
  isi : IsiOk K W (T.cl.map (·.1))
  cls : ∀ j x, T.cl.lookup j = some x → mg x = some (.ref (W.cls j)) ∧ Cls K (W.cls j)
  ini : ∀ j f, T.ini.lookup j = some f → ∃ fn fa fd ps, P.fns.lookup f = some fn ∧ DefIs K T f fn fa fd ps ∧ Mk K (W.cls j) fa
  ms : ∀ f j m, T.ms.lookup f = some (j, m) → ∃ fn fa fd ps, P.fns.lookup f = some fn ∧ DefIs K T f fn fa fd ps ∧ Meth K (W.cls j) m fa ∧ Cls K (W.cls j)
  spf : ∀ f j m, T.sp.lookup f = some (j, m) → ∃ fn fa fd ps, P.fns.lookup f = some fn ∧ DefIs K T f fn fa fd ps ∧ SpIs K (W.cls j) m fa
theorem spC_zero {P : Prg} {i : Nat} {vs : List V} {H : Hp} {Q : VK} {E : XK} : ¬ spC W (evC P 0 i) vs H Q E := spC_bad fun _ => rfl
theorem prg_ok {Pg : Program} {w : World} {K : PySem.W.Frag} {mg : Str → Option Value} {base : Heap} {T : Tab} {P : Prg} (G : PrgIs K mg W T P) : ∀ (k : Nat) (i : Nat) (fn : Fn) (fa : Addr) (fd : FuncData) (ps : List Str), P.fns.lookup i = some fn → DefIs K T i fn fa fd ps →
    FnG Pg w K mg base k fa fd ps (spC W (evC P k i)) := by
  intro k
  induction k using Nat.strongRecOn with
  | _ k ih =>
  intro i fn fa fd ps hi D
  cases k with
  | zero => exact ⟨fun vs H Q E h => (spC_zero h).elim, fun A outer s H args us vs Q E _ _ _ _ _ h => (spC_zero h).elim⟩
  | succ k =>
    obtain ⟨x, qual, st, N, F, S, hN, hc⟩ := D.ex
    have hev : ∀ os, evC P (k + 1) i os = runFn (P.cfg (evC P k) (evM P k)) fn os := fun os => evC_succ hi
    refine fng_of F S (fun vs H Q E h => ?_) fun cdv A outer s H vs Q E hr hgd h => ?_
    · obtain ⟨F0, C, os, o, os', sb, own, nd, dj, hrun, kont⟩ := h
      rw [hev] at hrun
      obtain ⟨h1, _⟩ := R.need_ok hrun
      rw [Bool.and_eq_true, decide_eq_true_eq] at h1
      rw [own.len, h1.1, D.np]
    · obtain ⟨F0, C, os, o, os', sb, own, nd, dj, hrun, kont⟩ := h
      rw [hev] at hrun
      obtain ⟨h1, hrun⟩ := R.need_ok hrun
      rw [Bool.and_eq_true, decide_eq_true_eq] at h1
      obtain ⟨⟨r, e⟩, hex, hrun⟩ := R.bind_ok hrun
      obtain ⟨l, hleft, hrun⟩ := R.bind_ok hrun
      have hlen := own.len
      have g : GdF W T N (P.cfg (evC P k) (evM P k)) k (cxOf CX0 Pg w K mg base N qual (defScope st) fa cdv A outer s H E).nox (defScope st) :=
        ⟨G.hK, rfl, rfl, S.nd, rfl, fun _ _ => rfl, hgd, hr, G.glob, G.blt, fun j y hy => by
          obtain ⟨fn2, fa2, fd2, ps2, hj, D2, m2⟩ := G.defs j y hy
          obtain ⟨_, _, _, _, F2, _, _, _⟩ := D2.ex
          exact ⟨fa2, fd2, ps2, m2, F2.kp, ih k (Nat.lt_succ_self k) j fn2 fa2 fd2 ps2 hj D2, D2.bind, D2.kw⟩, G.hF, G.hC, G.clo, G.isi, G.cls, fun j f hj => by
          obtain ⟨fn2, fa2, fd2, ps2, hf, D2, M2⟩ := G.ini j f hj
          refine ⟨fa2, fd2, ps2, M2, ?_, D2.bind, D2.kwm⟩
          cases k with
          | zero => exact .inl fun _ => rfl
          | succ l => exact .inr ⟨l, rfl, ih l (by omega) f fn2 fa2 fd2 ps2 hf D2⟩, fun f j m hj => by
          obtain ⟨fn2, fa2, fd2, ps2, hf, D2, M2, c2⟩ := G.ms f j m hj
          exact ⟨fa2, fd2, ps2, M2, c2, ih k (Nat.lt_succ_self k) f fn2 fa2 fd2 ps2 hf D2, D2.bind, D2.kwm⟩, fun f j m hj => by
          obtain ⟨fn2, fa2, fd2, ps2, hf, D2, S2⟩ := G.spf f j m hj
          refine ⟨fa2, fd2, ps2, S2, ?_, D2.bind⟩
          cases k with
          | zero => exact .inl fun _ => rfl
          | succ l => exact .inr ⟨l, rfl, ih l (by omega) f fn2 fa2 fd2 ps2 hf D2⟩⟩
      have gs : PSs _ (defBody st) (trS W fn.np fn.asg (exe (P.cfg (evC P k) (evM P k)) fn.np fn.body)) := chkS_ok g S.kind PassesOwn.never fn.body _ hc
      refine ⟨_, gs.nox, F0, C, _, r, e, ⟨sb, nd, dj, ?_⟩, hex, ?_⟩
      · have e0 : N.length - vs.length = fn.n - fn.np := by rw [hN, hlen, h1.1]
        unfold L2.start
        rw [e0]
        exact Envs.start own
      · -- the ends
        have fin : ∀ (F' H' : Hp) (σ' : St) (L' : List Addr), Stp F0 H C F' H' L' → Ok W F' H' e σ' L' → Kept fn.np fn.asg (L2.start N vs) σ' → ∃ C', Owns W F' H' l vs C' ∧ C'.Nodup ∧ ∀ a ∈ C', a ∈ L' := fun F' H' σ' L' st' ok' kp' => by
          refine left_ok (k := 0) ok' hleft hlen (fun j v hv ha => ?_) fun j v p hv hp ha => ?_
          · rw [Nat.zero_add] at ha ⊢
            have hj : j < vs.length := (List.getElem?_eq_some_iff.mp hv).1
            rw [kp' j (by rw [← h1.1, ← hlen]; exact hj) ha]
            unfold L2.start
            rw [List.getElem?_append_left (by simpa using hj), List.getElem?_map, hv]
            rfl
          · obtain ⟨d, rfl⟩ := okArgs_sh h1.2 j p hp ha
            obtain ⟨A', own'⟩ := own.at hp hv
            exact ⟨rfl, own'.2.mono st'.fs⟩
        cases r with
        | nx =>
          cases hrun
          refine fun F' H' σ' L' st' ok' kp' => ?_
          obtain ⟨C', c1, c2, c3⟩ := fin F' H' σ' L' st' ok' kp'
          refine kont F' H' [] C' .non ⟨st'.fs, st'.kp, fun a ha => st'.ow a (c3 a ha), st'.fr⟩ ok'.sub ⟨rfl, rfl⟩ c1 c2 fun a ha => ok'.dj a (c3 a ha)
        | rt o2 =>
          cases hrun
          refine fun F' H' σ' M L' v st' ok' got' kp' => ?_
          obtain ⟨C', c1, c2, c3⟩ := fin F' H' σ' L' st'.drop ok' kp'
          refine kont F' H' M C' v ⟨st'.fs, st'.kp, fun a ha => st'.ow a ?_, st'.fr⟩ ok'.sub got'.own c1 (nodup_app (nodup_l got'.nd) c2 fun x hx hy => nodup_d got'.nd x hx (c3 x hy)) fun a ha => ?_
          · rcases List.mem_append.mp ha with z | z
            · exact List.mem_append_left _ z
            · exact List.mem_append_right _ (c3 a z)
          · rcases List.mem_append.mp ha with z | z
            · exact got'.dj a z
            · exact ok'.dj a (c3 a z)
end
end MP

set_option Elab.async false
set_option linter.all false
/-! Snd20: the head of a law row, for defs as above. -/
namespace MP
open PySem PySem.Spec PyProof.Rows
open L2 hiding St
section
variable {P : Program} {w : World} {W : Wd} {mg mb : Str → Option Value} {k : Nat} {fa a : Addr} {fd : FuncData} {x : Str} {run : List O → R (O × List O)} {t : Shared} {us : List Value} {ns : List Int}
/-- the promise at the script -/
theorem spC_script {H : Hp} (hS : SqL W.K H a (ns.map V.int)) {os : List O} (h : run [.sh (.arr ns)] = .ok (.sh (.bl true), os)) : spC W run [.ref a] H (fun v _ => v = .bl true) fun _ _ _ => False :=
  ⟨H, [], [.sh (.arr ns)], .sh (.bl true), os, Sub.refl H, ⟨.ref a, [], [], [], rfl, rfl, ⟨rfl, a, rfl, hS⟩, rfl, rfl⟩, List.nodup_nil, fun _ h => (by cases h), h, fun _ _ _ _ _ _ _ own _ _ _ => own.2⟩
/-- the call of law, nothing tracked but the script -/
theorem head_core (inK : W.K.In t.heap) (nsG : t.heap.Ns mainGlobals mg) (nsB : t.heap.Ns builtinsNs mb) (isB : ∀ y : Str, y ≠ "__name__" → mb y = bootBuiltins y) (nol : t.heap.NoLimit) (noG : t.gens = #[])
    (atA : t.heap.get? a = some { cls := .type "list", data := .seq us.toArray }) (room : Room k callerA)
    (F : ∀ base : Heap, W.K.In base → base.Ns mainGlobals mg → FnG P w W.K mg base k fa fd [x] (spC W run)) (bnd : ∀ (s : Shared) (u : Value), BindsTo s fd ⟨[u], []⟩ [(x, u)])
    (H : Hp) (only : Only H) (tr : HOk P w H t.heap) (isA : ∀ b, H b ≠ none → b = a) (notK : H a ≠ none → W.K.lookup a = none) (sp : spC W run [.ref a] H (fun v _ => v = .bl true) fun _ _ _ => False) :
    codeAny (model P w) callerA (.call (.ref fa) ⟨[.ref a], []⟩) (fun r s' => r = .ok (.ret (.bool true)) ∧ OldK t.heap s'.heap ∧ s'.os = t.os ∧ AllBare s'.gens) t := by
  have quiet : ∀ {b : Addr}, b ≠ a → H b = none := fun {b} n => Classical.byContradiction fun z => n (isA b z)
  have inBase : ∀ {b : Addr} {o : Obj}, t.heap.get? b = some o → H b = none → (hidT t.heap H).get? b = some o := fun e n => hidT_get e n
  have notDict : ∀ {b : Addr} {o : Obj} {es : Array DictEntry} {ep : Nat}, t.heap.get? b = some o → o.data = .dict es ep → H b = none := fun {b o es ep} e1 e2 => by
    by_cases q : b = a
    · rw [q, atA] at e1
      cases e1
      exact absurd e2 (by intro z; cases z)
    · exact quiet q
  have spaces : ∀ {b : Addr} {m : Str → Option Value}, t.heap.Ns b m → (hidT t.heap H).Ns b m := fun {b m} h => by
    obtain ⟨o, es, ep, e1, e2, e3⟩ := h
    exact ⟨o, es, ep, inBase e1 (notDict e1 e2), e2, e3⟩
  have kBase : W.K.In (hidT t.heap H) := fun b o e => inBase (inK b o e) (by
    by_cases q : b = a
    · subst q
      exact Classical.byContradiction fun z => by rw [notK z] at e; cases e
    · exact quiet q)
  obtain ⟨mc, c1, c2⟩ := nol
  have mod : Mod W.K mg (hidT t.heap H) := ⟨kBase, spaces nsG, ⟨mb, spaces nsB, isB⟩, ⟨mc, spaces c1, c2⟩⟩
  have env : Env0 P w W.K mg (hidT t.heap H) callerA [] t H := ⟨rfl, mod, fun b o => of_hidT, Nat.le_of_eq (hidT_size t.heap H), trivial, fun b hb => (by cases hb), tr, AllBare.of_eq noG⟩
  refine codeAny_mono ((F _ kBase (spaces nsG)).run callerA [] t H ⟨[.ref a], []⟩ [.ref a] [.ref a] _ _ room rfl env (bnd t (.ref a)) (.cons rfl .nil) sp) ?_
  intro r s' h
  cases r with
  | error e => exact h.elim
  | ok fl =>
    cases fl with
    | ret u =>
      obtain ⟨v, H', sameOs, bare, un, tr', rv, e0⟩ := h
      have e0 : v = .bl true := e0
      subst e0
      cases (show u = Value.bool true from rv)
      refine ⟨rfl, OldK.of_keep fun b o e => ?_, sameOs, bare⟩
      rcases only b with q | ⟨ob, xs, q⟩
      · exact un.keep b o e q (fun z => by cases z) (fun z => by cases z)
      · obtain ⟨g1, _⟩ := tr b _ q
        obtain ⟨g2, _⟩ := tr' b _ (un.frzs b ob _ q)
        rw [e] at g1
        cases g1
        exact g2
    | next => exact h.elim
    | brk => exact h.elim
    | cont => exact h.elim
theorem head_call (inK : W.K.In t.heap) (nsG : t.heap.Ns mainGlobals mg) (nsB : t.heap.Ns builtinsNs mb) (isB : ∀ y : Str, y ≠ "__name__" → mb y = bootBuiltins y) (nol : t.heap.NoLimit) (noG : t.gens = #[])
    (atA : t.heap.get? a = some { cls := .type "list", data := .seq us.toArray }) (sInts : IntsAre us ns) (len : ns.length ≤ sizeLine) (room : Room k callerA)
    (F : ∀ base : Heap, W.K.In base → base.Ns mainGlobals mg → FnG P w W.K mg base k fa fd [x] (spC W run)) (bnd : ∀ (s : Shared) (u : Value), BindsTo s fd ⟨[u], []⟩ [(x, u)]) {os : List O} (hr : run [.sh (.arr ns)] = .ok (.sh (.bl true), os)) :
    codeAny (model P w) callerA (.call (.ref fa) ⟨[.ref a], []⟩) (fun r s' => r = .ok (.ret (.bool true)) ∧ OldK t.heap s'.heap ∧ s'.os = t.os ∧ AllBare s'.gens) t := by
  have rel := vals_ints sInts
  have lu := sInts.length
  cases q : W.K.lookup a with
  | none =>
    -- the script is known to the proof, as an object that stands still
    have at1 : (fun b : Addr => if b = a then some (HO.frz { cls := .type "list", data := .seq us.toArray } (.lst (ns.map V.int))) else none) a = some (HO.frz { cls := .type "list", data := .seq us.toArray } (.lst (ns.map V.int))) := if_pos rfl
    refine head_core inK nsG nsB isB nol noG atA room F bnd (fun b => if b = a then some (.frz { cls := .type "list", data := .seq us.toArray } (.lst (ns.map V.int))) else none) (fun b => ?_) (fun b u z => ?_) (fun b z => ?_) (fun _ => q) (spC_script (.inl (.inr ⟨_, at1⟩)) hr)
    · by_cases e : b = a
      · exact .inr ⟨_, _, if_pos e⟩
      · exact .inl (if_neg e)
    · by_cases e : b = a
      · subst e
        rw [at1] at z
        cases z
        exact ⟨atA, by rw [List.length_map]; exact len, us, _, rel, atA⟩
      · have z := (if_neg e).symm.trans z
        cases z
    · exact Classical.byContradiction fun e => z (if_neg e)
  | some o =>
    have e := inK a o q
    rw [atA] at e
    cases e
    exact head_core inK nsG nsB isB nol noG atA room F bnd (fun _ => none) (fun _ => .inl rfl) (fun b u z => by cases z) (fun b z => absurd rfl z) (fun z => absurd rfl z)
      (spC_script (.inr ⟨_, us.toArray, _, q, rfl, rfl, rfl, by rw [List.size_toArray, lu]; exact len, by simpa using rel⟩) hr)
end
/-- THE END: the evaluator says true of every script -/
theorem law_walk {l : PySem.W.OpenLaw} {n k : Nat} {q : Program} {loose : List Str} {XP : (Str → Option Value) → Heap → Prop} {YP : World → Heap → Prop} {d : DefRec} {Wf : Params → Wd} {run : List O → R (O × List O)} {x : Str}
    (most : l.most = some n) (small : n ≤ sizeLine) (noD : d.params.defaults = []) (room : Room k callerA) (hY : ∀ (w : World) (h : Heap), YP w h → (Wf w.params).K.In h)
    (F : ∀ (w : World) (mg : Str → Option Value) (fa : Addr) (h : Heap), (Wf w.params).K.In h → h.Ns mainGlobals mg → mg d.name = some (.ref fa) → ∃ fd : FuncData, (∀ (s : Shared) (u : Value), BindsTo s fd ⟨[u], []⟩ [(x, u)]) ∧
      ∀ base : Heap, (Wf w.params).K.In base → base.Ns mainGlobals mg → FnG l.prog w (Wf w.params).K mg base k fa fd [x] (spC (Wf w.params) run))
    (hr : ∀ ns : List Int, ns.length ≤ n → ∃ os, run [.sh (.arr ns)] = .ok (.sh (.bl true), os)) : PySem.W.WalkO q loose XP YP l.row.toRowW d [] (fun f vs => PySem.call f vs) := by
  refine Att.attach_call most noD ?_
  intro w s0 t mg mb fa o pm cd doc a us ns G Y ho hd hcd hmg atA sInts len noG
  have inK := hY w _ Y
  obtain ⟨fd, bnd, hF⟩ := F w mg fa _ inK G.T.g hmg
  obtain ⟨os, e⟩ := hr ns len
  exact head_call inK G.T.g G.T.b G.T.builtins G.T.nolimit noG atA sInts (Nat.le_trans len small) room hF bnd e
end MP

set_option Elab.async false
set_option linter.all false
/-! Snd21: a row's end, from what the top has written. -/
namespace MP
open PySem PySem.Spec PyProof.Rows
open L2 hiding St
section
variable {K : PySem.W.Frag} {mg : Str → Option Value} {W : Wd} {T : Tab} {P : Prg}
def AllAre {α β : Type} (Q : α → β → Prop) : List (α × β) → Prop
  | [] => True
  | x :: xs => Q x.1 x.2 ∧ AllAre Q xs
theorem AllAre.at {α β : Type} [BEq α] [LawfulBEq α] {Q : α → β → Prop} : ∀ {xs : List (α × β)}, AllAre Q xs → ∀ (i : α) (x : β), xs.lookup i = some x → Q i x
  | [], _, i, x, h => by simp at h
  | (j, y) :: xs, h, i, x, hx => by
    rw [List.lookup_cons] at hx
    cases q : i == j with
    | true =>
      rw [q] at hx
      cases hx
      have e : i = j := by simpa using q
      subst e
      exact h.1
    | false =>
      rw [q] at hx
      exact h.2.at i x hx
def FnIs (K : PySem.W.Frag) (mg : Str → Option Value) (T : Tab) (P : Prg) (i : Nat) (x : Str) : Prop := ∃ fn fa fd ps, P.fns.lookup i = some fn ∧ DefIs K T i fn fa fd ps ∧ mg x = some (.ref fa)
theorem def_is {h : Heap} {i : Nat} {x : Str} {fn : Fn} {st : Stmt} {N ps : List Str} {f : Addr} {oc : Value} {od an : Option Addr} {osl : Array (Option Value)} {kV doc pm cdv ct : Value} (X : K.In h) (G : h.Ns mainGlobals mg) (hi : P.fns.lookup i = some fn)
    (S : FnScope N ps (defScope st)) (hN : N.length = fn.n) (hp : ps.length = fn.np) (hc : chkS T N (defScope st) fn.np fn.asg fn.body (.b (defBody st)) = true)
    (bd : ∀ (kV doc pm : Value) (an : Option Addr) (cdv ct : Value) (us : List Value), us.length = ps.length → bindArgs (PySem.W.fnOf x x (defArgs st) (defBody st) (defScope st) .none kV doc pm an cdv ct) ⟨us, []⟩ = pure (ps.zip us))
    (kw : ∀ n ks g, (i, n, ks, g) ∈ T.kw → ∀ (kV doc pm : Value) (an : Option Addr) (cdv ct : Value) (us zs ys : List Value), us.length = n → zs.length = ks.length → pick (us ++ zs) g = some ys → ys.length = ps.length →
      bindArgs (PySem.W.fnOf x x (defArgs st) (defBody st) (defScope st) .none kV doc pm an cdv ct) ⟨us, ks.zip zs⟩ = pure (ps.zip ys))
    (km : T.kwm.all (fun p => decide (p.1 ≠ i)) = true)
    (a : PySem.W.nsIn K mainGlobals x = some (some (.ref f))) (l : K.lookup f = some ⟨oc, od, .func (PySem.W.fnOf x x (defArgs st) (defBody st) (defScope st) .none kV doc pm an cdv ct), osl⟩) (c : PySem.W.codeIn K cdv x = true) (k : PySem.W.keepIn K (.ref f) = true) :
    FnIs K mg T P i x :=
  ⟨fn, f, _, ps, hi, ⟨⟨x, x, st, N, fun_mk l c k, S, hN, hc⟩, hp, bd _ _ _ _ _ _, fun n ks g hm us zs ys h1 h2 h3 h4 => kw n ks g hm _ _ _ _ _ _ us zs ys h1 h2 h3 h4, fun ks g hm => absurd rfl (of_decide_eq_true (List.all_eq_true.mp km _ hm))⟩, PySem.W.mg_of X G a⟩
/-- the address of a class, by the written part -/
def clsIn (K : PySem.W.Frag) (cl : List (Nat × Str)) (k : Nat) : Addr := match cl.lookup k with
  | some x => (match PySem.W.nsIn K mainGlobals x with
    | some (some (.ref C)) => C
    | _ => 0)
  | none => 0
theorem clsIn_eq {cl : List (Nat × Str)} {k : Nat} {x : Str} {C : Addr} (h : cl.lookup k = some x) (a : PySem.W.nsIn K mainGlobals x = some (some (.ref C))) : clsIn K cl k = C := by
  unfold clsIn
  rw [h]
  show (match PySem.W.nsIn K mainGlobals x with | some (some (.ref C)) => C | _ => 0) = C
  rw [a]
/-- what the rows of the end say of a class -/
structure ClsF (K : PySem.W.Frag) (mg : Str → Option Value) (W : Wd) (k : Nat) (x : Str) : Prop where
  mg : mg x = some (.ref (W.cls k))
  cls : Cls K (W.cls k)
  fl : ∀ f ∈ W.flds k, NoAttr K (W.cls k) f
  cc : PySem.W.findIn K (.ref (W.cls k)) "__class__" = some (some (.builtin "object.__class__"))
  cm : PySem.W.mroIn K (W.cls k) (.type "object") = some true
  kb : ∀ t ∈ ["NoneType", "bool", "int", "str", "tuple", "list"], PySem.W.kitOne K (.type t) (.ref (W.cls k)) = some false
def AllL {α : Type} (Q : α → Prop) : List α → Prop
  | [] => True
  | x :: xs => Q x ∧ AllL Q xs
theorem AllL.mem {α : Type} {Q : α → Prop} : ∀ {xs : List α}, AllL Q xs → ∀ x ∈ xs, Q x
  | [], _, x, h => by cases h
  | y :: xs, h, x, hx => by
    rcases List.mem_cons.mp hx with rfl | hx
    · exact h.1
    · exact h.2.mem x hx
theorem cls_is {h : Heap} {k : Nat} {x : Str} {C : Addr} (X : K.In h) (G : h.Ns mainGlobals mg) (hw : W.cls = clsIn K T.cl) (hx : T.cl.lookup k = some x) (a : PySem.W.nsIn K mainGlobals x = some (some (.ref C)))
    (pg : PySem.W.plainGet K C Str.empty = true) (hd : PySem.W.hasDictIn K C = true) (po : PySem.W.plainOver K C = true) (sa : PySem.W.findIn K (.ref C) "__setattr__" = some (some (.builtin "object.__setattr__")))
    (cc : PySem.W.findIn K (.ref C) "__class__" = some (some (.builtin "object.__class__"))) (cm : PySem.W.mroIn K C (.type "object") = some true)
    (fl : AllL (fun f => PySem.W.findIn K (.ref C) f = some none) (W.flds k)) (kb : AllL (fun t => PySem.W.kitOne K (.type t) (.ref C) = some false) ["NoneType", "bool", "int", "str", "tuple", "list"]) : ClsF K mg W k x := by
  have e : W.cls k = C := by rw [hw]; exact clsIn_eq hx a
  subst e
  exact ⟨PySem.W.mg_of X G a, ⟨pg, hd, po, sa⟩, fl.mem, cc, cm, kb.mem⟩
def TwoIs (K : PySem.W.Frag) (W : Wd) (j k : Nat) : Prop := PySem.W.kitOne K (.ref (W.cls j)) (.ref (W.cls k)) = some (decide (j = k))
theorem two_is {j k : Nat} {x y : Str} {C D : Addr} (hw : W.cls = clsIn K T.cl) (hx : T.cl.lookup j = some x) (hy : T.cl.lookup k = some y) (a : PySem.W.nsIn K mainGlobals x = some (some (.ref C))) (b : PySem.W.nsIn K mainGlobals y = some (some (.ref D)))
    (e : PySem.W.kitOne K (.ref C) (.ref D) = some (decide (j = k))) : TwoIs K W j k := by
  unfold TwoIs
  rw [hw, clsIn_eq hx a, clsIn_eq hy b]
  exact e
def MethIs (K : PySem.W.Frag) (W : Wd) (T : Tab) (P : Prg) (i : Nat) (z : Nat × Str) : Prop := ∃ fn fa fd ps, P.fns.lookup i = some fn ∧ DefIs K T i fn fa fd ps ∧ Meth K (W.cls z.1) z.2 fa ∧ Cls K (W.cls z.1)
def IniIs (K : PySem.W.Frag) (W : Wd) (T : Tab) (P : Prg) (k i : Nat) : Prop := ∃ fn fa fd ps, P.fns.lookup i = some fn ∧ DefIs K T i fn fa fd ps ∧ Mk K (W.cls k) fa
section
variable {i k : Nat} {x m qual : Str} {fn : Fn} {st : Stmt} {N ps : List Str} {C f : Addr} {oc : Value} {od an : Option Addr} {osl : Array (Option Value)} {kV doc pm cdv ct : Value}
theorem methDef (hi : P.fns.lookup i = some fn) (S : FnScope N ps (defScope st)) (hN : N.length = fn.n) (hp : ps.length = fn.np) (hc : chkS T N (defScope st) fn.np fn.asg fn.body (.b (defBody st)) = true)
    (bd : ∀ (kV doc pm : Value) (an : Option Addr) (cdv ct : Value) (us : List Value), us.length = ps.length → bindArgs (PySem.W.fnOf m qual (defArgs st) (defBody st) (defScope st) .none kV doc pm an cdv ct) ⟨us, []⟩ = pure (ps.zip us))
    (kw : ∀ ks g, (i, ks, g) ∈ T.kwm → ∀ (kV doc pm : Value) (an : Option Addr) (cdv ct : Value) (u : Value) (zs ys : List Value), zs.length = ks.length → pick ([] ++ zs) g = some ys → (u :: ys).length = ps.length →
      bindArgs (PySem.W.fnOf m qual (defArgs st) (defBody st) (defScope st) .none kV doc pm an cdv ct) ⟨[u], ks.zip zs⟩ = pure (ps.zip (u :: ys)))
    (km : T.kw.all (fun p => decide (p.1 ≠ i)) = true)
    (l : K.lookup f = some ⟨oc, od, .func (PySem.W.fnOf m qual (defArgs st) (defBody st) (defScope st) .none kV doc pm an cdv ct), osl⟩) (c : PySem.W.codeIn K cdv qual = true) (kp : PySem.W.keepIn K (.ref f) = true) :
    ∃ fd, DefIs K T i fn f fd ps :=
  ⟨_, ⟨m, qual, st, N, fun_mk l c kp, S, hN, hc⟩, hp, bd _ _ _ _ _ _, fun n ks g hm => absurd rfl (of_decide_eq_true (List.all_eq_true.mp km _ hm)), fun ks g hm u zs ys h1 h2 h3 => kw ks g hm _ _ _ _ _ _ u zs ys h1 h2 h3⟩
theorem meth_is (hi : P.fns.lookup i = some fn) (S : FnScope N ps (defScope st)) (hN : N.length = fn.n) (hp : ps.length = fn.np) (hc : chkS T N (defScope st) fn.np fn.asg fn.body (.b (defBody st)) = true)
    (bd : ∀ (kV doc pm : Value) (an : Option Addr) (cdv ct : Value) (us : List Value), us.length = ps.length → bindArgs (PySem.W.fnOf m qual (defArgs st) (defBody st) (defScope st) .none kV doc pm an cdv ct) ⟨us, []⟩ = pure (ps.zip us))
    (kw : ∀ ks g, (i, ks, g) ∈ T.kwm → ∀ (kV doc pm : Value) (an : Option Addr) (cdv ct : Value) (u : Value) (zs ys : List Value), zs.length = ks.length → pick ([] ++ zs) g = some ys → (u :: ys).length = ps.length →
      bindArgs (PySem.W.fnOf m qual (defArgs st) (defBody st) (defScope st) .none kV doc pm an cdv ct) ⟨[u], ks.zip zs⟩ = pure (ps.zip (u :: ys)))
    (km : T.kw.all (fun p => decide (p.1 ≠ i)) = true) (hw : W.cls = clsIn K T.cl) (hx : T.cl.lookup k = some x) (F : ClsF K mg W k x)
    (a : PySem.W.nsIn K mainGlobals x = some (some (.ref C))) (am : PySem.W.findIn K (.ref C) m = some (some (.ref f))) (fi : PySem.W.isFn K (.ref f) = true)
    (l : K.lookup f = some ⟨oc, od, .func (PySem.W.fnOf m qual (defArgs st) (defBody st) (defScope st) .none kV doc pm an cdv ct), osl⟩) (c : PySem.W.codeIn K cdv qual = true) (kp : PySem.W.keepIn K (.ref f) = true) : MethIs K W T P i (k, m) := by
  obtain ⟨fd, D⟩ := methDef hi S hN hp hc bd kw km l c kp
  have e : W.cls k = C := by rw [hw]; exact clsIn_eq hx a
  refine ⟨fn, f, fd, ps, hi, D, ?_, F.cls⟩
  show Meth K (W.cls k) m f
  rw [e]
  exact ⟨am, fi, kp⟩
def SpcIs (K : PySem.W.Frag) (W : Wd) (T : Tab) (P : Prg) (i : Nat) (z : Nat × Str) : Prop := ∃ fn fa fd ps, P.fns.lookup i = some fn ∧ DefIs K T i fn fa fd ps ∧ SpIs K (W.cls z.1) z.2 fa
theorem spc_is (hi : P.fns.lookup i = some fn) (S : FnScope N ps (defScope st)) (hN : N.length = fn.n) (hp : ps.length = fn.np) (hc : chkS T N (defScope st) fn.np fn.asg fn.body (.b (defBody st)) = true)
    (bd : ∀ (kV doc pm : Value) (an : Option Addr) (cdv ct : Value) (us : List Value), us.length = ps.length → bindArgs (PySem.W.fnOf m qual (defArgs st) (defBody st) (defScope st) .none kV doc pm an cdv ct) ⟨us, []⟩ = pure (ps.zip us))
    (kw : ∀ ks g, (i, ks, g) ∈ T.kwm → ∀ (kV doc pm : Value) (an : Option Addr) (cdv ct : Value) (u : Value) (zs ys : List Value), zs.length = ks.length → pick ([] ++ zs) g = some ys → (u :: ys).length = ps.length →
      bindArgs (PySem.W.fnOf m qual (defArgs st) (defBody st) (defScope st) .none kV doc pm an cdv ct) ⟨[u], ks.zip zs⟩ = pure (ps.zip (u :: ys)))
    (km : T.kw.all (fun p => decide (p.1 ≠ i)) = true) (hw : W.cls = clsIn K T.cl) (hx : T.cl.lookup k = some x) (F : ClsF K mg W k x)
    (a : PySem.W.nsIn K mainGlobals x = some (some (.ref C))) (am : PySem.W.findIn K (.ref C) m = some (some (.ref f))) (fi : PySem.W.isFn K (.ref f) = true)
    (ne : PySem.W.findIn K (.ref C) "__ne__" = some (some (.builtin "object.__ne__"))) (bo : PySem.W.findIn K (.ref C) "__bool__" = some none)
    (l : K.lookup f = some ⟨oc, od, .func (PySem.W.fnOf m qual (defArgs st) (defBody st) (defScope st) .none kV doc pm an cdv ct), osl⟩) (c : PySem.W.codeIn K cdv qual = true) (kp : PySem.W.keepIn K (.ref f) = true) : SpcIs K W T P i (k, m) := by
  obtain ⟨fd, D⟩ := methDef hi S hN hp hc bd kw km l c kp
  have e : W.cls k = C := by rw [hw]; exact clsIn_eq hx a
  refine ⟨fn, f, fd, ps, hi, D, ?_⟩
  have cm := F.cm
  show SpIs K (W.cls k) m f
  rw [e] at cm ⊢
  exact ⟨am, fi, fun _ => ne, fun _ => bo, cm⟩
theorem ini_is (hi : P.fns.lookup i = some fn) (S : FnScope N ps (defScope st)) (hN : N.length = fn.n) (hp : ps.length = fn.np) (hc : chkS T N (defScope st) fn.np fn.asg fn.body (.b (defBody st)) = true)
    (bd : ∀ (kV doc pm : Value) (an : Option Addr) (cdv ct : Value) (us : List Value), us.length = ps.length → bindArgs (PySem.W.fnOf m qual (defArgs st) (defBody st) (defScope st) .none kV doc pm an cdv ct) ⟨us, []⟩ = pure (ps.zip us))
    (kw : ∀ ks g, (i, ks, g) ∈ T.kwm → ∀ (kV doc pm : Value) (an : Option Addr) (cdv ct : Value) (u : Value) (zs ys : List Value), zs.length = ks.length → pick ([] ++ zs) g = some ys → (u :: ys).length = ps.length →
      bindArgs (PySem.W.fnOf m qual (defArgs st) (defBody st) (defScope st) .none kV doc pm an cdv ct) ⟨[u], ks.zip zs⟩ = pure (ps.zip (u :: ys)))
    (km : T.kw.all (fun p => decide (p.1 ≠ i)) = true) (hw : W.cls = clsIn K T.cl) (hx : T.cl.lookup k = some x)
    (a : PySem.W.nsIn K mainGlobals x = some (some (.ref C))) (am : PySem.W.findIn K (.ref C) "__init__" = some (some (.ref f))) (fi : PySem.W.isFn K (.ref f) = true) (mk : PySem.W.makesIn K C = true) (kc : PySem.W.keepIn K (.ref C) = true)
    (l : K.lookup f = some ⟨oc, od, .func (PySem.W.fnOf m qual (defArgs st) (defBody st) (defScope st) .none kV doc pm an cdv ct), osl⟩) (c : PySem.W.codeIn K cdv qual = true) (kp : PySem.W.keepIn K (.ref f) = true) : IniIs K W T P k i := by
  obtain ⟨fd, D⟩ := methDef hi S hN hp hc bd kw km l c kp
  have e : W.cls k = C := by rw [hw]; exact clsIn_eq hx a
  refine ⟨fn, f, fd, ps, hi, D, ?_⟩
  rw [e]
  exact ⟨mk, am, fi, kc⟩
end
def GlobIs (mg : Str → Option Value) (W : Wd) (P : Prg) (g : Nat) (x : Str) : Prop := ∃ v u, mg x = some u ∧ RelV v u ∧ ∀ F, Rep W F ((P.glob.lookup g).getD .non) v
theorem glob_int {h : Heap} {x : Str} {i : Int} {t : Tok} (X : K.In h) (G : h.Ns mainGlobals mg) (a : PySem.W.nsIn K mainGlobals x = some (some (.int i t))) : ∃ v u, mg x = some u ∧ RelV v u ∧ ∀ F, Rep W F (.int i) v :=
  ⟨.int i, .int i t, PySem.W.mg_of X G a, ⟨t, rfl⟩, fun _ => rfl⟩
theorem glob_str {h : Heap} {x : Str} {i : Str} {t : Tok} (X : K.In h) (G : h.Ns mainGlobals mg) (a : PySem.W.nsIn K mainGlobals x = some (some (.str i t))) : ∃ v u, mg x = some u ∧ RelV v u ∧ ∀ F, Rep W F (.str i) v :=
  ⟨.str i, .str i t, PySem.W.mg_of X G a, ⟨t, rfl⟩, fun _ => rfl⟩
theorem none_is {h : Heap} {x : Str} (X : K.In h) (G : h.Ns mainGlobals mg) (a : PySem.W.nsIn K mainGlobals x = some none) : mg x = none := PySem.W.mg_none_of X G a
theorem glob_at {g : Nat} {x : Str} {d : D} (h : P.glob.lookup g = some d) (e : ∃ v u, mg x = some u ∧ RelV v u ∧ ∀ F, Rep W F d v) : GlobIs mg W P g x := by
  unfold GlobIs
  rw [h]
  exact e
theorem prg_is (hK : K = W.K) (hF : P.flds = W.flds) (hC : P.cls = T.cl.map (·.1)) (hFl : ∀ k, W.flds k ≠ [] → k ∈ T.cl.map (·.1)) (d : AllAre (FnIs K mg T P) T.fs) (g : AllAre (GlobIs mg W P) T.gn) (b : AllL (fun x => mg x = none) T.bt)
    (c : AllAre (ClsF K mg W) T.cl) (two : AllL (fun p => TwoIs K W p.1 p.2) ((T.cl.map (·.1)).flatMap fun j => (T.cl.map (·.1)).map fun k => (j, k)))
    (cn : PySem.W.specialIn K (.builtin "object.__class__") "__get__" = some (some (.builtin "getset_descriptor.__get__"))) (ct : PySem.W.takesIn K (.builtin "object.__class__") = some true)
    (i : AllAre (IniIs K W T P) T.ini) (m0 : AllAre (ClsF K mg W) T.cl → AllAre (MethIs K W T P) T.ms) (s0 : AllAre (ClsF K mg W) T.cl → AllAre (SpcIs K W T P) T.sp) : PrgIs K mg W T P := by
  have m := m0 c
  have sp := s0 c
  have at_ : ∀ k ∈ T.cl.map (·.1), ∃ x, ClsF K mg W k x := by
    intro k hk
    have key : ∀ l : List (Nat × Str), AllAre (ClsF K mg W) l → k ∈ l.map (·.1) → ∃ x, ClsF K mg W k x := by
      intro l
      induction l with
      | nil => intro _ h; cases h
      | cons y l ih =>
        intro h hm
        rcases List.mem_cons.mp hm with rfl | hm
        · exact ⟨_, h.1⟩
        · exact ih h.2 hm
    exact key _ c hk
  refine ⟨hK, hF, hC, fun i x hx => d.at i x hx, fun i x hx => g.at i x hx, b.mem, ⟨fun k f hf => ?_⟩, ⟨fun k hk => ?_, fun _ => ⟨cn, ct⟩, fun j hj k hk => ?_, fun k hk => ?_⟩, fun j x hx => ?_, fun j f hf => i.at j f hf, fun f j n hf => m.at f (j, n) hf, fun f j n hf => sp.at f (j, n) hf⟩
  · obtain ⟨x, F⟩ := at_ k (hFl k fun z => by rw [z] at hf; cases hf)
    exact ⟨F.cls, F.fl f hf⟩
  · obtain ⟨x, F⟩ := at_ k hk
    exact ⟨F.cls, F.cc, F.cm⟩
  · exact two.mem (j, k) (List.mem_flatMap.mpr ⟨j, hj, List.mem_map.mpr ⟨k, hk, rfl⟩⟩)
  · obtain ⟨x, F⟩ := at_ k hk
    exact F.kb
  · have F := c.at j x hx
    exact ⟨F.mg, F.cls⟩
end
/-- THE END, from the program's facts -/
theorem law_end {l : PySem.W.OpenLaw} {n k : Nat} {q : Program} {loose : List Str} {XP : (Str → Option Value) → Heap → Prop} {YP : World → Heap → Prop} {d : DefRec} {Kf : Params → PySem.W.Frag} {T : Tab} {P : Prg} {i : Nat} {fn : Fn}
    (most : l.most = some n) (small : n ≤ sizeLine) (noD : d.params.defaults = []) (room : Room k callerA) (hY : ∀ (w : World) (h : Heap), YP w h → (Kf w.params).In h) (hi : T.fs.lookup i = some d.name) (hf : P.fns.lookup i = some fn) (h1 : fn.np = 1)
    (F : ∀ (w : World) (mg : Str → Option Value) (h : Heap), (Kf w.params).In h → h.Ns mainGlobals mg → PrgIs (Kf w.params) mg ⟨Kf w.params, clsIn (Kf w.params) T.cl, P.flds⟩ T P)
    (hr : ∀ ns : List Int, ns.length ≤ n → ∃ os, evC P k i [.sh (.arr ns)] = .ok (.sh (.bl true), os)) : PySem.W.WalkO q loose XP YP l.row.toRowW d [] (fun f vs => PySem.call f vs) := by
  refine Att.attach_call most noD ?_
  intro w s0 t mg mb fa o pm cd doc a us ns G Y ho hd hcd hmg atA sInts len noG
  have inK := hY w _ Y
  have pr := F w mg _ inK G.T.g
  obtain ⟨os, e⟩ := hr ns len
  obtain ⟨fn2, fa2, fd, ps, hf2, D, e2⟩ := pr.defs i d.name hi
  rw [hf] at hf2
  cases hf2
  rw [hmg] at e2
  cases e2
  obtain ⟨x, rfl⟩ : ∃ x, ps = [x] := by
    have z := D.np
    rw [h1] at z
    match ps, z with
    | [x], _ => exact ⟨x, rfl⟩
  exact head_call (W := ⟨Kf w.params, clsIn (Kf w.params) T.cl, P.flds⟩) inK G.T.g G.T.b G.T.builtins G.T.nolimit noG atA sInts (Nat.le_trans len small) room (fun base _ _ => prg_ok pr k i fn fa fd [x] hf D) (fun s u => .of_eq (D.bind [u] rfl)) e
end MP

set_option Elab.async false
set_option linter.all false
/-! Wp: what is to hold of an outcome; the evaluator, step by step. -/
namespace MP
open PySem L2
def Wp {α : Type} (r : R α) (Q : α → Prop) : Prop := ∃ a, r = .ok a ∧ Q a
section
variable {α β : Type} {r : R α} {Q Q' : α → Prop} {f : α → R β} {G : β → Prop}
theorem wp_ok {a : α} : Wp (R.ok a) Q ↔ Q a := ⟨fun ⟨_, e, q⟩ => by cases e; exact q, fun q => ⟨a, rfl, q⟩⟩
theorem wp_pure {a : α} : Wp (pure a : R α) Q ↔ Q a := wp_ok
theorem wp_bind : Wp (r >>= f) G ↔ Wp r fun a => Wp (f a) G := by
  constructor
  · rintro ⟨b, e, q⟩
    obtain ⟨a, e1, e2⟩ := R.bind_ok e
    exact ⟨a, e1, b, e2, q⟩
  · rintro ⟨a, rfl, b, e, q⟩
    exact ⟨b, e, q⟩
theorem wp_bnd : Wp (r.bind f) G ↔ Wp r fun a => Wp (f a) G := wp_bind
theorem wp_need {b : Bool} : Wp (R.need b r) Q ↔ b = true ∧ Wp r Q := by
  constructor
  · rintro ⟨a, e, q⟩
    obtain ⟨h1, h2⟩ := R.need_ok e
    exact ⟨h1, a, h2, q⟩
  · rintro ⟨rfl, h⟩
    exact h
theorem wp_of {o : Option α} : Wp (R.of o) Q ↔ ∃ a, o = some a ∧ Q a := by
  constructor
  · rintro ⟨a, e, q⟩
    exact ⟨a, R.of_ok e, q⟩
  · rintro ⟨a, rfl, q⟩
    exact ⟨a, rfl, q⟩
theorem Wp.mono (h : Wp r Q) (k : ∀ a, Q a → Q' a) : Wp r Q' := let ⟨a, e, q⟩ := h; ⟨a, e, k a q⟩
theorem Wp.eq {a : α} (e : r = .ok a) (q : Q a) : Wp r Q := ⟨a, e, q⟩
end
/-- the continuation is left alone, until the outcome is known -/
def Br (b : Bool) (x y : Prop) : Prop := if b = true then x else y
theorem br_t {x y : Prop} : Br true x y ↔ x := Iff.rfl
theorem br_f {x y : Prop} : Br false x y ↔ y := by
  unfold Br
  simp
theorem br_of {b : Bool} {x y : Prop} (h1 : b = true → x) (h2 : b = false → y) : Br b x y := by
  cases b
  · exact br_f.mpr (h2 rfl)
  · exact h1 rfl
structure vV (c : Cfg) (x : E) (e : En) (Q : O → En → Prop) : Prop where
  run : Wp ((sem c x).val e) fun p => Q p.1 p.2
theorem vV_iff {c : Cfg} {x : E} {e : En} {Q : O → En → Prop} : vV c x e Q ↔ Wp ((sem c x).val e) fun p => Q p.1 p.2 := ⟨fun h => h.run, fun h => ⟨h⟩⟩
structure aV (c : Cfg) (x : E) (e : En) (Q : AV → En → Prop) : Prop where
  run : Wp ((sem c x).arg e) fun p => Q p.1 p.2
theorem aV_iff {c : Cfg} {x : E} {e : En} {Q : AV → En → Prop} : aV c x e Q ↔ Wp ((sem c x).arg e) fun p => Q p.1 p.2 := ⟨fun h => h.run, fun h => ⟨h⟩⟩
structure tV (c : Cfg) (x : E) (e : En) (Q : Bool → En → Prop) : Prop where
  run : Wp ((sem c x).tru e) fun p => Q p.1 p.2
theorem tV_iff {c : Cfg} {x : E} {e : En} {Q : Bool → En → Prop} : tV c x e Q ↔ Wp ((sem c x).tru e) fun p => Q p.1 p.2 := ⟨fun h => h.run, fun h => ⟨h⟩⟩
structure iV (c : Cfg) (x : E) (e : En) (Q : List D → En → Prop) : Prop where
  run : Wp ((sem c x).itr e) fun p => Q p.1 p.2
theorem iV_iff {c : Cfg} {x : E} {e : En} {Q : List D → En → Prop} : iV c x e Q ↔ Wp ((sem c x).itr e) fun p => Q p.1 p.2 := ⟨fun h => h.run, fun h => ⟨h⟩⟩
structure kV (c : Cfg) (x : E) (e : En) (Q : List O → En → Prop) : Prop where
  run : Wp ((sem c x).tks e) fun p => Q p.1 p.2
theorem kV_iff {c : Cfg} {x : E} {e : En} {Q : List O → En → Prop} : kV c x e Q ↔ Wp ((sem c x).tks e) fun p => Q p.1 p.2 := ⟨fun h => h.run, fun h => ⟨h⟩⟩
structure gV (c : Cfg) (x : E) (e : En) (Q : List AV → En → Prop) : Prop where
  run : Wp ((sem c x).ags e) fun p => Q p.1 p.2
theorem gV_iff {c : Cfg} {x : E} {e : En} {Q : List AV → En → Prop} : gV c x e Q ↔ Wp ((sem c x).ags e) fun p => Q p.1 p.2 := ⟨fun h => h.run, fun h => ⟨h⟩⟩
structure sV (c : Cfg) (np : Nat) (x : S) (e : En) (Q : Fl → En → Prop) : Prop where
  run : Wp (exe c np x e) fun p => Q p.1 p.2
theorem sV_iff {c : Cfg} {np : Nat} {x : S} {e : En} {Q : Fl → En → Prop} : sV c np x e Q ↔ Wp (exe c np x e) fun p => Q p.1 p.2 := ⟨fun h => h.run, fun h => ⟨h⟩⟩
structure gT (c : Cfg) (t : Tg) (o : O) (e : En) (Q : En → Prop) : Prop where
  run : Wp (asgT c t o e) Q
theorem gT_iff {c : Cfg} {t : Tg} {o : O} {e : En} {Q : En → Prop} : gT c t o e Q ↔ Wp (asgT c t o e) Q := ⟨fun h => h.run, fun h => ⟨h⟩⟩
structure gL (c : Cfg) (t : Tg) (ds : List D) (e : En) (Q : En → Prop) : Prop where
  run : Wp (asgT.asgL c t ds e) Q
theorem gL_iff {c : Cfg} {t : Tg} {ds : List D} {e : En} {Q : En → Prop} : gL c t ds e Q ↔ Wp (asgT.asgL c t ds e) Q := ⟨fun h => h.run, fun h => ⟨h⟩⟩
structure gO (c : Cfg) (t : Tg) (os : List O) (e : En) (Q : En → Prop) : Prop where
  run : Wp (asgO c t os e) Q
theorem gO_iff {c : Cfg} {t : Tg} {os : List O} {e : En} {Q : En → Prop} : gO c t os e Q ↔ Wp (asgO c t os e) Q := ⟨fun h => h.run, fun h => ⟨h⟩⟩
structure oV (c : Cfg) (x : E) (e : En) (Q : Option Int → En → Prop) : Prop where
  run : Wp (optI (sem c x) (isNil x) e) fun p => Q p.1 p.2
theorem oV_iff {c : Cfg} {x : E} {e : En} {Q : Option Int → En → Prop} : oV c x e Q ↔ Wp (optI (sem c x) (isNil x) e) fun p => Q p.1 p.2 := ⟨fun h => h.run, fun h => ⟨h⟩⟩
structure cV (c : Cfg) (f : Nat) (as : List AV) (e : En) (Q : O → En → Prop) : Prop where
  run : Wp (lend (c.asg f) 0 as e) fun p => Wp (c.call f p.1) fun q => Q q.1 (giveBack (c.asg f) 0 as q.2 p.2)
theorem cV_iff {c : Cfg} {f : Nat} {as : List AV} {e : En} {Q : O → En → Prop} : cV c f as e Q ↔ Wp (lend (c.asg f) 0 as e) fun p => Wp (c.call f p.1) fun q => Q q.1 (giveBack (c.asg f) 0 as q.2 p.2) := ⟨fun h => h.run, fun h => ⟨h⟩⟩
def isVar : E → Bool
  | .var _ => true
  | _ => false
def isIt : E → Bool
  | .range1 _ => true
  | .range2 .. => true
  | .enum _ => true
  | .zip .. => true
  | .nil => true
  | .cons .. => true
  | .star .. => true
  | _ => false
def ownTru : E → Bool
  | .var _ => true
  | .and .. => true
  | .or .. => true
  | .not _ => true
  | .ite .. => true
  | .range1 _ => true
  | .range2 .. => true
  | .enum _ => true
  | .zip .. => true
  | .nil => true
  | .cons .. => true
  | .star .. => true
  | _ => false
section
variable {c : Cfg} {e : En} {a b d l : E} {np : Nat}
variable {QV : O → En → Prop} {QA : AV → En → Prop} {QT : Bool → En → Prop} {QI : List D → En → Prop} {QK : List O → En → Prop} {QG : List AV → En → Prop} {QS : Fl → En → Prop} {QE : En → Prop}
theorem w_non : vV c .non e QV ↔ QV (.sh .non) e := vV_iff.trans wp_ok
theorem w_bl {x : Bool} : vV c (.bl x) e QV ↔ QV (shB x) e := vV_iff.trans wp_ok
theorem w_int {x : Int} : vV c (.int x) e QV ↔ QV (.sh (.int x)) e := vV_iff.trans wp_ok
theorem w_str {x : Str} : vV c (.str x) e QV ↔ QV (.sh (.str x)) e := vV_iff.trans wp_ok
theorem w_glb {g : Nat} : vV c (.glb g) e QV ↔ QV (.sh (c.glob g)) e := vV_iff.trans wp_ok
theorem w_var {i : Nat} : vV c (.var i) e QV ↔ Wp (take i e) fun p => QV p.1 p.2 := vV_iff
theorem a_var {i : Nat} : aV c (.var i) e QA ↔ Wp (argAt i e) fun p => QA p.1 p.2 := aV_iff
theorem t_var {i : Nat} : tV c (.var i) e QT ↔ Wp (e.get i) fun o => Wp (truD o.view) fun b => QT b e := by
  rw [tV_iff]
  show Wp (e.get i >>= fun o => truD o.view >>= fun b => pure (b, e)) _ ↔ _
  simp only [wp_bind, wp_pure]
theorem arg_nv (h : isVar a = false) : (sem c a).arg e = ((sem c a).val e >>= fun p => pure (AV.val p.1, p.2)) := by
  cases a <;> first | rfl | cases h
theorem tru_nv (h : ownTru a = false) : (sem c a).tru e = ((sem c a).val e >>= fun p => truD p.1.view >>= fun b => pure (b, p.2)) := by
  cases a <;> first | rfl | cases h
theorem itr_nv (h : isIt a = false) : (sem c a).itr e = ((sem c a).val e >>= fun p => R.need (noIns p.1) (itemsD p.1.view >>= fun xs => pure (xs, p.2))) := by
  cases a <;> first | rfl | cases h
theorem a_nv (h : isVar a = false) : aV c a e QA ↔ vV c a e fun o e => QA (.val o) e := by
  simp only [vV_iff, aV_iff, tV_iff, iV_iff, kV_iff, gV_iff, sV_iff, gT_iff, gL_iff, gO_iff, oV_iff, cV_iff]
  rw [arg_nv h]
  simp only [wp_bind, wp_pure]
theorem t_nv (h : ownTru a = false) : tV c a e QT ↔ vV c a e fun o e => Wp (truD o.view) fun b => QT b e := by
  simp only [vV_iff, aV_iff, tV_iff, iV_iff, kV_iff, gV_iff, sV_iff, gT_iff, gL_iff, gO_iff, oV_iff, cV_iff]
  rw [tru_nv h]
  simp only [wp_bind, wp_pure]
theorem i_nv (h : isIt a = false) : iV c a e QI ↔ vV c a e fun o e => noIns o = true ∧ Wp (itemsD o.view) fun xs => QI xs e := by
  simp only [vV_iff, aV_iff, tV_iff, iV_iff, kV_iff, gV_iff, sV_iff, gT_iff, gL_iff, gO_iff, oV_iff, cV_iff]
  rw [itr_nv h]
  simp only [wp_bind, wp_pure, wp_need]
theorem w_op {k : Op} : vV c (.op k a b) e QV ↔ aV c a e fun x e1 => aV c b e1 fun y e2 => Wp (x.see e2) fun o => Wp (y.see e2) fun p => Wp (opD k o p) fun r => QV r e2 := by
  rw [vV_iff]
  show Wp ((two (sem c a) (sem c b) (opD k)).val e) _ ↔ _
  simp only [vV_iff, aV_iff, tV_iff, iV_iff, kV_iff, gV_iff, sV_iff, gT_iff, gL_iff, gO_iff, oV_iff, cV_iff]
  simp only [two, Sm.mk1, wp_bind, wp_pure]
theorem w_neg : vV c (.neg a) e QV ↔ aV c a e fun x e1 => Wp (x.see e1) fun o => Wp (negD o.view) fun r => QV (.sh r) e1 := by
  rw [vV_iff]
  show Wp ((one (sem c a) fun x => do let d ← negD x.view; pure (.sh d)).val e) _ ↔ _
  simp only [vV_iff, aV_iff, tV_iff, iV_iff, kV_iff, gV_iff, sV_iff, gT_iff, gL_iff, gO_iff, oV_iff, cV_iff]
  simp only [one, Sm.mk1, wp_bind, wp_pure]
theorem w_cm {k : Cm} : vV c (.cm k a b) e QV ↔ aV c a e fun x e1 => aV c b e1 fun y e2 => Wp (x.see e2) fun o => Wp (y.see e2) fun p => Wp (cmD k o.view p.view) fun r => QV (shB r) e2 := by
  rw [vV_iff]
  show Wp ((two (sem c a) (sem c b) fun x y => do let r ← cmD k x.view y.view; pure (shB r)).val e) _ ↔ _
  simp only [vV_iff, aV_iff, tV_iff, iV_iff, kV_iff, gV_iff, sV_iff, gT_iff, gL_iff, gO_iff, oV_iff, cV_iff]
  simp only [two, Sm.mk1, wp_bind, wp_pure]
theorem w_ch {k k2 : Cm} : vV c (.ch k k2 a b d) e QV ↔ aV c a e fun x e1 => aV c b e1 fun y e2 => Wp (x.see e2) fun o => Wp (y.see e2) fun p => Wp (cmD k o.view p.view) fun r =>
    Br r (aV c d e2 fun z e3 => Wp (y.see e3) fun p => Wp (z.see e3) fun q => Wp (cmD k2 p.view q.view) fun r => QV (shB r) e3) (QV (shB false) e2) := by
  rw [vV_iff]
  show Wp ((Sm.mk1 fun e => do let (r, e) ← chV c k k2 (sem c a) (sem c b) (sem c d) e; pure (shB r, e)).val e) _ ↔ _
  simp only [vV_iff, aV_iff, tV_iff, iV_iff, kV_iff, gV_iff, sV_iff, gT_iff, gL_iff, gO_iff, oV_iff, cV_iff]
  simp only [chV, Sm.mk1, wp_bind, wp_pure]
  have key : ∀ (r : Bool) (x : R (Bool × En)) (y : Bool × En) (G : Bool × En → Prop), Wp (if r = true then x else pure y) G ↔ Br r (Wp x G) (G y) := by
    intro r x y G
    cases r <;> simp [wp_ok, wp_pure, br_t, br_f]
  simp only [key, wp_bind, wp_pure]
theorem wp_ite {α : Type} {r : Bool} {x y : R α} {G : α → Prop} : Wp (if r = true then x else y) G ↔ Br r (Wp x G) (Wp y G) := by
  cases r
  · exact br_f.symm
  · exact Iff.rfl
theorem w_and : vV c (.and a b) e QV ↔ vV c a e fun o e1 => Wp (truD o.view) fun r => Br r (vV c b e1 QV) (QV o e1) := by
  rw [vV_iff]
  show Wp (andV (sem c a) (sem c b) e) _ ↔ _
  simp only [vV_iff, aV_iff, tV_iff, iV_iff, kV_iff, gV_iff, sV_iff, gT_iff, gL_iff, gO_iff, oV_iff, cV_iff]
  simp only [andV, wp_bind, wp_pure, wp_ite]
theorem w_or : vV c (.or a b) e QV ↔ vV c a e fun o e1 => Wp (truD o.view) fun r => Br r (QV o e1) (vV c b e1 QV) := by
  rw [vV_iff]
  show Wp (orV (sem c a) (sem c b) e) _ ↔ _
  simp only [vV_iff, aV_iff, tV_iff, iV_iff, kV_iff, gV_iff, sV_iff, gT_iff, gL_iff, gO_iff, oV_iff, cV_iff]
  simp only [orV, wp_bind, wp_pure, wp_ite]
theorem t_and : tV c (.and a b) e QT ↔ tV c a e fun r e1 => Br r (tV c b e1 QT) (QT false e1) := by
  rw [tV_iff]
  show Wp (andT (sem c a) (sem c b) e) _ ↔ _
  simp only [vV_iff, aV_iff, tV_iff, iV_iff, kV_iff, gV_iff, sV_iff, gT_iff, gL_iff, gO_iff, oV_iff, cV_iff]
  simp only [andT, wp_bind, wp_pure, wp_ite]
theorem t_or : tV c (.or a b) e QT ↔ tV c a e fun r e1 => Br r (QT true e1) (tV c b e1 QT) := by
  rw [tV_iff]
  show Wp (orT (sem c a) (sem c b) e) _ ↔ _
  simp only [vV_iff, aV_iff, tV_iff, iV_iff, kV_iff, gV_iff, sV_iff, gT_iff, gL_iff, gO_iff, oV_iff, cV_iff]
  simp only [orT, wp_bind, wp_pure, wp_ite]
theorem w_not : vV c (.not a) e QV ↔ vV c a e fun o e1 => Wp (truD o.view) fun r => QV (shB (!r)) e1 := by
  rw [vV_iff]
  show Wp ((sem c a).val e >>= fun p => truD p.1.view >>= fun r => pure (shB (!r), p.2)) _ ↔ _
  simp only [vV_iff, aV_iff, tV_iff, iV_iff, kV_iff, gV_iff, sV_iff, gT_iff, gL_iff, gO_iff, oV_iff, cV_iff]
  simp only [wp_bind, wp_pure]
theorem t_not : tV c (.not a) e QT ↔ tV c a e fun r e1 => QT (!r) e1 := by
  rw [tV_iff]
  show Wp ((sem c a).tru e >>= fun p => pure (!p.1, p.2)) _ ↔ _
  simp only [vV_iff, aV_iff, tV_iff, iV_iff, kV_iff, gV_iff, sV_iff, gT_iff, gL_iff, gO_iff, oV_iff, cV_iff]
  simp only [wp_bind, wp_pure]
theorem w_ite : vV c (.ite d a b) e QV ↔ tV c d e fun r e1 => Br r (vV c a e1 QV) (vV c b e1 QV) := by
  rw [vV_iff]
  show Wp ((sem c d).tru e >>= fun p => if p.1 = true then (sem c a).val p.2 else (sem c b).val p.2) _ ↔ _
  simp only [vV_iff, aV_iff, tV_iff, iV_iff, kV_iff, gV_iff, sV_iff, gT_iff, gL_iff, gO_iff, oV_iff, cV_iff]
  simp only [wp_bind, wp_ite]
/-- what may be taken out of a value -/
def ixOk (x : O) (d : D) : Bool := match x.flat with
  | some _ => true
  | none => match d with | .int _ | .str _ | .bl _ | .non => true | _ => false
theorem w_ix : vV c (.ix a b) e QV ↔ aV c a e fun x e1 => aV c b e1 fun y e2 => Wp (x.see e2) fun o => Wp (y.see e2) fun p => Wp (ixD o.view p.view) fun d => ixOk o d = true ∧ QV (.sh d) e2 := by
  rw [vV_iff]
  show Wp ((two (sem c a) (sem c b) fun x y => do let d ← ixD x.view y.view; R.need (ixOk x d) (pure (.sh d))).val e) _ ↔ _
  simp only [vV_iff, aV_iff, tV_iff, iV_iff, kV_iff, gV_iff, sV_iff, gT_iff, gL_iff, gO_iff, oV_iff, cV_iff]
  simp only [two, Sm.mk1, wp_bind, wp_pure, wp_need]
def asI (o : O) : R Int := match o.view with
  | .int i => .ok i
  | _ => .bad
def asL (o : O) : R (List O) := match o with
  | .lst xs => .ok xs
  | _ => .bad
theorem asI_sh {i : Int} : asI (.sh (.int i)) = .ok i := rfl
theorem asL_lst {xs : List O} : asL (.lst xs) = .ok xs := rfl
theorem wp_asI {o : O} {G : Int → Prop} : Wp (asI o) G ↔ ∃ i, o.view = .int i ∧ G i := by
  unfold asI
  cases h : o.view with
  | int i => simp [wp_ok]
  | _ => exact ⟨fun ⟨_, z, _⟩ => (by cases z), fun ⟨i, z, _⟩ => (by cases z)⟩
def rOI (o : O) (e : En) : R (Option Int × En) := match o.view with
  | .int i => pure (some i, e)
  | _ => .bad
theorem rOI_wp {o : O} {e : En} {G : Option Int × En → Prop} : Wp (rOI o e) G ↔ ∃ i, o.view = .int i ∧ G (some i, e) := by
  unfold rOI
  cases h : o.view with
  | int i => simp [wp_ok, wp_pure]
  | _ => exact ⟨fun ⟨_, z, _⟩ => (by cases z), fun ⟨i, z, _⟩ => (by cases z)⟩
theorem o_nil {QO : Option Int → En → Prop} : oV c .nil e QO ↔ QO none e := oV_iff.trans wp_ok
theorem o_val {QO : Option Int → En → Prop} (h : isNil a = false) : oV c a e QO ↔ aV c a e fun x e1 => Wp (x.see e1) fun o => Wp (asI o) fun i => QO (some i) e1 := by
  rw [oV_iff]
  show Wp (if isNil a = true then .ok (none, e) else ((sem c a).arg e >>= fun p => p.1.see p.2 >>= fun o => rOI o p.2)) _ ↔ _
  simp only [vV_iff, aV_iff, tV_iff, iV_iff, kV_iff, gV_iff, sV_iff, gT_iff, gL_iff, gO_iff, oV_iff, cV_iff]
  rw [h]
  simp only [Bool.false_eq_true, if_false, wp_bind, rOI_wp, wp_asI]
theorem w_sl : vV c (.sl a b d) e QV ↔ aV c a e fun x e1 => oV c b e1 fun l e2 => oV c d e2 fun h e3 => Wp (x.see e3) fun o => Wp (slD o l h) fun r => QV r e3 := by
  rw [vV_iff]
  show Wp (slV (sem c a) (optI (sem c b) (isNil b)) (optI (sem c d) (isNil d)) e) _ ↔ _
  simp only [vV_iff, aV_iff, tV_iff, iV_iff, kV_iff, gV_iff, sV_iff, gT_iff, gL_iff, gO_iff, oV_iff, cV_iff]
  simp only [slV, wp_bind, wp_pure]
theorem w_rev : vV c (.rev a) e QV ↔ aV c a e fun x e1 => Wp (x.see e1) fun o => Wp (revD o) fun r => QV r e1 := by
  rw [vV_iff]
  show Wp ((one (sem c a) revD).val e) _ ↔ _
  simp only [vV_iff, aV_iff, tV_iff, iV_iff, kV_iff, gV_iff, sV_iff, gT_iff, gL_iff, gO_iff, oV_iff, cV_iff]
  simp only [one, Sm.mk1, wp_bind, wp_pure]
theorem k_nil : kV c .nil e QK ↔ QK [] e := kV_iff.trans wp_ok
theorem g_nil : gV c .nil e QG ↔ QG [] e := gV_iff.trans wp_ok
theorem k_cons : kV c (.cons a b) e QK ↔ vV c a e fun o e1 => kV c b e1 fun os e2 => QK (o :: os) e2 := by
  rw [kV_iff]
  show Wp ((sem c a).val e >>= fun p => (sem c b).tks p.2 >>= fun q => pure (p.1 :: q.1, q.2)) _ ↔ _
  simp only [vV_iff, aV_iff, tV_iff, iV_iff, kV_iff, gV_iff, sV_iff, gT_iff, gL_iff, gO_iff, oV_iff, cV_iff]
  simp only [wp_bind, wp_pure]
theorem g_cons : gV c (.cons a b) e QG ↔ aV c a e fun o e1 => gV c b e1 fun os e2 => QG (o :: os) e2 := by
  rw [gV_iff]
  show Wp ((sem c a).arg e >>= fun p => (sem c b).ags p.2 >>= fun q => pure (p.1 :: q.1, q.2)) _ ↔ _
  simp only [vV_iff, aV_iff, tV_iff, iV_iff, kV_iff, gV_iff, sV_iff, gT_iff, gL_iff, gO_iff, oV_iff, cV_iff]
  simp only [wp_bind, wp_pure]
theorem k_star : kV c (.star a b) e QK ↔ vV c a e fun o e1 => noIns o = true ∧ Wp (seqD o.view) fun xs => kV c b e1 fun os e2 => QK (xs.map O.sh ++ os) e2 := by
  rw [kV_iff]
  show Wp ((sem c a).val e >>= fun p => R.need (noIns p.1) (seqD p.1.view >>= fun xs => (sem c b).tks p.2 >>= fun q => pure (xs.map O.sh ++ q.1, q.2))) _ ↔ _
  simp only [vV_iff, aV_iff, tV_iff, iV_iff, kV_iff, gV_iff, sV_iff, gT_iff, gL_iff, gO_iff, oV_iff, cV_iff]
  simp only [wp_bind, wp_pure, wp_need]
theorem w_tup : vV c (.tup a) e QV ↔ kV c a e fun os e1 => (noInss os && decide (os.length ≤ lim)) = true ∧ QV (.sh (.tup (views os))) e1 := by
  rw [vV_iff]
  show Wp ((sem c a).tks e >>= fun p => R.need (noInss p.1 && decide (p.1.length ≤ lim)) (pure (O.sh (D.tup (views p.1)), p.2))) _ ↔ _
  simp only [vV_iff, aV_iff, tV_iff, iV_iff, kV_iff, gV_iff, sV_iff, gT_iff, gL_iff, gO_iff, oV_iff, cV_iff]
  simp only [wp_bind, wp_pure, wp_need]
theorem w_lst : vV c (.lst a) e QV ↔ kV c a e fun os e1 => decide (os.length ≤ lim) = true ∧ QV (.lst os) e1 := by
  rw [vV_iff]
  show Wp ((sem c a).tks e >>= fun p => R.need (decide (p.1.length ≤ lim)) (pure (O.lst p.1, p.2))) _ ↔ _
  simp only [vV_iff, aV_iff, tV_iff, iV_iff, kV_iff, gV_iff, sV_iff, gT_iff, gL_iff, gO_iff, oV_iff, cV_iff]
  simp only [wp_bind, wp_pure, wp_need]
theorem cV_eq {c : Cfg} {f : Nat} {as : List AV} {e : En} {Q : O → En → Prop} : cV c f as e Q ↔ Wp (lend (c.asg f) 0 as e) fun p => Wp (c.call f p.1) fun q => Q q.1 (giveBack (c.asg f) 0 as q.2 p.2) := cV_iff
theorem w_call {f : Nat} : vV c (.call f l) e QV ↔ gV c l e fun as e1 => cV c f as e1 QV := by
  rw [vV_iff]
  show Wp ((sem c l).ags e >>= fun p => callWith c f p.1 p.2) _ ↔ _
  unfold callWith
  simp only [vV_iff, aV_iff, tV_iff, iV_iff, kV_iff, gV_iff, sV_iff, gT_iff, gL_iff, gO_iff, oV_iff, cV_iff]
  simp only [wp_bind, wp_pure]
theorem w_callK {f : Nat} {ks : List Str} {g : List Nat} {kl : E} : vV c (.callK f l ks g kl) e QV ↔ gV c l e fun as e1 => gV c kl e1 fun bs e2 => decide g.Nodup = true ∧ Wp (R.of (pick (as ++ bs) g)) fun xs => cV c f xs e2 QV := by
  rw [vV_iff]
  show Wp ((sem c l).ags e >>= fun p => (sem c kl).ags p.2 >>= fun q => R.need (decide g.Nodup) (R.of (pick (p.1 ++ q.1) g) >>= fun xs => callWith c f xs q.2)) _ ↔ _
  unfold callWith
  simp only [vV_iff, aV_iff, tV_iff, iV_iff, kV_iff, gV_iff, sV_iff, gT_iff, gL_iff, gO_iff, oV_iff, cV_iff]
  simp only [wp_bind, wp_pure, wp_need]
theorem w_bl1 {k : Bl} : vV c (.bl1 k l) e QV ↔ gV c l e fun as e1 => Wp (seeAll e1 as) fun os => Wp (blD k os) fun r => QV r e1 := by
  rw [vV_iff]
  show Wp ((Sm.mkA (sem c l).ags (blD k)).val e) _ ↔ _
  simp only [vV_iff, aV_iff, tV_iff, iV_iff, kV_iff, gV_iff, sV_iff, gT_iff, gL_iff, gO_iff, oV_iff, cV_iff]
  simp only [Sm.mkA, Sm.mk1, wp_bind, wp_pure]
theorem w_mt {m : Mt} : vV c (.mt m a b) e QV ↔ aV c a e fun x e1 => Wp (x.see e1) fun o => mtOk m o.view = true ∧ aV c b e1 fun y e2 => Wp (x.see e2) fun o => Wp (y.see e2) fun p => Wp (mtD m o p) fun r => QV r e2 := by
  rw [vV_iff]
  show Wp ((sem c a).arg e >>= fun p => p.1.see p.2 >>= fun o => R.need (mtOk m o.view) ((sem c b).arg p.2 >>= fun q => p.1.see q.2 >>= fun o => q.1.see q.2 >>= fun o2 => mtD m o o2 >>= fun r => pure (r, q.2))) _ ↔ _
  simp only [vV_iff, aV_iff, tV_iff, iV_iff, kV_iff, gV_iff, sV_iff, gT_iff, gL_iff, gO_iff, oV_iff, cV_iff]
  simp only [wp_bind, wp_pure, wp_need]
theorem w_isTy {t : Ty} : vV c (.isTy t a) e QV ↔ aV c a e fun x e1 => Wp (x.see e1) fun o => hasTy o.view = true ∧ QV (shB (MP.isTy t o.view)) e1 := by
  rw [vV_iff]
  show Wp ((one (sem c a) fun x => R.need (hasTy x.view) (pure (shB (MP.isTy t x.view)))).val e) _ ↔ _
  simp only [vV_iff, aV_iff, tV_iff, iV_iff, kV_iff, gV_iff, sV_iff, gT_iff, gL_iff, gO_iff, oV_iff, cV_iff]
  simp only [one, Sm.mk1, wp_bind, wp_pure, wp_need]
/-- an item taken out of a list -/
def popR (xs : List O) (k : Int) : R (O × List O) := R.need (decide (-(2 ^ 63) ≤ k) && decide (k < 2 ^ 63)) (do
  let j ← R.of (seqIndex? k xs.length)
  let v ← R.of (xs[j]?)
  pure (v, xs.eraseIdx j))
def rPop (i : Nat) (o p : O) (e : En) : R (O × En) := match o, p.view with
  | .lst xs, .int k => R.need (decide (-(2 ^ 63) ≤ k) && decide (k < 2 ^ 63)) (do
    let j ← R.of (seqIndex? k xs.length)
    let v ← R.of (xs[j]?)
    pure (v, e.set i (some (.lst (xs.eraseIdx j)))))
  | _, _ => .bad
theorem wp_bad0 {α : Type} {G : α → Prop} : Wp (R.bad : R α) G ↔ False := ⟨fun ⟨_, z, _⟩ => (by cases z), fun z => z.elim⟩
theorem rPop_wp {i : Nat} {o p : O} {e : En} {G : O × En → Prop} : Wp (rPop i o p e) G ↔ Wp (asL o) fun xs => Wp (asI p) fun k => Wp (popR xs k) fun q => G (q.1, e.set i (some (.lst q.2))) := by
  cases o with
  | lst xs =>
    rw [asL_lst, wp_ok, wp_asI]
    unfold rPop
    cases h : p.view with
    | int k =>
      unfold popR
      simp only [wp_bind, wp_need, wp_pure]
      simp
    | _ => exact ⟨fun ⟨_, z, _⟩ => (by cases z), fun ⟨i, z, _⟩ => (by cases z)⟩
  | _ =>
    unfold rPop asL
    exact wp_bad0.trans wp_bad0.symm
theorem w_pop {i : Nat} : vV c (.pop i a) e QV ↔ Wp (e.get i) fun o => isLst o = true ∧ aV c a e fun y e1 => Wp (y.see e1) fun p => Wp (e1.get i) fun o => Wp (asL o) fun xs => Wp (asI p) fun k => Wp (popR xs k) fun q => QV q.1 (e1.set i (some (.lst q.2))) := by
  rw [vV_iff]
  show Wp (e.get i >>= fun o => R.need (isLst o) ((sem c a).arg e >>= fun q => q.1.see q.2 >>= fun p => q.2.get i >>= fun o => rPop i o p q.2)) _ ↔ _
  simp only [vV_iff, aV_iff, tV_iff, iV_iff, kV_iff, gV_iff, sV_iff, gT_iff, gL_iff, gO_iff, oV_iff, cV_iff]
  simp only [wp_bind, wp_need, rPop_wp]
theorem wp_bad {α : Type} {G : α → Prop} : Wp (R.bad : R α) G ↔ False := ⟨fun ⟨_, z, _⟩ => (by cases z), fun z => z.elim⟩
def rRg1 (o : O) (e : En) : R (List D × En) := match o.view with
  | .int n => R.need (rangeOk 0 n) (pure (rangeD 0 n, e))
  | _ => .bad
def rRg2 (o p : O) (e : En) : R (List D × En) := match o.view, p.view with
  | .int m, .int n => R.need (rangeOk m n) (pure (rangeD m n, e))
  | _, _ => .bad
theorem rRg1_wp {o : O} {e : En} {G : List D × En → Prop} : Wp (rRg1 o e) G ↔ Wp (asI o) fun n => rangeOk 0 n = true ∧ G (rangeD 0 n, e) := by
  rw [wp_asI]
  unfold rRg1
  cases h : o.view with
  | int i => simp [wp_ok, wp_pure, wp_need]
  | _ => exact ⟨fun ⟨_, z, _⟩ => (by cases z), fun ⟨i, z, _⟩ => (by cases z)⟩
theorem rRg2_wp {o p : O} {e : En} {G : List D × En → Prop} : Wp (rRg2 o p e) G ↔ Wp (asI o) fun m => Wp (asI p) fun n => rangeOk m n = true ∧ G (rangeD m n, e) := by
  simp only [wp_asI]
  unfold rRg2
  cases h : o.view with
  | int i =>
    cases h2 : p.view with
    | int j => simp [wp_ok, wp_pure, wp_need]
    | _ => exact ⟨fun ⟨_, z, _⟩ => (by cases z), fun ⟨_, _, i, z, _⟩ => (by cases z)⟩
  | _ => exact ⟨fun ⟨_, z, _⟩ => (by cases z), fun ⟨i, z, _⟩ => (by cases z)⟩
theorem i_range1 : iV c (.range1 a) e QI ↔ aV c a e fun x e1 => Wp (x.see e1) fun o => Wp (asI o) fun n => rangeOk 0 n = true ∧ QI (rangeD 0 n) e1 := by
  rw [iV_iff]
  show Wp ((sem c a).arg e >>= fun p => p.1.see p.2 >>= fun o => rRg1 o p.2) _ ↔ _
  simp only [vV_iff, aV_iff, tV_iff, iV_iff, kV_iff, gV_iff, sV_iff, gT_iff, gL_iff, gO_iff, oV_iff, cV_iff]
  simp only [wp_bind, rRg1_wp]
theorem i_range2 : iV c (.range2 a b) e QI ↔ aV c a e fun x e1 => aV c b e1 fun y e2 => Wp (x.see e2) fun o => Wp (y.see e2) fun p => Wp (asI o) fun m => Wp (asI p) fun n => rangeOk m n = true ∧ QI (rangeD m n) e2 := by
  rw [iV_iff]
  show Wp ((sem c a).arg e >>= fun p => (sem c b).arg p.2 >>= fun q => p.1.see q.2 >>= fun o => q.1.see q.2 >>= fun o2 => rRg2 o o2 q.2) _ ↔ _
  simp only [vV_iff, aV_iff, tV_iff, iV_iff, kV_iff, gV_iff, sV_iff, gT_iff, gL_iff, gO_iff, oV_iff, cV_iff]
  simp only [wp_bind, rRg2_wp]
def rEn (o : O) (e : En) : R (List D × En) := match o.view with
  | .lst xs => pure (enumD xs, e)
  | .tup xs => pure (enumD xs, e)
  | _ => .bad
theorem rEn_wp {o : O} {e : En} {G : List D × En → Prop} : Wp (rEn o e) G ↔ Wp (seqD o.view) fun xs => G (enumD xs, e) := by
  unfold rEn
  cases h : o.view with
  | lst xs => exact wp_ok.trans (wp_ok (Q := fun xs => G (enumD xs, e))).symm
  | tup xs => exact wp_ok.trans (wp_ok (Q := fun xs => G (enumD xs, e))).symm
  | _ => exact wp_bad0.trans wp_bad0.symm
theorem i_enum : iV c (.enum a) e QI ↔ vV c a e fun o e1 => noIns o = true ∧ Wp (seqD o.view) fun xs => QI (enumD xs) e1 := by
  rw [iV_iff]
  show Wp ((sem c a).val e >>= fun p => R.need (noIns p.1) (rEn p.1 p.2)) _ ↔ _
  simp only [vV_iff, aV_iff, tV_iff, iV_iff, kV_iff, gV_iff, sV_iff, gT_iff, gL_iff, gO_iff, oV_iff, cV_iff]
  simp only [wp_bind, wp_need, rEn_wp]
def rZip (o p : O) (e : En) : R (List D × En) := match o.view, p.view with
  | .lst xs, .lst ys => pure (zipD xs ys, e)
  | .tup xs, .tup ys => pure (zipD xs ys, e)
  | .tup xs, .lst ys => pure (zipD xs ys, e)
  | _, _ => .bad
theorem i_zip : iV c (.zip a b) e QI ↔ vV c a e fun o e1 => vV c b e1 fun p e2 => (noIns o && noIns p) = true ∧ Wp (rZip o p e2) fun q => QI q.1 q.2 := by
  rw [iV_iff]
  show Wp ((sem c a).val e >>= fun p => (sem c b).val p.2 >>= fun q => R.need (noIns p.1 && noIns q.1) (rZip p.1 q.1 q.2)) _ ↔ _
  simp only [vV_iff, aV_iff, tV_iff, iV_iff, kV_iff, gV_iff, sV_iff, gT_iff, gL_iff, gO_iff, oV_iff, cV_iff]
  simp only [wp_bind, wp_need]
/-- the body of a comprehension -/
def cB (c : Cfg) (t : List Nat) (tt : Bool) (el cnd : E) : D → En → R (Option O × En) := compB t tt (sem c el).val fun e => if isNil cnd then R.ok (true, e) else (sem c cnd).tru e
theorem w_comp {t : List Nat} {tt : Bool} {el it cnd : E} : vV c (.comp t tt el it cnd) e QV ↔ iV c it e fun xs e1 => Wp (runC (cB c t tt el cnd) xs (wipeE e1 t)) fun p => decide (xs.length ≤ lim) = true ∧ QV (.lst p.1) p.2 := by
  rw [vV_iff]
  show Wp (compV t tt (sem c el).val (sem c it).itr (fun e => if isNil cnd then R.ok (true, e) else (sem c cnd).tru e) e) _ ↔ _
  unfold compV
  simp only [vV_iff, aV_iff, tV_iff, iV_iff, kV_iff, gV_iff, sV_iff, gT_iff, gL_iff, gO_iff, oV_iff, cV_iff]
  simp only [wp_bind, wp_pure, wp_need]
  rfl
theorem b_nil {t : List Nat} {tt : Bool} {el : E} {dd : D} {QB : Option O × En → Prop} : Wp (cB c t tt el .nil dd e) QB ↔ Wp (bindT t tt dd e) fun e => vV c el e fun o e => QB (some o, wipeE e t) := by
  show Wp (bindT t tt dd e >>= fun e => (R.ok (true, e) : R (Bool × En)) >>= fun p => if p.1 = true then ((sem c el).val p.2 >>= fun q => pure (some q.1, wipeE q.2 t)) else pure (none, wipeE p.2 t)) _ ↔ _
  simp only [vV_iff, aV_iff, tV_iff, iV_iff, kV_iff, gV_iff, sV_iff, gT_iff, gL_iff, gO_iff, oV_iff, cV_iff]
  simp only [wp_bind, wp_ok, wp_pure, wp_ite, br_t]
theorem b_cnd {t : List Nat} {tt : Bool} {el cnd : E} {dd : D} {QB : Option O × En → Prop} (h : isNil cnd = false) : Wp (cB c t tt el cnd dd e) QB ↔ Wp (bindT t tt dd e) fun e => tV c cnd e fun b e => Br b (vV c el e fun o e => QB (some o, wipeE e t)) (QB (none, wipeE e t)) := by
  unfold cB compB
  simp only [vV_iff, aV_iff, tV_iff, iV_iff, kV_iff, gV_iff, sV_iff, gT_iff, gL_iff, gO_iff, oV_iff, cV_iff]
  rw [h]
  simp only [wp_bind, wp_ok, wp_pure, wp_ite, Bool.false_eq_true, if_false]
theorem c_nil {bd : D → En → R (Option O × En)} {QB : List O × En → Prop} : Wp (runC bd [] e) QB ↔ QB ([], e) := wp_ok
theorem c_cons {bd : D → En → R (Option O × En)} {dd : D} {ds : List D} {QB : List O × En → Prop} : Wp (runC bd (dd :: ds) e) QB ↔ Wp (bd dd e) fun p => Wp (runC bd ds p.2) fun q => QB (p.1.toList ++ q.1, q.2) := by
  show Wp (bd dd e >>= fun p => runC bd ds p.2 >>= fun q => pure (match p.1 with | some o => o :: q.1 | none => q.1, q.2)) _ ↔ _
  simp only [wp_bind, wp_pure]
  have key : ∀ (x : Option O) (os : List O), (match x with | some o => o :: os | none => os) = x.toList ++ os := by
    intro x os
    cases x <;> rfl
  simp only [key]

/-! ### targets, statements -/
theorem gt_var {i : Nat} {o : O} : gT c (.var i) o e QE ↔ i < e.length ∧ QE (e.set i (some o)) := by
  rw [gT_iff]
  show Wp (if i < e.length then .ok (e.set i (some o)) else .bad) _ ↔ _
  by_cases h : i < e.length
  · rw [if_pos h, wp_ok]
    exact ⟨fun q => ⟨h, q⟩, fun q => q.2⟩
  · rw [if_neg h, wp_bad]
    exact ⟨fun q => q.elim, fun q => h q.1⟩
/-- a store into a list -/
def setR (xs : List O) (k : Int) (o : O) : R (List O) := do
  let j ← R.of (ixN xs.length k)
  pure (xs.set j o)
def rSet (i : Nat) (k : Int) (o p : O) (e : En) : R En := match p with
  | .lst xs => do
    let j ← R.of (ixN xs.length k)
    pure (e.set i (some (.lst (xs.set j o))))
  | _ => .bad
theorem rSet_wp {i : Nat} {k : Int} {o p : O} {e : En} : Wp (rSet i k o p e) QE ↔ Wp (asL p) fun xs => Wp (setR xs k o) fun ys => QE (e.set i (some (.lst ys))) := by
  unfold rSet setR
  cases p with
  | lst xs => simp only [asL_lst, wp_ok, wp_bind, wp_pure]
  | _ => exact wp_bad0.trans wp_bad0.symm
def rInt (o : O) (e : En) : R (Int × En) := match o.view with
  | .int k => pure (k, e)
  | _ => .bad
theorem rInt_wp {o : O} {e : En} {G : Int × En → Prop} : Wp (rInt o e) G ↔ ∃ i, o.view = .int i ∧ G (i, e) := by
  unfold rInt
  cases h : o.view with
  | int i => simp [wp_ok, wp_pure]
  | _ => exact ⟨fun ⟨_, z, _⟩ => (by cases z), fun ⟨i, z, _⟩ => (by cases z)⟩
theorem gt_ix {i : Nat} {x : E} {o : O} : gT c (.ix i x) o e QE ↔ Wp (e.get i) fun _ => aV c x e fun y e1 => Wp (y.see e1) fun q => Wp (asI q) fun k => Wp (e1.get i) fun p => Wp (asL p) fun xs => Wp (setR xs k o) fun ys => QE (e1.set i (some (.lst ys))) := by
  rw [gT_iff]
  show Wp (e.get i >>= fun _ => ((sem c x).arg e >>= fun q => q.1.see q.2 >>= fun o => rInt o q.2) >>= fun q => q.2.get i >>= fun p => rSet i q.1 o p q.2) _ ↔ _
  simp only [vV_iff, aV_iff, tV_iff, iV_iff, kV_iff, gV_iff, sV_iff, gT_iff, gL_iff, gO_iff, oV_iff, cV_iff]
  simp only [wp_bind, rInt_wp, rSet_wp, wp_asI]
theorem gt_tup {l : Tg} {ds : List D} : gT c (.tup l) (.sh (.tup ds)) e QE ↔ gL c l ds e QE := gT_iff.trans gL_iff.symm
theorem gt_tupL {l : Tg} {ds : List D} : gT c (.tup l) (.sh (.lst ds)) e QE ↔ gL c l ds e QE := gT_iff.trans gL_iff.symm
theorem gl_nil : gL c .nil [] e QE ↔ QE e := gL_iff.trans wp_ok
theorem gl_cons {t r : Tg} {dd : D} {ds : List D} : gL c (.cons t r) (dd :: ds) e QE ↔ gT c t (.sh dd) e fun e1 => gL c r ds e1 QE := gL_iff.trans (wp_bind.trans (by simp only [gT_iff, gL_iff]))
theorem go_nil : gO c .nil [] e QE ↔ QE e := gO_iff.trans wp_ok
theorem go_cons {t r : Tg} {dd : O} {ds : List O} : gO c (.cons t r) (dd :: ds) e QE ↔ gT c t dd e fun e1 => gO c r ds e1 QE := gO_iff.trans (wp_bind.trans (by simp only [gT_iff, gO_iff]))
theorem s_nil : sV c np .nil e QS ↔ QS .nx e := sV_iff.trans wp_ok
theorem s_seq {x y : S} : sV c np (.seq x y) e QS ↔ sV c np x e fun f e1 => match f with | .nx => sV c np y e1 QS | .rt o => QS (.rt o) e1 := by
  rw [sV_iff]
  show Wp (exe c np x e >>= fun p => (match p.1 with | .nx => exe c np y p.2 | .rt o => pure (Fl.rt o, p.2))) _ ↔ _
  simp only [vV_iff, aV_iff, tV_iff, iV_iff, kV_iff, gV_iff, sV_iff, gT_iff, gL_iff, gO_iff, oV_iff, cV_iff]
  rw [wp_bind]
  have key : ∀ p : Fl × En, Wp (match p.1 with | .nx => exe c np y p.2 | .rt o => pure (Fl.rt o, p.2) : R (Fl × En)) (fun p => QS p.1 p.2) ↔ (match p.1 with | .nx => Wp (exe c np y p.2) (fun p => QS p.1 p.2) | .rt o => QS (.rt o) p.2) := by
    rintro ⟨f, e1⟩
    cases f with
    | nx => exact Iff.rfl
    | rt o => exact wp_pure
  simp only [key]
theorem s_expr : sV c np (.expr a) e QS ↔ vV c a e fun _ e1 => QS .nx e1 := by
  rw [sV_iff]
  show Wp ((sem c a).val e >>= fun p => pure (Fl.nx, p.2)) _ ↔ _
  simp only [vV_iff, aV_iff, tV_iff, iV_iff, kV_iff, gV_iff, sV_iff, gT_iff, gL_iff, gO_iff, oV_iff, cV_iff]
  simp only [wp_bind, wp_pure]
def rApp (i : Nat) (o p : O) (e : En) : R (Fl × En) := match p with
  | .lst xs => R.need (decide (xs.length < lim)) (pure (Fl.nx, e.set i (some (.lst (xs ++ [o])))))
  | _ => .bad
theorem rApp_wp {i : Nat} {o p : O} {e : En} : Wp (rApp i o p e) (fun p => QS p.1 p.2) ↔ Wp (asL p) fun xs => decide (xs.length < lim) = true ∧ QS .nx (e.set i (some (.lst (xs ++ [o])))) := by
  unfold rApp
  cases p with
  | lst xs => simp only [asL_lst, wp_ok, wp_need, wp_pure]
  | _ => exact wp_bad0.trans wp_bad0.symm
theorem s_app {i : Nat} : sV c np (.app i a) e QS ↔ Wp (e.get i) fun p => isLst p = true ∧ vV c a e fun o e1 => Wp (e1.get i) fun p => Wp (asL p) fun xs => decide (xs.length < lim) = true ∧ QS .nx (e1.set i (some (.lst (xs ++ [o])))) := by
  rw [sV_iff]
  show Wp (e.get i >>= fun p => R.need (isLst p) ((sem c a).val e >>= fun q => q.2.get i >>= fun p => rApp i q.1 p q.2)) _ ↔ _
  simp only [vV_iff, aV_iff, tV_iff, iV_iff, kV_iff, gV_iff, sV_iff, gT_iff, gL_iff, gO_iff, oV_iff, cV_iff]
  simp only [wp_bind, wp_need, rApp_wp]
theorem s_asg {t : Tg} : sV c np (.asg t a) e QS ↔ vV c a e fun o e1 => gT c t o e1 fun e2 => QS .nx e2 := by
  rw [sV_iff]
  show Wp ((sem c a).val e >>= fun p => asgT c t p.1 p.2 >>= fun e => pure (Fl.nx, e)) _ ↔ _
  simp only [vV_iff, aV_iff, tV_iff, iV_iff, kV_iff, gV_iff, sV_iff, gT_iff, gL_iff, gO_iff, oV_iff, cV_iff]
  simp only [wp_bind, wp_pure]
theorem s_par {t : Tg} : sV c np (.par t a) e QS ↔ kV c a e fun os e1 => gO c t os e1 fun e2 => QS .nx e2 := by
  rw [sV_iff]
  show Wp ((sem c a).tks e >>= fun p => asgO c t p.1 p.2 >>= fun e => pure (Fl.nx, e)) _ ↔ _
  simp only [vV_iff, aV_iff, tV_iff, iV_iff, kV_iff, gV_iff, sV_iff, gT_iff, gL_iff, gO_iff, oV_iff, cV_iff]
  simp only [wp_bind, wp_pure]
theorem s_ifs {x y : S} : sV c np (.ifs a x y) e QS ↔ tV c a e fun r e1 => Br r (sV c np x e1 QS) (sV c np y e1 QS) := by
  rw [sV_iff]
  show Wp ((sem c a).tru e >>= fun p => if p.1 = true then exe c np x p.2 else exe c np y p.2) _ ↔ _
  simp only [vV_iff, aV_iff, tV_iff, iV_iff, kV_iff, gV_iff, sV_iff, gT_iff, gL_iff, gO_iff, oV_iff, cV_iff]
  simp only [wp_bind, wp_ite]
/-- a turn of a loop -/
def fB (c : Cfg) (np : Nat) (t : List Nat) (tt : Bool) (x : S) : D → En → R (Fl × En) := fun d e => do let e ← bindT t tt d e; exe c np x e
theorem f_b {t : List Nat} {tt : Bool} {x : S} {dd : D} {QF : Fl × En → Prop} : Wp (fB c np t tt x dd e) QF ↔ Wp (bindT t tt dd e) fun e1 => sV c np x e1 fun f e2 => QF (f, e2) := wp_bind.trans (by simp only [sV_iff])
theorem s_loop {t : List Nat} {tt : Bool} {x : S} : sV c np (.loop t tt a x) e QS ↔ iV c a e fun xs e1 => Wp (runF (fB c np t tt x) xs e1) fun p => QS p.1 p.2 := by
  rw [sV_iff]
  show Wp ((sem c a).itr e >>= fun p => runF (fB c np t tt x) p.1 p.2) _ ↔ _
  simp only [vV_iff, aV_iff, tV_iff, iV_iff, kV_iff, gV_iff, sV_iff, gT_iff, gL_iff, gO_iff, oV_iff, cV_iff]
  rw [wp_bind]
theorem s_ret (h : isVar a = false) : sV c np (.ret a) e QS ↔ vV c a e fun o e1 => QS (.rt o) e1 := by
  have key : exe c np (.ret a) e = ((sem c a).val e >>= fun p => pure (Fl.rt p.1, p.2)) := by
    cases a <;> first | rfl | cases h
  simp only [vV_iff, aV_iff, tV_iff, iV_iff, kV_iff, gV_iff, sV_iff, gT_iff, gL_iff, gO_iff, oV_iff, cV_iff]
  rw [key]
  simp only [wp_bind, wp_pure]
theorem s_retV {i : Nat} : sV c np (.ret (.var i)) e QS ↔ Wp (e.get i) fun o => Br (decide (i < np)) (Wp (take i e) fun p => QS (.rt p.1) p.2) (QS (.rt o) (e.set i none)) := by
  rw [sV_iff]
  show Wp (e.get i >>= fun o => if i < np then (take i e >>= fun p => pure (Fl.rt p.1, p.2)) else pure (Fl.rt o, e.set i none)) _ ↔ _
  simp only [wp_bind]
  by_cases h : i < np
  · simp only [h, if_true, wp_bind, wp_pure, decide_true, br_t]
  · simp only [h, if_false, wp_pure, decide_false, br_f]
theorem s_retN : sV c np .retN e QS ↔ QS (.rt (.sh .non)) e := sV_iff.trans wp_ok
theorem f_nil {bd : D → En → R (Fl × En)} {QF : Fl × En → Prop} : Wp (runF bd [] e) QF ↔ QF (.nx, e) := wp_ok
theorem f_cons {bd : D → En → R (Fl × En)} {dd : D} {ds : List D} {QF : Fl × En → Prop} : Wp (runF bd (dd :: ds) e) QF ↔ Wp (bd dd e) fun p => match p.1 with | .nx => Wp (runF bd ds p.2) QF | .rt o => QF (.rt o, p.2) := by
  show Wp (bd dd e >>= fun p => (match p.1 with | .nx => runF bd ds p.2 | .rt o => pure (Fl.rt o, p.2))) _ ↔ _
  rw [wp_bind]
  have key : ∀ p : Fl × En, Wp (match p.1 with | .nx => runF bd ds p.2 | .rt o => pure (Fl.rt o, p.2) : R (Fl × En)) QF ↔ (match p.1 with | .nx => Wp (runF bd ds p.2) QF | .rt o => QF (.rt o, p.2)) := by
    rintro ⟨f, e1⟩
    cases f with
    | nx => exact Iff.rfl
    | rt o => exact wp_pure
  simp only [key]
theorem fn_wp {f : Fn} {os : List O} {Q : O × List O → Prop} : Wp (runFn c f os) Q ↔ (decide (os.length = f.np) && okArgs f.asg 0 os) = true ∧ sV c f.np f.body (os.map some ++ List.replicate (f.n - f.np) none) fun r e => Wp (leftOver f.asg e 0 os) fun l => match r with | .rt o => Q (o, l) | .nx => Q (.sh .non, l) := by
  unfold runFn
  simp only [vV_iff, aV_iff, tV_iff, iV_iff, kV_iff, gV_iff, sV_iff, gT_iff, gL_iff, gO_iff, oV_iff, cV_iff]
  rw [wp_need, wp_bind]
  have key : ∀ p : Fl × En, Wp (leftOver f.asg p.2 0 os >>= fun l => (match p.1 with | .rt o => pure (o, l) | .nx => pure (.sh .non, l)) : R (O × List O)) Q ↔ Wp (leftOver f.asg p.2 0 os) fun l => match p.1 with | .rt o => Q (o, l) | .nx => Q (.sh .non, l) := by
    rintro ⟨r, e1⟩
    rw [wp_bind]
    cases r with
    | nx => simp only [wp_pure]
    | rt o => simp only [wp_pure]
  exact and_congr_right fun _ => by
    have := fun p => key p
    constructor
    · rintro ⟨p, h1, h2⟩
      exact ⟨p, h1, (key p).mp h2⟩
    · rintro ⟨p, h1, h2⟩
      exact ⟨p, h1, (key p).mpr h2⟩
/-- invariants -/
theorem runC_inv {bd : D → En → R (Option O × En)} (I : List D → List O → En → Prop) : ∀ (xs done : List D) (acc : List O) (e : En), I done acc e → (∀ (ys : List D) (x : D) (acc : List O) (e : En), x ∈ xs → I ys acc e → Wp (bd x e) fun p => I (ys ++ [x]) (acc ++ p.1.toList) p.2) →
    Wp (runC bd xs e) fun p => I (done ++ xs) (acc ++ p.1) p.2
  | [], done, acc, e, h, _ => by
    rw [c_nil]
    simpa using h
  | x :: xs, done, acc, e, h, hs => by
    rw [c_cons]
    refine (hs done x acc e List.mem_cons_self h).mono fun p hp => ?_
    refine (runC_inv I xs (done ++ [x]) (acc ++ p.1.toList) p.2 hp fun ys y acc e hy => hs ys y acc e (List.mem_cons_of_mem _ hy)).mono fun q hq => ?_
    simpa using hq
theorem runF_inv {bd : D → En → R (Fl × En)} (I : List D → En → Prop) : ∀ (xs done : List D) (e : En), I done e → (∀ (ys : List D) (x : D) (e : En), x ∈ xs → I ys e → Wp (bd x e) fun p => p.1 = .nx ∧ I (ys ++ [x]) p.2) →
    Wp (runF bd xs e) fun p => p.1 = .nx ∧ I (done ++ xs) p.2
  | [], done, e, h, _ => by
    rw [f_nil]
    simpa using h
  | x :: xs, done, e, h, hs => by
    rw [f_cons]
    refine (hs done x e List.mem_cons_self h).mono fun p hp => ?_
    obtain ⟨h1, h2⟩ := hp
    rw [h1]
    refine (runF_inv I xs (done ++ [x]) p.2 h2 fun ys y e hy => hs ys y e (List.mem_cons_of_mem _ hy)).mono fun q hq => ?_
    simpa using hq
end
/-! ### slots, data -/
section
variable {e : En} {o p : O} {i : Nat}
theorem get_0 : En.get (some o :: e) 0 = .ok o := rfl
theorem get_s {x : Option O} : En.get (x :: e) (i + 1) = En.get e i := rfl
theorem set_0 {x y : Option O} : List.set (x :: e) 0 y = y :: e := rfl
theorem set_s {x y : Option O} : List.set (x :: e) (i + 1) y = x :: List.set e i y := rfl
theorem wipe_n : wipeE e [] = e := rfl
theorem wipe_c {t : List Nat} : wipeE e (i :: t) = (wipeE e t).set i none := rfl
theorem see_v {x : En} : AV.see x (.val o) = .ok o := rfl
theorem see_a {x : En} : AV.see x (.at i) = En.get x i := rfl
theorem seeAll_n {x : En} : seeAll x [] = .ok [] := rfl
theorem seeAll_c {x : En} {a : AV} {as : List AV} {Q : List O → Prop} : Wp (seeAll x (a :: as)) Q ↔ Wp (a.see x) fun o => Wp (seeAll x as) fun os => Q (o :: os) := by
  show Wp (a.see x >>= fun o => seeAll x as >>= fun os => pure (o :: os)) _ ↔ _
  simp only [wp_bind, wp_pure]
def takeKF (i : Nat) (o : O) (e : En) (Q : O × En → Prop) : Prop := match o with
  | .sh d => Q (.sh d, e)
  | o => noIns o = true ∧ Q (.sh o.view, e.set i (some (.sh o.view)))
structure takeK (i : Nat) (o : O) (e : En) (Q : O × En → Prop) : Prop where
  run : takeKF i o e Q
theorem takeK_iff {i : Nat} {o : O} {e : En} {Q : O × En → Prop} : takeK i o e Q ↔ takeKF i o e Q := ⟨fun h => h.run, fun h => ⟨h⟩⟩
theorem take_wp {Q : O × En → Prop} : Wp (take i e) Q ↔ Wp (e.get i) fun o => takeK i o e Q := by
  unfold take
  rw [wp_bind]
  have key : ∀ o : O, Wp (match o with | .sh d => .ok (.sh d, e) | o => R.need (noIns o) (.ok (.sh o.view, e.set i (some (.sh o.view)))) : R (O × En)) Q ↔ takeK i o e Q := by
    intro o
    rw [takeK_iff]
    cases o with
    | sh d => exact wp_ok
    | lst xs => exact (wp_need).trans (and_congr_right fun _ => wp_ok)
    | ins k fs => exact (wp_need).trans (and_congr_right fun _ => wp_ok)
  exact ⟨fun ⟨o, h1, h2⟩ => ⟨o, h1, (key o).mp h2⟩, fun ⟨o, h1, h2⟩ => ⟨o, h1, (key o).mpr h2⟩⟩
theorem takeK_sh {d : D} {Q : O × En → Prop} : takeK i (.sh d) e Q ↔ Q (.sh d, e) := takeK_iff
theorem takeK_lst {xs : List O} {Q : O × En → Prop} : takeK i (.lst xs) e Q ↔ noInss xs = true ∧ Q (.sh (.lst (views xs)), e.set i (some (.sh (.lst (views xs))))) := takeK_iff
def argKF (i : Nat) (o : O) (e : En) (Q : AV × En → Prop) : Prop := match o with
  | .sh d => Q (.val (.sh d), e)
  | _ => Q (.at i, e)
structure argK (i : Nat) (o : O) (e : En) (Q : AV × En → Prop) : Prop where
  run : argKF i o e Q
theorem argK_iff {i : Nat} {o : O} {e : En} {Q : AV × En → Prop} : argK i o e Q ↔ argKF i o e Q := ⟨fun h => h.run, fun h => ⟨h⟩⟩
theorem arg_wp {Q : AV × En → Prop} : Wp (argAt i e) Q ↔ Wp (e.get i) fun o => argK i o e Q := by
  unfold argAt
  rw [wp_bind]
  have key : ∀ o : O, Wp (match o with | .sh d => .ok (.val (.sh d), e) | _ => .ok (.at i, e) : R (AV × En)) Q ↔ argK i o e Q := by
    intro o
    rw [argK_iff]
    cases o <;> exact wp_ok
  exact ⟨fun ⟨o, h1, h2⟩ => ⟨o, h1, (key o).mp h2⟩, fun ⟨o, h1, h2⟩ => ⟨o, h1, (key o).mpr h2⟩⟩
theorem argK_sh {d : D} {Q : AV × En → Prop} : argK i (.sh d) e Q ↔ Q (.val (.sh d), e) := argK_iff
theorem argK_lst {xs : List O} {Q : AV × En → Prop} : argK i (.lst xs) e Q ↔ Q (.at i, e) := argK_iff
theorem bind_1 {d : D} {Q : En → Prop} : Wp (bindT [i] false d e) Q ↔ Q (e.set i (some (.sh d))) := wp_ok
theorem bind_2 {j : Nat} {d1 d2 : D} {Q : En → Prop} : Wp (bindT [i, j] true (.tup [d1, d2]) e) Q ↔ Q ((e.set i (some (.sh d1))).set j (some (.sh d2))) := wp_ok
theorem lend_n {asg : List Nat} {k : Nat} {Q : List O × En → Prop} : Wp (lend asg k [] e) Q ↔ Q ([], e) := wp_ok
theorem lend_v {asg : List Nat} {k : Nat} {as : List AV} {Q : List O × En → Prop} : Wp (lend asg k (.val o :: as) e) Q ↔ Wp (lend asg (k + 1) as e) fun p => Q (o :: p.1, p.2) := by
  show Wp (lend asg (k + 1) as e >>= fun p => pure (o :: p.1, p.2)) _ ↔ _
  simp only [wp_bind, wp_pure]
theorem lend_a {k : Nat} {as : List AV} {Q : List O × En → Prop} : Wp (lend [] k (.at i :: as) e) Q ↔ Wp (e.get i) fun o => Wp (lend [] (k + 1) as (e.set i none)) fun p => Q (o :: p.1, p.2) := by
  show Wp (e.get i >>= fun o => lend [] (k + 1) as (e.set i none) >>= fun p => pure (o :: p.1, p.2)) _ ↔ _
  simp only [wp_bind, wp_pure]
theorem give_n {k : Nat} {os : List O} : giveBack [] k [] os e = e := by cases os <;> rfl
theorem give_v {k : Nat} {as : List AV} {os : List O} : giveBack [] k (.val p :: as) (o :: os) e = giveBack [] (k + 1) as os e := rfl
theorem give_a {k : Nat} {as : List AV} {os : List O} : giveBack [] k (.at i :: as) (o :: os) e = giveBack [] (k + 1) as os (e.set i (some o)) := rfl
theorem left_n {asg : List Nat} {k : Nat} : leftOver asg e k [] = .ok [] := rfl
theorem left_c {k : Nat} {os : List O} {Q : List O → Prop} : Wp (leftOver [] e k (o :: os)) Q ↔ Wp (leftOver [] e (k + 1) os) fun r => Wp (e.get k) fun p => Q (p :: r) := by
  show Wp (leftOver [] e (k + 1) os >>= fun r => e.get k >>= fun p => pure (p :: r)) _ ↔ _
  simp only [wp_bind, wp_pure]
theorem okArgs_0 : ∀ {os : List O} {k : Nat}, okArgs [] k os = true
  | [], _ => rfl
  | _ :: os, k => by
    show ((!([] : List Nat).contains k || _) && okArgs [] (k + 1) os) = true
    rw [okArgs_0]
    rfl
end
theorem op_add {i j : Int} : opD .add (.sh (.int i)) (.sh (.int j)) = .ok (.sh (.int (i + j))) := rfl
theorem op_sub {i j : Int} : opD .sub (.sh (.int i)) (.sh (.int j)) = .ok (.sh (.int (i - j))) := rfl
theorem op_mul {i j : Int} : opD .mul (.sh (.int i)) (.sh (.int j)) = R.need (mulOk i j) (.ok (.sh (.int (i * j)))) := rfl
theorem op_fdiv {i j : Int} : opD .fdiv (.sh (.int i)) (.sh (.int j)) = R.need (divOk j) (.ok (.sh (.int (i / j)))) := rfl
theorem op_mod {i j : Int} : opD .mod (.sh (.int i)) (.sh (.int j)) = R.need (decide (0 < j)) (.ok (.sh (.int (i % j)))) := rfl
theorem op_adds {x y : Str} : opD .add (.sh (.str x)) (.sh (.str y)) = R.need (decide (x.length + y.length ≤ lim)) (.ok (.sh (.str (x ++ y)))) := rfl
theorem cm_eq {i j : Int} : cmD .eq (.int i) (.int j) = .ok (decide (i = j)) := rfl
theorem cm_ne {i j : Int} : cmD .ne (.int i) (.int j) = .ok (!decide (i = j)) := rfl
theorem cm_lt {i j : Int} : cmD .lt (.int i) (.int j) = .ok (decide (i < j)) := rfl
theorem cm_le {i j : Int} : cmD .le (.int i) (.int j) = .ok (decide (i ≤ j)) := rfl
theorem cm_gt {i j : Int} : cmD .gt (.int i) (.int j) = .ok (decide (j < i)) := rfl
theorem cm_ge {i j : Int} : cmD .ge (.int i) (.int j) = .ok (decide (j ≤ i)) := rfl
theorem cm_eqs {i j : Str} : cmD .eq (.str i) (.str j) = .ok (decide (i = j)) := rfl
theorem tr_bl {b : Bool} : truD (.bl b) = .ok b := rfl
theorem ix_lst {xs : List D} {k : Int} : ixD (.lst xs) (.int k) = R.of (atI xs k) := rfl
theorem ix_tup {xs : List D} {k : Int} : ixD (.tup xs) (.int k) = R.of (atI xs k) := rfl
theorem at_0 {α : Type} {x : α} {xs : List α} : atI (x :: xs) 0 = some x := by simp [atI, ixN]
theorem at_1 {α : Type} {x y : α} {xs : List α} : atI (x :: y :: xs) 1 = some y := by
  have h : ixN (x :: y :: xs).length 1 = some 1 := by
    simp [ixN]
    omega
  unfold atI
  rw [h]
  rfl
theorem at_2 {α : Type} {x y z : α} {xs : List α} : atI (x :: y :: z :: xs) 2 = some z := by
  have h : ixN (x :: y :: z :: xs).length 2 = some 2 := by
    simp [ixN]
    omega
  unfold atI
  rw [h]
  rfl
theorem setR_0 {x o : O} {xs : List O} : setR (x :: xs) 0 o = .ok (o :: xs) := by simp [setR, ixN]
theorem setR_1 {x y o : O} {xs : List O} : setR (x :: y :: xs) 1 o = .ok (x :: o :: xs) := by
  have h : ixN (x :: y :: xs).length 1 = some 1 := by
    simp [ixN]
    omega
  unfold setR
  rw [h]
  rfl
theorem setR_2 {x y z o : O} {xs : List O} : setR (x :: y :: z :: xs) 2 o = .ok (x :: y :: o :: xs) := by
  have h : ixN (x :: y :: z :: xs).length 2 = some 2 := by
    simp [ixN]
    omega
  unfold setR
  rw [h]
  rfl
theorem views_n : views [] = [] := rfl
theorem views_c {x : O} {xs : List O} : views (x :: xs) = x.view :: views xs := rfl
theorem bl_divmod {i j : Int} : blD .divmod [.sh (.int i), .sh (.int j)] = R.need (divOk j) (.ok (.sh (.tup [.int (i / j), .int (i % j)]))) := rfl
theorem bl_int {i : Int} : blD .int [.sh (.int i)] = .ok (.sh (.int i)) := rfl
theorem bl_min {i j : Int} : blD .min [.sh (.int i), .sh (.int j)] = .ok (.sh (.int (if j < i then j else i))) := rfl
theorem bl_max {i j : Int} : blD .max [.sh (.int i), .sh (.int j)] = .ok (.sh (.int (if j > i then j else i))) := rfl
theorem bl_abs {i : Int} : blD .abs [.sh (.int i)] = .ok (.sh (.int (if i < 0 then -i else i))) := rfl
theorem bl_lenL {xs : List O} : blD .len [.lst xs] = .ok (.sh (.int (views xs).length)) := rfl
theorem bl_lenl {xs : List D} : blD .len [.sh (.lst xs)] = .ok (.sh (.int xs.length)) := rfl
theorem bl_lent {xs : List D} : blD .len [.sh (.tup xs)] = .ok (.sh (.int xs.length)) := rfl
theorem bl_lena {xs : List Int} : blD .len [.sh (.arr xs)] = .ok (.sh (.int xs.length)) := rfl
theorem bl_tupt {xs : List D} : blD .tuple [.sh (.tup xs)] = .ok (.sh (.tup xs)) := rfl
theorem bl_tupl {xs : List D} : blD .tuple [.sh (.lst xs)] = .ok (.sh (.tup xs)) := rfl
theorem bl_tupL {xs : List D} : blD .tuple [.lst (xs.map O.sh)] = .ok (.sh (.tup xs)) := by
  unfold blD
  simp [O.flat]
theorem bl_lstt {xs : List D} : blD .list [.sh (.tup xs)] = .ok (.lst (xs.map O.sh)) := rfl
theorem bl_lstl {xs : List D} : blD .list [.sh (.lst xs)] = .ok (.lst (xs.map O.sh)) := rfl
theorem bl_lstL {xs : List D} : blD .list [.lst (xs.map O.sh)] = .ok (.lst (xs.map O.sh)) := by
  unfold blD
  simp [O.flat]
theorem tr_int {i : Int} : truD (.int i) = .ok (i != 0) := rfl
theorem view_sh {d : D} : O.view (.sh d) = d := rfl
theorem view_lst {xs : List O} : O.view (.lst xs) = .lst (views xs) := rfl
theorem shB_view {b : Bool} : O.view (shB b) = .bl b := rfl
theorem ixOk_sh {d c : D} : ixOk (.sh d) c = true := rfl
theorem ixOk_int {o : O} {i : Int} : ixOk o (.int i) = true := by
  unfold ixOk
  split <;> rfl
theorem ixOk_str {o : O} {i : Str} : ixOk o (.str i) = true := by
  unfold ixOk
  split <;> rfl
/-! ### by the node -/
section
variable {c : Cfg} {e : En} {np : Nat} {QA : AV → En → Prop} {QT : Bool → En → Prop} {QI : List D → En → Prop} {QO : Option Int → En → Prop} {QS : Fl → En → Prop}
theorem a_non  : aV c (.non) e QA ↔ vV c (.non) e fun o e => QA (.val o) e := a_nv rfl
theorem t_non  : tV c (.non) e QT ↔ vV c (.non) e fun o e => Wp (truD o.view) fun b => QT b e := t_nv rfl
theorem i_non  : iV c (.non) e QI ↔ vV c (.non) e fun o e => noIns o = true ∧ Wp (itemsD o.view) fun xs => QI xs e := i_nv rfl
theorem o_non  : oV c (.non) e QO ↔ aV c (.non) e fun x e1 => Wp (x.see e1) fun o => Wp (asI o) fun i => QO (some i) e1 := o_val rfl
theorem r_non  : sV c np (.ret (.non)) e QS ↔ vV c (.non) e fun o e1 => QS (.rt o) e1 := s_ret rfl
theorem a_bl {x : Bool} : aV c (.bl x) e QA ↔ vV c (.bl x) e fun o e => QA (.val o) e := a_nv rfl
theorem t_bl {x : Bool} : tV c (.bl x) e QT ↔ vV c (.bl x) e fun o e => Wp (truD o.view) fun b => QT b e := t_nv rfl
theorem i_bl {x : Bool} : iV c (.bl x) e QI ↔ vV c (.bl x) e fun o e => noIns o = true ∧ Wp (itemsD o.view) fun xs => QI xs e := i_nv rfl
theorem o_bl {x : Bool} : oV c (.bl x) e QO ↔ aV c (.bl x) e fun x e1 => Wp (x.see e1) fun o => Wp (asI o) fun i => QO (some i) e1 := o_val rfl
theorem r_bl {x : Bool} : sV c np (.ret (.bl x)) e QS ↔ vV c (.bl x) e fun o e1 => QS (.rt o) e1 := s_ret rfl
theorem a_int {x : Int} : aV c (.int x) e QA ↔ vV c (.int x) e fun o e => QA (.val o) e := a_nv rfl
theorem t_int {x : Int} : tV c (.int x) e QT ↔ vV c (.int x) e fun o e => Wp (truD o.view) fun b => QT b e := t_nv rfl
theorem i_int {x : Int} : iV c (.int x) e QI ↔ vV c (.int x) e fun o e => noIns o = true ∧ Wp (itemsD o.view) fun xs => QI xs e := i_nv rfl
theorem o_int {x : Int} : oV c (.int x) e QO ↔ aV c (.int x) e fun x e1 => Wp (x.see e1) fun o => Wp (asI o) fun i => QO (some i) e1 := o_val rfl
theorem r_int {x : Int} : sV c np (.ret (.int x)) e QS ↔ vV c (.int x) e fun o e1 => QS (.rt o) e1 := s_ret rfl
theorem a_str {x : Str} : aV c (.str x) e QA ↔ vV c (.str x) e fun o e => QA (.val o) e := a_nv rfl
theorem t_str {x : Str} : tV c (.str x) e QT ↔ vV c (.str x) e fun o e => Wp (truD o.view) fun b => QT b e := t_nv rfl
theorem i_str {x : Str} : iV c (.str x) e QI ↔ vV c (.str x) e fun o e => noIns o = true ∧ Wp (itemsD o.view) fun xs => QI xs e := i_nv rfl
theorem o_str {x : Str} : oV c (.str x) e QO ↔ aV c (.str x) e fun x e1 => Wp (x.see e1) fun o => Wp (asI o) fun i => QO (some i) e1 := o_val rfl
theorem r_str {x : Str} : sV c np (.ret (.str x)) e QS ↔ vV c (.str x) e fun o e1 => QS (.rt o) e1 := s_ret rfl
theorem a_glb {x : Nat} : aV c (.glb x) e QA ↔ vV c (.glb x) e fun o e => QA (.val o) e := a_nv rfl
theorem t_glb {x : Nat} : tV c (.glb x) e QT ↔ vV c (.glb x) e fun o e => Wp (truD o.view) fun b => QT b e := t_nv rfl
theorem i_glb {x : Nat} : iV c (.glb x) e QI ↔ vV c (.glb x) e fun o e => noIns o = true ∧ Wp (itemsD o.view) fun xs => QI xs e := i_nv rfl
theorem o_glb {x : Nat} : oV c (.glb x) e QO ↔ aV c (.glb x) e fun x e1 => Wp (x.see e1) fun o => Wp (asI o) fun i => QO (some i) e1 := o_val rfl
theorem r_glb {x : Nat} : sV c np (.ret (.glb x)) e QS ↔ vV c (.glb x) e fun o e1 => QS (.rt o) e1 := s_ret rfl
theorem a_op {x : Op} {y z : E} : aV c (.op x y z) e QA ↔ vV c (.op x y z) e fun o e => QA (.val o) e := a_nv rfl
theorem t_op {x : Op} {y z : E} : tV c (.op x y z) e QT ↔ vV c (.op x y z) e fun o e => Wp (truD o.view) fun b => QT b e := t_nv rfl
theorem i_op {x : Op} {y z : E} : iV c (.op x y z) e QI ↔ vV c (.op x y z) e fun o e => noIns o = true ∧ Wp (itemsD o.view) fun xs => QI xs e := i_nv rfl
theorem o_op {x : Op} {y z : E} : oV c (.op x y z) e QO ↔ aV c (.op x y z) e fun x e1 => Wp (x.see e1) fun o => Wp (asI o) fun i => QO (some i) e1 := o_val rfl
theorem r_op {x : Op} {y z : E} : sV c np (.ret (.op x y z)) e QS ↔ vV c (.op x y z) e fun o e1 => QS (.rt o) e1 := s_ret rfl
theorem a_neg {x : E} : aV c (.neg x) e QA ↔ vV c (.neg x) e fun o e => QA (.val o) e := a_nv rfl
theorem t_neg {x : E} : tV c (.neg x) e QT ↔ vV c (.neg x) e fun o e => Wp (truD o.view) fun b => QT b e := t_nv rfl
theorem i_neg {x : E} : iV c (.neg x) e QI ↔ vV c (.neg x) e fun o e => noIns o = true ∧ Wp (itemsD o.view) fun xs => QI xs e := i_nv rfl
theorem o_neg {x : E} : oV c (.neg x) e QO ↔ aV c (.neg x) e fun x e1 => Wp (x.see e1) fun o => Wp (asI o) fun i => QO (some i) e1 := o_val rfl
theorem r_neg {x : E} : sV c np (.ret (.neg x)) e QS ↔ vV c (.neg x) e fun o e1 => QS (.rt o) e1 := s_ret rfl
theorem a_cm {x : Cm} {y z : E} : aV c (.cm x y z) e QA ↔ vV c (.cm x y z) e fun o e => QA (.val o) e := a_nv rfl
theorem t_cm {x : Cm} {y z : E} : tV c (.cm x y z) e QT ↔ vV c (.cm x y z) e fun o e => Wp (truD o.view) fun b => QT b e := t_nv rfl
theorem i_cm {x : Cm} {y z : E} : iV c (.cm x y z) e QI ↔ vV c (.cm x y z) e fun o e => noIns o = true ∧ Wp (itemsD o.view) fun xs => QI xs e := i_nv rfl
theorem o_cm {x : Cm} {y z : E} : oV c (.cm x y z) e QO ↔ aV c (.cm x y z) e fun x e1 => Wp (x.see e1) fun o => Wp (asI o) fun i => QO (some i) e1 := o_val rfl
theorem r_cm {x : Cm} {y z : E} : sV c np (.ret (.cm x y z)) e QS ↔ vV c (.cm x y z) e fun o e1 => QS (.rt o) e1 := s_ret rfl
theorem a_ch {x x2 : Cm} {y z w : E} : aV c (.ch x x2 y z w) e QA ↔ vV c (.ch x x2 y z w) e fun o e => QA (.val o) e := a_nv rfl
theorem t_ch {x x2 : Cm} {y z w : E} : tV c (.ch x x2 y z w) e QT ↔ vV c (.ch x x2 y z w) e fun o e => Wp (truD o.view) fun b => QT b e := t_nv rfl
theorem i_ch {x x2 : Cm} {y z w : E} : iV c (.ch x x2 y z w) e QI ↔ vV c (.ch x x2 y z w) e fun o e => noIns o = true ∧ Wp (itemsD o.view) fun xs => QI xs e := i_nv rfl
theorem o_ch {x x2 : Cm} {y z w : E} : oV c (.ch x x2 y z w) e QO ↔ aV c (.ch x x2 y z w) e fun x e1 => Wp (x.see e1) fun o => Wp (asI o) fun i => QO (some i) e1 := o_val rfl
theorem r_ch {x x2 : Cm} {y z w : E} : sV c np (.ret (.ch x x2 y z w)) e QS ↔ vV c (.ch x x2 y z w) e fun o e1 => QS (.rt o) e1 := s_ret rfl
theorem a_and {x y : E} : aV c (.and x y) e QA ↔ vV c (.and x y) e fun o e => QA (.val o) e := a_nv rfl
theorem i_and {x y : E} : iV c (.and x y) e QI ↔ vV c (.and x y) e fun o e => noIns o = true ∧ Wp (itemsD o.view) fun xs => QI xs e := i_nv rfl
theorem o_and {x y : E} : oV c (.and x y) e QO ↔ aV c (.and x y) e fun x e1 => Wp (x.see e1) fun o => Wp (asI o) fun i => QO (some i) e1 := o_val rfl
theorem r_and {x y : E} : sV c np (.ret (.and x y)) e QS ↔ vV c (.and x y) e fun o e1 => QS (.rt o) e1 := s_ret rfl
theorem a_or {x y : E} : aV c (.or x y) e QA ↔ vV c (.or x y) e fun o e => QA (.val o) e := a_nv rfl
theorem i_or {x y : E} : iV c (.or x y) e QI ↔ vV c (.or x y) e fun o e => noIns o = true ∧ Wp (itemsD o.view) fun xs => QI xs e := i_nv rfl
theorem o_or {x y : E} : oV c (.or x y) e QO ↔ aV c (.or x y) e fun x e1 => Wp (x.see e1) fun o => Wp (asI o) fun i => QO (some i) e1 := o_val rfl
theorem r_or {x y : E} : sV c np (.ret (.or x y)) e QS ↔ vV c (.or x y) e fun o e1 => QS (.rt o) e1 := s_ret rfl
theorem a_not {x : E} : aV c (.not x) e QA ↔ vV c (.not x) e fun o e => QA (.val o) e := a_nv rfl
theorem i_not {x : E} : iV c (.not x) e QI ↔ vV c (.not x) e fun o e => noIns o = true ∧ Wp (itemsD o.view) fun xs => QI xs e := i_nv rfl
theorem o_not {x : E} : oV c (.not x) e QO ↔ aV c (.not x) e fun x e1 => Wp (x.see e1) fun o => Wp (asI o) fun i => QO (some i) e1 := o_val rfl
theorem r_not {x : E} : sV c np (.ret (.not x)) e QS ↔ vV c (.not x) e fun o e1 => QS (.rt o) e1 := s_ret rfl
theorem a_ite {x y z : E} : aV c (.ite x y z) e QA ↔ vV c (.ite x y z) e fun o e => QA (.val o) e := a_nv rfl
theorem i_ite {x y z : E} : iV c (.ite x y z) e QI ↔ vV c (.ite x y z) e fun o e => noIns o = true ∧ Wp (itemsD o.view) fun xs => QI xs e := i_nv rfl
theorem o_ite {x y z : E} : oV c (.ite x y z) e QO ↔ aV c (.ite x y z) e fun x e1 => Wp (x.see e1) fun o => Wp (asI o) fun i => QO (some i) e1 := o_val rfl
theorem r_ite {x y z : E} : sV c np (.ret (.ite x y z)) e QS ↔ vV c (.ite x y z) e fun o e1 => QS (.rt o) e1 := s_ret rfl
theorem a_ix {x y : E} : aV c (.ix x y) e QA ↔ vV c (.ix x y) e fun o e => QA (.val o) e := a_nv rfl
theorem t_ix {x y : E} : tV c (.ix x y) e QT ↔ vV c (.ix x y) e fun o e => Wp (truD o.view) fun b => QT b e := t_nv rfl
theorem i_ix {x y : E} : iV c (.ix x y) e QI ↔ vV c (.ix x y) e fun o e => noIns o = true ∧ Wp (itemsD o.view) fun xs => QI xs e := i_nv rfl
theorem o_ix {x y : E} : oV c (.ix x y) e QO ↔ aV c (.ix x y) e fun x e1 => Wp (x.see e1) fun o => Wp (asI o) fun i => QO (some i) e1 := o_val rfl
theorem r_ix {x y : E} : sV c np (.ret (.ix x y)) e QS ↔ vV c (.ix x y) e fun o e1 => QS (.rt o) e1 := s_ret rfl
theorem a_sl {x y z : E} : aV c (.sl x y z) e QA ↔ vV c (.sl x y z) e fun o e => QA (.val o) e := a_nv rfl
theorem t_sl {x y z : E} : tV c (.sl x y z) e QT ↔ vV c (.sl x y z) e fun o e => Wp (truD o.view) fun b => QT b e := t_nv rfl
theorem i_sl {x y z : E} : iV c (.sl x y z) e QI ↔ vV c (.sl x y z) e fun o e => noIns o = true ∧ Wp (itemsD o.view) fun xs => QI xs e := i_nv rfl
theorem o_sl {x y z : E} : oV c (.sl x y z) e QO ↔ aV c (.sl x y z) e fun x e1 => Wp (x.see e1) fun o => Wp (asI o) fun i => QO (some i) e1 := o_val rfl
theorem r_sl {x y z : E} : sV c np (.ret (.sl x y z)) e QS ↔ vV c (.sl x y z) e fun o e1 => QS (.rt o) e1 := s_ret rfl
theorem a_rev {x : E} : aV c (.rev x) e QA ↔ vV c (.rev x) e fun o e => QA (.val o) e := a_nv rfl
theorem t_rev {x : E} : tV c (.rev x) e QT ↔ vV c (.rev x) e fun o e => Wp (truD o.view) fun b => QT b e := t_nv rfl
theorem i_rev {x : E} : iV c (.rev x) e QI ↔ vV c (.rev x) e fun o e => noIns o = true ∧ Wp (itemsD o.view) fun xs => QI xs e := i_nv rfl
theorem o_rev {x : E} : oV c (.rev x) e QO ↔ aV c (.rev x) e fun x e1 => Wp (x.see e1) fun o => Wp (asI o) fun i => QO (some i) e1 := o_val rfl
theorem r_rev {x : E} : sV c np (.ret (.rev x)) e QS ↔ vV c (.rev x) e fun o e1 => QS (.rt o) e1 := s_ret rfl
theorem a_tup {x : E} : aV c (.tup x) e QA ↔ vV c (.tup x) e fun o e => QA (.val o) e := a_nv rfl
theorem t_tup {x : E} : tV c (.tup x) e QT ↔ vV c (.tup x) e fun o e => Wp (truD o.view) fun b => QT b e := t_nv rfl
theorem i_tup {x : E} : iV c (.tup x) e QI ↔ vV c (.tup x) e fun o e => noIns o = true ∧ Wp (itemsD o.view) fun xs => QI xs e := i_nv rfl
theorem o_tup {x : E} : oV c (.tup x) e QO ↔ aV c (.tup x) e fun x e1 => Wp (x.see e1) fun o => Wp (asI o) fun i => QO (some i) e1 := o_val rfl
theorem r_tup {x : E} : sV c np (.ret (.tup x)) e QS ↔ vV c (.tup x) e fun o e1 => QS (.rt o) e1 := s_ret rfl
theorem a_lst {x : E} : aV c (.lst x) e QA ↔ vV c (.lst x) e fun o e => QA (.val o) e := a_nv rfl
theorem t_lst {x : E} : tV c (.lst x) e QT ↔ vV c (.lst x) e fun o e => Wp (truD o.view) fun b => QT b e := t_nv rfl
theorem i_lst {x : E} : iV c (.lst x) e QI ↔ vV c (.lst x) e fun o e => noIns o = true ∧ Wp (itemsD o.view) fun xs => QI xs e := i_nv rfl
theorem o_lst {x : E} : oV c (.lst x) e QO ↔ aV c (.lst x) e fun x e1 => Wp (x.see e1) fun o => Wp (asI o) fun i => QO (some i) e1 := o_val rfl
theorem r_lst {x : E} : sV c np (.ret (.lst x)) e QS ↔ vV c (.lst x) e fun o e1 => QS (.rt o) e1 := s_ret rfl
theorem a_call {x : Nat} {y : E} : aV c (.call x y) e QA ↔ vV c (.call x y) e fun o e => QA (.val o) e := a_nv rfl
theorem t_call {x : Nat} {y : E} : tV c (.call x y) e QT ↔ vV c (.call x y) e fun o e => Wp (truD o.view) fun b => QT b e := t_nv rfl
theorem i_call {x : Nat} {y : E} : iV c (.call x y) e QI ↔ vV c (.call x y) e fun o e => noIns o = true ∧ Wp (itemsD o.view) fun xs => QI xs e := i_nv rfl
theorem o_call {x : Nat} {y : E} : oV c (.call x y) e QO ↔ aV c (.call x y) e fun x e1 => Wp (x.see e1) fun o => Wp (asI o) fun i => QO (some i) e1 := o_val rfl
theorem r_call {x : Nat} {y : E} : sV c np (.ret (.call x y)) e QS ↔ vV c (.call x y) e fun o e1 => QS (.rt o) e1 := s_ret rfl
theorem a_callK {x : Nat} {y : E} {z : List Str} {w : List Nat} {u : E} : aV c (.callK x y z w u) e QA ↔ vV c (.callK x y z w u) e fun o e => QA (.val o) e := a_nv rfl
theorem t_callK {x : Nat} {y : E} {z : List Str} {w : List Nat} {u : E} : tV c (.callK x y z w u) e QT ↔ vV c (.callK x y z w u) e fun o e => Wp (truD o.view) fun b => QT b e := t_nv rfl
theorem i_callK {x : Nat} {y : E} {z : List Str} {w : List Nat} {u : E} : iV c (.callK x y z w u) e QI ↔ vV c (.callK x y z w u) e fun o e => noIns o = true ∧ Wp (itemsD o.view) fun xs => QI xs e := i_nv rfl
theorem o_callK {x : Nat} {y : E} {z : List Str} {w : List Nat} {u : E} : oV c (.callK x y z w u) e QO ↔ aV c (.callK x y z w u) e fun x e1 => Wp (x.see e1) fun o => Wp (asI o) fun i => QO (some i) e1 := o_val rfl
theorem r_callK {x : Nat} {y : E} {z : List Str} {w : List Nat} {u : E} : sV c np (.ret (.callK x y z w u)) e QS ↔ vV c (.callK x y z w u) e fun o e1 => QS (.rt o) e1 := s_ret rfl
theorem a_bl1 {x : Bl} {y : E} : aV c (.bl1 x y) e QA ↔ vV c (.bl1 x y) e fun o e => QA (.val o) e := a_nv rfl
theorem t_bl1 {x : Bl} {y : E} : tV c (.bl1 x y) e QT ↔ vV c (.bl1 x y) e fun o e => Wp (truD o.view) fun b => QT b e := t_nv rfl
theorem i_bl1 {x : Bl} {y : E} : iV c (.bl1 x y) e QI ↔ vV c (.bl1 x y) e fun o e => noIns o = true ∧ Wp (itemsD o.view) fun xs => QI xs e := i_nv rfl
theorem o_bl1 {x : Bl} {y : E} : oV c (.bl1 x y) e QO ↔ aV c (.bl1 x y) e fun x e1 => Wp (x.see e1) fun o => Wp (asI o) fun i => QO (some i) e1 := o_val rfl
theorem r_bl1 {x : Bl} {y : E} : sV c np (.ret (.bl1 x y)) e QS ↔ vV c (.bl1 x y) e fun o e1 => QS (.rt o) e1 := s_ret rfl
theorem a_mt {x : Mt} {y z : E} : aV c (.mt x y z) e QA ↔ vV c (.mt x y z) e fun o e => QA (.val o) e := a_nv rfl
theorem t_mt {x : Mt} {y z : E} : tV c (.mt x y z) e QT ↔ vV c (.mt x y z) e fun o e => Wp (truD o.view) fun b => QT b e := t_nv rfl
theorem i_mt {x : Mt} {y z : E} : iV c (.mt x y z) e QI ↔ vV c (.mt x y z) e fun o e => noIns o = true ∧ Wp (itemsD o.view) fun xs => QI xs e := i_nv rfl
theorem o_mt {x : Mt} {y z : E} : oV c (.mt x y z) e QO ↔ aV c (.mt x y z) e fun x e1 => Wp (x.see e1) fun o => Wp (asI o) fun i => QO (some i) e1 := o_val rfl
theorem r_mt {x : Mt} {y z : E} : sV c np (.ret (.mt x y z)) e QS ↔ vV c (.mt x y z) e fun o e1 => QS (.rt o) e1 := s_ret rfl
theorem a_isTy {x : Ty} {y : E} : aV c (.isTy x y) e QA ↔ vV c (.isTy x y) e fun o e => QA (.val o) e := a_nv rfl
theorem t_isTy {x : Ty} {y : E} : tV c (.isTy x y) e QT ↔ vV c (.isTy x y) e fun o e => Wp (truD o.view) fun b => QT b e := t_nv rfl
theorem i_isTy {x : Ty} {y : E} : iV c (.isTy x y) e QI ↔ vV c (.isTy x y) e fun o e => noIns o = true ∧ Wp (itemsD o.view) fun xs => QI xs e := i_nv rfl
theorem o_isTy {x : Ty} {y : E} : oV c (.isTy x y) e QO ↔ aV c (.isTy x y) e fun x e1 => Wp (x.see e1) fun o => Wp (asI o) fun i => QO (some i) e1 := o_val rfl
theorem r_isTy {x : Ty} {y : E} : sV c np (.ret (.isTy x y)) e QS ↔ vV c (.isTy x y) e fun o e1 => QS (.rt o) e1 := s_ret rfl
theorem a_pop {x : Nat} {y : E} : aV c (.pop x y) e QA ↔ vV c (.pop x y) e fun o e => QA (.val o) e := a_nv rfl
theorem t_pop {x : Nat} {y : E} : tV c (.pop x y) e QT ↔ vV c (.pop x y) e fun o e => Wp (truD o.view) fun b => QT b e := t_nv rfl
theorem i_pop {x : Nat} {y : E} : iV c (.pop x y) e QI ↔ vV c (.pop x y) e fun o e => noIns o = true ∧ Wp (itemsD o.view) fun xs => QI xs e := i_nv rfl
theorem o_pop {x : Nat} {y : E} : oV c (.pop x y) e QO ↔ aV c (.pop x y) e fun x e1 => Wp (x.see e1) fun o => Wp (asI o) fun i => QO (some i) e1 := o_val rfl
theorem r_pop {x : Nat} {y : E} : sV c np (.ret (.pop x y)) e QS ↔ vV c (.pop x y) e fun o e1 => QS (.rt o) e1 := s_ret rfl
theorem a_comp {x : List Nat} {y : Bool} {z w u : E} : aV c (.comp x y z w u) e QA ↔ vV c (.comp x y z w u) e fun o e => QA (.val o) e := a_nv rfl
theorem t_comp {x : List Nat} {y : Bool} {z w u : E} : tV c (.comp x y z w u) e QT ↔ vV c (.comp x y z w u) e fun o e => Wp (truD o.view) fun b => QT b e := t_nv rfl
theorem i_comp {x : List Nat} {y : Bool} {z w u : E} : iV c (.comp x y z w u) e QI ↔ vV c (.comp x y z w u) e fun o e => noIns o = true ∧ Wp (itemsD o.view) fun xs => QI xs e := i_nv rfl
theorem o_comp {x : List Nat} {y : Bool} {z w u : E} : oV c (.comp x y z w u) e QO ↔ aV c (.comp x y z w u) e fun x e1 => Wp (x.see e1) fun o => Wp (asI o) fun i => QO (some i) e1 := o_val rfl
theorem r_comp {x : List Nat} {y : Bool} {z w u : E} : sV c np (.ret (.comp x y z w u)) e QS ↔ vV c (.comp x y z w u) e fun o e1 => QS (.rt o) e1 := s_ret rfl
theorem i_var {x : Nat} : iV c (.var x) e QI ↔ vV c (.var x) e fun o e => noIns o = true ∧ Wp (itemsD o.view) fun xs => QI xs e := i_nv rfl
theorem o_var {x : Nat} : oV c (.var x) e QO ↔ aV c (.var x) e fun x e1 => Wp (x.see e1) fun o => Wp (asI o) fun i => QO (some i) e1 := o_val rfl
end
/-! ### steps with conditions -/
section
variable {Q : O → Prop} {i j : Int}
theorem need_t {b : Bool} {x : Prop} (h : b = true) (k : x) : b = true ∧ x := ⟨h, k⟩
theorem br_dt {p : Prop} [Decidable p] {x y : Prop} (h : p) (k : x) : Br (decide p) x y := by
  rw [decide_eq_true h]
  exact br_t.mpr k
theorem br_df {p : Prop} [Decidable p] {x y : Prop} (h : ¬ p) (k : y) : Br (decide p) x y := by
  rw [decide_eq_false h]
  exact br_f.mpr k
theorem br_nt {p : Prop} [Decidable p] {x y : Prop} (h : p) (k : y) : Br (!decide p) x y := by
  rw [decide_eq_true h]
  exact br_f.mpr k
theorem br_nf {p : Prop} [Decidable p] {x y : Prop} (h : ¬ p) (k : x) : Br (!decide p) x y := by
  rw [decide_eq_false h]
  exact br_t.mpr k
theorem mul_r (h : decide (-(2 ^ 64) < j ∧ j < 2 ^ 64) = true) : mulOk i j = true := by
  unfold mulOk
  rw [h]
  simp
theorem mul_l (h : decide (-(2 ^ 64) < i ∧ i < 2 ^ 64) = true) : mulOk i j = true := by
  unfold mulOk
  rw [h]
  simp
theorem div_of (h1 : 0 < j) (h2 : j.natAbs.log2 < 9000) : divOk j = true := by
  unfold divOk
  simp [h1, h2]
theorem wp_mul (h : mulOk i j = true) (k : Q (.sh (.int (i * j)))) : Wp (opD .mul (.sh (.int i)) (.sh (.int j))) Q := by
  rw [op_mul, h]
  exact wp_ok.mpr k
theorem wp_fdiv (h : divOk j = true) (k : Q (.sh (.int (i / j)))) : Wp (opD .fdiv (.sh (.int i)) (.sh (.int j))) Q := by
  rw [op_fdiv, h]
  exact wp_ok.mpr k
theorem wp_mod (h : 0 < j) (k : Q (.sh (.int (i % j)))) : Wp (opD .mod (.sh (.int i)) (.sh (.int j))) Q := by
  rw [op_mod, decide_eq_true h]
  exact wp_ok.mpr k
theorem wp_divmod (h : divOk j = true) (k : Q (.sh (.tup [.int (i / j), .int (i % j)]))) : Wp (blD .divmod [.sh (.int i), .sh (.int j)]) Q := by
  rw [bl_divmod, h]
  exact wp_ok.mpr k
theorem wp_adds {x y : Str} (h : x.length + y.length ≤ lim) (k : Q (.sh (.str (x ++ y)))) : Wp (opD .add (.sh (.str x)) (.sh (.str y))) Q := by
  rw [op_adds, decide_eq_true h]
  exact wp_ok.mpr k
end
theorem and_lt {i n : Nat} {x : Prop} (h : i < n) (k : x) : i < n ∧ x := ⟨h, k⟩
end MP

set_option Elab.async false
set_option linter.all false
set_option maxRecDepth 100000
/-! Gen: the defs that all laws draw with, and the first of the package; what they promise. -/
namespace MP
open PySem L2
local macro_rules | `(tactic| trivial) => `(tactic| (repeat (first | (refine wp_mul ?_ ?_; first | exact mul_r (by decide) | exact mul_l (by decide) | exact mul_r (decide_eq_true (by constructor <;> omega)) | exact mul_l (decide_eq_true (by constructor <;> omega))) | (refine wp_fdiv ?_ ?_; first | assumption | decide | (exact div_of (by first | assumption | omega) (by assumption))) | (refine wp_mod ?_ ?_; first | assumption | decide | omega) | (refine wp_divmod ?_ ?_; first | assumption | decide | (exact div_of (by first | assumption | omega) (by assumption))) | refine Wp.eq rfl ?_ | refine (w_non).mpr ?_ | refine (w_bl).mpr ?_ | refine (w_int).mpr ?_ | refine (w_str).mpr ?_ | refine (w_glb).mpr ?_ | refine (w_var).mpr ?_ | refine (a_var).mpr ?_ | refine (t_var).mpr ?_ | refine (w_op).mpr ?_ | refine (w_neg).mpr ?_ | refine (w_cm).mpr ?_ | refine (w_ch).mpr ?_ | refine (w_and).mpr ?_ | refine (w_or).mpr ?_ | refine (t_and).mpr ?_ | refine (t_or).mpr ?_ | refine (w_not).mpr ?_ | refine (t_not).mpr ?_ | refine (w_ite).mpr ?_ | refine (w_ix).mpr ?_ | refine (o_nil).mpr ?_ | refine (w_sl).mpr ?_ | refine (w_rev).mpr ?_ | refine (k_nil).mpr ?_ | refine (g_nil).mpr ?_ | refine (k_cons).mpr ?_ | refine (g_cons).mpr ?_ | refine (k_star).mpr ?_ | refine (w_tup).mpr ?_ | refine (w_lst).mpr ?_ | refine (w_call).mpr ?_ | refine (w_callK).mpr ?_ | refine (w_bl1).mpr ?_ | refine (w_mt).mpr ?_ | refine (w_isTy).mpr ?_ | refine (w_pop).mpr ?_ | refine (i_range1).mpr ?_ | refine (i_range2).mpr ?_ | refine (i_enum).mpr ?_ | refine (i_zip).mpr ?_ | refine (w_comp).mpr ?_ | refine (gt_var).mpr ?_ | refine (gt_ix).mpr ?_ | refine (gt_tup).mpr ?_ | refine (gt_tupL).mpr ?_ | refine (gl_nil).mpr ?_ | refine (gl_cons).mpr ?_ | refine (go_nil).mpr ?_ | refine (go_cons).mpr ?_ | refine (s_nil).mpr ?_ | refine (s_seq).mpr ?_ | refine (s_expr).mpr ?_ | refine (s_app).mpr ?_ | refine (s_asg).mpr ?_ | refine (s_par).mpr ?_ | refine (s_ifs).mpr ?_ | refine (s_loop).mpr ?_ | refine (s_retV).mpr ?_ | refine (s_retN).mpr ?_ | refine (f_nil).mpr ?_ | refine (c_nil).mpr ?_ | refine (take_wp).mpr ?_ | refine (takeK_sh).mpr ?_ | refine (takeK_lst).mpr ?_ | refine (arg_wp).mpr ?_ | refine (argK_sh).mpr ?_ | refine (argK_lst).mpr ?_ | refine (bind_1).mpr ?_ | refine (bind_2).mpr ?_ | refine (lend_n).mpr ?_ | refine (lend_v).mpr ?_ | refine (lend_a).mpr ?_ | refine (left_c).mpr ?_ | refine (seeAll_c).mpr ?_ | refine (a_non).mpr ?_ | refine (t_non).mpr ?_ | refine (i_non).mpr ?_ | refine (o_non).mpr ?_ | refine (r_non).mpr ?_ | refine (a_bl).mpr ?_ | refine (t_bl).mpr ?_ | refine (i_bl).mpr ?_ | refine (o_bl).mpr ?_ | refine (r_bl).mpr ?_ | refine (a_int).mpr ?_ | refine (t_int).mpr ?_ | refine (i_int).mpr ?_ | refine (o_int).mpr ?_ | refine (r_int).mpr ?_ | refine (a_str).mpr ?_ | refine (t_str).mpr ?_ | refine (i_str).mpr ?_ | refine (o_str).mpr ?_ | refine (r_str).mpr ?_ | refine (a_glb).mpr ?_ | refine (t_glb).mpr ?_ | refine (i_glb).mpr ?_ | refine (o_glb).mpr ?_ | refine (r_glb).mpr ?_ | refine (a_op).mpr ?_ | refine (t_op).mpr ?_ | refine (i_op).mpr ?_ | refine (o_op).mpr ?_ | refine (r_op).mpr ?_ | refine (a_neg).mpr ?_ | refine (t_neg).mpr ?_ | refine (i_neg).mpr ?_ | refine (o_neg).mpr ?_ | refine (r_neg).mpr ?_ | refine (a_cm).mpr ?_ | refine (t_cm).mpr ?_ | refine (i_cm).mpr ?_ | refine (o_cm).mpr ?_ | refine (r_cm).mpr ?_ | refine (a_ch).mpr ?_ | refine (t_ch).mpr ?_ | refine (i_ch).mpr ?_ | refine (o_ch).mpr ?_ | refine (r_ch).mpr ?_ | refine (a_and).mpr ?_ | refine (i_and).mpr ?_ | refine (o_and).mpr ?_ | refine (r_and).mpr ?_ | refine (a_or).mpr ?_ | refine (i_or).mpr ?_ | refine (o_or).mpr ?_ | refine (r_or).mpr ?_ | refine (a_not).mpr ?_ | refine (i_not).mpr ?_ | refine (o_not).mpr ?_ | refine (r_not).mpr ?_ | refine (a_ite).mpr ?_ | refine (i_ite).mpr ?_ | refine (o_ite).mpr ?_ | refine (r_ite).mpr ?_ | refine (a_ix).mpr ?_ | refine (t_ix).mpr ?_ | refine (i_ix).mpr ?_ | refine (o_ix).mpr ?_ | refine (r_ix).mpr ?_ | refine (a_sl).mpr ?_ | refine (t_sl).mpr ?_ | refine (i_sl).mpr ?_ | refine (o_sl).mpr ?_ | refine (r_sl).mpr ?_ | refine (a_rev).mpr ?_ | refine (t_rev).mpr ?_ | refine (i_rev).mpr ?_ | refine (o_rev).mpr ?_ | refine (r_rev).mpr ?_ | refine (a_tup).mpr ?_ | refine (t_tup).mpr ?_ | refine (i_tup).mpr ?_ | refine (o_tup).mpr ?_ | refine (r_tup).mpr ?_ | refine (a_lst).mpr ?_ | refine (t_lst).mpr ?_ | refine (i_lst).mpr ?_ | refine (o_lst).mpr ?_ | refine (r_lst).mpr ?_ | refine (a_call).mpr ?_ | refine (t_call).mpr ?_ | refine (i_call).mpr ?_ | refine (o_call).mpr ?_ | refine (r_call).mpr ?_ | refine (a_callK).mpr ?_ | refine (t_callK).mpr ?_ | refine (i_callK).mpr ?_ | refine (o_callK).mpr ?_ | refine (r_callK).mpr ?_ | refine (a_bl1).mpr ?_ | refine (t_bl1).mpr ?_ | refine (i_bl1).mpr ?_ | refine (o_bl1).mpr ?_ | refine (r_bl1).mpr ?_ | refine (a_mt).mpr ?_ | refine (t_mt).mpr ?_ | refine (i_mt).mpr ?_ | refine (o_mt).mpr ?_ | refine (r_mt).mpr ?_ | refine (a_isTy).mpr ?_ | refine (t_isTy).mpr ?_ | refine (i_isTy).mpr ?_ | refine (o_isTy).mpr ?_ | refine (r_isTy).mpr ?_ | refine (a_pop).mpr ?_ | refine (t_pop).mpr ?_ | refine (i_pop).mpr ?_ | refine (o_pop).mpr ?_ | refine (r_pop).mpr ?_ | refine (a_comp).mpr ?_ | refine (t_comp).mpr ?_ | refine (i_comp).mpr ?_ | refine (o_comp).mpr ?_ | refine (r_comp).mpr ?_ | refine (i_var).mpr ?_ | refine (o_var).mpr ?_ | (refine and_lt ?_ ?_; exact Nat.le_of_ble_eq_true rfl) | (refine need_t ?_ ?_; first | (with_reducible assumption) | (exact decide_eq_true (by omega)) | rfl | decide | exact ixOk_str | exact ixOk_int | omega) | refine br_t.mpr ?_ | refine br_f.mpr ?_ | (refine br_dt ?_ ?_; first | assumption | omega) | (refine br_df ?_ ?_; first | assumption | omega) | (refine br_nt ?_ ?_; first | assumption | omega) | (refine br_nf ?_ ?_; first | assumption | omega))))
/-! ### helpers -/
section
variable {c : Cfg} {f : Nat} {as : List AV} {e : En}
theorem cV_0 {Q : O → En → Prop} (h : c.asg f = []) (k : Wp (lend [] 0 as e) fun p => Wp (c.call f p.1) fun q => Q q.1 (giveBack [] 0 as q.2 p.2)) : cV c f as e Q := by
  rw [cV_eq, h]
  exact k
theorem atI_ok {α : Type} {xs : List α} {i : Int} (h0 : 0 ≤ i) (h1 : i < xs.length) : ∃ x, xs[i.toNat]? = some x ∧ atI xs i = some x := by
  have hi : i.toNat < xs.length := by omega
  refine ⟨xs[i.toNat], by simp [hi], ?_⟩
  unfold atI ixN
  rw [if_pos h0, if_pos h1]
  simp [hi]
theorem of_at_ok {α : Type} {xs : List α} {i : Int} {Q : α → Prop} (h0 : 0 ≤ i) (h1 : i < xs.length) (k : ∀ x, x ∈ xs → Q x) : Wp (R.of (atI xs i)) Q := by
  obtain ⟨x, h2, h3⟩ := atI_ok h0 h1
  rw [h3]
  exact wp_ok.mpr (k x (List.mem_of_getElem? h2))
theorem ix_str_ok {z : Str} {r : Int} {Q : D → Prop} (h0 : 0 ≤ r) (h1 : r < z.length) (hz : z.length ≤ lim) (k : ∀ ch, ch ∈ z.cps.toList → Q (.str ⟨#[ch]⟩)) : Wp (ixD (.str z) (.int r)) Q := by
  obtain ⟨ch, h2, h3⟩ := atI_ok (xs := z.cps.toList) h0 (by simpa [Str.length] using h1)
  have e0 : ixD (.str z) (.int r) = .ok (.str ⟨#[ch]⟩) := by
    show R.need (decide (z.length ≤ lim)) ((R.of (atI z.cps.toList r)).bind fun c => R.ok (D.str ⟨#[c]⟩)) = _
    rw [decide_eq_true hz, h3]
    rfl
  exact Wp.eq e0 (k ch (List.mem_of_getElem? h2))
theorem ix_lst_ok {xs : List D} {r : Int} {Q : D → Prop} (h0 : 0 ≤ r) (h1 : r < xs.length) (k : ∀ d, d ∈ xs → Q d) : Wp (ixD (.lst xs) (.int r)) Q := by
  obtain ⟨d, h2, h3⟩ := atI_ok h0 h1
  exact Wp.eq (a := d) (by rw [ix_lst, h3]; rfl) (k d (List.mem_of_getElem? h2))
theorem rangeD_len {a b : Int} : (rangeD a b).length = (b - a).toNat := by simp [rangeD]
theorem rangeD_mem {a b : Int} {d : D} (h : d ∈ rangeD a b) : ∃ i, d = .int i ∧ a ≤ i ∧ i < b := by
  unfold rangeD at h
  obtain ⟨k, hk, rfl⟩ := List.mem_map.mp h
  rw [List.mem_range] at hk
  exact ⟨a + k, rfl, by omega, by omega⟩
end
/-! ### letters, words -/
def letters : Str := "abcdefghijklmnopqrstuvwxyz"
def letC (ch : Nat) : Prop := ch ∈ letters.cps.toList
def Word (s : Str) : Prop := 1 ≤ s.length ∧ s.length ≤ 8 ∧ ∀ ch ∈ s.cps.toList, letC ch
theorem letters_ln : letters.cps.toList.length = 26 := by decide +kernel
theorem letters_len : letters.length = 26 := by decide +kernel
/-! ### the draws -/
def pot (a b c : Int) : O := .lst [.sh (.int a), .sh (.int b), .sh (.int c)]
def fDig : Fn := ⟨2, 3, [],
  (.seq (.ifs (.cm .gt (.ix (.var 0) (.int 0)) (.int 0)) (.seq (.asg (.tup (.cons (.ix 0 (.int 0)) (.cons (.var 2) .nil))) (.bl1 .divmod (.cons (.ix (.var 0) (.int 0)) (.cons (.var 1) .nil))))
    (.seq (.ret (.var 2))
    .nil)) .nil)
    (.seq (.asg (.ix 0 (.int 2)) (.op .add (.ix (.var 0) (.int 2)) (.int 1)))
    (.seq (.asg (.ix 0 (.int 1)) (.op .mod (.bl1 .int (.cons (.op .add (.op .add (.op .mul (.ix (.var 0) (.int 1)) (.op .add (.op .mod (.bl1 .int (.cons (.op .fdiv (.ix (.var 0) (.int 1)) (.int 32)) .nil)) (.int 28001)) (.int 17))) (.op .mul (.int 24593) (.ix (.var 0) (.int 2)))) (.int 7)) .nil)) (.int 2147483423)))
    (.seq (.ret (.op .mod (.bl1 .int (.cons (.op .fdiv (.ix (.var 0) (.int 1)) (.int 512)) .nil)) (.var 1)))
    .nil))))⟩
structure DigOk (c : Cfg) : Prop where
  asg : c.asg 1 = []
  run : ∀ {x y z m : Int} {Q : O × List O → Prop}, 0 < m → m.natAbs.log2 < 9000 → (∀ r x' y' z', 0 ≤ r → r < m → Q (.sh (.int r), [pot x' y' z', .sh (.int m)])) → Wp (c.call 1 [pot x y z, .sh (.int m)]) Q
theorem dig_ok {c : Cfg} {x y z m : Int} {Q : O × List O → Prop} (hm : 0 < m) (hl : m.natAbs.log2 < 9000) (k : ∀ r x' y' z', 0 ≤ r → r < m → Q (.sh (.int r), [pot x' y' z', .sh (.int m)])) : Wp (runFn c fDig [pot x y z, .sh (.int m)]) Q := by
  rw [fn_wp]
  refine ⟨rfl, ?_⟩
  show sV c 2 fDig.body [some (pot x y z), some (.sh (.int m)), none] _
  unfold fDig pot
  dsimp only
  by_cases hx : 0 < x
  · trivial
    exact k _ _ _ _ (Int.emod_nonneg _ (by omega)) (Int.emod_lt_of_pos _ hm)
  · trivial
    exact k _ _ _ _ (Int.emod_nonneg _ (by omega)) (Int.emod_lt_of_pos _ hm)
def fWord : Fn := ⟨1, 2, [],
  (.seq (.ret (.mt .join (.str "") (.comp [1] false (.ix (.str "abcdefghijklmnopqrstuvwxyz") (.call 1 (.cons (.var 0) (.cons (.int 26) .nil)))) (.range1 (.op .add (.int 1) (.call 1 (.cons (.var 0) (.cons (.int 8) .nil))))) .nil)))
    .nil)⟩
structure WordOk (c : Cfg) : Prop where
  asg : c.asg 2 = []
  run : ∀ {x y z : Int} {Q : O × List O → Prop}, (∀ s x' y' z', Word s → Q (.sh (.str s), [pot x' y' z'])) → Wp (c.call 2 [pot x y z]) Q
theorem join_ones : ∀ cs : List Nat, (Str.join "" (cs.map fun ch => (⟨#[ch]⟩ : Str))).cps.toList = cs
  | [] => rfl
  | [c] => rfl
  | c :: d :: cs => by
    have ih := join_ones (d :: cs)
    show ((⟨#[c]⟩ : Str).cps ++ ("" : Str).cps ++ (Str.join "" ((d :: cs).map fun ch => (⟨#[ch]⟩ : Str))).cps).toList = _
    rw [Array.toList_append, Array.toList_append, ih]
    rfl
theorem strs_ones (cs : List Nat) : strsD (views (cs.map fun ch => O.sh (.str ⟨#[ch]⟩))) = some (cs.map fun ch => (⟨#[ch]⟩ : Str)) := by
  have e : views (cs.map fun ch => O.sh (.str ⟨#[ch]⟩)) = (cs.map fun ch => (⟨#[ch]⟩ : Str)).map D.str := by
    rw [views_map, List.map_map, List.map_map]
    rfl
  rw [e, strsD_map]
theorem sum_ones : ∀ cs : List Nat, ((cs.map fun ch => (⟨#[ch]⟩ : Str)).map (·.length)).sum = cs.length
  | [] => rfl
  | c :: cs => by
    rw [List.map_cons, List.map_cons, List.sum_cons, sum_ones cs, List.length_cons]
    show 1 + cs.length = _
    omega
/-- ''.join of single signs -/
theorem join_wp {cs : List Nat} {Q : O → Prop} (h : cs.length ≤ lim) (k : Q (.sh (.str (Str.join "" (cs.map fun ch => (⟨#[ch]⟩ : Str)))))) : Wp (mtD .join (.sh (.str "")) (.lst (cs.map fun ch => O.sh (.str ⟨#[ch]⟩)))) Q := by
  have e0 : mtD .join (.sh (.str "")) (.lst (cs.map fun ch => O.sh (.str ⟨#[ch]⟩))) = .ok (.sh (.str (Str.join "" (cs.map fun ch => (⟨#[ch]⟩ : Str))))) := by
    show ((R.of (strsD (views (cs.map fun ch => O.sh (.str ⟨#[ch]⟩))))).bind fun ys => R.need (decide ((ys.map (·.length)).sum + ys.length * ("" : Str).length ≤ lim)) (R.ok (O.sh (.str (Txt.join "" ys))))) = _
    rw [strs_ones]
    show R.need (decide (((cs.map fun ch => (⟨#[ch]⟩ : Str)).map (·.length)).sum + _ * 0 ≤ lim)) _ = _
    rw [sum_ones, Nat.mul_zero, Nat.add_zero, decide_eq_true h]
    show R.ok (O.sh (.str (Txt.join "" _))) = _
    unfold Txt.join
    rw [StrLaws.glued_eq_join]
  exact Wp.eq e0 k
theorem word_ok {c : Cfg} (hD : DigOk c) {x y z : Int} {Q : O × List O → Prop} (k : ∀ s x' y' z', Word s → Q (.sh (.str s), [pot x' y' z'])) : Wp (runFn c fWord [pot x y z]) Q := by
  rw [fn_wp]
  refine ⟨rfl, ?_⟩
  show sV c 1 fWord.body [some (pot x y z), none] _
  unfold fWord
  dsimp only
  trivial
  refine cV_0 hD.asg ?_
  trivial
  refine hD.run (by decide) (by decide) fun r x1 y1 z1 h0 h1 => ?_
  trivial
  show Wp (runC _ (rangeD 0 (1 + r)) [some (pot x1 y1 z1), none]) _
  refine (runC_inv (fun ys acc e => ∃ x y z cs, e = [some (pot x y z), none] ∧ acc = cs.map (fun ch => O.sh (.str ⟨#[ch]⟩)) ∧ cs.length = ys.length ∧ ∀ ch ∈ cs, letC ch) (rangeD 0 (1 + r)) [] [] _ ⟨x1, y1, z1, [], rfl, rfl, rfl, fun _ h => (by cases h)⟩ ?_).mono ?_
  · rintro ys d acc e hd ⟨x2, y2, z2, cs, rfl, rfl, hl, hc⟩
    refine b_nil.mpr ?_
    trivial
    refine cV_0 hD.asg ?_
    trivial
    refine hD.run (by decide) (by decide) fun r x3 y3 z3 g0 g1 => ?_
    trivial
    refine ix_str_ok (z := letters) g0 (by rw [letters_len]; exact g1) (by decide +kernel) fun ch hch => ?_
    trivial
    refine ⟨x3, y3, z3, cs ++ [ch], rfl, by rw [List.map_append]; rfl, by rw [List.length_append, List.length_append, hl]; rfl, fun x hx => ?_⟩
    rcases List.mem_append.mp hx with hx | hx
    · exact hc x hx
    · rw [List.mem_singleton.mp hx]
      exact hch
  · rintro ⟨os, e⟩ ⟨x2, y2, z2, cs, rfl, e2, hl, hc⟩
    have e2 : os = cs.map (fun ch => O.sh (.str ⟨#[ch]⟩)) := e2
    subst e2
    have hn : cs.length = (1 + r).toNat := by
      rw [hl, List.nil_append, rangeD_len]
      congr 1
      omega
    refine need_t (decide_eq_true (by rw [rangeD_len]; show _ ≤ 16777216; omega)) ?_
    trivial
    refine join_wp (cs := cs) (by show _ ≤ 16777216; omega) ?_
    trivial
    refine k _ _ _ _ ⟨?_, ?_, ?_⟩
    · show 1 ≤ (Str.join "" _).cps.size
      rw [← Array.length_toList, join_ones]
      omega
    · show (Str.join "" _).cps.size ≤ 8
      rw [← Array.length_toList, join_ones]
      omega
    · rw [join_ones]
      exact hc
end MP

set_option Elab.async false
set_option linter.all false
set_option maxRecDepth 100000
/-! Gen2: lists of texts; drawn names. -/
namespace MP
open PySem L2
local macro_rules | `(tactic| trivial) => `(tactic| (repeat (first | (refine wp_mul ?_ ?_; first | exact mul_r (by decide) | exact mul_l (by decide) | exact mul_r (decide_eq_true (by constructor <;> omega)) | exact mul_l (decide_eq_true (by constructor <;> omega))) | (refine wp_fdiv ?_ ?_; first | assumption | decide | (exact div_of (by first | assumption | omega) (by assumption))) | (refine wp_mod ?_ ?_; first | assumption | decide | omega) | (refine wp_divmod ?_ ?_; first | assumption | decide | (exact div_of (by first | assumption | omega) (by assumption))) | refine Wp.eq rfl ?_ | refine (w_non).mpr ?_ | refine (w_bl).mpr ?_ | refine (w_int).mpr ?_ | refine (w_str).mpr ?_ | refine (w_glb).mpr ?_ | refine (w_var).mpr ?_ | refine (a_var).mpr ?_ | refine (t_var).mpr ?_ | refine (w_op).mpr ?_ | refine (w_neg).mpr ?_ | refine (w_cm).mpr ?_ | refine (w_ch).mpr ?_ | refine (w_and).mpr ?_ | refine (w_or).mpr ?_ | refine (t_and).mpr ?_ | refine (t_or).mpr ?_ | refine (w_not).mpr ?_ | refine (t_not).mpr ?_ | refine (w_ite).mpr ?_ | refine (w_ix).mpr ?_ | refine (o_nil).mpr ?_ | refine (w_sl).mpr ?_ | refine (w_rev).mpr ?_ | refine (k_nil).mpr ?_ | refine (g_nil).mpr ?_ | refine (k_cons).mpr ?_ | refine (g_cons).mpr ?_ | refine (k_star).mpr ?_ | refine (w_tup).mpr ?_ | refine (w_lst).mpr ?_ | refine (w_call).mpr ?_ | refine (w_callK).mpr ?_ | refine (w_bl1).mpr ?_ | refine (w_mt).mpr ?_ | refine (w_isTy).mpr ?_ | refine (w_pop).mpr ?_ | refine (i_range1).mpr ?_ | refine (i_range2).mpr ?_ | refine (i_enum).mpr ?_ | refine (i_zip).mpr ?_ | refine (w_comp).mpr ?_ | refine (gt_var).mpr ?_ | refine (gt_ix).mpr ?_ | refine (gt_tup).mpr ?_ | refine (gt_tupL).mpr ?_ | refine (gl_nil).mpr ?_ | refine (gl_cons).mpr ?_ | refine (go_nil).mpr ?_ | refine (go_cons).mpr ?_ | refine (s_nil).mpr ?_ | refine (s_seq).mpr ?_ | refine (s_expr).mpr ?_ | refine (s_app).mpr ?_ | refine (s_asg).mpr ?_ | refine (s_par).mpr ?_ | refine (s_ifs).mpr ?_ | refine (s_loop).mpr ?_ | refine (s_retV).mpr ?_ | refine (s_retN).mpr ?_ | refine (f_nil).mpr ?_ | refine (c_nil).mpr ?_ | refine (take_wp).mpr ?_ | refine (takeK_sh).mpr ?_ | refine (takeK_lst).mpr ?_ | refine (arg_wp).mpr ?_ | refine (argK_sh).mpr ?_ | refine (argK_lst).mpr ?_ | refine (bind_1).mpr ?_ | refine (bind_2).mpr ?_ | refine (lend_n).mpr ?_ | refine (lend_v).mpr ?_ | refine (lend_a).mpr ?_ | refine (left_c).mpr ?_ | refine (seeAll_c).mpr ?_ | refine (a_non).mpr ?_ | refine (t_non).mpr ?_ | refine (i_non).mpr ?_ | refine (o_non).mpr ?_ | refine (r_non).mpr ?_ | refine (a_bl).mpr ?_ | refine (t_bl).mpr ?_ | refine (i_bl).mpr ?_ | refine (o_bl).mpr ?_ | refine (r_bl).mpr ?_ | refine (a_int).mpr ?_ | refine (t_int).mpr ?_ | refine (i_int).mpr ?_ | refine (o_int).mpr ?_ | refine (r_int).mpr ?_ | refine (a_str).mpr ?_ | refine (t_str).mpr ?_ | refine (i_str).mpr ?_ | refine (o_str).mpr ?_ | refine (r_str).mpr ?_ | refine (a_glb).mpr ?_ | refine (t_glb).mpr ?_ | refine (i_glb).mpr ?_ | refine (o_glb).mpr ?_ | refine (r_glb).mpr ?_ | refine (a_op).mpr ?_ | refine (t_op).mpr ?_ | refine (i_op).mpr ?_ | refine (o_op).mpr ?_ | refine (r_op).mpr ?_ | refine (a_neg).mpr ?_ | refine (t_neg).mpr ?_ | refine (i_neg).mpr ?_ | refine (o_neg).mpr ?_ | refine (r_neg).mpr ?_ | refine (a_cm).mpr ?_ | refine (t_cm).mpr ?_ | refine (i_cm).mpr ?_ | refine (o_cm).mpr ?_ | refine (r_cm).mpr ?_ | refine (a_ch).mpr ?_ | refine (t_ch).mpr ?_ | refine (i_ch).mpr ?_ | refine (o_ch).mpr ?_ | refine (r_ch).mpr ?_ | refine (a_and).mpr ?_ | refine (i_and).mpr ?_ | refine (o_and).mpr ?_ | refine (r_and).mpr ?_ | refine (a_or).mpr ?_ | refine (i_or).mpr ?_ | refine (o_or).mpr ?_ | refine (r_or).mpr ?_ | refine (a_not).mpr ?_ | refine (i_not).mpr ?_ | refine (o_not).mpr ?_ | refine (r_not).mpr ?_ | refine (a_ite).mpr ?_ | refine (i_ite).mpr ?_ | refine (o_ite).mpr ?_ | refine (r_ite).mpr ?_ | refine (a_ix).mpr ?_ | refine (t_ix).mpr ?_ | refine (i_ix).mpr ?_ | refine (o_ix).mpr ?_ | refine (r_ix).mpr ?_ | refine (a_sl).mpr ?_ | refine (t_sl).mpr ?_ | refine (i_sl).mpr ?_ | refine (o_sl).mpr ?_ | refine (r_sl).mpr ?_ | refine (a_rev).mpr ?_ | refine (t_rev).mpr ?_ | refine (i_rev).mpr ?_ | refine (o_rev).mpr ?_ | refine (r_rev).mpr ?_ | refine (a_tup).mpr ?_ | refine (t_tup).mpr ?_ | refine (i_tup).mpr ?_ | refine (o_tup).mpr ?_ | refine (r_tup).mpr ?_ | refine (a_lst).mpr ?_ | refine (t_lst).mpr ?_ | refine (i_lst).mpr ?_ | refine (o_lst).mpr ?_ | refine (r_lst).mpr ?_ | refine (a_call).mpr ?_ | refine (t_call).mpr ?_ | refine (i_call).mpr ?_ | refine (o_call).mpr ?_ | refine (r_call).mpr ?_ | refine (a_callK).mpr ?_ | refine (t_callK).mpr ?_ | refine (i_callK).mpr ?_ | refine (o_callK).mpr ?_ | refine (r_callK).mpr ?_ | refine (a_bl1).mpr ?_ | refine (t_bl1).mpr ?_ | refine (i_bl1).mpr ?_ | refine (o_bl1).mpr ?_ | refine (r_bl1).mpr ?_ | refine (a_mt).mpr ?_ | refine (t_mt).mpr ?_ | refine (i_mt).mpr ?_ | refine (o_mt).mpr ?_ | refine (r_mt).mpr ?_ | refine (a_isTy).mpr ?_ | refine (t_isTy).mpr ?_ | refine (i_isTy).mpr ?_ | refine (o_isTy).mpr ?_ | refine (r_isTy).mpr ?_ | refine (a_pop).mpr ?_ | refine (t_pop).mpr ?_ | refine (i_pop).mpr ?_ | refine (o_pop).mpr ?_ | refine (r_pop).mpr ?_ | refine (a_comp).mpr ?_ | refine (t_comp).mpr ?_ | refine (i_comp).mpr ?_ | refine (o_comp).mpr ?_ | refine (r_comp).mpr ?_ | refine (i_var).mpr ?_ | refine (o_var).mpr ?_ | (refine and_lt ?_ ?_; exact Nat.le_of_ble_eq_true rfl) | (refine need_t ?_ ?_; first | (with_reducible assumption) | (exact decide_eq_true (by omega)) | rfl | decide | exact ixOk_str | exact ixOk_int | omega) | refine br_t.mpr ?_ | refine br_f.mpr ?_ | (refine br_dt ?_ ?_; first | assumption | omega) | (refine br_df ?_ ?_; first | assumption | omega) | (refine br_nt ?_ ?_; first | assumption | omega) | (refine br_nf ?_ ?_; first | assumption | omega))))
/-! ### lists of texts -/
def sts (ws : List Str) : List O := (ws.map D.str).map O.sh
theorem sts_app (ws : List Str) (w : Str) : sts ws ++ [.sh (.str w)] = sts (ws ++ [w]) := by simp [sts]
theorem views_sts (ws : List Str) : views (sts ws) = ws.map D.str := views_sh _
theorem sts_len (ws : List Str) : (sts ws).length = ws.length := by simp [sts]
theorem noIns_sts : ∀ ws : List Str, noInss (sts ws) = true
  | [] => rfl
  | w :: ws => noIns_sts ws
theorem flat_sts (ws : List Str) : O.flat (.lst (sts ws)) = some (.lst (ws.map D.str)) := by
  show (shAll (sts ws)).map D.lst = _
  unfold sts
  rw [shAll_map]
  rfl
theorem pys_strs : ∀ ws : List Str, D.py.pys (ws.map D.str) = some (ws.map PyData.str)
  | [] => rfl
  | w :: ws => by
    rw [List.map_cons, D.py.pys, pys_strs ws]
    rfl
theorem lay_strs : ∀ {ws : List Str}, (∀ w ∈ ws, PyData.strOk w = true) → PyData.canLayAll0 (ws.map PyData.str) = true
  | [], _ => rfl
  | w :: ws, h => by
    rw [List.map_cons, PyData.canLayAll0, lay_strs fun u hu => h u (List.mem_cons_of_mem _ hu)]
    show (PyData.strOk w && true) = true
    rw [h w List.mem_cons_self]
    rfl
theorem depth_strs : ∀ ws : List Str, PyData.depthAll (ws.map PyData.str) = 0
  | [] => rfl
  | w :: ws => by
    rw [List.map_cons, PyData.depthAll, depth_strs ws]
    rfl
theorem eqv_strs : ∀ ws us : List Str, PyData.eqvAll (ws.map PyData.str) (us.map PyData.str) = decide (ws = us)
  | [], [] => rfl
  | [], u :: us => rfl
  | w :: ws, [] => rfl
  | w :: ws, u :: us => by
    rw [List.map_cons, List.map_cons, PyData.eqvAll, eqv_strs ws us]
    show ((w == u) && decide (ws = us)) = _
    by_cases h : w = u
    · by_cases g : ws = us <;> simp [h, g]
    · simp [h]
theorem shaped_tup {ws : List Str} (h : ∀ w ∈ ws, PyData.strOk w = true) : SeqAt.shaped (.tuple (ws.map PyData.str)) = true := by
  unfold SeqAt.shaped
  rw [Bool.and_eq_true]
  refine ⟨lay_strs h, decide_eq_true ?_⟩
  show PyData.depthAll _ + 1 ≤ 64
  rw [depth_strs]
  omega
theorem shaped_lst {ws : List Str} (h : ∀ w ∈ ws, PyData.strOk w = true) : SeqAt.shaped (.list (ws.map PyData.str)) = true := by
  unfold SeqAt.shaped
  rw [Bool.and_eq_true]
  refine ⟨lay_strs h, decide_eq_true ?_⟩
  show PyData.depthAll _ + 1 ≤ 64
  rw [depth_strs]
  omega
theorem eq_tups {ws us : List Str} (h : ∀ w ∈ ws, PyData.strOk w = true) (g : ∀ w ∈ us, PyData.strOk w = true) : eqD (.tup (ws.map D.str)) (.tup (us.map D.str)) = .ok (decide (ws = us)) := by
  show ((R.of ((D.py.pys (ws.map D.str)).map PyData.tuple)).bind fun x => (R.of ((D.py.pys (us.map D.str)).map PyData.tuple)).bind fun y => R.need (SeqAt.shaped x && SeqAt.shaped y) (R.ok (PyData.eqv x y))) = _
  rw [pys_strs, pys_strs]
  show R.need (SeqAt.shaped (.tuple (ws.map PyData.str)) && SeqAt.shaped (.tuple (us.map PyData.str))) (R.ok (PyData.eqvAll _ _)) = _
  rw [shaped_tup h, shaped_tup g, eqv_strs]
  rfl
theorem eq_lsts {ws us : List Str} (h : ∀ w ∈ ws, PyData.strOk w = true) (g : ∀ w ∈ us, PyData.strOk w = true) : eqD (.lst (ws.map D.str)) (.lst (us.map D.str)) = .ok (decide (ws = us)) := by
  show ((R.of ((D.py.pys (ws.map D.str)).map PyData.list)).bind fun x => (R.of ((D.py.pys (us.map D.str)).map PyData.list)).bind fun y => R.need (SeqAt.shaped x && SeqAt.shaped y) (R.ok (PyData.eqv x y))) = _
  rw [pys_strs, pys_strs]
  show R.need (SeqAt.shaped (.list (ws.map PyData.str)) && SeqAt.shaped (.list (us.map PyData.str))) (R.ok (PyData.eqvAll _ _)) = _
  rw [shaped_lst h, shaped_lst g, eqv_strs]
  rfl
theorem any_strs (w : Str) : ∀ ws : List Str, ((ws.map D.str).any fun y => eqF y (.str w)) = decide (w ∈ ws)
  | [] => rfl
  | u :: ws => by
    rw [List.map_cons, List.any_cons, any_strs w ws]
    show ((u == w) || decide (w ∈ ws)) = _
    by_cases h : u = w
    · simp [h]
    · have h2 : ¬ w = u := fun z => h z.symm
      simp [h, h2]
theorem flats_strs : ∀ ws : List Str, (ws.map D.str).all flatD = true
  | [] => rfl
  | w :: ws => flats_strs ws
theorem in_lst (w : Str) (ws : List Str) : inD (.str w) (.lst (ws.map D.str)) = .ok (decide (w ∈ ws)) := by
  show (if (flatD (.str w) && (ws.map D.str).all flatD) = true then R.ok ((ws.map D.str).any fun y => eqF y (.str w)) else _) = _
  rw [flats_strs, any_strs]
  rfl
theorem in_tup (w : Str) (ws : List Str) : inD (.str w) (.tup (ws.map D.str)) = .ok (decide (w ∈ ws)) := by
  show R.need (flatD (.str w) && (ws.map D.str).all flatD) (R.ok ((ws.map D.str).any fun y => eqF y (.str w))) = _
  rw [flats_strs, any_strs]
  rfl
theorem letter_lt {ch : Nat} (h : letC ch) : ch < 123 := by
  have key : ∀ c ∈ letters.cps.toList, c < 123 := by decide +kernel
  exact key ch h
theorem Word.ok {s : Str} (h : Word s) : PyData.strOk s = true := by
  unfold PyData.strOk
  rw [← Array.all_toList, List.all_eq_true]
  intro c hc
  have := letter_lt (h.2.2 c hc)
  exact decide_eq_true (by omega)
/-! ### pure comprehensions over texts -/
theorem runC_strs {bd : D → En → R (Option O × En)} {e0 : En} (f : Str → Option Str) : ∀ (ws : List Str), (∀ w ∈ ws, Wp (bd (.str w) e0) fun p => p = ((f w).map fun s => O.sh (.str s), e0)) → Wp (runC bd (ws.map D.str) e0) fun p => p = (sts (ws.filterMap f), e0)
  | [], _ => by
    rw [List.map_nil, c_nil]
    rfl
  | w :: ws, h => by
    rw [List.map_cons, c_cons]
    refine (h w List.mem_cons_self).mono fun p hp => ?_
    subst hp
    refine (runC_strs f ws fun u hu => h u (List.mem_cons_of_mem _ hu)).mono fun q hq => ?_
    subst hq
    rw [List.filterMap_cons]
    cases f w with
    | none => rfl
    | some s => rfl
theorem filterMap_some {α β : Type} (f : α → β) : ∀ xs : List α, xs.filterMap (fun x => some (f x)) = xs.map f
  | [] => rfl
  | x :: xs => by rw [List.filterMap_cons, filterMap_some f xs]; rfl
theorem filterMap_if {α : Type} (p : α → Bool) : ∀ xs : List α, xs.filterMap (fun x => if p x = true then some x else none) = xs.filter p
  | [] => rfl
  | x :: xs => by
    rw [List.filterMap_cons, filterMap_if p xs, List.filter_cons]
    cases p x <;> rfl
/-! ### cuts of texts -/
theorem cut_to (z : Str) (k : Nat) : cutS z none (some (k : Int)) = ⟨(z.cps.toList.take k).toArray⟩ := by
  have h : z.cps.toList.length = z.length := by simp [Str.length]
  unfold cutS
  rw [HT.sIx_nat, HT.sIx_none, List.drop_zero, Nat.sub_zero]
  congr 2
  by_cases hk : k ≤ z.length
  · rw [Nat.min_eq_left hk]
  · rw [Nat.min_eq_right (by omega), List.take_of_length_le (by omega), List.take_of_length_le (by omega)]
theorem Word.take {s : Str} (hn : 1 ≤ s.length) (hc : ∀ ch ∈ s.cps.toList, letC ch) : Word (cutS s none (some 8)) := by
  have e := cut_to s 8
  have e : cutS s none (some 8) = ⟨(s.cps.toList.take 8).toArray⟩ := e
  rw [e]
  have hl : s.cps.toList.length = s.length := by simp [Str.length]
  refine ⟨?_, ?_, fun ch h => hc ch ?_⟩
  · show 1 ≤ ((s.cps.toList.take 8).toArray).size
    rw [List.size_toArray, List.length_take]
    omega
  · show ((s.cps.toList.take 8).toArray).size ≤ 8
    rw [List.size_toArray, List.length_take]
    omega
  · exact List.mem_of_mem_take (by simpa using h)
theorem app_cps (x y : Str) : (x ++ y).cps.toList = x.cps.toList ++ y.cps.toList := by
  show (x.cps ++ y.cps).toList = _
  rw [Array.toList_append]
theorem app_len (x y : Str) : (x ++ y).length = x.length + y.length := by
  show (x.cps ++ y.cps).size = _
  rw [Array.size_append]
  rfl
theorem Word.push {s : Str} {ch : Nat} (h : Word s) (hc : letC ch) : Word (cutS s none (some 7) ++ ⟨#[ch]⟩) := by
  have e : cutS s none (some 7) = ⟨(s.cps.toList.take 7).toArray⟩ := cut_to s 7
  rw [e]
  refine ⟨?_, ?_, fun c hm => ?_⟩
  · rw [app_len]
    show 1 ≤ _ + 1
    omega
  · rw [app_len]
    show ((s.cps.toList.take 7).toArray).size + 1 ≤ 8
    rw [List.size_toArray, List.length_take]
    omega
  · rw [app_cps] at hm
    rcases List.mem_append.mp hm with hm | hm
    · exact h.2.2 c (List.mem_of_mem_take (by simpa using hm))
    · have : c = ch := by simpa using hm
      rw [this]
      exact hc
/-! ### a list without twins within another is no longer -/
theorem nodup_le {α : Type} [DecidableEq α] : ∀ {xs ys : List α}, xs.Nodup → (∀ x ∈ xs, x ∈ ys) → xs.length ≤ ys.length
  | [], ys, _, _ => Nat.zero_le _
  | x :: xs, ys, nd, h => by
    obtain ⟨h1, h2⟩ := List.nodup_cons.mp nd
    have hx := h x List.mem_cons_self
    have := nodup_le (ys := ys.erase x) h2 fun y hy => (List.mem_erase_of_ne (fun e => h1 (by rw [← e]; exact hy))).mpr (h y (List.mem_cons_of_mem _ hy))
    rw [List.length_erase_of_mem hx] at this
    have hp : 0 < ys.length := List.length_pos_of_mem hx
    rw [List.length_cons]
    omega
end MP

set_option Elab.async false
set_option linter.all false
set_option maxRecDepth 100000
set_option maxHeartbeats 4000000
/-! Gen3: drawn names. -/
namespace MP
open PySem L2
local macro_rules | `(tactic| trivial) => `(tactic| (repeat (first | (refine wp_mul ?_ ?_; first | exact mul_r (by decide) | exact mul_l (by decide) | exact mul_r (decide_eq_true (by constructor <;> omega)) | exact mul_l (decide_eq_true (by constructor <;> omega))) | (refine wp_fdiv ?_ ?_; first | assumption | decide | (exact div_of (by first | assumption | omega) (by assumption))) | (refine wp_mod ?_ ?_; first | assumption | decide | omega) | (refine wp_divmod ?_ ?_; first | assumption | decide | (exact div_of (by first | assumption | omega) (by assumption))) | refine Wp.eq rfl ?_ | refine (w_non).mpr ?_ | refine (w_bl).mpr ?_ | refine (w_int).mpr ?_ | refine (w_str).mpr ?_ | refine (w_glb).mpr ?_ | refine (w_var).mpr ?_ | refine (a_var).mpr ?_ | refine (t_var).mpr ?_ | refine (w_op).mpr ?_ | refine (w_neg).mpr ?_ | refine (w_cm).mpr ?_ | refine (w_ch).mpr ?_ | refine (w_and).mpr ?_ | refine (w_or).mpr ?_ | refine (t_and).mpr ?_ | refine (t_or).mpr ?_ | refine (w_not).mpr ?_ | refine (t_not).mpr ?_ | refine (w_ite).mpr ?_ | refine (w_ix).mpr ?_ | refine (o_nil).mpr ?_ | refine (w_sl).mpr ?_ | refine (w_rev).mpr ?_ | refine (k_nil).mpr ?_ | refine (g_nil).mpr ?_ | refine (k_cons).mpr ?_ | refine (g_cons).mpr ?_ | refine (k_star).mpr ?_ | refine (w_tup).mpr ?_ | refine (w_lst).mpr ?_ | refine (w_call).mpr ?_ | refine (w_callK).mpr ?_ | refine (w_bl1).mpr ?_ | refine (w_mt).mpr ?_ | refine (w_isTy).mpr ?_ | refine (w_pop).mpr ?_ | refine (i_range1).mpr ?_ | refine (i_range2).mpr ?_ | refine (i_enum).mpr ?_ | refine (i_zip).mpr ?_ | refine (w_comp).mpr ?_ | refine (gt_var).mpr ?_ | refine (gt_ix).mpr ?_ | refine (gt_tup).mpr ?_ | refine (gt_tupL).mpr ?_ | refine (gl_nil).mpr ?_ | refine (gl_cons).mpr ?_ | refine (go_nil).mpr ?_ | refine (go_cons).mpr ?_ | refine (s_nil).mpr ?_ | refine (s_seq).mpr ?_ | refine (s_expr).mpr ?_ | refine (s_app).mpr ?_ | refine (s_asg).mpr ?_ | refine (s_par).mpr ?_ | refine (s_ifs).mpr ?_ | refine (s_loop).mpr ?_ | refine (s_retV).mpr ?_ | refine (s_retN).mpr ?_ | refine (f_nil).mpr ?_ | refine (c_nil).mpr ?_ | refine (take_wp).mpr ?_ | refine (takeK_sh).mpr ?_ | refine (takeK_lst).mpr ?_ | refine (arg_wp).mpr ?_ | refine (argK_sh).mpr ?_ | refine (argK_lst).mpr ?_ | refine (bind_1).mpr ?_ | refine (bind_2).mpr ?_ | refine (lend_n).mpr ?_ | refine (lend_v).mpr ?_ | refine (lend_a).mpr ?_ | refine (left_c).mpr ?_ | refine (seeAll_c).mpr ?_ | refine (a_non).mpr ?_ | refine (t_non).mpr ?_ | refine (i_non).mpr ?_ | refine (o_non).mpr ?_ | refine (r_non).mpr ?_ | refine (a_bl).mpr ?_ | refine (t_bl).mpr ?_ | refine (i_bl).mpr ?_ | refine (o_bl).mpr ?_ | refine (r_bl).mpr ?_ | refine (a_int).mpr ?_ | refine (t_int).mpr ?_ | refine (i_int).mpr ?_ | refine (o_int).mpr ?_ | refine (r_int).mpr ?_ | refine (a_str).mpr ?_ | refine (t_str).mpr ?_ | refine (i_str).mpr ?_ | refine (o_str).mpr ?_ | refine (r_str).mpr ?_ | refine (a_glb).mpr ?_ | refine (t_glb).mpr ?_ | refine (i_glb).mpr ?_ | refine (o_glb).mpr ?_ | refine (r_glb).mpr ?_ | refine (a_op).mpr ?_ | refine (t_op).mpr ?_ | refine (i_op).mpr ?_ | refine (o_op).mpr ?_ | refine (r_op).mpr ?_ | refine (a_neg).mpr ?_ | refine (t_neg).mpr ?_ | refine (i_neg).mpr ?_ | refine (o_neg).mpr ?_ | refine (r_neg).mpr ?_ | refine (a_cm).mpr ?_ | refine (t_cm).mpr ?_ | refine (i_cm).mpr ?_ | refine (o_cm).mpr ?_ | refine (r_cm).mpr ?_ | refine (a_ch).mpr ?_ | refine (t_ch).mpr ?_ | refine (i_ch).mpr ?_ | refine (o_ch).mpr ?_ | refine (r_ch).mpr ?_ | refine (a_and).mpr ?_ | refine (i_and).mpr ?_ | refine (o_and).mpr ?_ | refine (r_and).mpr ?_ | refine (a_or).mpr ?_ | refine (i_or).mpr ?_ | refine (o_or).mpr ?_ | refine (r_or).mpr ?_ | refine (a_not).mpr ?_ | refine (i_not).mpr ?_ | refine (o_not).mpr ?_ | refine (r_not).mpr ?_ | refine (a_ite).mpr ?_ | refine (i_ite).mpr ?_ | refine (o_ite).mpr ?_ | refine (r_ite).mpr ?_ | refine (a_ix).mpr ?_ | refine (t_ix).mpr ?_ | refine (i_ix).mpr ?_ | refine (o_ix).mpr ?_ | refine (r_ix).mpr ?_ | refine (a_sl).mpr ?_ | refine (t_sl).mpr ?_ | refine (i_sl).mpr ?_ | refine (o_sl).mpr ?_ | refine (r_sl).mpr ?_ | refine (a_rev).mpr ?_ | refine (t_rev).mpr ?_ | refine (i_rev).mpr ?_ | refine (o_rev).mpr ?_ | refine (r_rev).mpr ?_ | refine (a_tup).mpr ?_ | refine (t_tup).mpr ?_ | refine (i_tup).mpr ?_ | refine (o_tup).mpr ?_ | refine (r_tup).mpr ?_ | refine (a_lst).mpr ?_ | refine (t_lst).mpr ?_ | refine (i_lst).mpr ?_ | refine (o_lst).mpr ?_ | refine (r_lst).mpr ?_ | refine (a_call).mpr ?_ | refine (t_call).mpr ?_ | refine (i_call).mpr ?_ | refine (o_call).mpr ?_ | refine (r_call).mpr ?_ | refine (a_callK).mpr ?_ | refine (t_callK).mpr ?_ | refine (i_callK).mpr ?_ | refine (o_callK).mpr ?_ | refine (r_callK).mpr ?_ | refine (a_bl1).mpr ?_ | refine (t_bl1).mpr ?_ | refine (i_bl1).mpr ?_ | refine (o_bl1).mpr ?_ | refine (r_bl1).mpr ?_ | refine (a_mt).mpr ?_ | refine (t_mt).mpr ?_ | refine (i_mt).mpr ?_ | refine (o_mt).mpr ?_ | refine (r_mt).mpr ?_ | refine (a_isTy).mpr ?_ | refine (t_isTy).mpr ?_ | refine (i_isTy).mpr ?_ | refine (o_isTy).mpr ?_ | refine (r_isTy).mpr ?_ | refine (a_pop).mpr ?_ | refine (t_pop).mpr ?_ | refine (i_pop).mpr ?_ | refine (o_pop).mpr ?_ | refine (r_pop).mpr ?_ | refine (a_comp).mpr ?_ | refine (t_comp).mpr ?_ | refine (i_comp).mpr ?_ | refine (o_comp).mpr ?_ | refine (r_comp).mpr ?_ | refine (i_var).mpr ?_ | refine (o_var).mpr ?_ | (refine and_lt ?_ ?_; exact Nat.le_of_ble_eq_true rfl) | (refine need_t ?_ ?_; first | (with_reducible assumption) | (exact decide_eq_true (by omega)) | rfl | decide | exact ixOk_str | exact ixOk_int | omega) | refine br_t.mpr ?_ | refine br_f.mpr ?_ | (refine br_dt ?_ ?_; first | assumption | omega) | (refine br_df ?_ ?_; first | assumption | omega) | (refine br_nt ?_ ?_; first | assumption | omega) | (refine br_nf ?_ ?_; first | assumption | omega))))
def fNames : Fn := ⟨2, 7, [],
  (.seq (.asg (.var 2) (.lst .nil))
    (.seq (.loop [3] false (.range1 (.var 1)) (.seq (.asg (.var 4) (.call 2 (.cons (.var 0) .nil)))
    (.seq (.ifs (.and (.cm .ne (.var 2) (.lst .nil)) (.cm .eq (.call 1 (.cons (.var 0) (.cons (.int 4) .nil))) (.int 0))) (.seq (.asg (.var 4) (.sl (.op .add (.ix (.var 2) (.call 1 (.cons (.var 0) (.cons (.bl1 .len (.cons (.var 2) .nil)) .nil)))) (.var 4)) .nil (.int 8)))
    .nil) .nil)
    (.seq (.asg (.var 5) (.op .add (.lst (.cons (.var 4) .nil)) (.comp [6] false (.op .add (.sl (.var 4) .nil (.int 7)) (.var 6)) (.str "abcdefghij") .nil)))
    (.seq (.app 2 (.ix (.comp [6] false (.var 6) (.var 5) (.cm .notIn (.var 6) (.var 2))) (.int 0)))
    .nil)))))
    (.seq (.ret (.bl1 .tuple (.cons (.var 2) .nil)))
    .nil)))⟩
structure NamesOk (c : Cfg) : Prop where
  asg : c.asg 10 = []
  run : ∀ {x y z n : Int} {Q : O × List O → Prop}, 0 ≤ n → n ≤ 10 → (∀ (ws : List Str) x' y' z', (ws.length : Int) = n → ws.Nodup → (∀ w ∈ ws, Word w) → Q (.sh (.tup (ws.map D.str)), [pot x' y' z', .sh (.int n)])) → Wp (c.call 10 [pot x y z, .sh (.int n)]) Q
/-- ten unlike last letters -/
def ten : List Str := [⟨#[97]⟩, ⟨#[98]⟩, ⟨#[99]⟩, ⟨#[100]⟩, ⟨#[101]⟩, ⟨#[102]⟩, ⟨#[103]⟩, ⟨#[104]⟩, ⟨#[105]⟩, ⟨#[106]⟩]
theorem ten_map : (("abcdefghij" : Str).cps.toList.map fun ch => D.str ⟨#[ch]⟩) = ten.map D.str := by
  have e : ("abcdefghij" : Str).cps.toList = [97, 98, 99, 100, 101, 102, 103, 104, 105, 106] := by decide +kernel
  rw [e]
  rfl
/-- a loop, by the turns behind it -/
theorem runF_at {bd : D → En → R (Fl × En)} {xs : List D} (I : List D → En → Prop) {e : En} (h0 : I [] e) (hs : ∀ (ys : List D) (x : D) (zs : List D) (e : En), xs = ys ++ x :: zs → I ys e → Wp (bd x e) fun p => p.1 = .nx ∧ I (ys ++ [x]) p.2) : Wp (runF bd xs e) fun p => p.1 = .nx ∧ I xs p.2 := by
  have key : ∀ (ys zs : List D) (e : En), xs = ys ++ zs → I ys e → Wp (runF bd zs e) fun p => p.1 = .nx ∧ I xs p.2 := by
    intro ys zs
    induction zs generalizing ys with
    | nil =>
      intro e hx h
      rw [f_nil, hx, List.append_nil]
      exact ⟨rfl, h⟩
    | cons x zs ih =>
      intro e hx h
      rw [f_cons]
      refine (hs ys x zs e hx h).mono fun p hp => ?_
      obtain ⟨h1, h2⟩ := hp
      rw [h1]
      exact ih (ys ++ [x]) p.2 (by rw [hx]; simp) h2
  exact key [] xs e rfl h0
theorem small_log {m : Int} (h0 : 0 < m) (h1 : m < 2 ^ 60) : m.natAbs.log2 < 9000 := by
  have h : m.natAbs < 2 ^ 60 := by omega
  have h2 : m.natAbs ≠ 0 := by omega
  have := (Nat.log2_lt h2).mpr h
  omega
theorem ne_sts {ws : List Str} {Q : Bool → Prop} (h : ∀ w ∈ ws, PyData.strOk w = true) (k : Q (!decide (ws = []))) : Wp (cmD .ne (O.view (.lst (sts ws))) (O.view (.lst []))) Q := by
  have e : eqD (O.view (.lst (sts ws))) (O.view (.lst [])) = .ok (decide (ws = [])) := by
    show eqD (.lst (views (sts ws))) (.lst (([] : List Str).map D.str)) = _
    rw [views_sts]
    exact eq_lsts h fun w hw => (by cases hw)
  show Wp (eqD _ _ >>= fun r => pure (!r)) _
  rw [e]
  exact wp_ok.mpr k
theorem notin_sts {w : Str} {ws : List Str} {Q : Bool → Prop} (k : Q (!decide (w ∈ ws))) : Wp (cmD .notIn (.str w) (O.view (.lst (sts ws)))) Q := by
  have e : inD (.str w) (O.view (.lst (sts ws))) = .ok (decide (w ∈ ws)) := by
    show inD (.str w) (.lst (views (sts ws))) = _
    rw [views_sts]
    exact in_lst w ws
  show Wp (inD _ _ >>= fun r => pure (!r)) _
  rw [e]
  exact wp_ok.mpr k
theorem ix_sts {ws : List Str} {r : Int} {Q : D → Prop} (h0 : 0 ≤ r) (h1 : r < (ws.length : Int)) (k : ∀ w, w ∈ ws → Q (.str w)) : Wp (ixD (O.view (.lst (sts ws))) (.int r)) Q := by
  show Wp (ixD (.lst (views (sts ws))) (.int r)) Q
  rw [views_sts]
  refine ix_lst_ok h0 (by rw [List.length_map]; exact h1) fun d hd => ?_
  obtain ⟨w, hw, rfl⟩ := List.mem_map.mp hd
  exact k w hw
theorem ix_first {w : Str} {ws : List Str} {Q : D → Prop} (k : Q (.str w)) : Wp (ixD (O.view (.lst (sts (w :: ws)))) (.int 0)) Q := by
  show Wp (ixD (.lst (views (sts (w :: ws)))) (.int 0)) Q
  rw [views_sts, ix_lst, List.map_cons, at_0]
  exact wp_ok.mpr k
theorem sl_str {z : Str} {lo hi : Option Int} {Q : O → Prop} (h : z.length ≤ lim) (k : Q (.sh (.str (cutS z lo hi)))) : Wp (slD (.sh (.str z)) lo hi) Q := by
  show Wp (R.need (decide (z.length ≤ lim)) (R.ok (O.sh (D.str (cutS z lo hi))))) Q
  rw [decide_eq_true h]
  exact wp_ok.mpr k
theorem add_sts {xs ys : List Str} {Q : O → Prop} (h : xs.length + ys.length ≤ lim) (k : Q (.lst (sts (xs ++ ys)))) : Wp (opD .add (.lst (sts xs)) (.lst (sts ys))) Q := by
  have e : opD .add (.lst (sts xs)) (.lst (sts ys)) = .ok (.lst (sts (xs ++ ys))) := by
    show (match O.flat (.lst (sts xs)), O.flat (.lst (sts ys)) with
    | some (.int i), some (.int j) => .ok (.sh (.int (i + j)))
    | some (.str x), some (.str y) => R.need (decide (x.length + y.length ≤ lim)) (.ok (.sh (.str (x ++ y))))
    | some (.lst xs), some (.lst ys) => R.need (decide (xs.length + ys.length ≤ lim)) (.ok (.lst ((xs ++ ys).map O.sh)))
    | some (.tup xs), some (.tup ys) => R.need (decide (xs.length + ys.length ≤ lim)) (.ok (.sh (.tup (xs ++ ys))))
    | _, _ => .bad : R O) = _
    rw [flat_sts, flat_sts]
    show R.need (decide ((xs.map D.str).length + (ys.map D.str).length ≤ lim)) (R.ok (O.lst ((xs.map D.str ++ ys.map D.str).map O.sh))) = _
    rw [List.length_map, List.length_map, decide_eq_true h, ← List.map_append]
    rfl
  exact Wp.eq e k
theorem app_inj {x y z : Str} (h : x ++ y = x ++ z) : y = z := by
  have h2 : (x ++ y).cps.toList = (x ++ z).cps.toList := by rw [h]
  rw [app_cps, app_cps] at h2
  have h3 := List.append_cancel_left h2
  cases y
  cases z
  congr 1
  exact Array.toList_inj.mp h3
theorem ten_letters : ∀ t ∈ ten, ∃ ch, t = ⟨#[ch]⟩ ∧ letC ch := by
  intro t ht
  have key : ∀ t ∈ ten, t.cps.size = 1 ∧ t.cps.toList.all (fun ch => decide (ch ∈ letters.cps.toList)) = true := by decide +kernel
  obtain ⟨h1, h2⟩ := key t ht
  obtain ⟨a⟩ := t
  obtain ⟨l⟩ := a
  match l, h1 with
  | [ch], _ =>
    refine ⟨ch, rfl, ?_⟩
    unfold letC
    simpa using h2
theorem ten_nodup : ten.Nodup := by decide +kernel
theorem map_nodup {x : Str} : ∀ {ts : List Str}, ts.Nodup → (ts.map fun t => x ++ t).Nodup
  | [], _ => List.nodup_nil
  | t :: ts, h => by
    obtain ⟨h1, h2⟩ := List.nodup_cons.mp h
    rw [List.map_cons, List.nodup_cons]
    refine ⟨fun z => ?_, map_nodup h2⟩
    obtain ⟨u, hu, e⟩ := List.mem_map.mp z
    exact h1 (app_inj e ▸ hu)
/-- the turn's text, then it with ten endings: one of them is new -/
theorem fresh_word {s : Str} {ws : List Str} (hs : Word s) (hn : ws.length < 10) : ∃ w rest, (s :: ten.map fun t => cutS s none (some 7) ++ t).filter (fun w => !decide (w ∈ ws)) = w :: rest ∧ Word w ∧ w ∉ ws := by
  have all : ∀ w ∈ s :: ten.map fun t => cutS s none (some 7) ++ t, Word w := by
    intro w hw
    rcases List.mem_cons.mp hw with rfl | hw
    · exact hs
    · obtain ⟨t, ht, rfl⟩ := List.mem_map.mp hw
      obtain ⟨ch, rfl, hc⟩ := ten_letters t ht
      exact hs.push hc
  cases e : (s :: ten.map fun t => cutS s none (some 7) ++ t).filter (fun w => !decide (w ∈ ws)) with
  | nil =>
    have sub : ∀ w ∈ ten.map fun t => cutS s none (some 7) ++ t, w ∈ ws := by
      intro w hw
      have := List.filter_eq_nil_iff.mp e w (List.mem_cons_of_mem _ hw)
      simpa using this
    have := nodup_le (map_nodup ten_nodup) sub
    rw [List.length_map] at this
    have h10 : ten.length = 10 := rfl
    omega
  | cons w rest =>
    have hm : w ∈ (s :: ten.map fun t => cutS s none (some 7) ++ t).filter (fun w => !decide (w ∈ ws)) := by rw [e]; exact List.mem_cons_self
    obtain ⟨h1, h2⟩ := List.mem_filter.mp hm
    exact ⟨w, rest, rfl, all w h1, by simpa using h2⟩
theorem names_ok {c : Cfg} (hD : DigOk c) (hW : WordOk c) {x y z n : Int} {Q : O × List O → Prop} (h0 : 0 ≤ n) (h1 : n ≤ 10) (k : ∀ (ws : List Str) x' y' z', (ws.length : Int) = n → ws.Nodup → (∀ w ∈ ws, Word w) → Q (.sh (.tup (ws.map D.str)), [pot x' y' z', .sh (.int n)])) : Wp (runFn c fNames [pot x y z, .sh (.int n)]) Q := by
  rw [fn_wp]
  refine ⟨rfl, ?_⟩
  show sV c 2 fNames.body [some (pot x y z), some (.sh (.int n)), none, none, none, none, none] _
  unfold fNames
  dsimp only
  trivial
  show Wp (runF _ (rangeD 0 n) [some (pot x y z), some (.sh (.int n)), some (.lst (sts [])), none, none, none, none]) _
  refine (runF_at (xs := rangeD 0 n) (fun ys e => ∃ x y z ws a b d, e = [some (pot x y z), some (.sh (.int n)), some (.lst (sts ws)), a, b, d, none] ∧ ws.length = ys.length ∧ ws.Nodup ∧ ∀ w ∈ ws, Word w) ⟨x, y, z, [], none, none, none, rfl, rfl, List.nodup_nil, fun _ h => (by cases h)⟩ ?_).mono ?_
  · rintro ys q zs e hxs ⟨x2, y2, z2, ws, a, b, d, rfl, hl, hn, hw⟩
    have hlen : ws.length < 10 := by
      have := congrArg List.length hxs
      rw [rangeD_len, List.length_append, List.length_cons] at this
      omega
    refine f_b.mpr ?_
    trivial
    refine cV_0 hW.asg ?_
    trivial
    refine hW.run fun s x3 y3 z3 hs => ?_
    -- what is left of the turn, once the text stands
    have rest : ∀ (s : Str) (x y z : Int), Word s → sV c 2 ((S.asg (.var 5) (.op .add (.lst (.cons (.var 4) .nil)) (.comp [6] false (.op .add (.sl (.var 4) .nil (.int 7)) (.var 6)) (.str "abcdefghij") .nil))).seq ((S.app 2 (.ix (.comp [6] false (.var 6) (.var 5) (.cm .notIn (.var 6) (.var 2))) (.int 0))).seq S.nil))
        [some (pot x y z), some (.sh (.int n)), some (.lst (sts ws)), some (.sh q), some (.sh (.str s)), d, none] fun f e => f = .nx ∧ ∃ x y z ws a b d, e = [some (pot x y z), some (.sh (.int n)), some (.lst (sts ws)), a, b, d, none] ∧ ws.length = (ys ++ [q]).length ∧ ws.Nodup ∧ ∀ w ∈ ws, Word w := by
      intro s x y z hs
      have hs8 := hs.2.1
      trivial
      show Wp (runC _ (("abcdefghij" : Str).cps.toList.map fun ch => D.str ⟨#[ch]⟩) [some (pot x y z), some (.sh (.int n)), some (.lst (sts ws)), some (.sh q), some (.sh (.str s)), d, none]) _
      rw [ten_map]
      refine (runC_strs (fun t => some (cutS s none (some 7) ++ t)) ten fun t ht => ?_).mono fun p hp => ?_
      · obtain ⟨ch, rfl, hc⟩ := ten_letters t ht
        have h7 := (hs.push hc).2.1
        refine b_nil.mpr ?_
        trivial
        refine sl_str (by show _ ≤ 16777216; omega) ?_
        trivial
        refine wp_adds (by rw [← app_len]; show _ ≤ 16777216; omega) ?_
        trivial
        rfl
      · subst hp
        rw [filterMap_some]
        refine need_t (by rfl) ?_
        trivial
        show Wp (runC _ (views (sts (s :: ten.map fun t => cutS s none (some 7) ++ t))) [some (pot x y z), some (.sh (.int n)), some (.lst (sts ws)), some (.sh q), some (.sh (.str s)), some (.sh (.lst (views (sts (s :: ten.map fun t => cutS s none (some 7) ++ t))))), none]) _
        rw [views_sts]
        refine (runC_strs (fun w => if (!decide (w ∈ ws)) = true then some w else none) _ fun w hw => ?_).mono fun p hp => ?_
        · refine (b_cnd rfl).mpr ?_
          trivial
          refine notin_sts ?_
          trivial
          by_cases hin : w ∈ ws
          · refine br_nt hin ?_
            simp [hin]
            rfl
          · refine br_nf hin ?_
            trivial
            simp [hin]
            rfl
        · subst hp
          rw [filterMap_if]
          obtain ⟨w, rs, e0, hwd, hnew⟩ := fresh_word hs hlen
          rw [e0]
          have hlim : decide ((sts ws).length < lim) = true := decide_eq_true (by rw [sts_len]; show _ < 16777216; omega)
          refine need_t (by rfl) ?_
          trivial
          refine ix_first ?_
          trivial
          refine ⟨rfl, x, y, z, ws ++ [w], some (.sh q), some (.sh (.str s)), some (.sh (.lst ((s :: ten.map fun t => cutS s none (some 7) ++ t).map D.str))), ?_, ?_, ?_, fun u hu => ?_⟩
          · rw [← sts_app]
            rfl
          · rw [List.length_append, List.length_append, hl]
            rfl
          · exact List.nodup_append.mpr ⟨hn, by simp, fun a ha b hb => by
              rw [List.mem_singleton.mp hb]
              exact fun z => hnew (z ▸ ha)⟩
          · rcases List.mem_append.mp hu with hu | hu
            · exact hw u hu
            · rw [List.mem_singleton.mp hu]
              exact hwd
    trivial
    refine ne_sts (fun w hm => (hw w hm).ok) ?_
    trivial
    by_cases hws : ws = []
    · refine br_nt hws ?_
      refine br_f.mpr ?_
      refine s_nil.mpr ?_
      exact rest s x3 y3 z3 hs
    · refine br_nf hws ?_
      trivial
      refine cV_0 hD.asg ?_
      trivial
      refine hD.run (by decide) (by decide) fun r x4 y4 z4 g0 g1 => ?_
      trivial
      by_cases hr : r = 0
      · refine br_dt hr ?_
        trivial
        refine cV_0 hD.asg ?_
        trivial
        have hpos : 0 < ws.length := List.length_pos_iff.mpr hws
        have hv : (views (sts ws)).length = ws.length := by rw [views_sts, List.length_map]
        refine hD.run (by rw [hv]; omega) (by rw [hv]; exact small_log (by omega) (by omega)) fun r x5 y5 z5 g0 g1 => ?_
        rw [hv] at g1
        trivial
        refine ix_sts g0 g1 fun w hm => ?_
        have hw8 := (hw w hm).2.1
        have hs8 := hs.2.1
        trivial
        refine wp_adds (by show _ ≤ 16777216; omega) ?_
        trivial
        refine sl_str (by rw [app_len]; show _ ≤ 16777216; omega) ?_
        refine gt_var.mpr ?_
        refine and_lt (Nat.le_of_ble_eq_true rfl) ?_
        refine s_nil.mpr ?_
        refine rest _ x5 y5 z5 (Word.take (by rw [app_len]; have := hs.1; omega) fun ch hc => ?_)
        rw [app_cps] at hc
        rcases List.mem_append.mp hc with hc | hc
        · exact (hw w hm).2.2 ch hc
        · exact hs.2.2 ch hc
      · refine br_df hr ?_
        refine s_nil.mpr ?_
        exact rest s x4 y4 z4 hs
  · rintro ⟨fl, e⟩ ⟨e1, x2, y2, z2, ws, a, b, d, e2, hl, hn, hw⟩
    have e1 : fl = .nx := e1
    have e2 : e = [some (pot x2 y2 z2), some (.sh (.int n)), some (.lst (sts ws)), a, b, d, none] := e2
    subst e1
    subst e2
    trivial
    refine Wp.eq (a := .sh (.tup (ws.map D.str))) bl_tupL ?_
    trivial
    refine k ws _ _ _ ?_ hn hw
    rw [hl, rangeD_len]
    omega
end MP

set_option Elab.async false
set_option linter.all false
set_option maxRecDepth 100000
set_option maxHeartbeats 4000000
/-! Gen4: things in any order; words, names, rounds of the package. -/
namespace MP
open PySem L2
local macro_rules | `(tactic| trivial) => `(tactic| (repeat (first | (refine wp_mul ?_ ?_; first | exact mul_r (by decide) | exact mul_l (by decide) | exact mul_r (decide_eq_true (by constructor <;> omega)) | exact mul_l (decide_eq_true (by constructor <;> omega))) | (refine wp_fdiv ?_ ?_; first | assumption | decide | (exact div_of (by first | assumption | omega) (by assumption))) | (refine wp_mod ?_ ?_; first | assumption | decide | omega) | (refine wp_divmod ?_ ?_; first | assumption | decide | (exact div_of (by first | assumption | omega) (by assumption))) | refine Wp.eq rfl ?_ | refine (w_non).mpr ?_ | refine (w_bl).mpr ?_ | refine (w_int).mpr ?_ | refine (w_str).mpr ?_ | refine (w_glb).mpr ?_ | refine (w_var).mpr ?_ | refine (a_var).mpr ?_ | refine (t_var).mpr ?_ | refine (w_op).mpr ?_ | refine (w_neg).mpr ?_ | refine (w_cm).mpr ?_ | refine (w_ch).mpr ?_ | refine (w_and).mpr ?_ | refine (w_or).mpr ?_ | refine (t_and).mpr ?_ | refine (t_or).mpr ?_ | refine (w_not).mpr ?_ | refine (t_not).mpr ?_ | refine (w_ite).mpr ?_ | refine (w_ix).mpr ?_ | refine (o_nil).mpr ?_ | refine (w_sl).mpr ?_ | refine (w_rev).mpr ?_ | refine (k_nil).mpr ?_ | refine (g_nil).mpr ?_ | refine (k_cons).mpr ?_ | refine (g_cons).mpr ?_ | refine (k_star).mpr ?_ | refine (w_tup).mpr ?_ | refine (w_lst).mpr ?_ | refine (w_call).mpr ?_ | refine (w_callK).mpr ?_ | refine (w_bl1).mpr ?_ | refine (w_mt).mpr ?_ | refine (w_isTy).mpr ?_ | refine (w_pop).mpr ?_ | refine (i_range1).mpr ?_ | refine (i_range2).mpr ?_ | refine (i_enum).mpr ?_ | refine (i_zip).mpr ?_ | refine (w_comp).mpr ?_ | refine (gt_var).mpr ?_ | refine (gt_ix).mpr ?_ | refine (gt_tup).mpr ?_ | refine (gt_tupL).mpr ?_ | refine (gl_nil).mpr ?_ | refine (gl_cons).mpr ?_ | refine (go_nil).mpr ?_ | refine (go_cons).mpr ?_ | refine (s_nil).mpr ?_ | refine (s_seq).mpr ?_ | refine (s_expr).mpr ?_ | refine (s_app).mpr ?_ | refine (s_asg).mpr ?_ | refine (s_par).mpr ?_ | refine (s_ifs).mpr ?_ | refine (s_loop).mpr ?_ | refine (s_retV).mpr ?_ | refine (s_retN).mpr ?_ | refine (f_nil).mpr ?_ | refine (c_nil).mpr ?_ | refine (take_wp).mpr ?_ | refine (takeK_sh).mpr ?_ | refine (takeK_lst).mpr ?_ | refine (arg_wp).mpr ?_ | refine (argK_sh).mpr ?_ | refine (argK_lst).mpr ?_ | refine (bind_1).mpr ?_ | refine (bind_2).mpr ?_ | refine (lend_n).mpr ?_ | refine (lend_v).mpr ?_ | refine (lend_a).mpr ?_ | refine (left_c).mpr ?_ | refine (seeAll_c).mpr ?_ | refine (a_non).mpr ?_ | refine (t_non).mpr ?_ | refine (i_non).mpr ?_ | refine (o_non).mpr ?_ | refine (r_non).mpr ?_ | refine (a_bl).mpr ?_ | refine (t_bl).mpr ?_ | refine (i_bl).mpr ?_ | refine (o_bl).mpr ?_ | refine (r_bl).mpr ?_ | refine (a_int).mpr ?_ | refine (t_int).mpr ?_ | refine (i_int).mpr ?_ | refine (o_int).mpr ?_ | refine (r_int).mpr ?_ | refine (a_str).mpr ?_ | refine (t_str).mpr ?_ | refine (i_str).mpr ?_ | refine (o_str).mpr ?_ | refine (r_str).mpr ?_ | refine (a_glb).mpr ?_ | refine (t_glb).mpr ?_ | refine (i_glb).mpr ?_ | refine (o_glb).mpr ?_ | refine (r_glb).mpr ?_ | refine (a_op).mpr ?_ | refine (t_op).mpr ?_ | refine (i_op).mpr ?_ | refine (o_op).mpr ?_ | refine (r_op).mpr ?_ | refine (a_neg).mpr ?_ | refine (t_neg).mpr ?_ | refine (i_neg).mpr ?_ | refine (o_neg).mpr ?_ | refine (r_neg).mpr ?_ | refine (a_cm).mpr ?_ | refine (t_cm).mpr ?_ | refine (i_cm).mpr ?_ | refine (o_cm).mpr ?_ | refine (r_cm).mpr ?_ | refine (a_ch).mpr ?_ | refine (t_ch).mpr ?_ | refine (i_ch).mpr ?_ | refine (o_ch).mpr ?_ | refine (r_ch).mpr ?_ | refine (a_and).mpr ?_ | refine (i_and).mpr ?_ | refine (o_and).mpr ?_ | refine (r_and).mpr ?_ | refine (a_or).mpr ?_ | refine (i_or).mpr ?_ | refine (o_or).mpr ?_ | refine (r_or).mpr ?_ | refine (a_not).mpr ?_ | refine (i_not).mpr ?_ | refine (o_not).mpr ?_ | refine (r_not).mpr ?_ | refine (a_ite).mpr ?_ | refine (i_ite).mpr ?_ | refine (o_ite).mpr ?_ | refine (r_ite).mpr ?_ | refine (a_ix).mpr ?_ | refine (t_ix).mpr ?_ | refine (i_ix).mpr ?_ | refine (o_ix).mpr ?_ | refine (r_ix).mpr ?_ | refine (a_sl).mpr ?_ | refine (t_sl).mpr ?_ | refine (i_sl).mpr ?_ | refine (o_sl).mpr ?_ | refine (r_sl).mpr ?_ | refine (a_rev).mpr ?_ | refine (t_rev).mpr ?_ | refine (i_rev).mpr ?_ | refine (o_rev).mpr ?_ | refine (r_rev).mpr ?_ | refine (a_tup).mpr ?_ | refine (t_tup).mpr ?_ | refine (i_tup).mpr ?_ | refine (o_tup).mpr ?_ | refine (r_tup).mpr ?_ | refine (a_lst).mpr ?_ | refine (t_lst).mpr ?_ | refine (i_lst).mpr ?_ | refine (o_lst).mpr ?_ | refine (r_lst).mpr ?_ | refine (a_call).mpr ?_ | refine (t_call).mpr ?_ | refine (i_call).mpr ?_ | refine (o_call).mpr ?_ | refine (r_call).mpr ?_ | refine (a_callK).mpr ?_ | refine (t_callK).mpr ?_ | refine (i_callK).mpr ?_ | refine (o_callK).mpr ?_ | refine (r_callK).mpr ?_ | refine (a_bl1).mpr ?_ | refine (t_bl1).mpr ?_ | refine (i_bl1).mpr ?_ | refine (o_bl1).mpr ?_ | refine (r_bl1).mpr ?_ | refine (a_mt).mpr ?_ | refine (t_mt).mpr ?_ | refine (i_mt).mpr ?_ | refine (o_mt).mpr ?_ | refine (r_mt).mpr ?_ | refine (a_isTy).mpr ?_ | refine (t_isTy).mpr ?_ | refine (i_isTy).mpr ?_ | refine (o_isTy).mpr ?_ | refine (r_isTy).mpr ?_ | refine (a_pop).mpr ?_ | refine (t_pop).mpr ?_ | refine (i_pop).mpr ?_ | refine (o_pop).mpr ?_ | refine (r_pop).mpr ?_ | refine (a_comp).mpr ?_ | refine (t_comp).mpr ?_ | refine (i_comp).mpr ?_ | refine (o_comp).mpr ?_ | refine (r_comp).mpr ?_ | refine (i_var).mpr ?_ | refine (o_var).mpr ?_ | (refine and_lt ?_ ?_; exact Nat.le_of_ble_eq_true rfl) | (refine need_t ?_ ?_; first | (with_reducible assumption) | (exact decide_eq_true (by omega)) | rfl | decide | exact ixOk_str | exact ixOk_int | omega) | refine br_t.mpr ?_ | refine br_f.mpr ?_ | (refine br_dt ?_ ?_; first | assumption | omega) | (refine br_df ?_ ?_; first | assumption | omega) | (refine br_nt ?_ ?_; first | assumption | omega) | (refine br_nf ?_ ?_; first | assumption | omega))))
def fMixed : Fn := ⟨2, 5, [],
  (.seq (.par (.cons (.var 2) (.cons (.var 3) .nil)) (.cons (.bl1 .list (.cons (.var 1) .nil)) (.cons (.lst .nil) .nil)))
    (.seq (.loop [4] false (.range1 (.bl1 .len (.cons (.var 1) .nil))) (.seq (.app 3 (.pop 2 (.call 1 (.cons (.var 0) (.cons (.bl1 .len (.cons (.var 2) .nil)) .nil)))))
    .nil))
    (.seq (.ret (.var 3))
    .nil)))⟩
structure MixedOk (c : Cfg) : Prop where
  asg : c.asg 9 = []
  run : ∀ {x y z : Int} {ds : List D} {Q : O × List O → Prop}, ds.length ≤ 1000000 → (∀ (es : List D) x' y' z', es.Perm ds → Q (.lst (es.map O.sh), [pot x' y' z', .lst (ds.map O.sh)])) → Wp (c.call 9 [pot x y z, .lst (ds.map O.sh)]) Q
theorem pop_ok {ds : List D} {r : Int} {Q : O × List O → Prop} (h0 : 0 ≤ r) (h1 : r < (ds.length : Int)) (hs : ds.length ≤ 1000000) (k : ∀ d l1 l2, ds = l1 ++ d :: l2 → Q (.sh d, (l1 ++ l2).map O.sh)) : Wp (popR (ds.map O.sh) r) Q := by
  have hi : r.toNat < ds.length := by omega
  have e1 : seqIndex? r (ds.map O.sh).length = some r.toNat := by
    unfold seqIndex?
    rw [List.length_map]
    simp only [show ¬ r < 0 by omega, if_false]
    have : (decide (0 ≤ r) && decide (r < (ds.length : Int))) = true := by simp [h0, h1]
    rw [this]
    rfl
  have e2 : (ds.map O.sh)[r.toNat]? = some (.sh ds[r.toNat]) := by simp [hi]
  have e3 : (ds.map O.sh).eraseIdx r.toNat = (ds.take r.toNat ++ ds.drop (r.toNat + 1)).map O.sh := by
    rw [List.eraseIdx_eq_take_drop_succ, ← List.map_take, ← List.map_drop, ← List.map_append]
  have e4 : popR (ds.map O.sh) r = .ok (.sh ds[r.toNat], (ds.take r.toNat ++ ds.drop (r.toNat + 1)).map O.sh) := by
    unfold popR
    have : (decide (-(2 ^ 63) ≤ r) && decide (r < 2 ^ 63)) = true := by
      rw [Bool.and_eq_true, decide_eq_true_eq, decide_eq_true_eq]
      omega
    rw [this, e1]
    show (do let v ← R.of ((ds.map O.sh)[r.toNat]?); pure (v, (ds.map O.sh).eraseIdx r.toNat) : R (O × List O)) = _
    rw [e2, e3]
    rfl
  refine Wp.eq e4 (k _ _ _ ?_)
  rw [← List.drop_eq_getElem_cons hi, List.take_append_drop]
theorem mixed_ok {c : Cfg} (hD : DigOk c) {x y z : Int} {ds : List D} {Q : O × List O → Prop} (hs : ds.length ≤ 1000000) (k : ∀ (es : List D) x' y' z', es.Perm ds → Q (.lst (es.map O.sh), [pot x' y' z', .lst (ds.map O.sh)])) : Wp (runFn c fMixed [pot x y z, .lst (ds.map O.sh)]) Q := by
  rw [fn_wp]
  refine ⟨rfl, ?_⟩
  show sV c 2 fMixed.body [some (pot x y z), some (.lst (ds.map O.sh)), none, none, none] _
  unfold fMixed
  dsimp only
  trivial
  have hv : (views (ds.map O.sh)).length = ds.length := by rw [views_sh]
  have hrg : rangeOk 0 ((views (ds.map O.sh)).length : Int) = true := decide_eq_true (by rw [hv]; omega)
  refine Wp.eq (a := .lst (ds.map O.sh)) bl_lstL ?_
  trivial
  rw [hv]
  refine (runF_at (xs := rangeD 0 (ds.length : Int)) (fun ys e => ∃ x y z lf fd a, e = [some (pot x y z), some (.lst (ds.map O.sh)), some (.lst (lf.map O.sh)), some (.lst (fd.map O.sh)), a] ∧ (fd ++ lf).Perm ds ∧ fd.length = ys.length) ⟨x, y, z, ds, [], none, rfl, List.Perm.refl _, rfl⟩ ?_).mono ?_
  · rintro ys q zs e hxs ⟨x2, y2, z2, lf, fd, a, rfl, hp, hl⟩
    have hlen : fd.length < ds.length := by
      have := congrArg List.length hxs
      rw [rangeD_len, List.length_append, List.length_cons] at this
      omega
    have hpl := hp.length_eq
    rw [List.length_append] at hpl
    have hv2 : (views (lf.map O.sh)).length = lf.length := by rw [views_sh]
    refine f_b.mpr ?_
    trivial
    refine cV_0 hD.asg ?_
    trivial
    refine hD.run (by rw [hv2]; omega) (by rw [hv2]; exact small_log (by omega) (by omega)) fun r x3 y3 z3 g0 g1 => ?_
    rw [hv2] at g1
    trivial
    refine pop_ok g0 g1 (by omega) fun d l1 l2 e0 => ?_
    have hlim : decide ((fd.map O.sh).length < lim) = true := decide_eq_true (by rw [List.length_map]; show _ < 16777216; omega)
    trivial
    refine ⟨rfl, x3, y3, z3, l1 ++ l2, fd ++ [d], some (.sh q), ?_, ?_, ?_⟩
    · rw [List.map_append (l₁ := fd)]
      rfl
    · refine List.Perm.trans ?_ hp
      rw [e0, List.append_assoc]
      show (fd ++ (d :: (l1 ++ l2))).Perm (fd ++ (l1 ++ d :: l2))
      exact List.Perm.append_left _ List.perm_middle.symm
    · rw [List.length_append, List.length_append, hl]
      rfl
  · rintro ⟨fl, e⟩ ⟨e1, x2, y2, z2, lf, fd, a, e2, hp, hl⟩
    have e1 : fl = .nx := e1
    have e2 : e = [some (pot x2 y2 z2), some (.lst (ds.map O.sh)), some (.lst (lf.map O.sh)), some (.lst (fd.map O.sh)), a] := e2
    subst e1
    subst e2
    have hpl := hp.length_eq
    rw [List.length_append, hl, rangeD_len] at hpl
    have h0 : lf = [] := List.eq_nil_of_length_eq_zero (by omega)
    subst h0
    rw [List.append_nil] at hp
    trivial
    exact k fd _ _ _ hp
/-! ### words -/
def fIsWord : Fn := ⟨1, 2, [],
  (.seq (.ret (.and (.isTy .str (.var 0)) (.and (.ch .le .le (.int 1) (.bl1 .len (.cons (.var 0) .nil)) (.glb 3)) (.bl1 .all (.cons (.comp [1] false (.cm .isIn (.var 1) (.glb 4)) (.var 0) .nil) .nil)))))
    .nil)⟩
structure Globs (c : Cfg) : Prop where
  longest : c.glob 3 = .int 8
  letters : c.glob 4 = .str letters
  most : c.glob 7 = .int 9
structure IsWordOk (c : Cfg) : Prop where
  asg : c.asg 5 = []
  run : ∀ {s : Str} {Q : O × List O → Prop}, Word s → Q (.sh (.bl true), [.sh (.str s)]) → Wp (c.call 5 [.sh (.str s)]) Q
theorem runC_trues {bd : D → En → R (Option O × En)} {e0 : En} : ∀ (ds : List D), (∀ d ∈ ds, Wp (bd d e0) fun p => p = (some (.sh (.bl true)), e0)) → Wp (runC bd ds e0) fun p => p = (ds.map fun _ => .sh (.bl true), e0)
  | [], _ => by
    rw [c_nil]
    rfl
  | d :: ds, h => by
    rw [c_cons]
    refine (h d List.mem_cons_self).mono fun p hp => ?_
    subst hp
    refine (runC_trues ds fun u hu => h u (List.mem_cons_of_mem _ hu)).mono fun q hq => ?_
    subst hq
    rfl
theorem all_trues {ds : List D} {Q : O → Prop} (k : Q (.sh (.bl true))) : Wp (blD .all [.lst (ds.map fun _ => O.sh (.bl true))]) Q := by
  have e : ∀ ds : List D, views (ds.map fun _ => O.sh (.bl true)) = (ds.map fun _ => true).map D.bl := by
    intro ds
    rw [views_map, List.map_map, List.map_map]
    rfl
  have e2 : blD .all [.lst (ds.map fun _ => O.sh (.bl true))] = .ok (.sh (.bl true)) := by
    show ((R.of (blsD (views (ds.map fun _ => O.sh (.bl true))))).bind fun ns => R.ok (O.sh (.bl (ns.all id)))) = _
    rw [e, blsD_map]
    show R.ok (O.sh (.bl ((ds.map fun _ => true).all id))) = _
    rw [List.all_map]
    simp
  exact Wp.eq e2 k
theorem len_str {s : Str} {Q : O → Prop} (h : s.length ≤ lim) (k : Q (.sh (.int s.length))) : Wp (blD .len [.sh (.str s)]) Q := by
  show Wp (R.need (decide (s.length ≤ lim)) (R.ok (O.sh (.int s.length)))) Q
  rw [decide_eq_true h]
  exact wp_ok.mpr k
/-- a sign within a text -/
theorem in_str {ch : Nat} {z : Str} {Q : Bool → Prop} (h : ch ∈ z.cps.toList) (k : Q true) : Wp (cmD .isIn (.str ⟨#[ch]⟩) (.str z)) Q := by
  show Wp (R.ok (decide (ch ∈ z.cps.toList))) Q
  rw [decide_eq_true h]
  exact wp_ok.mpr k
theorem isWord_ok {c : Cfg} (hG : Globs c) {s : Str} {Q : O × List O → Prop} (hs : Word s) (k : Q (.sh (.bl true), [.sh (.str s)])) : Wp (runFn c fIsWord [.sh (.str s)]) Q := by
  have h1 := hs.1
  have h2 := hs.2.1
  rw [fn_wp]
  refine ⟨rfl, ?_⟩
  show sV c 1 fIsWord.body [some (.sh (.str s)), none] _
  unfold fIsWord
  dsimp only
  trivial
  refine len_str (by show _ ≤ 16777216; omega) ?_
  trivial
  rw [hG.longest]
  trivial
  show Wp (runC _ (s.cps.toList.map fun ch => D.str ⟨#[ch]⟩) [some (.sh (.str s)), none]) _
  refine (runC_trues _ fun d hd => ?_).mono fun p hp => ?_
  · obtain ⟨ch, hch, rfl⟩ := List.mem_map.mp hd
    refine b_nil.mpr ?_
    trivial
    rw [hG.letters]
    refine in_str (hs.2.2 ch hch) ?_
    trivial
    rfl
  · subst hp
    refine need_t (decide_eq_true ?_) ?_
    · rw [List.length_map]
      show s.cps.toList.length ≤ 16777216
      rw [Array.length_toList]
      show s.length ≤ _
      omega
    · trivial
      refine all_trues ?_
      trivial
      exact k
end MP

set_option Elab.async false
set_option linter.all false
set_option maxRecDepth 100000
set_option maxHeartbeats 4000000
/-! Gen5: names and rounds of the package. -/
namespace MP
open PySem L2
local macro_rules | `(tactic| trivial) => `(tactic| (repeat (first | (refine wp_mul ?_ ?_; first | exact mul_r (by decide) | exact mul_l (by decide) | exact mul_r (decide_eq_true (by constructor <;> omega)) | exact mul_l (decide_eq_true (by constructor <;> omega))) | (refine wp_fdiv ?_ ?_; first | assumption | decide | (exact div_of (by first | assumption | omega) (by assumption))) | (refine wp_mod ?_ ?_; first | assumption | decide | omega) | (refine wp_divmod ?_ ?_; first | assumption | decide | (exact div_of (by first | assumption | omega) (by assumption))) | refine Wp.eq rfl ?_ | refine (w_non).mpr ?_ | refine (w_bl).mpr ?_ | refine (w_int).mpr ?_ | refine (w_str).mpr ?_ | refine (w_glb).mpr ?_ | refine (w_var).mpr ?_ | refine (a_var).mpr ?_ | refine (t_var).mpr ?_ | refine (w_op).mpr ?_ | refine (w_neg).mpr ?_ | refine (w_cm).mpr ?_ | refine (w_ch).mpr ?_ | refine (w_and).mpr ?_ | refine (w_or).mpr ?_ | refine (t_and).mpr ?_ | refine (t_or).mpr ?_ | refine (w_not).mpr ?_ | refine (t_not).mpr ?_ | refine (w_ite).mpr ?_ | refine (w_ix).mpr ?_ | refine (o_nil).mpr ?_ | refine (w_sl).mpr ?_ | refine (w_rev).mpr ?_ | refine (k_nil).mpr ?_ | refine (g_nil).mpr ?_ | refine (k_cons).mpr ?_ | refine (g_cons).mpr ?_ | refine (k_star).mpr ?_ | refine (w_tup).mpr ?_ | refine (w_lst).mpr ?_ | refine (w_call).mpr ?_ | refine (w_callK).mpr ?_ | refine (w_bl1).mpr ?_ | refine (w_mt).mpr ?_ | refine (w_isTy).mpr ?_ | refine (w_pop).mpr ?_ | refine (i_range1).mpr ?_ | refine (i_range2).mpr ?_ | refine (i_enum).mpr ?_ | refine (i_zip).mpr ?_ | refine (w_comp).mpr ?_ | refine (gt_var).mpr ?_ | refine (gt_ix).mpr ?_ | refine (gt_tup).mpr ?_ | refine (gt_tupL).mpr ?_ | refine (gl_nil).mpr ?_ | refine (gl_cons).mpr ?_ | refine (go_nil).mpr ?_ | refine (go_cons).mpr ?_ | refine (s_nil).mpr ?_ | refine (s_seq).mpr ?_ | refine (s_expr).mpr ?_ | refine (s_app).mpr ?_ | refine (s_asg).mpr ?_ | refine (s_par).mpr ?_ | refine (s_ifs).mpr ?_ | refine (s_loop).mpr ?_ | refine (s_retV).mpr ?_ | refine (s_retN).mpr ?_ | refine (f_nil).mpr ?_ | refine (c_nil).mpr ?_ | refine (take_wp).mpr ?_ | refine (takeK_sh).mpr ?_ | refine (takeK_lst).mpr ?_ | refine (arg_wp).mpr ?_ | refine (argK_sh).mpr ?_ | refine (argK_lst).mpr ?_ | refine (bind_1).mpr ?_ | refine (bind_2).mpr ?_ | refine (lend_n).mpr ?_ | refine (lend_v).mpr ?_ | refine (lend_a).mpr ?_ | refine (left_c).mpr ?_ | refine (seeAll_c).mpr ?_ | refine (a_non).mpr ?_ | refine (t_non).mpr ?_ | refine (i_non).mpr ?_ | refine (o_non).mpr ?_ | refine (r_non).mpr ?_ | refine (a_bl).mpr ?_ | refine (t_bl).mpr ?_ | refine (i_bl).mpr ?_ | refine (o_bl).mpr ?_ | refine (r_bl).mpr ?_ | refine (a_int).mpr ?_ | refine (t_int).mpr ?_ | refine (i_int).mpr ?_ | refine (o_int).mpr ?_ | refine (r_int).mpr ?_ | refine (a_str).mpr ?_ | refine (t_str).mpr ?_ | refine (i_str).mpr ?_ | refine (o_str).mpr ?_ | refine (r_str).mpr ?_ | refine (a_glb).mpr ?_ | refine (t_glb).mpr ?_ | refine (i_glb).mpr ?_ | refine (o_glb).mpr ?_ | refine (r_glb).mpr ?_ | refine (a_op).mpr ?_ | refine (t_op).mpr ?_ | refine (i_op).mpr ?_ | refine (o_op).mpr ?_ | refine (r_op).mpr ?_ | refine (a_neg).mpr ?_ | refine (t_neg).mpr ?_ | refine (i_neg).mpr ?_ | refine (o_neg).mpr ?_ | refine (r_neg).mpr ?_ | refine (a_cm).mpr ?_ | refine (t_cm).mpr ?_ | refine (i_cm).mpr ?_ | refine (o_cm).mpr ?_ | refine (r_cm).mpr ?_ | refine (a_ch).mpr ?_ | refine (t_ch).mpr ?_ | refine (i_ch).mpr ?_ | refine (o_ch).mpr ?_ | refine (r_ch).mpr ?_ | refine (a_and).mpr ?_ | refine (i_and).mpr ?_ | refine (o_and).mpr ?_ | refine (r_and).mpr ?_ | refine (a_or).mpr ?_ | refine (i_or).mpr ?_ | refine (o_or).mpr ?_ | refine (r_or).mpr ?_ | refine (a_not).mpr ?_ | refine (i_not).mpr ?_ | refine (o_not).mpr ?_ | refine (r_not).mpr ?_ | refine (a_ite).mpr ?_ | refine (i_ite).mpr ?_ | refine (o_ite).mpr ?_ | refine (r_ite).mpr ?_ | refine (a_ix).mpr ?_ | refine (t_ix).mpr ?_ | refine (i_ix).mpr ?_ | refine (o_ix).mpr ?_ | refine (r_ix).mpr ?_ | refine (a_sl).mpr ?_ | refine (t_sl).mpr ?_ | refine (i_sl).mpr ?_ | refine (o_sl).mpr ?_ | refine (r_sl).mpr ?_ | refine (a_rev).mpr ?_ | refine (t_rev).mpr ?_ | refine (i_rev).mpr ?_ | refine (o_rev).mpr ?_ | refine (r_rev).mpr ?_ | refine (a_tup).mpr ?_ | refine (t_tup).mpr ?_ | refine (i_tup).mpr ?_ | refine (o_tup).mpr ?_ | refine (r_tup).mpr ?_ | refine (a_lst).mpr ?_ | refine (t_lst).mpr ?_ | refine (i_lst).mpr ?_ | refine (o_lst).mpr ?_ | refine (r_lst).mpr ?_ | refine (a_call).mpr ?_ | refine (t_call).mpr ?_ | refine (i_call).mpr ?_ | refine (o_call).mpr ?_ | refine (r_call).mpr ?_ | refine (a_callK).mpr ?_ | refine (t_callK).mpr ?_ | refine (i_callK).mpr ?_ | refine (o_callK).mpr ?_ | refine (r_callK).mpr ?_ | refine (a_bl1).mpr ?_ | refine (t_bl1).mpr ?_ | refine (i_bl1).mpr ?_ | refine (o_bl1).mpr ?_ | refine (r_bl1).mpr ?_ | refine (a_mt).mpr ?_ | refine (t_mt).mpr ?_ | refine (i_mt).mpr ?_ | refine (o_mt).mpr ?_ | refine (r_mt).mpr ?_ | refine (a_isTy).mpr ?_ | refine (t_isTy).mpr ?_ | refine (i_isTy).mpr ?_ | refine (o_isTy).mpr ?_ | refine (r_isTy).mpr ?_ | refine (a_pop).mpr ?_ | refine (t_pop).mpr ?_ | refine (i_pop).mpr ?_ | refine (o_pop).mpr ?_ | refine (r_pop).mpr ?_ | refine (a_comp).mpr ?_ | refine (t_comp).mpr ?_ | refine (i_comp).mpr ?_ | refine (o_comp).mpr ?_ | refine (r_comp).mpr ?_ | refine (i_var).mpr ?_ | refine (o_var).mpr ?_ | (refine and_lt ?_ ?_; exact Nat.le_of_ble_eq_true rfl) | (refine need_t ?_ ?_; first | (with_reducible assumption) | (exact decide_eq_true (by omega)) | rfl | decide | exact ixOk_str | exact ixOk_int | omega) | refine br_t.mpr ?_ | refine br_f.mpr ?_ | (refine br_dt ?_ ?_; first | assumption | omega) | (refine br_df ?_ ?_; first | assumption | omega) | (refine br_nt ?_ ?_; first | assumption | omega) | (refine br_nf ?_ ?_; first | assumption | omega))))
theorem isWord_run {c : Cfg} (h : IsWordOk c) {s : Str} {Q : O × List O → Prop} (hs : Word s) (k : Q (.sh (.bl true), [.sh (.str s)])) : Wp (c.call 5 [.sh (.str s)]) Q := h.run hs k
def fAreNames : Fn := ⟨3, 5, [],
  (.seq (.ifs (.or (.not (.isTy .tuple (.var 0))) (.or (.not (.ch .le .le (.var 1) (.bl1 .len (.cons (.var 0) .nil)) (.var 2))) (.not (.bl1 .all (.cons (.comp [3] false (.call 5 (.cons (.var 3) .nil)) (.var 0) .nil) .nil))))) (.seq (.ret (.bl false))
    .nil) .nil)
    (.seq (.ret (.bl1 .all (.cons (.comp [4, 3] true (.cm .notIn (.var 3) (.sl (.var 0) .nil (.var 4))) (.enum (.var 0)) .nil) .nil)))
    .nil))⟩
def tupS (ws : List Str) : O := .sh (.tup (ws.map D.str))
/-- names that the package takes -/
structure NamesAre (ws : List Str) (lo hi : Int) : Prop where
  nd : ws.Nodup
  word : ∀ w ∈ ws, Word w
  lo : lo ≤ (ws.length : Int)
  hi : (ws.length : Int) ≤ hi
structure AreNamesOk (c : Cfg) : Prop where
  asg : c.asg 6 = []
  run : ∀ {ws : List Str} {lo hi : Int} {Q : O × List O → Prop}, NamesAre ws lo hi → hi ≤ 1000000 → Q (.sh (.bl true), [tupS ws, .sh (.int lo), .sh (.int hi)]) → Wp (c.call 6 [tupS ws, .sh (.int lo), .sh (.int hi)]) Q
theorem cut_nat {α : Type} (xs : List α) {k : Nat} : cut xs none (some (k : Int)) = xs.take k := by
  unfold cut
  rw [HT.sIx_nat, HT.sIx_none, List.drop_zero, Nat.sub_zero]
  by_cases h : k ≤ xs.length
  · rw [Nat.min_eq_left h]
  · rw [Nat.min_eq_right (by omega), List.take_of_length_le (by omega), List.take_of_length_le (by omega)]
theorem enum_mem {ws : List Str} {d : D} (h : d ∈ enumD (ws.map D.str)) : ∃ i w, d = .tup [.int (i : Nat), .str w] ∧ ws[i]? = some w := by
  unfold enumD at h
  obtain ⟨p, hp, rfl⟩ := List.mem_map.mp h
  obtain ⟨x, i⟩ := p
  have h2 := List.mem_zipIdx' hp
  obtain ⟨h3, h4⟩ := h2
  simp at h3 h4
  exact ⟨i, ws[i], by rw [h4], by simp [h3]⟩
theorem notin_before {ws : List Str} (nd : ws.Nodup) {i : Nat} {w : Str} (h : ws[i]? = some w) : w ∉ ws.take i := by
  intro z
  obtain ⟨j, hj, e⟩ := List.mem_iff_getElem.mp z
  rw [List.length_take] at hj
  rw [List.getElem_take] at e
  obtain ⟨hi, e2⟩ := List.getElem?_eq_some_iff.mp h
  have := (List.getElem_inj nd).mp (e.trans e2.symm)
  omega
theorem notin_tup {w : Str} {us : List Str} {Q : Bool → Prop} (k : Q (!decide (w ∈ us))) : Wp (cmD .notIn (.str w) (.tup (us.map D.str))) Q := by
  show Wp (inD _ _ >>= fun r => pure (!r)) _
  rw [in_tup]
  exact wp_ok.mpr k
theorem isin_tup {w : Str} {us : List Str} {Q : Bool → Prop} (k : Q (decide (w ∈ us))) : Wp (cmD .isIn (.str w) (.tup (us.map D.str))) Q := Wp.eq (r := cmD .isIn (.str w) (.tup (us.map D.str))) (in_tup w us) k
theorem areNames_ok {c : Cfg} (hI : IsWordOk c) {ws : List Str} {lo hi : Int} {Q : O × List O → Prop} (hn : NamesAre ws lo hi) (hb : hi ≤ 1000000) (k : Q (.sh (.bl true), [tupS ws, .sh (.int lo), .sh (.int hi)])) : Wp (runFn c fAreNames [tupS ws, .sh (.int lo), .sh (.int hi)]) Q := by
  have h1 := hn.lo
  have h2 := hn.hi
  have hlen : ((ws.map D.str).length : Int) = ws.length := by rw [List.length_map]
  rw [fn_wp]
  refine ⟨rfl, ?_⟩
  show sV c 3 fAreNames.body [some (.sh (.tup (ws.map D.str))), some (.sh (.int lo)), some (.sh (.int hi)), none, none] _
  unfold fAreNames
  dsimp only
  trivial
  show Wp (runC _ (ws.map D.str) [some (.sh (.tup (ws.map D.str))), some (.sh (.int lo)), some (.sh (.int hi)), none, none]) _
  refine (runC_trues _ fun d hd => ?_).mono fun p hp => ?_
  · obtain ⟨w, hw, rfl⟩ := List.mem_map.mp hd
    refine b_nil.mpr ?_
    trivial
    refine cV_0 hI.asg ?_
    trivial
    refine hI.run (hn.word w hw) ?_
    trivial
    rfl
  · subst hp
    refine need_t (decide_eq_true ?_) ?_
    · rw [List.length_map]
      show _ ≤ 16777216
      omega
    · trivial
      refine all_trues ?_
      trivial
      show Wp (runC _ (enumD (ws.map D.str)) [some (.sh (.tup (ws.map D.str))), some (.sh (.int lo)), some (.sh (.int hi)), none, none]) _
      refine (runC_trues _ fun d hd => ?_).mono fun p hp => ?_
      · obtain ⟨i, w, rfl, hw⟩ := enum_mem hd
        refine b_nil.mpr ?_
        trivial
        have e : cut (ws.map D.str) none (some (i : Int)) = (ws.take i).map D.str := by rw [cut_nat, List.map_take]
        show Wp (cmD .notIn (.str w) (.tup (cut (ws.map D.str) none (some (i : Int))))) _
        rw [e]
        refine notin_tup ?_
        rw [decide_eq_false (notin_before hn.nd hw)]
        trivial
        rfl
      · subst hp
        refine need_t (decide_eq_true ?_) ?_
        · rw [enum_len, List.length_map]
          show _ ≤ 16777216
          omega
        · trivial
          refine all_trues ?_
          trivial
          exact k
/-! ### rounds -/
def fRound : Fn := ⟨2, 3, [],
  (.seq (.ifs (.not (.call 6 (.cons (.var 0) (.cons (.int 1) (.cons (.glb 7) .nil))))) (.seq .never
    .nil) .nil)
    (.seq (.ifs (.or (.not (.call 6 (.cons (.var 1) (.cons (.int 1) (.cons (.glb 7) .nil))))) (.not (.bl1 .all (.cons (.comp [2] false (.cm .isIn (.var 2) (.var 0)) (.var 1) .nil) .nil)))) (.seq .never
    .nil) .nil)
    (.seq (.ret (.bl1 .tuple (.cons (.comp [2] false (.var 2) (.var 0) (.cm .isIn (.var 2) (.var 1))) .nil)))
    .nil)))⟩
def roundL (ws us : List Str) : List Str := ws.filter fun w => decide (w ∈ us)
structure RoundOk (c : Cfg) : Prop where
  asg : c.asg 8 = []
  run : ∀ {ws us : List Str} {Q : O × List O → Prop}, NamesAre ws 1 9 → NamesAre us 1 9 → (∀ u ∈ us, u ∈ ws) → Q (tupS (roundL ws us), [tupS ws, tupS us]) → Wp (c.call 8 [tupS ws, tupS us]) Q
theorem round_ok {c : Cfg} (hG : Globs c) (hA : AreNamesOk c) {ws us : List Str} {Q : O × List O → Prop} (hw : NamesAre ws 1 9) (hu : NamesAre us 1 9) (sub : ∀ u ∈ us, u ∈ ws) (k : Q (tupS (roundL ws us), [tupS ws, tupS us])) : Wp (runFn c fRound [tupS ws, tupS us]) Q := by
  have h1 := hw.hi
  have h2 := hu.hi
  rw [fn_wp]
  refine ⟨rfl, ?_⟩
  show sV c 2 fRound.body [some (.sh (.tup (ws.map D.str))), some (.sh (.tup (us.map D.str))), none] _
  unfold fRound
  dsimp only
  trivial
  rw [hG.most]
  refine cV_0 hA.asg ?_
  trivial
  refine hA.run hw (by omega) ?_
  trivial
  rw [hG.most]
  refine cV_0 hA.asg ?_
  trivial
  refine hA.run hu (by omega) ?_
  trivial
  show Wp (runC _ (us.map D.str) [some (.sh (.tup (ws.map D.str))), some (.sh (.tup (us.map D.str))), none]) _
  refine (runC_trues _ fun d hd => ?_).mono fun p hp => ?_
  · obtain ⟨u, hm, rfl⟩ := List.mem_map.mp hd
    refine b_nil.mpr ?_
    trivial
    refine isin_tup ?_
    rw [decide_eq_true (sub u hm)]
    trivial
    rfl
  · subst hp
    refine need_t (decide_eq_true ?_) ?_
    · rw [List.length_map]
      show _ ≤ 16777216
      omega
    · trivial
      refine all_trues ?_
      trivial
      show Wp (runC _ (ws.map D.str) [some (.sh (.tup (ws.map D.str))), some (.sh (.tup (us.map D.str))), none]) _
      refine (runC_strs (fun w => if decide (w ∈ us) = true then some w else none) ws fun w hm => ?_).mono fun p hp => ?_
      · refine (b_cnd rfl).mpr ?_
        trivial
        refine isin_tup ?_
        trivial
        by_cases hin : w ∈ us
        · refine br_dt hin ?_
          trivial
          simp [hin]
          rfl
        · refine br_df hin ?_
          simp [hin]
          rfl
      · subst hp
        rw [filterMap_if]
        refine need_t (decide_eq_true ?_) ?_
        · rw [List.length_map]
          show _ ≤ 16777216
          omega
        · trivial
          refine Wp.eq (a := .sh (.tup ((roundL ws us).map D.str))) bl_tupL ?_
          trivial
          exact k
end MP

set_option Elab.async false
set_option linter.all false
set_option maxRecDepth 100000
set_option maxHeartbeats 4000000
/-! Gen6: the pot of a law; what repr shows. -/
namespace MP
open PySem L2
local macro_rules | `(tactic| trivial) => `(tactic| (repeat (first | (refine wp_mul ?_ ?_; first | exact mul_r (by decide) | exact mul_l (by decide) | exact mul_r (decide_eq_true (by constructor <;> omega)) | exact mul_l (decide_eq_true (by constructor <;> omega))) | (refine wp_fdiv ?_ ?_; first | assumption | decide | (exact div_of (by first | assumption | omega) (by assumption))) | (refine wp_mod ?_ ?_; first | assumption | decide | omega) | (refine wp_divmod ?_ ?_; first | assumption | decide | (exact div_of (by first | assumption | omega) (by assumption))) | refine Wp.eq rfl ?_ | refine (w_non).mpr ?_ | refine (w_bl).mpr ?_ | refine (w_int).mpr ?_ | refine (w_str).mpr ?_ | refine (w_glb).mpr ?_ | refine (w_var).mpr ?_ | refine (a_var).mpr ?_ | refine (t_var).mpr ?_ | refine (w_op).mpr ?_ | refine (w_neg).mpr ?_ | refine (w_cm).mpr ?_ | refine (w_ch).mpr ?_ | refine (w_and).mpr ?_ | refine (w_or).mpr ?_ | refine (t_and).mpr ?_ | refine (t_or).mpr ?_ | refine (w_not).mpr ?_ | refine (t_not).mpr ?_ | refine (w_ite).mpr ?_ | refine (w_ix).mpr ?_ | refine (o_nil).mpr ?_ | refine (w_sl).mpr ?_ | refine (w_rev).mpr ?_ | refine (k_nil).mpr ?_ | refine (g_nil).mpr ?_ | refine (k_cons).mpr ?_ | refine (g_cons).mpr ?_ | refine (k_star).mpr ?_ | refine (w_tup).mpr ?_ | refine (w_lst).mpr ?_ | refine (w_call).mpr ?_ | refine (w_callK).mpr ?_ | refine (w_bl1).mpr ?_ | refine (w_mt).mpr ?_ | refine (w_isTy).mpr ?_ | refine (w_pop).mpr ?_ | refine (i_range1).mpr ?_ | refine (i_range2).mpr ?_ | refine (i_enum).mpr ?_ | refine (i_zip).mpr ?_ | refine (w_comp).mpr ?_ | refine (gt_var).mpr ?_ | refine (gt_ix).mpr ?_ | refine (gt_tup).mpr ?_ | refine (gt_tupL).mpr ?_ | refine (gl_nil).mpr ?_ | refine (gl_cons).mpr ?_ | refine (go_nil).mpr ?_ | refine (go_cons).mpr ?_ | refine (s_nil).mpr ?_ | refine (s_seq).mpr ?_ | refine (s_expr).mpr ?_ | refine (s_app).mpr ?_ | refine (s_asg).mpr ?_ | refine (s_par).mpr ?_ | refine (s_ifs).mpr ?_ | refine (s_loop).mpr ?_ | refine (s_retV).mpr ?_ | refine (s_retN).mpr ?_ | refine (f_nil).mpr ?_ | refine (c_nil).mpr ?_ | refine (take_wp).mpr ?_ | refine (takeK_sh).mpr ?_ | refine (takeK_lst).mpr ?_ | refine (arg_wp).mpr ?_ | refine (argK_sh).mpr ?_ | refine (argK_lst).mpr ?_ | refine (bind_1).mpr ?_ | refine (bind_2).mpr ?_ | refine (lend_n).mpr ?_ | refine (lend_v).mpr ?_ | refine (lend_a).mpr ?_ | refine (left_c).mpr ?_ | refine (seeAll_c).mpr ?_ | refine (a_non).mpr ?_ | refine (t_non).mpr ?_ | refine (i_non).mpr ?_ | refine (o_non).mpr ?_ | refine (r_non).mpr ?_ | refine (a_bl).mpr ?_ | refine (t_bl).mpr ?_ | refine (i_bl).mpr ?_ | refine (o_bl).mpr ?_ | refine (r_bl).mpr ?_ | refine (a_int).mpr ?_ | refine (t_int).mpr ?_ | refine (i_int).mpr ?_ | refine (o_int).mpr ?_ | refine (r_int).mpr ?_ | refine (a_str).mpr ?_ | refine (t_str).mpr ?_ | refine (i_str).mpr ?_ | refine (o_str).mpr ?_ | refine (r_str).mpr ?_ | refine (a_glb).mpr ?_ | refine (t_glb).mpr ?_ | refine (i_glb).mpr ?_ | refine (o_glb).mpr ?_ | refine (r_glb).mpr ?_ | refine (a_op).mpr ?_ | refine (t_op).mpr ?_ | refine (i_op).mpr ?_ | refine (o_op).mpr ?_ | refine (r_op).mpr ?_ | refine (a_neg).mpr ?_ | refine (t_neg).mpr ?_ | refine (i_neg).mpr ?_ | refine (o_neg).mpr ?_ | refine (r_neg).mpr ?_ | refine (a_cm).mpr ?_ | refine (t_cm).mpr ?_ | refine (i_cm).mpr ?_ | refine (o_cm).mpr ?_ | refine (r_cm).mpr ?_ | refine (a_ch).mpr ?_ | refine (t_ch).mpr ?_ | refine (i_ch).mpr ?_ | refine (o_ch).mpr ?_ | refine (r_ch).mpr ?_ | refine (a_and).mpr ?_ | refine (i_and).mpr ?_ | refine (o_and).mpr ?_ | refine (r_and).mpr ?_ | refine (a_or).mpr ?_ | refine (i_or).mpr ?_ | refine (o_or).mpr ?_ | refine (r_or).mpr ?_ | refine (a_not).mpr ?_ | refine (i_not).mpr ?_ | refine (o_not).mpr ?_ | refine (r_not).mpr ?_ | refine (a_ite).mpr ?_ | refine (i_ite).mpr ?_ | refine (o_ite).mpr ?_ | refine (r_ite).mpr ?_ | refine (a_ix).mpr ?_ | refine (t_ix).mpr ?_ | refine (i_ix).mpr ?_ | refine (o_ix).mpr ?_ | refine (r_ix).mpr ?_ | refine (a_sl).mpr ?_ | refine (t_sl).mpr ?_ | refine (i_sl).mpr ?_ | refine (o_sl).mpr ?_ | refine (r_sl).mpr ?_ | refine (a_rev).mpr ?_ | refine (t_rev).mpr ?_ | refine (i_rev).mpr ?_ | refine (o_rev).mpr ?_ | refine (r_rev).mpr ?_ | refine (a_tup).mpr ?_ | refine (t_tup).mpr ?_ | refine (i_tup).mpr ?_ | refine (o_tup).mpr ?_ | refine (r_tup).mpr ?_ | refine (a_lst).mpr ?_ | refine (t_lst).mpr ?_ | refine (i_lst).mpr ?_ | refine (o_lst).mpr ?_ | refine (r_lst).mpr ?_ | refine (a_call).mpr ?_ | refine (t_call).mpr ?_ | refine (i_call).mpr ?_ | refine (o_call).mpr ?_ | refine (r_call).mpr ?_ | refine (a_callK).mpr ?_ | refine (t_callK).mpr ?_ | refine (i_callK).mpr ?_ | refine (o_callK).mpr ?_ | refine (r_callK).mpr ?_ | refine (a_bl1).mpr ?_ | refine (t_bl1).mpr ?_ | refine (i_bl1).mpr ?_ | refine (o_bl1).mpr ?_ | refine (r_bl1).mpr ?_ | refine (a_mt).mpr ?_ | refine (t_mt).mpr ?_ | refine (i_mt).mpr ?_ | refine (o_mt).mpr ?_ | refine (r_mt).mpr ?_ | refine (a_isTy).mpr ?_ | refine (t_isTy).mpr ?_ | refine (i_isTy).mpr ?_ | refine (o_isTy).mpr ?_ | refine (r_isTy).mpr ?_ | refine (a_pop).mpr ?_ | refine (t_pop).mpr ?_ | refine (i_pop).mpr ?_ | refine (o_pop).mpr ?_ | refine (r_pop).mpr ?_ | refine (a_comp).mpr ?_ | refine (t_comp).mpr ?_ | refine (i_comp).mpr ?_ | refine (o_comp).mpr ?_ | refine (r_comp).mpr ?_ | refine (i_var).mpr ?_ | refine (o_var).mpr ?_ | (refine and_lt ?_ ?_; exact Nat.le_of_ble_eq_true rfl) | (refine need_t ?_ ?_; first | (with_reducible assumption) | (exact decide_eq_true (by omega)) | rfl | decide | exact ixOk_str | exact ixOk_int | omega) | refine br_t.mpr ?_ | refine br_f.mpr ?_ | (refine br_dt ?_ ?_; first | assumption | omega) | (refine br_df ?_ ?_; first | assumption | omega) | (refine br_nt ?_ ?_; first | assumption | omega) | (refine br_nf ?_ ?_; first | assumption | omega))))
def fPot : Fn := ⟨2, 5, [],
  (.seq (.par (.cons (.var 2) (.cons (.var 3) .nil)) (.cons (.ite (.cm .lt (.var 1) (.bl1 .len (.cons (.var 0) .nil))) (.ix (.var 0) (.var 1)) (.int 0)) (.cons (.op .add (.int 223607) (.op .mul (.int 61027) (.var 1))) .nil)))
    (.seq (.loop [4] false (.range1 (.bl1 .min (.cons (.bl1 .len (.cons (.var 0) .nil)) (.cons (.int 9) .nil)))) (.seq (.asg (.var 3) (.op .mod (.bl1 .int (.cons (.op .mul (.op .add (.op .add (.op .mul (.var 3) (.int 41011)) (.op .mul (.ix (.var 0) (.var 4)) (.int 7))) (.int 4099)) (.op .add (.op .mul (.int 2) (.var 4)) (.int 3))) .nil)) (.int 2147483423)))
    .nil))
    (.seq (.ret (.lst (.cons (.ite (.or (.cm .lt (.var 2) (.int 0)) (.cm .ge (.var 2) (.op .pow (.int 10) (.int 18)))) (.bl1 .abs (.cons (.var 2) .nil)) (.int 0)) (.cons (.op .mod (.bl1 .int (.cons (.op .add (.var 3) (.op .mul (.var 2) (.int 3001))) .nil)) (.int 2147483423)) (.cons (.int 5) .nil)))))
    .nil)))⟩
structure PotOk (c : Cfg) : Prop where
  asg : c.asg 12 = []
  run : ∀ {ns : List Int} {i : Int} {Q : O × List O → Prop}, 0 ≤ i → i ≤ 1000000 → ns.length ≤ 1000000 → (∀ x y z, Q (pot x y z, [.sh (.arr ns), .sh (.int i)])) → Wp (c.call 12 [.sh (.arr ns), .sh (.int i)]) Q
theorem ix_arr_ok {ns : List Int} {r : Int} {Q : D → Prop} (h0 : 0 ≤ r) (h1 : r < (ns.length : Int)) (k : ∀ v, Q (.int v)) : Wp (ixD (.arr ns) (.int r)) Q := by
  obtain ⟨v, h2, h3⟩ := atI_ok h0 h1
  have e : ixD (.arr ns) (.int r) = .ok (.int v) := by
    show (R.of (atI ns r)).bind (fun k => R.ok (D.int k)) = _
    rw [h3]
    rfl
  exact Wp.eq e (k v)
theorem pot_ok {c : Cfg} {ns : List Int} {i : Int} {Q : O × List O → Prop} (h0 : 0 ≤ i) (h1 : i ≤ 1000000) (h2 : ns.length ≤ 1000000) (k : ∀ x y z, Q (pot x y z, [.sh (.arr ns), .sh (.int i)])) : Wp (runFn c fPot [.sh (.arr ns), .sh (.int i)]) Q := by
  rw [fn_wp]
  refine ⟨rfl, ?_⟩
  show sV c 2 fPot.body [some (.sh (.arr ns)), some (.sh (.int i)), none, none, none] _
  unfold fPot
  dsimp only
  generalize hm : (if (9 : Int) < (ns.length : Int) then (9 : Int) else (ns.length : Int)) = m
  have hm1 : 0 ≤ m ∧ m ≤ 9 ∧ m ≤ (ns.length : Int) := by
    rw [← hm]
    split <;> omega
  have hrg : rangeOk 0 m = true := decide_eq_true (by omega)
  by_cases hi : i < (ns.length : Int)
  · trivial
    refine ix_arr_ok h0 hi fun own => ?_
    trivial
    rw [hm]
    trivial
    refine (runF_at (xs := rangeD 0 m) (fun ys e => ∃ mx a, e = [some (.sh (.arr ns)), some (.sh (.int i)), some (.sh (.int own)), some (.sh (.int mx)), a]) ⟨_, none, rfl⟩ ?_).mono ?_
    · rintro ys q zs e hxs ⟨mx, a, rfl⟩
      obtain ⟨kk, rfl, g0, g1⟩ := rangeD_mem (show q ∈ rangeD 0 m by rw [hxs]; simp)
      refine f_b.mpr ?_
      trivial
      refine ix_arr_ok g0 (by omega) fun v => ?_
      trivial
      exact ⟨rfl, _, _, rfl⟩
    · rintro ⟨fl, e⟩ ⟨e1, mx, a, e2⟩
      have e1 : fl = .nx := e1
      have e2 : e = [some (.sh (.arr ns)), some (.sh (.int i)), some (.sh (.int own)), some (.sh (.int mx)), a] := e2
      subst e1
      subst e2
      trivial
      by_cases c1 : own < 0
      · refine br_dt c1 ?_
        trivial
        exact k _ _ _
      · refine br_df c1 ?_
        trivial
        by_cases c2 : (10 ^ 18 : Int) ≤ own
        · refine br_dt c2 ?_
          trivial
          exact k _ _ _
        · refine br_df c2 ?_
          trivial
          exact k _ _ _
  · trivial
    rw [hm]
    trivial
    refine (runF_at (xs := rangeD 0 m) (fun ys e => ∃ mx a, e = [some (.sh (.arr ns)), some (.sh (.int i)), some (.sh (.int 0)), some (.sh (.int mx)), a]) ⟨_, none, rfl⟩ ?_).mono ?_
    · rintro ys q zs e hxs ⟨mx, a, rfl⟩
      obtain ⟨kk, rfl, g0, g1⟩ := rangeD_mem (show q ∈ rangeD 0 m by rw [hxs]; simp)
      refine f_b.mpr ?_
      trivial
      refine ix_arr_ok g0 (by omega) fun v => ?_
      trivial
      exact ⟨rfl, _, _, rfl⟩
    · rintro ⟨fl, e⟩ ⟨e1, mx, a, e2⟩
      have e1 : fl = .nx := e1
      have e2 : e = [some (.sh (.arr ns)), some (.sh (.int i)), some (.sh (.int 0)), some (.sh (.int mx)), a] := e2
      subst e1
      subst e2
      trivial
      exact k _ _ _
theorem from_len : ∀ (ts : List Str) (k : Nat) (acc : Str), (textFrom k acc ts).length ≤ acc.length + (ts.map fun t => t.length + 2).sum
  | [], k, acc => by
    show acc.length ≤ _
    omega
  | t :: ts, k, acc => by
    have ih := from_len ts (k + 1) (acc ++ (if k > 0 then ", " else "" : String) ++ t)
    rw [app_len, app_len] at ih
    have h2 : ((if k > 0 then ", " else "" : String) : Str).length ≤ 2 := by
      by_cases h : k > 0
      · rw [if_pos h]
        decide +kernel
      · rw [if_neg h]
        decide +kernel
    rw [List.map_cons, List.sum_cons]
    show (textFrom (k + 1) _ ts).length ≤ _
    omega
theorem tup_len (ts : List Str) : (tupleText ts).length ≤ 3 + (ts.map (·.length)).sum + ts.length * 2 := by
  unfold tupleText
  rw [app_len, app_len]
  have h1 := StrLaws.join_length_le ", " ts
  have h2 : (", " : Str).length = 2 := by decide +kernel
  have h3 : ("(" : Str).length = 1 := by decide +kernel
  have h4 : ((if ts.length == 1 then ",)" else ")" : String) : Str).length ≤ 2 := by
    cases h : ts.length == 1
    · rw [if_neg (by decide)]
      decide +kernel
    · rw [if_pos rfl]
      decide +kernel
  rw [h2] at h1
  omega
theorem shown_strs : ∀ ws : List Str, PyData.shownAll (ws.map PyData.str) = ws.map reprText
  | [] => rfl
  | w :: ws => by
    rw [List.map_cons, PyData.shownAll, shown_strs ws]
    rfl
theorem repr_word {w : Str} (h : Word w) : (reprText w).length ≤ 82 := by
  have := StrLaws.reprText_len w fun ch hc => by
    have := letter_lt (h.2.2 ch hc)
    omega
  have := h.2.1
  omega
theorem sum_le {B : Nat} : ∀ {xs : List Nat}, (∀ x ∈ xs, x ≤ B) → xs.sum ≤ xs.length * B
  | [], _ => by simp
  | x :: xs, h => by
    have h1 := h x List.mem_cons_self
    have h2 := sum_le fun y hy => h y (List.mem_cons_of_mem _ hy)
    rw [List.sum_cons, List.length_cons, Nat.add_mul]
    omega
theorem tup_shown {ws : List Str} (h : ∀ w ∈ ws, Word w) (hl : ws.length ≤ 9) : (PyData.tuple (ws.map PyData.str)).shown.length ≤ 1000 := by
  show (tupleText (PyData.shownAll (ws.map PyData.str))).length ≤ 1000
  rw [shown_strs]
  have h1 := tup_len (ws.map reprText)
  have h2 : (((ws.map reprText).map (·.length)).sum) ≤ ((ws.map reprText).map (·.length)).length * 82 := sum_le fun x hx => by
    obtain ⟨y, hy, rfl⟩ := List.mem_map.mp hx
    obtain ⟨w, hw, rfl⟩ := List.mem_map.mp hy
    exact repr_word (h w hw)
  rw [List.length_map, List.length_map] at h2
  rw [List.length_map] at h1
  omega
/-- repr of two rounds -/
theorem repr_two {ws : List Str} {Q : O → Prop} (h : ∀ w ∈ ws, Word w) (hl : ws.length ≤ 9) (k : Q (.sh (.str (PyData.list [.tuple (ws.map PyData.str), .tuple (ws.map PyData.str)]).shown))) :
    Wp (blD .repr [.lst [tupS ws, tupS ws]]) Q := by
  have e1 : D.py (.lst [.tup (ws.map D.str), .tup (ws.map D.str)]) = some (PyData.list [.tuple (ws.map PyData.str), .tuple (ws.map PyData.str)]) := by
    have e0 : D.py (.tup (ws.map D.str)) = some (.tuple (ws.map PyData.str)) := by
      show (D.py.pys (ws.map D.str)).map PyData.tuple = _
      rw [pys_strs]
      rfl
    show (D.py.pys [.tup (ws.map D.str), .tup (ws.map D.str)]).map PyData.list = _
    rw [D.py.pys, D.py.pys, e0]
    rfl
  have sh : ∀ ws : List Str, PyData.showableAll (ws.map PyData.str) = true := by
    intro ws
    induction ws with
    | nil => rfl
    | cons w ws ih => exact ih
  have e2 : PyData.showable (PyData.list [.tuple (ws.map PyData.str), .tuple (ws.map PyData.str)]) = true := by
    show (PyData.showableAll (ws.map PyData.str) && (PyData.showableAll (ws.map PyData.str) && true)) = true
    rw [sh ws]
    rfl
  have e3 : (PyData.list [.tuple (ws.map PyData.str), .tuple (ws.map PyData.str)]).depth ≤ 64 := by
    show max (PyData.depthAll (ws.map PyData.str) + 1) (max (PyData.depthAll (ws.map PyData.str) + 1) 0) + 1 ≤ 64
    rw [depth_strs]
    decide
  have e4 : (PyData.list [.tuple (ws.map PyData.str), .tuple (ws.map PyData.str)]).shown.length ≤ lim := by
    show (listText [(PyData.tuple (ws.map PyData.str)).shown, (PyData.tuple (ws.map PyData.str)).shown]).length ≤ 16777216
    unfold listText
    rw [app_len]
    have h1 := from_len [(PyData.tuple (ws.map PyData.str)).shown, (PyData.tuple (ws.map PyData.str)).shown] 0 "["
    have h2 := tup_shown h hl
    have h3 : ("[" : Str).length = 1 := by decide +kernel
    have h4 : ("]" : Str).length = 1 := by decide +kernel
    simp only [List.map_cons, List.map_nil, List.sum_cons, List.sum_nil] at h1
    omega
  have e5 : blD .repr [.lst [tupS ws, tupS ws]] = .ok (.sh (.str (PyData.list [.tuple (ws.map PyData.str), .tuple (ws.map PyData.str)]).shown)) := by
    show ((reprD (.lst [.tup (ws.map D.str), .tup (ws.map D.str)])).bind fun z => R.ok (O.sh (.str z))) = _
    have e6 : reprD (.lst [.tup (ws.map D.str), .tup (ws.map D.str)]) = .ok (PyData.list [.tuple (ws.map PyData.str), .tuple (ws.map PyData.str)]).shown := by
      show (R.of (D.py (.lst [.tup (ws.map D.str), .tup (ws.map D.str)]))).bind (fun p => R.need (PyData.showable p && decide (p.depth ≤ 64) && decide (p.shown.length ≤ lim)) (R.ok p.shown)) = _
      rw [e1]
      show R.need (PyData.showable _ && decide _ && decide _) _ = _
      rw [e2, decide_eq_true e3, decide_eq_true e4]
      rfl
    rw [e6]
    rfl
  exact Wp.eq e5 k
end MP

set_option Elab.async false
set_option linter.all false
/-! Wq: objects, reading only, two clauses, step by step. -/
namespace MP
open PySem L2
structure mV (c : Cfg) (f : Nat) (as : List AV) (e : En) (Q : O → En → Prop) : Prop where
  run : Wp (lend (c.asg f) 0 as e) fun p => Wp (c.low f p.1) fun q => Q q.1 (giveBack (c.asg f) 0 as q.2 p.2)
theorem mV_iff {c : Cfg} {f : Nat} {as : List AV} {e : En} {Q : O → En → Prop} : mV c f as e Q ↔ Wp (lend (c.asg f) 0 as e) fun p => Wp (c.low f p.1) fun q => Q q.1 (giveBack (c.asg f) 0 as q.2 p.2) := ⟨fun h => h.run, fun h => ⟨h⟩⟩
/-- a new object is made -/
structure nV (c : Cfg) (k f : Nat) (as : List AV) (e : En) (Q : O → En → Prop) : Prop where
  run : Wp (makeW c k f as e) fun p => Q p.1 p.2
theorem nV_iff {c : Cfg} {k f : Nat} {as : List AV} {e : En} {Q : O → En → Prop} : nV c k f as e Q ↔ Wp (makeW c k f as e) fun p => Q p.1 p.2 := ⟨fun h => h.run, fun h => ⟨h⟩⟩
theorem nV_0 {c : Cfg} {k f : Nat} {as : List AV} {e : En} {Q : O → En → Prop} (h : c.asg f = []) (w : Wp (lend [] 1 as e) fun p => Wp (c.low f (.ins k [] :: p.1)) fun q => ∃ fs os, q.1 = .sh .non ∧ q.2 = .ins k fs :: os ∧ fs.map (·.1) = c.flds k ∧ Q (.sh (.obj k (fs.map (·.2)))) (giveBack [] 1 as os p.2)) : nV c k f as e Q := by
  rw [nV_iff]
  unfold makeW
  rw [h, wp_bind]
  refine w.mono fun p hp => ?_
  rw [wp_bind]
  refine hp.mono fun q hq => ?_
  obtain ⟨r, l⟩ := q
  obtain ⟨fs, os, h1, h2, h3, h4⟩ := hq
  have h1 : r = .sh .non := h1
  have h2 : l = .ins k fs :: os := h2
  subst h1
  subst h2
  show Wp (R.need (decide (k = k) && decide (fs.map (·.1) = c.flds k)) (pure (O.sh (D.obj k (fs.map (·.2))), giveBack [] 1 as os p.2))) _
  rw [decide_eq_true rfl, decide_eq_true h3]
  exact wp_pure.mpr h4
def asN (o : O) : R (Nat × List (Str × D)) := match o with
  | .ins k fs => .ok (k, fs)
  | _ => .bad
def shI (o : O) : R Int := match o with
  | .sh (.int k) => .ok k
  | _ => .bad
theorem shI_sh {i : Int} : shI (.sh (.int i)) = .ok i := rfl
theorem asN_ins {k : Nat} {fs : List (Str × D)} : asN (.ins k fs) = .ok (k, fs) := rfl
section
variable {c : Cfg} {e : En} {a b d l : E} {np : Nat}
variable {QV : O → En → Prop} {QA : AV → En → Prop} {QT : Bool → En → Prop} {QI : List D → En → Prop} {QK : List O → En → Prop} {QG : List AV → En → Prop} {QS : Fl → En → Prop} {QE : En → Prop}
theorem w_att {f : Str} : vV c (.att a f) e QV ↔ aV c a e fun x e1 => Wp (x.see e1) fun o => Wp (attD c.flds f o) fun r => QV r e1 := by
  rw [vV_iff]
  show Wp ((one (sem c a) (attD c.flds f)).val e) _ ↔ _
  simp only [aV_iff, one, Sm.mk1, wp_bind, wp_pure]
theorem w_isCl {k : Nat} : vV c (.isCl k a) e QV ↔ aV c a e fun x e1 => Wp (x.see e1) fun o => Wp (isClD c.cls k o) fun r => QV r e1 := by
  rw [vV_iff]
  show Wp ((one (sem c a) (isClD c.cls k)).val e) _ ↔ _
  simp only [aV_iff, one, Sm.mk1, wp_bind, wp_pure]
theorem w_revR : vV c (.revR a) e QV ↔ aV c a e fun x e1 => Wp (x.see e1) fun o => Wp (revRD o) fun r => QV r e1 := by
  rw [vV_iff]
  show Wp ((one (sem c a) revRD).val e) _ ↔ _
  simp only [aV_iff, one, Sm.mk1, wp_bind, wp_pure]
theorem w_lrange : vV c (.lrange a) e QV ↔ iV c a e fun xs e1 => decide (xs.length ≤ lim) = true ∧ QV (.lst (xs.map O.sh)) e1 := by
  rw [vV_iff]
  show Wp ((sem c a).itr e >>= fun p => R.need (decide (p.1.length ≤ lim)) (pure (O.lst (p.1.map O.sh), p.2))) _ ↔ _
  simp only [iV_iff, wp_bind, wp_need, wp_pure]
theorem w_make {k f : Nat} : vV c (.make k f l) e QV ↔ gV c l e fun as e1 => nV c k f as e1 QV := by
  rw [vV_iff]
  show Wp ((sem c l).ags e >>= fun p => makeW c k f p.1 p.2) _ ↔ _
  simp only [gV_iff, nV_iff, wp_bind]
theorem w_makeK {k f : Nat} {ks : List Str} {g : List Nat} {kl : E} : vV c (.makeK k f l ks g kl) e QV ↔ gV c l e fun as e1 => gV c kl e1 fun bs e2 => decide g.Nodup = true ∧ Wp (R.of (pick (as ++ bs) g)) fun xs => nV c k f xs e2 QV := by
  rw [vV_iff]
  show Wp ((sem c l).ags e >>= fun p => (sem c kl).ags p.2 >>= fun q => R.need (decide g.Nodup) (R.of (pick (p.1 ++ q.1) g) >>= fun xs => makeW c k f xs q.2)) _ ↔ _
  simp only [gV_iff, nV_iff, wp_bind, wp_need]
theorem w_meth {k f : Nat} {m : Str} : vV c (.meth k f m a l) e QV ↔ aV c a e fun x e1 => Wp (x.see e1) fun o => isO c.flds k m o = true ∧ gV c l e1 fun as e2 => cV c f (x :: as) e2 QV := by
  rw [vV_iff]
  show Wp ((sem c a).arg e >>= fun p => p.1.see p.2 >>= fun o => R.need (isO c.flds k m o) ((sem c l).ags p.2 >>= fun q => callWith c f (p.1 :: q.1) q.2)) _ ↔ _
  unfold callWith
  simp only [aV_iff, gV_iff, cV_iff]
  simp only [wp_bind, wp_pure, wp_need]
theorem w_methK {k f : Nat} {m : Str} {ks : List Str} {g : List Nat} {kl : E} : vV c (.methK k f m a l ks g kl) e QV ↔ aV c a e fun x e1 => Wp (x.see e1) fun o => isO c.flds k m o = true ∧ gV c l e1 fun as e2 => gV c kl e2 fun bs e3 => decide g.Nodup = true ∧ Wp (R.of (pick (as ++ bs) g)) fun xs => cV c f (x :: xs) e3 QV := by
  rw [vV_iff]
  show Wp ((sem c a).arg e >>= fun p => p.1.see p.2 >>= fun o => R.need (isO c.flds k m o) ((sem c l).ags p.2 >>= fun q => (sem c kl).ags q.2 >>= fun q2 => R.need (decide g.Nodup) (R.of (pick (q.1 ++ q2.1) g) >>= fun xs => callWith c f (p.1 :: xs) q2.2))) _ ↔ _
  unfold callWith
  simp only [aV_iff, gV_iff, cV_iff]
  simp only [wp_bind, wp_pure, wp_need]
theorem w_own {w : Ow} {k f : Nat} : vV c (.own w k f a) e QV ↔ aV c a e fun x e1 => Wp (x.see e1) fun o => Wp (ownF c w k f o) fun r => QV r e1 := by
  rw [vV_iff]
  show Wp ((one (sem c a) (ownF c w k f)).val e) _ ↔ _
  simp only [aV_iff, one, Sm.mk1, wp_bind, wp_pure]
theorem w_eqO {k f : Nat} {ne : Bool} : vV c (.eqO k f ne a b) e QV ↔ aV c a e fun x e1 => aV c b e1 fun y e2 => Wp (x.see e2) fun o => Wp (y.see e2) fun p => Wp (eqOF c k f ne o p) fun r => QV r e2 := by
  rw [vV_iff]
  show Wp ((two (sem c a) (sem c b) (eqOF c k f ne)).val e) _ ↔ _
  simp only [aV_iff, two, Sm.mk1, wp_bind, wp_pure]
theorem w_idx {t : Bool} : vV c (.idx t a b) e QV ↔ aV c a e fun x e1 => Wp (x.see e1) fun o => isSeqD t o.view = true ∧ aV c b e1 fun y e2 => Wp (x.see e2) fun o => Wp (y.see e2) fun p => Wp (idxD t o.view p.view) fun d => QV (.sh d) e2 := by
  rw [vV_iff]
  show Wp ((sem c a).arg e >>= fun p => p.1.see p.2 >>= fun o => R.need (isSeqD t o.view) ((sem c b).arg p.2 >>= fun q => p.1.see q.2 >>= fun o => q.1.see q.2 >>= fun o2 => idxD t o.view o2.view >>= fun d => pure (O.sh d, q.2))) _ ↔ _
  simp only [aV_iff]
  simp only [wp_bind, wp_pure, wp_need]
theorem w_bor : vV c (.bor a) e QV ↔ vV c a (shareAll e) fun o _ => indep o = true ∧ QV o e := by
  rw [vV_iff]
  show Wp ((sem c a).val (shareAll e) >>= fun p => R.need (indep p.1) (pure (p.1, e))) _ ↔ _
  simp only [vV_iff]
  simp only [wp_bind, wp_pure, wp_need]
/-- a store into a list within a list -/
def set2R (xs : List O) (k l : Int) (o : O) : R (List O) := do
  let m ← R.of (ixN xs.length k)
  let q ← R.of (xs[m]?)
  let ys ← asL q
  let n ← R.of (ixN ys.length l)
  pure (xs.set m (.lst (ys.set n o)))
def rSet2 (x : Nat) (a b p o : O) (e : En) : R En := match a, b, p with
  | .sh (.int k), .sh (.int l), .lst xs => do
    let m ← R.of (ixN xs.length k)
    let q ← R.of (xs[m]?)
    match q with
    | .lst ys => do
      let n ← R.of (ixN ys.length l)
      pure (e.set x (some (.lst (xs.set m (.lst (ys.set n o))))))
    | _ => .bad
  | _, _, _ => .bad
theorem rSet2_of {x : Nat} {k l : Int} {xs : List O} {o : O} {e : En} (h : Wp (set2R xs k l o) fun ys => QE (e.set x (some (.lst ys)))) : Wp (rSet2 x (.sh (.int k)) (.sh (.int l)) (.lst xs) o e) QE := by
  unfold set2R at h
  unfold rSet2
  simp only [wp_bind, wp_pure] at h ⊢
  refine h.mono fun m h => h.mono fun q h => ?_
  obtain ⟨ys, h1, h2⟩ := h
  cases q with
  | lst zs =>
    have e0 : ys = zs := by cases h1; rfl
    subst e0
    simp only [wp_bind, wp_pure]
    exact h2
  | sh _ => cases h1
  | ins _ _ => cases h1
theorem gt_ix2 {x i j : Nat} {k l : Int} {xs : List O} {o : O} (h1 : e.get i = .ok (.sh (.int k))) (h2 : e.get j = .ok (.sh (.int l))) (h3 : e.get x = .ok (.lst xs)) (h : Wp (set2R xs k l o) fun ys => QE (e.set x (some (.lst ys)))) : gT c (.ix2 x i j) o e QE := by
  rw [gT_iff]
  show Wp (e.get i >>= fun a => e.get j >>= fun b => e.get x >>= fun p => rSet2 x a b p o e) _
  rw [h1, h2, h3]
  simp only [R.ok_bind]
  exact rSet2_of h
theorem gt_att {x k : Nat} {f : Str} {fs : List (Str × D)} {o : O} (h3 : e.get x = .ok (.ins k fs)) (hc : ((c.flds k).contains f && noIns o && decide (fs.length < 100)) = true) (h : QE (e.set x (some (.ins k (putD f o.view fs))))) : gT c (.att x f) o e QE := by
  rw [gT_iff]
  show Wp (e.get x >>= fun p => (match p with
    | .ins k fs => R.need ((c.flds k).contains f && noIns o && decide (fs.length < 100)) (pure (e.set x (some (.ins k (putD f o.view fs)))))
    | _ => .bad : R En)) _
  rw [h3]
  simp only [R.ok_bind]
  rw [wp_need]
  exact ⟨hc, wp_pure.mpr h⟩
/-- the second clause of a comprehension -/
def dB (c : Cfg) (t : List Nat) (tt : Bool) (cnd : E) (t2 : List Nat) (tt2 : Bool) (it2 cnd2 el : E) : D → En → R (List O × En) := fun d e => do
  let e ← bindT t tt d e
  let (b, e) ← (if isNil cnd then R.ok (true, e) else (sem c cnd).tru e)
  if b = true then do
    let (ys, e) ← (sem c it2).itr e
    let (os, e) ← runC (cB c t2 tt2 el cnd2) ys (wipeE e t2)
    R.need (decide (ys.length ≤ lim)) (pure (os, wipeE e t))
  else pure ([], wipeE (wipeE e t2) t)
theorem w_comp2 {t : List Nat} {tt : Bool} {it cnd : E} {t2 : List Nat} {tt2 : Bool} {it2 cnd2 el : E} : vV c (.comp2 t tt it cnd t2 tt2 it2 cnd2 el) e QV ↔ iV c it e fun xs e1 => Wp (runC2 (dB c t tt cnd t2 tt2 it2 cnd2 el) xs (wipeE (wipeE e1 t2) t)) fun p => decide (p.1.length ≤ lim) = true ∧ QV (.lst p.1) p.2 := by
  rw [vV_iff]
  show Wp ((sem c it).itr e >>= fun p => runC2 (dB c t tt cnd t2 tt2 it2 cnd2 el) p.1 (wipeE (wipeE p.2 t2) t) >>= fun q => R.need (decide (q.1.length ≤ lim)) (pure (O.lst q.1, q.2))) _ ↔ _
  simp only [iV_iff]
  simp only [wp_bind, wp_pure, wp_need]
theorem d_nil {t : List Nat} {tt : Bool} {t2 : List Nat} {tt2 : Bool} {it2 cnd2 el : E} {dd : D} {QB : List O × En → Prop} : Wp (dB c t tt .nil t2 tt2 it2 cnd2 el dd e) QB ↔ Wp (bindT t tt dd e) fun e => iV c it2 e fun ys e1 => Wp (runC (cB c t2 tt2 el cnd2) ys (wipeE e1 t2)) fun p => decide (ys.length ≤ lim) = true ∧ QB (p.1, wipeE p.2 t) := by
  unfold dB
  simp only [iV_iff]
  have h : isNil .nil = true := rfl
  simp only [h, if_true, wp_bind, wp_ok, wp_pure, wp_need]
theorem d_cnd {t : List Nat} {tt : Bool} {cnd : E} {t2 : List Nat} {tt2 : Bool} {it2 cnd2 el : E} {dd : D} {QB : List O × En → Prop} (h : isNil cnd = false) : Wp (dB c t tt cnd t2 tt2 it2 cnd2 el dd e) QB ↔ Wp (bindT t tt dd e) fun e => tV c cnd e fun b e => Br b (iV c it2 e fun ys e1 => Wp (runC (cB c t2 tt2 el cnd2) ys (wipeE e1 t2)) fun p => decide (ys.length ≤ lim) = true ∧ QB (p.1, wipeE p.2 t)) (QB ([], wipeE (wipeE e t2) t)) := by
  unfold dB
  simp only [iV_iff, tV_iff]
  simp only [h, Bool.false_eq_true, if_false, wp_bind, wp_ok, wp_pure, wp_need, wp_ite]
theorem runC2_inv {bd : D → En → R (List O × En)} (I : List D → List O → En → Prop) : ∀ (xs done : List D) (acc : List O) (e : En), I done acc e → (∀ (ys : List D) (x : D) (acc : List O) (e : En), x ∈ xs → I ys acc e → Wp (bd x e) fun p => I (ys ++ [x]) (acc ++ p.1) p.2) →
    Wp (runC2 bd xs e) fun p => I (done ++ xs) (acc ++ p.1) p.2
  | [], done, acc, e, h, _ => by
    show Wp (R.ok ([], e)) _
    rw [wp_ok]
    simpa using h
  | x :: xs, done, acc, e, h, hs => by
    show Wp (bd x e >>= fun p => runC2 bd xs p.2 >>= fun q => pure (p.1 ++ q.1, q.2)) _
    rw [wp_bind]
    refine (hs done x acc e List.mem_cons_self h).mono fun p hp => ?_
    rw [wp_bind]
    refine (runC2_inv I xs (done ++ [x]) (acc ++ p.1) p.2 hp fun ys y acc e hy => hs ys y acc e (List.mem_cons_of_mem _ hy)).mono fun q hq => ?_
    rw [wp_pure]
    simpa using hq
end
theorem mul_row {d : D} {n : Nat} {Q : O → Prop} (hn : n ≤ 1000000) (k : Q (.lst ((List.replicate n d).map O.sh))) : Wp (opD .mul (.lst [.sh d]) (.sh (.int (n : Int)))) Q := by
  refine Wp.eq (a := .lst ((List.replicate n d).map O.sh)) ?_ k
  show R.need (decide (-(2 ^ 63) ≤ (n : Int)) && decide ((n : Int) < 2 ^ 63) && decide ([d].length * (n : Int).toNat ≤ lim)) (R.ok (O.lst ((List.replicate (n : Int).toNat [d]).flatten.map O.sh))) = _
  have e1 : decide (-(2 ^ 63) ≤ (n : Int)) = true := decide_eq_true (by omega)
  have e2 : decide ((n : Int) < 2 ^ 63) = true := decide_eq_true (by omega)
  have e3 : decide ([d].length * (n : Int).toNat ≤ lim) = true := decide_eq_true (by show 1 * _ ≤ 16777216; omega)
  rw [e1, e2, e3]
  have e4 : (List.replicate (n : Int).toNat [d]).flatten = List.replicate n d := by simp
  rw [e4]
  rfl
/-- the slots are written out anew ahead of each statement -/
structure sN (c : Cfg) (np : Nat) (x : S) (e : En) (Q : Fl → En → Prop) : Prop where
  run : sV c np x e Q
theorem s_seqN {c : Cfg} {np : Nat} {x y : S} {e : En} {QS : Fl → En → Prop} : sV c np (.seq x y) e QS ↔ sV c np x e fun f e1 => match f with | .nx => sN c np y e1 QS | .rt o => QS (.rt o) e1 := by
  rw [s_seq, sV_iff, sV_iff]
  constructor
  · intro h
    refine h.mono ?_
    rintro ⟨f, e1⟩ h1
    cases f with
    | nx => exact ⟨h1⟩
    | rt o => exact h1
  · intro h
    refine h.mono ?_
    rintro ⟨f, e1⟩ h1
    cases f with
    | nx => exact h1.run
    | rt o => exact h1
theorem sN_of {c : Cfg} {np : Nat} {y : S} {e : En} {QS : Fl → En → Prop} (h : ∀ e', e' = e → sV c np y e' QS) : sN c np y e QS := ⟨h e rfl⟩
/-! ### by their heads -/
section
variable {c : Cfg} {e : En} {np : Nat}
variable {QV : O → En → Prop} {QA : AV → En → Prop} {QT : Bool → En → Prop} {QI : List D → En → Prop} {QO : Option Int → En → Prop} {QS : Fl → En → Prop}
theorem a_att {x : E} {y : Str} : aV c (.att x y) e QA ↔ vV c (.att x y) e fun o e => QA (.val o) e := a_nv rfl
theorem t_att {x : E} {y : Str} : tV c (.att x y) e QT ↔ vV c (.att x y) e fun o e => Wp (truD o.view) fun b => QT b e := t_nv rfl
theorem i_att {x : E} {y : Str} : iV c (.att x y) e QI ↔ vV c (.att x y) e fun o e => noIns o = true ∧ Wp (itemsD o.view) fun xs => QI xs e := i_nv rfl
theorem o_att {x : E} {y : Str} : oV c (.att x y) e QO ↔ aV c (.att x y) e fun x e1 => Wp (x.see e1) fun o => Wp (asI o) fun i => QO (some i) e1 := o_val rfl
theorem r_att {x : E} {y : Str} : sV c np (.ret (.att x y)) e QS ↔ vV c (.att x y) e fun o e1 => QS (.rt o) e1 := s_ret rfl
theorem a_make {x x2 : Nat} {y : E} : aV c (.make x x2 y) e QA ↔ vV c (.make x x2 y) e fun o e => QA (.val o) e := a_nv rfl
theorem t_make {x x2 : Nat} {y : E} : tV c (.make x x2 y) e QT ↔ vV c (.make x x2 y) e fun o e => Wp (truD o.view) fun b => QT b e := t_nv rfl
theorem i_make {x x2 : Nat} {y : E} : iV c (.make x x2 y) e QI ↔ vV c (.make x x2 y) e fun o e => noIns o = true ∧ Wp (itemsD o.view) fun xs => QI xs e := i_nv rfl
theorem o_make {x x2 : Nat} {y : E} : oV c (.make x x2 y) e QO ↔ aV c (.make x x2 y) e fun x e1 => Wp (x.see e1) fun o => Wp (asI o) fun i => QO (some i) e1 := o_val rfl
theorem r_make {x x2 : Nat} {y : E} : sV c np (.ret (.make x x2 y)) e QS ↔ vV c (.make x x2 y) e fun o e1 => QS (.rt o) e1 := s_ret rfl
theorem a_makeK {x x2 : Nat} {y : E} {z : List Str} {w : List Nat} {u : E} : aV c (.makeK x x2 y z w u) e QA ↔ vV c (.makeK x x2 y z w u) e fun o e => QA (.val o) e := a_nv rfl
theorem t_makeK {x x2 : Nat} {y : E} {z : List Str} {w : List Nat} {u : E} : tV c (.makeK x x2 y z w u) e QT ↔ vV c (.makeK x x2 y z w u) e fun o e => Wp (truD o.view) fun b => QT b e := t_nv rfl
theorem i_makeK {x x2 : Nat} {y : E} {z : List Str} {w : List Nat} {u : E} : iV c (.makeK x x2 y z w u) e QI ↔ vV c (.makeK x x2 y z w u) e fun o e => noIns o = true ∧ Wp (itemsD o.view) fun xs => QI xs e := i_nv rfl
theorem o_makeK {x x2 : Nat} {y : E} {z : List Str} {w : List Nat} {u : E} : oV c (.makeK x x2 y z w u) e QO ↔ aV c (.makeK x x2 y z w u) e fun x e1 => Wp (x.see e1) fun o => Wp (asI o) fun i => QO (some i) e1 := o_val rfl
theorem r_makeK {x x2 : Nat} {y : E} {z : List Str} {w : List Nat} {u : E} : sV c np (.ret (.makeK x x2 y z w u)) e QS ↔ vV c (.makeK x x2 y z w u) e fun o e1 => QS (.rt o) e1 := s_ret rfl
theorem a_meth {x x2 : Nat} {m : Str} {y y2 : E} : aV c (.meth x x2 m y y2) e QA ↔ vV c (.meth x x2 m y y2) e fun o e => QA (.val o) e := a_nv rfl
theorem t_meth {x x2 : Nat} {m : Str} {y y2 : E} : tV c (.meth x x2 m y y2) e QT ↔ vV c (.meth x x2 m y y2) e fun o e => Wp (truD o.view) fun b => QT b e := t_nv rfl
theorem i_meth {x x2 : Nat} {m : Str} {y y2 : E} : iV c (.meth x x2 m y y2) e QI ↔ vV c (.meth x x2 m y y2) e fun o e => noIns o = true ∧ Wp (itemsD o.view) fun xs => QI xs e := i_nv rfl
theorem o_meth {x x2 : Nat} {m : Str} {y y2 : E} : oV c (.meth x x2 m y y2) e QO ↔ aV c (.meth x x2 m y y2) e fun x e1 => Wp (x.see e1) fun o => Wp (asI o) fun i => QO (some i) e1 := o_val rfl
theorem r_meth {x x2 : Nat} {m : Str} {y y2 : E} : sV c np (.ret (.meth x x2 m y y2)) e QS ↔ vV c (.meth x x2 m y y2) e fun o e1 => QS (.rt o) e1 := s_ret rfl
theorem a_methK {x x2 : Nat} {m : Str} {y y2 : E} {z : List Str} {w : List Nat} {u : E} : aV c (.methK x x2 m y y2 z w u) e QA ↔ vV c (.methK x x2 m y y2 z w u) e fun o e => QA (.val o) e := a_nv rfl
theorem t_methK {x x2 : Nat} {m : Str} {y y2 : E} {z : List Str} {w : List Nat} {u : E} : tV c (.methK x x2 m y y2 z w u) e QT ↔ vV c (.methK x x2 m y y2 z w u) e fun o e => Wp (truD o.view) fun b => QT b e := t_nv rfl
theorem i_methK {x x2 : Nat} {m : Str} {y y2 : E} {z : List Str} {w : List Nat} {u : E} : iV c (.methK x x2 m y y2 z w u) e QI ↔ vV c (.methK x x2 m y y2 z w u) e fun o e => noIns o = true ∧ Wp (itemsD o.view) fun xs => QI xs e := i_nv rfl
theorem o_methK {x x2 : Nat} {m : Str} {y y2 : E} {z : List Str} {w : List Nat} {u : E} : oV c (.methK x x2 m y y2 z w u) e QO ↔ aV c (.methK x x2 m y y2 z w u) e fun x e1 => Wp (x.see e1) fun o => Wp (asI o) fun i => QO (some i) e1 := o_val rfl
theorem r_methK {x x2 : Nat} {m : Str} {y y2 : E} {z : List Str} {w : List Nat} {u : E} : sV c np (.ret (.methK x x2 m y y2 z w u)) e QS ↔ vV c (.methK x x2 m y y2 z w u) e fun o e1 => QS (.rt o) e1 := s_ret rfl
theorem a_own {x : Ow} {x2 x3 : Nat} {y : E} : aV c (.own x x2 x3 y) e QA ↔ vV c (.own x x2 x3 y) e fun o e => QA (.val o) e := a_nv rfl
theorem t_own {x : Ow} {x2 x3 : Nat} {y : E} : tV c (.own x x2 x3 y) e QT ↔ vV c (.own x x2 x3 y) e fun o e => Wp (truD o.view) fun b => QT b e := t_nv rfl
theorem i_own {x : Ow} {x2 x3 : Nat} {y : E} : iV c (.own x x2 x3 y) e QI ↔ vV c (.own x x2 x3 y) e fun o e => noIns o = true ∧ Wp (itemsD o.view) fun xs => QI xs e := i_nv rfl
theorem o_own {x : Ow} {x2 x3 : Nat} {y : E} : oV c (.own x x2 x3 y) e QO ↔ aV c (.own x x2 x3 y) e fun x e1 => Wp (x.see e1) fun o => Wp (asI o) fun i => QO (some i) e1 := o_val rfl
theorem r_own {x : Ow} {x2 x3 : Nat} {y : E} : sV c np (.ret (.own x x2 x3 y)) e QS ↔ vV c (.own x x2 x3 y) e fun o e1 => QS (.rt o) e1 := s_ret rfl
theorem a_eqO {x x2 : Nat} {x3 : Bool} {y y2 : E} : aV c (.eqO x x2 x3 y y2) e QA ↔ vV c (.eqO x x2 x3 y y2) e fun o e => QA (.val o) e := a_nv rfl
theorem t_eqO {x x2 : Nat} {x3 : Bool} {y y2 : E} : tV c (.eqO x x2 x3 y y2) e QT ↔ vV c (.eqO x x2 x3 y y2) e fun o e => Wp (truD o.view) fun b => QT b e := t_nv rfl
theorem i_eqO {x x2 : Nat} {x3 : Bool} {y y2 : E} : iV c (.eqO x x2 x3 y y2) e QI ↔ vV c (.eqO x x2 x3 y y2) e fun o e => noIns o = true ∧ Wp (itemsD o.view) fun xs => QI xs e := i_nv rfl
theorem o_eqO {x x2 : Nat} {x3 : Bool} {y y2 : E} : oV c (.eqO x x2 x3 y y2) e QO ↔ aV c (.eqO x x2 x3 y y2) e fun x e1 => Wp (x.see e1) fun o => Wp (asI o) fun i => QO (some i) e1 := o_val rfl
theorem r_eqO {x x2 : Nat} {x3 : Bool} {y y2 : E} : sV c np (.ret (.eqO x x2 x3 y y2)) e QS ↔ vV c (.eqO x x2 x3 y y2) e fun o e1 => QS (.rt o) e1 := s_ret rfl
theorem a_isCl {x : Nat} {y : E} : aV c (.isCl x y) e QA ↔ vV c (.isCl x y) e fun o e => QA (.val o) e := a_nv rfl
theorem t_isCl {x : Nat} {y : E} : tV c (.isCl x y) e QT ↔ vV c (.isCl x y) e fun o e => Wp (truD o.view) fun b => QT b e := t_nv rfl
theorem i_isCl {x : Nat} {y : E} : iV c (.isCl x y) e QI ↔ vV c (.isCl x y) e fun o e => noIns o = true ∧ Wp (itemsD o.view) fun xs => QI xs e := i_nv rfl
theorem o_isCl {x : Nat} {y : E} : oV c (.isCl x y) e QO ↔ aV c (.isCl x y) e fun x e1 => Wp (x.see e1) fun o => Wp (asI o) fun i => QO (some i) e1 := o_val rfl
theorem r_isCl {x : Nat} {y : E} : sV c np (.ret (.isCl x y)) e QS ↔ vV c (.isCl x y) e fun o e1 => QS (.rt o) e1 := s_ret rfl
theorem a_comp2 {x : List Nat} {y : Bool} {z w : E} {x2 : List Nat} {y2 : Bool} {z2 w2 u : E} : aV c (.comp2 x y z w x2 y2 z2 w2 u) e QA ↔ vV c (.comp2 x y z w x2 y2 z2 w2 u) e fun o e => QA (.val o) e := a_nv rfl
theorem t_comp2 {x : List Nat} {y : Bool} {z w : E} {x2 : List Nat} {y2 : Bool} {z2 w2 u : E} : tV c (.comp2 x y z w x2 y2 z2 w2 u) e QT ↔ vV c (.comp2 x y z w x2 y2 z2 w2 u) e fun o e => Wp (truD o.view) fun b => QT b e := t_nv rfl
theorem i_comp2 {x : List Nat} {y : Bool} {z w : E} {x2 : List Nat} {y2 : Bool} {z2 w2 u : E} : iV c (.comp2 x y z w x2 y2 z2 w2 u) e QI ↔ vV c (.comp2 x y z w x2 y2 z2 w2 u) e fun o e => noIns o = true ∧ Wp (itemsD o.view) fun xs => QI xs e := i_nv rfl
theorem o_comp2 {x : List Nat} {y : Bool} {z w : E} {x2 : List Nat} {y2 : Bool} {z2 w2 u : E} : oV c (.comp2 x y z w x2 y2 z2 w2 u) e QO ↔ aV c (.comp2 x y z w x2 y2 z2 w2 u) e fun x e1 => Wp (x.see e1) fun o => Wp (asI o) fun i => QO (some i) e1 := o_val rfl
theorem r_comp2 {x : List Nat} {y : Bool} {z w : E} {x2 : List Nat} {y2 : Bool} {z2 w2 u : E} : sV c np (.ret (.comp2 x y z w x2 y2 z2 w2 u)) e QS ↔ vV c (.comp2 x y z w x2 y2 z2 w2 u) e fun o e1 => QS (.rt o) e1 := s_ret rfl
theorem a_revR {x : E} : aV c (.revR x) e QA ↔ vV c (.revR x) e fun o e => QA (.val o) e := a_nv rfl
theorem t_revR {x : E} : tV c (.revR x) e QT ↔ vV c (.revR x) e fun o e => Wp (truD o.view) fun b => QT b e := t_nv rfl
theorem i_revR {x : E} : iV c (.revR x) e QI ↔ vV c (.revR x) e fun o e => noIns o = true ∧ Wp (itemsD o.view) fun xs => QI xs e := i_nv rfl
theorem o_revR {x : E} : oV c (.revR x) e QO ↔ aV c (.revR x) e fun x e1 => Wp (x.see e1) fun o => Wp (asI o) fun i => QO (some i) e1 := o_val rfl
theorem r_revR {x : E} : sV c np (.ret (.revR x)) e QS ↔ vV c (.revR x) e fun o e1 => QS (.rt o) e1 := s_ret rfl
theorem a_lrange {x : E} : aV c (.lrange x) e QA ↔ vV c (.lrange x) e fun o e => QA (.val o) e := a_nv rfl
theorem t_lrange {x : E} : tV c (.lrange x) e QT ↔ vV c (.lrange x) e fun o e => Wp (truD o.view) fun b => QT b e := t_nv rfl
theorem i_lrange {x : E} : iV c (.lrange x) e QI ↔ vV c (.lrange x) e fun o e => noIns o = true ∧ Wp (itemsD o.view) fun xs => QI xs e := i_nv rfl
theorem o_lrange {x : E} : oV c (.lrange x) e QO ↔ aV c (.lrange x) e fun x e1 => Wp (x.see e1) fun o => Wp (asI o) fun i => QO (some i) e1 := o_val rfl
theorem r_lrange {x : E} : sV c np (.ret (.lrange x)) e QS ↔ vV c (.lrange x) e fun o e1 => QS (.rt o) e1 := s_ret rfl
theorem a_bor {x : E} : aV c (.bor x) e QA ↔ vV c (.bor x) e fun o e => QA (.val o) e := a_nv rfl
theorem t_bor {x : E} : tV c (.bor x) e QT ↔ vV c (.bor x) e fun o e => Wp (truD o.view) fun b => QT b e := t_nv rfl
theorem i_bor {x : E} : iV c (.bor x) e QI ↔ vV c (.bor x) e fun o e => noIns o = true ∧ Wp (itemsD o.view) fun xs => QI xs e := i_nv rfl
theorem o_bor {x : E} : oV c (.bor x) e QO ↔ aV c (.bor x) e fun x e1 => Wp (x.see e1) fun o => Wp (asI o) fun i => QO (some i) e1 := o_val rfl
theorem r_bor {x : E} : sV c np (.ret (.bor x)) e QS ↔ vV c (.bor x) e fun o e1 => QS (.rt o) e1 := s_ret rfl
theorem a_idx {x : Bool} {y y2 : E} : aV c (.idx x y y2) e QA ↔ vV c (.idx x y y2) e fun o e => QA (.val o) e := a_nv rfl
theorem t_idx {x : Bool} {y y2 : E} : tV c (.idx x y y2) e QT ↔ vV c (.idx x y y2) e fun o e => Wp (truD o.view) fun b => QT b e := t_nv rfl
theorem i_idx {x : Bool} {y y2 : E} : iV c (.idx x y y2) e QI ↔ vV c (.idx x y y2) e fun o e => noIns o = true ∧ Wp (itemsD o.view) fun xs => QI xs e := i_nv rfl
theorem o_idx {x : Bool} {y y2 : E} : oV c (.idx x y y2) e QO ↔ aV c (.idx x y y2) e fun x e1 => Wp (x.see e1) fun o => Wp (asI o) fun i => QO (some i) e1 := o_val rfl
theorem r_idx {x : Bool} {y y2 : E} : sV c np (.ret (.idx x y y2)) e QS ↔ vV c (.idx x y y2) e fun o e1 => QS (.rt o) e1 := s_ret rfl
end
end MP

set_option Elab.async false
set_option linter.all false
set_option maxRecDepth 100000
/-! Dm: square tables of numbers, numbers as texts, the text of distances. -/
namespace MP
open PySem L2
abbrev Mx := List (List Int)
def Mx.at (m : Mx) (i j : Nat) : Int := (m.getD i []).getD j 0
def Mx.put (m : Mx) (i j : Nat) (v : Int) : Mx := m.set i ((m.getD i []).set j v)
structure Mx.sq (m : Mx) (n : Nat) : Prop where
  len : m.length = n
  row : ∀ r ∈ m, r.length = n
structure Mat (m : Mx) (n : Nat) (B : Int) : Prop where
  sq : m.sq n
  sym : ∀ i j, m.at i j = m.at j i
  dia : ∀ i, m.at i i = 0
  lo : ∀ i j, 0 ≤ m.at i j
  hi : ∀ i j, m.at i j ≤ B
section
variable {m m' : Mx} {n i j : Nat} {v B : Int}
theorem getD_mem {α : Type} {xs : List α} {i : Nat} {d : α} (h : i < xs.length) : xs.getD i d ∈ xs := by
  rw [List.getD_eq_getElem?_getD, List.getElem?_eq_getElem h]
  exact List.getElem_mem h
theorem Mx.sq.rlen (h : m.sq n) (hi : i < n) : (m.getD i []).length = n := h.row _ (getD_mem (by rw [h.len]; exact hi))
theorem getD_out {α : Type} {xs : List α} {i : Nat} {d : α} (h : xs.length ≤ i) : xs.getD i d = d := by
  rw [List.getD_eq_getElem?_getD, List.getElem?_eq_none h]
  rfl
theorem Mx.sq.out1 (h : m.sq n) (hi : n ≤ i) : m.at i j = 0 := by
  unfold Mx.at
  rw [getD_out (xs := m) (by rw [h.len]; exact hi)]
  rfl
theorem Mx.sq.out2 (h : m.sq n) (hj : n ≤ j) : m.at i j = 0 := by
  by_cases hi : i < n
  · unfold Mx.at
    exact getD_out (by rw [h.rlen hi]; exact hj)
  · exact h.out1 (by omega)
theorem getD_set {α : Type} {xs : List α} {i k : Nat} {x d : α} (h : i < xs.length) : (xs.set i x).getD k d = if k = i then x else xs.getD k d := by
  rw [List.getD_eq_getElem?_getD, List.getD_eq_getElem?_getD, List.getElem?_set]
  by_cases e : i = k
  · subst e
    simp [h]
  · rw [if_neg e, if_neg fun z => e z.symm]
theorem put_sq (h : m.sq n) (hi : i < n) : (m.put i j v).sq n := by
  refine ⟨by unfold Mx.put; rw [List.length_set, h.len], fun r hr => ?_⟩
  unfold Mx.put at hr
  rcases List.mem_or_eq_of_mem_set hr with hr | rfl
  · exact h.row r hr
  · rw [List.length_set, h.rlen hi]
theorem at_put (h : m.sq n) (hi : i < n) (hj : j < n) (a b : Nat) : (m.put i j v).at a b = if a = i ∧ b = j then v else m.at a b := by
  unfold Mx.put Mx.at
  rw [getD_set (by rw [h.len]; exact hi)]
  by_cases e : a = i
  · subst e
    rw [if_pos rfl, getD_set (by rw [h.rlen hi]; exact hj)]
    by_cases f : b = j <;> simp [f]
  · rw [if_neg e, if_neg fun z => e z.1]
theorem Mat.put2 (h : Mat m n B) (hi : i < n) (hj : j < n) (hij : i ≠ j) (h0 : 0 ≤ v) (h1 : v ≤ B) : Mat ((m.put i j v).put j i v) n B := by
  have key : ∀ a b, ((m.put i j v).put j i v).at a b = if (a = j ∧ b = i) ∨ (a = i ∧ b = j) then v else m.at a b := by
    intro a b
    rw [at_put (put_sq h.sq hi) hj hi, at_put h.sq hi hj]
    by_cases e : a = j ∧ b = i
    · rw [if_pos e, if_pos (Or.inl e)]
    · by_cases f : a = i ∧ b = j
      · rw [if_neg e, if_pos f, if_pos (Or.inr f)]
      · rw [if_neg e, if_neg f, if_neg (by rintro (z | z); exact e z; exact f z)]
  refine ⟨put_sq (put_sq h.sq hi) hj, fun a b => ?_, fun a => ?_, fun a b => ?_, fun a b => ?_⟩
  · rw [key, key, h.sym a b]
    by_cases e : (a = j ∧ b = i) ∨ (a = i ∧ b = j)
    · rw [if_pos e, if_pos (by omega)]
    · rw [if_neg e, if_neg (by omega)]
  · rw [key, if_neg (by omega)]
    exact h.dia a
  · rw [key]
    split
    · exact h0
    · exact h.lo a b
  · rw [key]
    split
    · exact h1
    · exact h.hi a b
def zeros (n : Nat) : Mx := List.replicate n (List.replicate n 0)
theorem zeros_sq (n : Nat) : (zeros n).sq n := ⟨by simp [zeros], fun r hr => by rw [(List.mem_replicate.mp hr).2]; simp⟩
theorem zeros_at (n i j : Nat) : (zeros n).at i j = 0 := by
  unfold zeros Mx.at
  by_cases h : i < n
  · have e1 : (List.replicate n (List.replicate n (0 : Int))).getD i [] = List.replicate n 0 := by
      rw [List.getD_eq_getElem?_getD, List.getElem?_replicate, if_pos h]
      rfl
    rw [e1, List.getD_eq_getElem?_getD, List.getElem?_replicate]
    by_cases g : j < n
    · rw [if_pos g]; rfl
    · rw [if_neg g]; rfl
  · have e1 : (List.replicate n (List.replicate n (0 : Int))).getD i [] = [] := getD_out (by rw [List.length_replicate]; omega)
    rw [e1]
    rfl
theorem Mat.zero (h : 0 ≤ B) : Mat (zeros n) n B := ⟨zeros_sq n, fun i j => by rw [zeros_at, zeros_at], fun i => zeros_at _ _ _, fun i j => by rw [zeros_at]; exact Int.le_refl 0, fun i j => by rw [zeros_at]; exact h⟩
theorem Mx.ext (h : m.sq n) (h' : m'.sq n) (k : ∀ i j, i < n → j < n → m.at i j = m'.at i j) : m = m' := by
  refine List.ext_getElem (by rw [h.len, h'.len]) fun i h1 h2 => ?_
  have hi : i < n := by rw [← h.len]; exact h1
  have l1 : m[i].length = n := h.row _ (List.getElem_mem h1)
  have l2 : m'[i].length = n := h'.row _ (List.getElem_mem h2)
  refine List.ext_getElem (by rw [l1, l2]) fun j g1 g2 => ?_
  have := k i j hi (by rw [← l1]; exact g1)
  unfold Mx.at at this
  rw [List.getD_eq_getElem?_getD, List.getD_eq_getElem?_getD, List.getD_eq_getElem?_getD, List.getD_eq_getElem?_getD, List.getElem?_eq_getElem h1, List.getElem?_eq_getElem h2] at this
  simpa [g1, g2] using this
theorem Mat.mono {C : Int} (h : Mat m n B) (k : B ≤ C) : Mat m n C := ⟨h.sq, h.sym, h.dia, h.lo, fun i j => Int.le_trans (h.hi i j) k⟩
end
/-! ### as values -/
def rowO (r : List Int) : O := .lst ((r.map D.int).map O.sh)
def rowD (r : List Int) : D := .lst (r.map D.int)
def rowT (r : List Int) : D := .tup (r.map D.int)
def mxO (m : Mx) : O := .lst (m.map rowO)
def mxD (m : Mx) : D := .lst (m.map rowD)
def mxT (m : Mx) : D := .tup (m.map rowT)
theorem view_rowO (r : List Int) : (rowO r).view = rowD r := by
  show D.lst (views ((r.map D.int).map O.sh)) = _
  rw [views_sh]
  rfl
theorem views_mx : ∀ m : Mx, views (m.map rowO) = m.map rowD
  | [] => rfl
  | r :: m => by
    rw [List.map_cons, views, view_rowO, views_mx m]
    rfl
theorem view_mxO (m : Mx) : (mxO m).view = mxD m := by
  show D.lst (views (m.map rowO)) = _
  rw [views_mx]
  rfl
theorem noInss_sh : ∀ ds : List D, noInss (ds.map O.sh) = true
  | [] => rfl
  | _ :: ds => noInss_sh ds
theorem noInss_mx : ∀ m : Mx, noInss (m.map rowO) = true
  | [] => rfl
  | r :: m => by
    rw [List.map_cons, noInss, noInss_mx m]
    show (noInss ((r.map D.int).map O.sh) && true) = true
    rw [noInss_sh]
    rfl
section
variable {m : Mx} {n i j : Nat} {v : Int} {r : List Int}
theorem ixN_nat {k : Nat} (h : i < k) : ixN k (i : Int) = some i := by
  unfold ixN
  rw [if_pos (by omega), if_pos (by omega)]
  simp
theorem atI_nat {α : Type} {xs : List α} {d : α} (h : i < xs.length) : atI xs (i : Int) = some (xs.getD i d) := by
  unfold atI
  rw [ixN_nat h]
  show xs[i]? = _
  rw [List.getD_eq_getElem?_getD, List.getElem?_eq_getElem h]
  rfl
theorem getD_map {α β : Type} {xs : List α} {f : α → β} {d : α} {e : β} (h : i < xs.length) : (xs.map f).getD i e = f (xs.getD i d) := by
  rw [List.getD_eq_getElem?_getD, List.getD_eq_getElem?_getD, List.getElem?_map, List.getElem?_eq_getElem h]
  rfl
theorem ix_mxD {Q : D → Prop} (h : m.sq n) (hi : i < n) (k : Q (rowD (m.getD i []))) : Wp (ixD (mxD m) (.int (i : Int))) Q := by
  refine Wp.eq (a := rowD (m.getD i [])) ?_ k
  show R.of (atI (m.map rowD) (i : Int)) = _
  rw [atI_nat (d := rowD []) (by rw [List.length_map, h.len]; exact hi), getD_map (d := []) (by rw [h.len]; exact hi)]
  rfl
theorem ix_mxT {Q : D → Prop} (h : m.sq n) (hi : i < n) (k : Q (rowT (m.getD i []))) : Wp (ixD (mxT m) (.int (i : Int))) Q := by
  refine Wp.eq (a := rowT (m.getD i [])) ?_ k
  show R.of (atI (m.map rowT) (i : Int)) = _
  rw [atI_nat (d := rowT []) (by rw [List.length_map, h.len]; exact hi), getD_map (d := []) (by rw [h.len]; exact hi)]
  rfl
theorem ix_rowD {Q : D → Prop} (hj : j < r.length) (k : Q (.int (r.getD j 0))) : Wp (ixD (rowD r) (.int (j : Int))) Q := by
  refine Wp.eq (a := .int (r.getD j 0)) ?_ k
  show R.of (atI (r.map D.int) (j : Int)) = _
  rw [atI_nat (d := D.int 0) (by rw [List.length_map]; exact hj), getD_map (d := 0) hj]
  rfl
theorem ix_rowT {Q : D → Prop} (hj : j < r.length) (k : Q (.int (r.getD j 0))) : Wp (ixD (rowT r) (.int (j : Int))) Q := by
  refine Wp.eq (a := .int (r.getD j 0)) ?_ k
  show R.of (atI (r.map D.int) (j : Int)) = _
  rw [atI_nat (d := D.int 0) (by rw [List.length_map]; exact hj), getD_map (d := 0) hj]
  rfl
theorem map_set {α β : Type} (f : α → β) : ∀ (xs : List α) (i : Nat) (x : α), (xs.set i x).map f = (xs.map f).set i (f x)
  | [], _, _ => rfl
  | y :: xs, 0, x => rfl
  | y :: xs, i + 1, x => by
    show f y :: (xs.set i x).map f = f y :: (xs.map f).set i (f x)
    rw [map_set f xs i x]
theorem set2_ok {Q : List O → Prop} (h : m.sq n) (hi : i < n) (hj : j < n) (k : Q ((m.put i j v).map rowO)) : Wp (set2R (m.map rowO) (i : Int) (j : Int) (.sh (.int v))) Q := by
  have hr := h.rlen hi
  have e1 : ixN (m.map rowO).length (i : Int) = some i := ixN_nat (by rw [List.length_map, h.len]; exact hi)
  have e2 : (m.map rowO)[i]? = some (rowO (m.getD i [])) := by
    rw [List.getElem?_map, List.getElem?_eq_getElem (by rw [h.len]; exact hi), List.getD_eq_getElem?_getD, List.getElem?_eq_getElem (by rw [h.len]; exact hi)]
    rfl
  have e3 : ixN (((m.getD i []).map D.int).map O.sh).length (j : Int) = some j := ixN_nat (by rw [List.length_map, List.length_map, hr]; exact hj)
  refine Wp.eq (a := (m.put i j v).map rowO) ?_ k
  unfold set2R
  rw [e1]
  simp only [R.of_some, R.ok_bind]
  rw [e2]
  simp only [R.of_some, R.ok_bind]
  show (asL (.lst (((m.getD i []).map D.int).map O.sh)) >>= _) = _
  rw [asL_lst]
  simp only [R.ok_bind]
  rw [e3]
  simp only [R.of_some, R.ok_bind]
  show R.ok ((m.map rowO).set i (O.lst ((((m.getD i []).map D.int).map O.sh).set j (.sh (.int v))))) = _
  congr 1
  unfold Mx.put
  rw [map_set]
  congr 1
  unfold rowO
  rw [map_set, map_set]
end
/-! ### numbers as texts -/
def numS (i : Int) : Str := ((toString i : String) : Str)
structure Num (i : Int) : Prop where
  lo : 0 ≤ i
  hi : i ≤ 1000000000000000000000000000000
section
variable {i : Int}
theorem num_tl (h : 0 ≤ i) : (numS i).cps.toList = TL.numL i.toNat := by
  obtain ⟨n, rfl⟩ := Int.eq_ofNat_of_zero_le h
  exact TL.tl_num n
theorem num_log (h : Num i) : i.natAbs.log2 < 1920 := by
  obtain ⟨n, rfl⟩ := Int.eq_ofNat_of_zero_le h.lo
  have h1 := h.hi
  by_cases hn : n = 0
  · subst hn
    decide
  · show (n : Nat).log2 < 1920
    rw [Nat.log2_lt hn]
    have : (n : Nat) < 2 ^ 120 := by
      have : (2 : Nat) ^ 120 = 1329227995784915872903807060280344576 := by decide
      omega
    exact Nat.lt_of_lt_of_le this (Nat.pow_le_pow_right (by decide) (by decide))
theorem num_len (h : Num i) : 1 ≤ (numS i).length ∧ (numS i).length ≤ 31 := by
  have e : (numS i).length = (TL.numL i.toNat).length := by
    rw [← num_tl h.lo]
    simp [Str.length]
  rw [e]
  refine ⟨?_, TL.numL_len (by decide) ?_⟩
  · exact Nat.pos_of_ne_zero fun z => TL.numL_ne _ (List.length_eq_zero_iff.mp z)
  · have h1 := h.hi
    have h0 := h.lo
    have : (10 : Nat) ^ 31 = 10000000000000000000000000000000 := by decide
    omega
theorem num_digit (h : 0 ≤ i) : ∀ ch ∈ (numS i).cps.toList, 48 ≤ ch ∧ ch ≤ 57 := by
  rw [num_tl h]
  exact TL.numL_digits _
theorem num_int (h : Num i) : PySem.intText? (numS i) = some i := by
  obtain ⟨n, rfl⟩ := Int.eq_ofNat_of_zero_le h.lo
  refine TL.int_num ?_
  have := (num_len h).2
  have e : (numS (n : Int)).length = (TL.numL n).length := by
    rw [← TL.tl_num n]
    show (numS (n : Int)).cps.size = _
    rw [← Array.length_toList]
    rfl
  omega
theorem numL_head : ∀ n : Nat, 1 ≤ n → (TL.numL n).head? ≠ some 48 := by
  intro n
  induction n using Nat.strongRecOn with
  | _ n ih =>
    intro h
    by_cases h1 : n < 10
    · rw [TL.numL_lt h1]
      intro z
      have z : 48 + n = 48 := by simpa using z
      omega
    · rw [TL.numL_step (by omega)]
      have hh := ih (n / 10) (by omega) (by omega)
      intro z
      apply hh
      cases e : TL.numL (n / 10) with
      | nil => exact absurd e (TL.numL_ne _)
      | cons a l =>
        rw [e] at z
        exact z
/-- a number's text begins with 0 only if it is 0 -/
theorem num_zero (h : 0 ≤ i) (hz : (numS i).cps.toList.head? = some 48) : (numS i).length = 1 := by
  rw [num_tl h] at hz
  have h0 : i.toNat = 0 := Nat.eq_zero_of_not_pos fun z => numL_head _ z hz
  have : (numS i).length = (TL.numL i.toNat).length := by
    rw [← num_tl h]
    simp [Str.length]
  rw [this, h0]
  rfl
end
end MP

set_option Elab.async false
set_option linter.all false
set_option maxRecDepth 100000
/-! Dn: the text of distances, read back; loops over ranges. -/
namespace MP
open PySem L2
theorem joinL_mem {c : Nat} {S : List Nat} : ∀ {ps : List (List Nat)}, c ∈ TL.joinL S ps → c ∈ S ∨ ∃ p ∈ ps, c ∈ p
  | [], h => by cases h
  | [p], h => Or.inr ⟨p, List.mem_singleton.mpr rfl, h⟩
  | p :: q :: r, h => by
    have h : c ∈ p ++ (S ++ TL.joinL S (q :: r)) := h
    rcases List.mem_append.mp h with h | h
    · exact Or.inr ⟨p, List.mem_cons_self, h⟩
    · rcases List.mem_append.mp h with h | h
      · exact Or.inl h
      · rcases joinL_mem h with h | ⟨x, hx, h⟩
        · exact Or.inl h
        · exact Or.inr ⟨x, List.mem_cons_of_mem _ hx, h⟩
theorem join_tl (y : Str) (ps : List Str) : TL.tl (Txt.join y ps) = TL.joinL (TL.tl y) (ps.map TL.tl) := by
  rw [TL.join_eq, TL.tl_join]
theorem join_mem {c : Nat} {y : Str} {ps : List Str} (h : c ∈ TL.tl (Txt.join y ps)) : c ∈ TL.tl y ∨ ∃ p ∈ ps, c ∈ TL.tl p := by
  rw [join_tl] at h
  rcases joinL_mem h with h | ⟨p, hp, h⟩
  · exact Or.inl h
  · obtain ⟨z, hz, rfl⟩ := List.mem_map.mp hp
    exact Or.inr ⟨z, hz, h⟩
theorem joinL_len {S : List Nat} : ∀ {ps : List (List Nat)}, (TL.joinL S ps).length ≤ (ps.map (·.length)).sum + ps.length * S.length
  | [] => Nat.zero_le _
  | [p] => by
    show p.length ≤ (p.length + 0) + 1 * S.length
    omega
  | p :: q :: r => by
    show (p ++ (S ++ TL.joinL S (q :: r))).length ≤ (p.length + ((q :: r).map (·.length)).sum) + ((q :: r).length + 1) * S.length
    have := joinL_len (S := S) (ps := q :: r)
    rw [List.length_append, List.length_append, Nat.add_mul]
    omega
theorem len_tl (x : Str) : x.length = (TL.tl x).length := by
  show x.cps.size = x.cps.toList.length
  simp
theorem join_len (y : Str) (ps : List Str) : (Txt.join y ps).length ≤ (ps.map (·.length)).sum + ps.length * y.length := by
  rw [len_tl, join_tl, len_tl y]
  have := joinL_len (S := TL.tl y) (ps := ps.map TL.tl)
  rw [List.length_map, List.map_map] at this
  have e : ps.map ((·.length) ∘ TL.tl) = ps.map (·.length) := List.map_congr_left fun p _ => (len_tl p).symm
  rw [e] at this
  exact this
/-! ### the text of distances -/
def partsOf (ws : List Str) (m : Mx) (k : Nat) : List Str := ws.getD k ("" : Str) :: ((m.getD k []).take k).map numS
def lineOf (ws : List Str) (m : Mx) (k : Nat) : Str := Txt.join " " (partsOf ws m k)
def linesOf (ws : List Str) (m : Mx) : List Str := (List.range ws.length).map (lineOf ws m)
def textOf (ws : List Str) (m : Mx) : Str := Txt.join "\n" (linesOf ws m)
abbrev top : Int := 1000000000000000000000000000000
/-- distances -/
structure Dst (ws : List Str) (m : Mx) : Prop where
  nm : NamesAre ws 2 9
  mt : Mat m ws.length top
section
variable {ws : List Str} {m : Mx} {k : Nat} {c : Nat}
theorem Mat.num {n : Nat} (h : Mat m n top) {r : List Int} (hr : r ∈ m) {v : Int} (hv : v ∈ r) : Num v := by
  obtain ⟨i, hi, rfl⟩ := List.mem_iff_getElem.mp hr
  obtain ⟨j, hj, rfl⟩ := List.mem_iff_getElem.mp hv
  have e : m.at i j = m[i][j] := by
    unfold Mx.at
    rw [List.getD_eq_getElem?_getD, List.getD_eq_getElem?_getD, List.getElem?_eq_getElem hi]
    show (m[i])[j]?.getD 0 = _
    rw [List.getElem?_eq_getElem hj]
    rfl
  exact ⟨by rw [← e]; exact h.lo i j, by rw [← e]; exact h.hi i j⟩
theorem Dst.row (h : Dst ws m) (hk : k < ws.length) : m.getD k [] ∈ m := getD_mem (by rw [h.mt.sq.len]; exact hk)
theorem Dst.rlen (h : Dst ws m) (hk : k < ws.length) : (m.getD k []).length = ws.length := h.mt.sq.rlen hk
theorem Dst.num (h : Dst ws m) (hk : k < ws.length) {v : Int} (hv : v ∈ m.getD k []) : Num v := h.mt.num (h.row hk) hv
theorem Dst.name (h : Dst ws m) (hk : k < ws.length) : Word (ws.getD k ("" : Str)) := h.nm.word _ (getD_mem hk)
theorem Dst.n9 (h : Dst ws m) : ws.length ≤ 9 := by have := h.nm.hi; omega
theorem Dst.n2 (h : Dst ws m) : 2 ≤ ws.length := by have := h.nm.lo; omega
theorem letter_ge {ch : Nat} (h : letC ch) : 97 ≤ ch := by
  have key : ∀ c ∈ letters.cps.toList, 97 ≤ c := by decide +kernel
  exact key ch h
theorem parts_sign (h : Dst ws m) (hk : k < ws.length) : ∀ p ∈ partsOf ws m k, ∀ c ∈ TL.tl p, (97 ≤ c ∧ c < 123) ∨ (48 ≤ c ∧ c ≤ 57) := by
  intro p hp c hc
  unfold partsOf at hp
  rcases List.mem_cons.mp hp with rfl | hp
  · have := (h.name hk).2.2 c hc
    exact Or.inl ⟨letter_ge this, letter_lt this⟩
  · obtain ⟨v, hv, rfl⟩ := List.mem_map.mp hp
    exact Or.inr (num_digit (h.num hk (List.mem_of_mem_take hv)).lo c hc)
theorem parts_len (h : Dst ws m) (hk : k < ws.length) : (partsOf ws m k).length = k + 1 := by
  unfold partsOf
  rw [List.length_cons, List.length_map, List.length_take, h.rlen hk, Nat.min_eq_left (by omega)]
theorem parts_each (h : Dst ws m) (hk : k < ws.length) : ∀ p ∈ partsOf ws m k, p.length ≤ 31 := by
  intro p hp
  unfold partsOf at hp
  rcases List.mem_cons.mp hp with rfl | hp
  · have := (h.name hk).2.1
    omega
  · obtain ⟨v, hv, rfl⟩ := List.mem_map.mp hp
    exact (num_len (h.num hk (List.mem_of_mem_take hv))).2
theorem parts_sum (h : Dst ws m) (hk : k < ws.length) : ((partsOf ws m k).map (·.length)).sum ≤ 31 * 9 := by
  have h1 : ((partsOf ws m k).map (·.length)).sum ≤ ((partsOf ws m k).map (·.length)).length * 31 := sum_le fun x hx => by
    obtain ⟨p, hp, rfl⟩ := List.mem_map.mp hx
    exact parts_each h hk p hp
  rw [List.length_map, parts_len h hk] at h1
  have := h.n9
  have h2 : (k + 1) * 31 ≤ 9 * 31 := Nat.mul_le_mul_right _ (by omega)
  omega
theorem line_split (h : Dst ws m) (hk : k < ws.length) : Txt.split (lineOf ws m k) " " = partsOf ws m k := by
  refine TL.split_join (s := 32) (S := []) rfl (by decide +kernel) (by unfold partsOf; simp) fun p hp hz => ?_
  have := parts_sign h hk p hp 32 hz
  omega
theorem line_len (h : Dst ws m) (hk : k < ws.length) : (lineOf ws m k).length ≤ 300 := by
  refine Nat.le_trans (join_len _ _) ?_
  have h1 := parts_sum h hk
  have e : (" " : Str).length = 1 := rfl
  rw [e, parts_len h hk]
  have := h.n9
  omega
theorem line_sign (h : Dst ws m) (hk : k < ws.length) : 10 ∉ TL.tl (lineOf ws m k) := by
  intro hz
  rcases join_mem hz with hz | ⟨p, hp, hz⟩
  · have e : TL.tl (" " : Str) = [32] := rfl
    rw [e] at hz
    simp at hz
  · have := parts_sign h hk p hp 10 hz
    omega
theorem lines_ne (h : Dst ws m) : linesOf ws m ≠ [] := by
  have := h.n2
  unfold linesOf
  intro z
  have z := congrArg List.length z
  rw [List.length_map, List.length_range] at z
  have z : ws.length = 0 := z
  omega
theorem text_split (h : Dst ws m) : Txt.split (textOf ws m) "\n" = linesOf ws m := by
  refine TL.split_join (s := 10) (S := []) rfl (by decide +kernel) (lines_ne h) fun p hp hz => ?_
  unfold linesOf at hp
  obtain ⟨k, hk, rfl⟩ := List.mem_map.mp hp
  exact line_sign h (List.mem_range.mp hk) hz
theorem lines_sum (h : Dst ws m) : ((linesOf ws m).map (·.length)).sum ≤ 2700 := by
  have h1 : ((linesOf ws m).map (·.length)).sum ≤ ((linesOf ws m).map (·.length)).length * 300 := sum_le fun x hx => by
    obtain ⟨p, hp, rfl⟩ := List.mem_map.mp hx
    unfold linesOf at hp
    obtain ⟨k, hk, rfl⟩ := List.mem_map.mp hp
    exact line_len h (List.mem_range.mp hk)
  have e : (linesOf ws m).length = ws.length := by
    unfold linesOf
    rw [List.length_map, List.length_range]
  rw [List.length_map, e] at h1
  have := h.n9
  have h2 : ws.length * 300 ≤ 9 * 300 := Nat.mul_le_mul_right _ (by omega)
  omega
theorem lines_len : (linesOf ws m).length = ws.length := by
  unfold linesOf
  rw [List.length_map, List.length_range]
theorem text_len (h : Dst ws m) : (textOf ws m).length ≤ 3000 := by
  refine Nat.le_trans (join_len _ _) ?_
  have h1 := lines_sum h
  have e : ("\n" : Str).length = 1 := rfl
  rw [e, lines_len]
  have := h.n9
  omega
end
/-! ### loops -/
theorem at_split {α : Type} {xs ys zs : List α} {x : α} (h : xs = ys ++ x :: zs) : xs[ys.length]? = some x := by
  rw [h, List.getElem?_append_right (Nat.le_refl _), Nat.sub_self]
  rfl
theorem rangeD_nat (n : Nat) : rangeD 0 (n : Int) = (List.range n).map fun (k : Nat) => D.int (k : Int) := by
  unfold rangeD
  have e : ((n : Int) - 0).toNat = n := by omega
  rw [e]
  exact List.map_congr_left fun k _ => by rw [Int.zero_add]
theorem runF_rng {bd : D → En → R (Fl × En)} {n : Nat} (I : Nat → En → Prop) {e : En} (h0 : I 0 e) (hs : ∀ (k : Nat) (e : En), k < n → I k e → Wp (bd (.int (k : Int)) e) fun p => p.1 = .nx ∧ I (k + 1) p.2) : Wp (runF bd (rangeD 0 (n : Int)) e) fun p => p.1 = .nx ∧ I n p.2 := by
  have hl : (rangeD 0 (n : Int)).length = n := by rw [rangeD_nat, List.length_map, List.length_range]
  refine (runF_at (xs := rangeD 0 (n : Int)) (fun ys e => I ys.length e) h0 ?_).mono fun p hp => ⟨hp.1, by have := hp.2; rw [hl] at this; exact this⟩
  intro ys x zs e hx hi
  have h1 := at_split hx
  have hn : ys.length < n := by
    have := congrArg List.length hx
    rw [hl, List.length_append, List.length_cons] at this
    omega
  rw [rangeD_nat, List.getElem?_map, List.getElem?_range hn] at h1
  have h1 : some (D.int (ys.length : Int)) = some x := h1
  cases h1
  rw [List.length_append]
  exact hs _ e hn hi
theorem runC_map {bd : D → En → R (Option O × En)} {e0 : En} (f : D → O) : ∀ (xs : List D), (∀ x ∈ xs, Wp (bd x e0) fun p => p = (some (f x), e0)) → Wp (runC bd xs e0) fun p => p = (xs.map f, e0)
  | [], _ => by
    rw [c_nil]
    rfl
  | x :: xs, h => by
    rw [c_cons]
    refine (h x List.mem_cons_self).mono fun p hp => ?_
    subst hp
    refine (runC_map f xs fun y hy => h y (List.mem_cons_of_mem _ hy)).mono fun q hq => ?_
    subst hq
    rfl
theorem runC_rng {bd : D → En → R (Option O × En)} {e0 : En} {n : Nat} (f : Nat → O) (h : ∀ k, k < n → Wp (bd (.int (k : Int)) e0) fun p => p = (some (f k), e0)) : Wp (runC bd (rangeD 0 (n : Int)) e0) fun p => p = ((List.range n).map f, e0) := by
  have h2 := runC_map (bd := bd) (e0 := e0) (fun d => match d with | .int k => f k.toNat | _ => f 0) (rangeD 0 (n : Int)) fun x hx => by
    rw [rangeD_nat] at hx
    obtain ⟨k, hk, rfl⟩ := List.mem_map.mp hx
    exact h k (List.mem_range.mp hk)
  refine h2.mono fun p hp => ?_
  rw [hp, rangeD_nat, List.map_map]
  rfl
/-- .. whose item hangs on the place -/
theorem runC_at {bd : D → En → R (Option O × En)} {xs : List D} (f : Nat → O) {e0 : En} (h : ∀ k x, xs[k]? = some x → Wp (bd x e0) fun p => p = (some (f k), e0)) : Wp (runC bd xs e0) fun p => p = ((List.range xs.length).map f, e0) := by
  induction xs generalizing f with
  | nil =>
    rw [c_nil]
    rfl
  | cons x xs ih =>
    rw [c_cons]
    refine (h 0 x rfl).mono fun p hp => ?_
    subst hp
    refine (ih (fun k => f (k + 1)) fun k y hy => h (k + 1) y hy).mono fun q hq => ?_
    subst hq
    show (f 0 :: (List.range xs.length).map (fun k => f (k + 1)), e0) = ((List.range (xs.length + 1)).map f, e0)
    rw [List.range_succ_eq_map, List.map_cons, List.map_map]
    rfl
theorem runC_over {α : Type} {bd : D → En → R (Option O × En)} {e0 : En} (g : α → D) (f : α → O) : ∀ (xs : List α), (∀ x ∈ xs, Wp (bd (g x) e0) fun p => p = (some (f x), e0)) → Wp (runC bd (xs.map g) e0) fun p => p = (xs.map f, e0)
  | [], _ => by
    rw [List.map_nil, c_nil]
    rfl
  | x :: xs, h => by
    rw [List.map_cons, c_cons]
    refine (h x List.mem_cons_self).mono fun p hp => ?_
    subst hp
    refine (runC_over g f xs fun y hy => h y (List.mem_cons_of_mem _ hy)).mono fun q hq => ?_
    subst hq
    rfl
/-- what is read as if it were shared -/
theorem get_share {e : En} {i : Nat} {o : O} (h : e.get i = .ok o) (hn : noIns o = true) : (shareAll e).get i = .ok (.sh o.view) := by
  unfold En.get at h ⊢
  unfold shareAll
  rw [List.getElem?_map]
  cases q : e[i]? with
  | none =>
    rw [q] at h
    cases h
  | some x =>
    rw [q] at h
    cases x with
    | none => cases h
    | some p =>
      cases h
      cases o with
      | sh d => rfl
      | lst xs =>
        show (match some (if noIns (.lst xs) = true then some (O.sh (O.lst xs).view) else none) with
          | some (some o) => R.ok o
          | _ => .bad) = _
        rw [hn]
        rfl
      | ins k fs => cases hn
theorem sl_rowD {r : List Int} {k : Nat} {Q : O → Prop} (q : Q (rowO (r.take k))) : Wp (slD (.sh (rowD r)) none (some (k : Int))) Q := by
  refine Wp.eq (a := rowO (r.take k)) ?_ q
  show R.ok (O.lst ((cut (r.map D.int) none (some (k : Int))).map O.sh)) = _
  rw [cut_nat, ← List.map_take]
  rfl
theorem sl_rowT {r : List Int} {k : Nat} {Q : O → Prop} (q : Q (.sh (rowT (r.take k)))) : Wp (slD (.sh (rowT r)) none (some (k : Int))) Q := by
  refine Wp.eq (a := .sh (rowT (r.take k))) ?_ q
  show R.ok (O.sh (D.tup (cut (r.map D.int) none (some (k : Int))))) = _
  rw [cut_nat, ← List.map_take]
  rfl
theorem indeps_ints : ∀ r : List Int, indeps ((r.map D.int).map O.sh) = true
  | [] => rfl
  | v :: r => indeps_ints r
theorem str_num {v : Int} {Q : O → Prop} (h : Num v) (k : Q (.sh (.str (numS v)))) : Wp (blD .str [.sh (.int v)]) Q := by
  refine Wp.eq (a := .sh (.str (numS v))) ?_ k
  show R.need (decide (v.natAbs.log2 < 1920)) (R.ok (O.sh (.str (toString v)))) = _
  rw [decide_eq_true (num_log h)]
  rfl
end MP

set_option Elab.async false
set_option linter.all false
set_option maxRecDepth 100000
set_option maxHeartbeats 4000000
/-! Dp: drawn tables and their texts. -/
namespace MP
open PySem L2
local macro_rules | `(tactic| trivial) => `(tactic| (repeat (first | (refine sN_of ?_; intro _e _he; (try simp only [give_n, give_v, give_a, List.set_cons_zero, List.set_cons_succ, wipe_n, wipe_c] at _he); subst _he) | ((with_reducible refine mul_row ?_ ?_); first | assumption | omega) | (refine wp_mul ?_ ?_; first | exact mul_r (by decide) | exact mul_l (by decide) | exact mul_r (decide_eq_true (by constructor <;> omega)) | exact mul_l (decide_eq_true (by constructor <;> omega))) | (refine wp_fdiv ?_ ?_; first | assumption | decide | (exact div_of (by first | assumption | omega) (by assumption))) | (refine wp_mod ?_ ?_; first | assumption | decide | omega) | (refine wp_divmod ?_ ?_; first | assumption | decide | (exact div_of (by first | assumption | omega) (by assumption))) | refine Wp.eq rfl ?_ | (refine gt_ix2 rfl rfl rfl ?_) | refine (w_non).mpr ?_ | refine (w_bl).mpr ?_ | refine (w_int).mpr ?_ | refine (w_str).mpr ?_ | refine (w_glb).mpr ?_ | refine (w_var).mpr ?_ | refine (a_var).mpr ?_ | refine (t_var).mpr ?_ | refine (w_op).mpr ?_ | refine (w_neg).mpr ?_ | refine (w_cm).mpr ?_ | refine (w_ch).mpr ?_ | refine (w_and).mpr ?_ | refine (w_or).mpr ?_ | refine (t_and).mpr ?_ | refine (t_or).mpr ?_ | refine (w_not).mpr ?_ | refine (t_not).mpr ?_ | refine (w_ite).mpr ?_ | refine (w_ix).mpr ?_ | refine (o_nil).mpr ?_ | refine (w_sl).mpr ?_ | refine (w_rev).mpr ?_ | refine (k_nil).mpr ?_ | refine (g_nil).mpr ?_ | refine (k_cons).mpr ?_ | refine (g_cons).mpr ?_ | refine (k_star).mpr ?_ | refine (w_tup).mpr ?_ | refine (w_lst).mpr ?_ | refine (w_call).mpr ?_ | refine (w_callK).mpr ?_ | refine (w_bl1).mpr ?_ | refine (w_mt).mpr ?_ | refine (w_isTy).mpr ?_ | refine (w_pop).mpr ?_ | refine (i_range1).mpr ?_ | refine (i_range2).mpr ?_ | refine (i_enum).mpr ?_ | refine (i_zip).mpr ?_ | refine (w_comp).mpr ?_ | refine (gt_var).mpr ?_ | refine (gt_ix).mpr ?_ | refine (gt_tup).mpr ?_ | refine (gt_tupL).mpr ?_ | refine (gl_nil).mpr ?_ | refine (gl_cons).mpr ?_ | refine (go_nil).mpr ?_ | refine (go_cons).mpr ?_ | refine (s_nil).mpr ?_ | refine (s_seqN).mpr ?_ | refine (s_expr).mpr ?_ | refine (s_app).mpr ?_ | refine (s_asg).mpr ?_ | refine (s_par).mpr ?_ | refine (s_ifs).mpr ?_ | refine (s_loop).mpr ?_ | refine (s_retV).mpr ?_ | refine (s_retN).mpr ?_ | refine (f_nil).mpr ?_ | refine (c_nil).mpr ?_ | refine (take_wp).mpr ?_ | refine (takeK_sh).mpr ?_ | refine (takeK_lst).mpr ?_ | refine (arg_wp).mpr ?_ | refine (argK_sh).mpr ?_ | refine (argK_lst).mpr ?_ | refine (bind_1).mpr ?_ | refine (bind_2).mpr ?_ | refine (lend_n).mpr ?_ | refine (lend_v).mpr ?_ | refine (lend_a).mpr ?_ | refine (left_c).mpr ?_ | refine (seeAll_c).mpr ?_ | refine (w_att).mpr ?_ | refine (w_isCl).mpr ?_ | refine (w_revR).mpr ?_ | refine (w_lrange).mpr ?_ | refine (w_make).mpr ?_ | refine (w_makeK).mpr ?_ | refine (w_meth).mpr ?_ | refine (w_methK).mpr ?_ | refine (w_own).mpr ?_ | refine (w_eqO).mpr ?_ | refine (w_idx).mpr ?_ | refine (w_bor).mpr ?_ | refine (w_comp2).mpr ?_ | refine (a_non).mpr ?_ | refine (t_non).mpr ?_ | refine (i_non).mpr ?_ | refine (o_non).mpr ?_ | refine (r_non).mpr ?_ | refine (a_bl).mpr ?_ | refine (t_bl).mpr ?_ | refine (i_bl).mpr ?_ | refine (o_bl).mpr ?_ | refine (r_bl).mpr ?_ | refine (a_int).mpr ?_ | refine (t_int).mpr ?_ | refine (i_int).mpr ?_ | refine (o_int).mpr ?_ | refine (r_int).mpr ?_ | refine (a_str).mpr ?_ | refine (t_str).mpr ?_ | refine (i_str).mpr ?_ | refine (o_str).mpr ?_ | refine (r_str).mpr ?_ | refine (a_glb).mpr ?_ | refine (t_glb).mpr ?_ | refine (i_glb).mpr ?_ | refine (o_glb).mpr ?_ | refine (r_glb).mpr ?_ | refine (a_op).mpr ?_ | refine (t_op).mpr ?_ | refine (i_op).mpr ?_ | refine (o_op).mpr ?_ | refine (r_op).mpr ?_ | refine (a_neg).mpr ?_ | refine (t_neg).mpr ?_ | refine (i_neg).mpr ?_ | refine (o_neg).mpr ?_ | refine (r_neg).mpr ?_ | refine (a_cm).mpr ?_ | refine (t_cm).mpr ?_ | refine (i_cm).mpr ?_ | refine (o_cm).mpr ?_ | refine (r_cm).mpr ?_ | refine (a_ch).mpr ?_ | refine (t_ch).mpr ?_ | refine (i_ch).mpr ?_ | refine (o_ch).mpr ?_ | refine (r_ch).mpr ?_ | refine (a_and).mpr ?_ | refine (i_and).mpr ?_ | refine (o_and).mpr ?_ | refine (r_and).mpr ?_ | refine (a_or).mpr ?_ | refine (i_or).mpr ?_ | refine (o_or).mpr ?_ | refine (r_or).mpr ?_ | refine (a_not).mpr ?_ | refine (i_not).mpr ?_ | refine (o_not).mpr ?_ | refine (r_not).mpr ?_ | refine (a_ite).mpr ?_ | refine (i_ite).mpr ?_ | refine (o_ite).mpr ?_ | refine (r_ite).mpr ?_ | refine (a_ix).mpr ?_ | refine (t_ix).mpr ?_ | refine (i_ix).mpr ?_ | refine (o_ix).mpr ?_ | refine (r_ix).mpr ?_ | refine (a_sl).mpr ?_ | refine (t_sl).mpr ?_ | refine (i_sl).mpr ?_ | refine (o_sl).mpr ?_ | refine (r_sl).mpr ?_ | refine (a_rev).mpr ?_ | refine (t_rev).mpr ?_ | refine (i_rev).mpr ?_ | refine (o_rev).mpr ?_ | refine (r_rev).mpr ?_ | refine (a_tup).mpr ?_ | refine (t_tup).mpr ?_ | refine (i_tup).mpr ?_ | refine (o_tup).mpr ?_ | refine (r_tup).mpr ?_ | refine (a_lst).mpr ?_ | refine (t_lst).mpr ?_ | refine (i_lst).mpr ?_ | refine (o_lst).mpr ?_ | refine (r_lst).mpr ?_ | refine (a_call).mpr ?_ | refine (t_call).mpr ?_ | refine (i_call).mpr ?_ | refine (o_call).mpr ?_ | refine (r_call).mpr ?_ | refine (a_callK).mpr ?_ | refine (t_callK).mpr ?_ | refine (i_callK).mpr ?_ | refine (o_callK).mpr ?_ | refine (r_callK).mpr ?_ | refine (a_bl1).mpr ?_ | refine (t_bl1).mpr ?_ | refine (i_bl1).mpr ?_ | refine (o_bl1).mpr ?_ | refine (r_bl1).mpr ?_ | refine (a_mt).mpr ?_ | refine (t_mt).mpr ?_ | refine (i_mt).mpr ?_ | refine (o_mt).mpr ?_ | refine (r_mt).mpr ?_ | refine (a_isTy).mpr ?_ | refine (t_isTy).mpr ?_ | refine (i_isTy).mpr ?_ | refine (o_isTy).mpr ?_ | refine (r_isTy).mpr ?_ | refine (a_pop).mpr ?_ | refine (t_pop).mpr ?_ | refine (i_pop).mpr ?_ | refine (o_pop).mpr ?_ | refine (r_pop).mpr ?_ | refine (a_comp).mpr ?_ | refine (t_comp).mpr ?_ | refine (i_comp).mpr ?_ | refine (o_comp).mpr ?_ | refine (r_comp).mpr ?_ | refine (a_att).mpr ?_ | refine (t_att).mpr ?_ | refine (i_att).mpr ?_ | refine (o_att).mpr ?_ | refine (r_att).mpr ?_ | refine (a_make).mpr ?_ | refine (t_make).mpr ?_ | refine (i_make).mpr ?_ | refine (o_make).mpr ?_ | refine (r_make).mpr ?_ | refine (a_makeK).mpr ?_ | refine (t_makeK).mpr ?_ | refine (i_makeK).mpr ?_ | refine (o_makeK).mpr ?_ | refine (r_makeK).mpr ?_ | refine (a_meth).mpr ?_ | refine (t_meth).mpr ?_ | refine (i_meth).mpr ?_ | refine (o_meth).mpr ?_ | refine (r_meth).mpr ?_ | refine (a_methK).mpr ?_ | refine (t_methK).mpr ?_ | refine (i_methK).mpr ?_ | refine (o_methK).mpr ?_ | refine (r_methK).mpr ?_ | refine (a_own).mpr ?_ | refine (t_own).mpr ?_ | refine (i_own).mpr ?_ | refine (o_own).mpr ?_ | refine (r_own).mpr ?_ | refine (a_eqO).mpr ?_ | refine (t_eqO).mpr ?_ | refine (i_eqO).mpr ?_ | refine (o_eqO).mpr ?_ | refine (r_eqO).mpr ?_ | refine (a_isCl).mpr ?_ | refine (t_isCl).mpr ?_ | refine (i_isCl).mpr ?_ | refine (o_isCl).mpr ?_ | refine (r_isCl).mpr ?_ | refine (a_comp2).mpr ?_ | refine (t_comp2).mpr ?_ | refine (i_comp2).mpr ?_ | refine (o_comp2).mpr ?_ | refine (r_comp2).mpr ?_ | refine (a_revR).mpr ?_ | refine (t_revR).mpr ?_ | refine (i_revR).mpr ?_ | refine (o_revR).mpr ?_ | refine (r_revR).mpr ?_ | refine (a_lrange).mpr ?_ | refine (t_lrange).mpr ?_ | refine (i_lrange).mpr ?_ | refine (o_lrange).mpr ?_ | refine (r_lrange).mpr ?_ | refine (a_bor).mpr ?_ | refine (t_bor).mpr ?_ | refine (i_bor).mpr ?_ | refine (o_bor).mpr ?_ | refine (r_bor).mpr ?_ | refine (a_idx).mpr ?_ | refine (t_idx).mpr ?_ | refine (i_idx).mpr ?_ | refine (o_idx).mpr ?_ | refine (r_idx).mpr ?_ | refine (i_var).mpr ?_ | refine (o_var).mpr ?_ | (refine and_lt ?_ ?_; exact Nat.le_of_ble_eq_true rfl) | (refine need_t ?_ ?_; first | (with_reducible assumption) | (with_reducible exact ixOk_sh) | (exact decide_eq_true (by omega)) | rfl | decide | exact ixOk_str | exact ixOk_int | omega) | refine br_t.mpr ?_ | refine br_f.mpr ?_ | (refine br_dt ?_ ?_; first | assumption | omega) | (refine br_df ?_ ?_; first | assumption | omega) | (refine br_nt ?_ ?_; first | assumption | omega) | (refine br_nf ?_ ?_; first | assumption | omega))))
theorem big_log {m : Int} (h0 : 0 < m) (h1 : m < 2 ^ 200) : m.natAbs.log2 < 9000 := by
  have h : m.natAbs < 2 ^ 200 := by omega
  have h2 : m.natAbs ≠ 0 := by omega
  have := (Nat.log2_lt h2).mpr h
  omega
theorem zeros_map (n : Nat) : (List.range n).map (fun _ => rowO (List.replicate n 0)) = (zeros n).map rowO := by
  unfold zeros
  rw [List.map_replicate]
  apply List.ext_getElem
  · simp
  · intro i h1 h2
    simp
def fRows : Fn := ⟨3, 8, [],
  (.seq (.asg (.var 3) (.comp [4] false (.op .mul (.lst (.cons (.int 0) .nil)) (.var 1)) (.range1 (.var 1)) .nil))
    (.seq (.loop [5] false (.range1 (.var 1)) (.seq (.loop [6] false (.range1 (.var 5)) (.seq (.asg (.var 7) (.call 1 (.cons (.var 0) (.cons (.op .add (.var 2) (.int 1)) .nil))))
    (.seq (.par (.cons (.ix2 3 5 6) (.cons (.ix2 3 6 5) .nil)) (.cons (.var 7) (.cons (.var 7) .nil)))
    .nil)))
    .nil))
    (.seq (.ret (.var 3))
    .nil)))⟩
structure RowsOk (c : Cfg) : Prop where
  asg : c.asg 23 = []
  run : ∀ {x y z : Int} {n : Nat} {B : Int} {Q : O × List O → Prop}, n ≤ 1000 → 0 ≤ B → B ≤ top → (∀ m x y z, Mat m n B → Q (mxO m, [pot x y z, .sh (.int (n : Int)), .sh (.int B)])) → Wp (c.call 23 [pot x y z, .sh (.int (n : Int)), .sh (.int B)]) Q
theorem rows_ok {c : Cfg} (hD : DigOk c) {x y z : Int} {n : Nat} {B : Int} {Q : O × List O → Prop} (hn : n ≤ 1000) (h0 : 0 ≤ B) (h1 : B ≤ top) (k : ∀ m x y z, Mat m n B → Q (mxO m, [pot x y z, .sh (.int (n : Int)), .sh (.int B)])) : Wp (runFn c fRows [pot x y z, .sh (.int (n : Int)), .sh (.int B)]) Q := by
  have hrg : rangeOk 0 (n : Int) = true := decide_eq_true (by omega)
  rw [fn_wp]
  refine ⟨rfl, ?_⟩
  show sV c 3 fRows.body [some (pot x y z), some (.sh (.int (n : Int))), some (.sh (.int B)), none, none, none, none, none] _
  unfold fRows
  dsimp only
  trivial
  show Wp (runC _ (rangeD 0 (n : Int)) [some (pot x y z), some (.sh (.int (n : Int))), some (.sh (.int B)), none, none, none, none, none]) _
  refine (runC_rng (fun _ => rowO (List.replicate n 0)) fun i hi => ?_).mono fun p hp => ?_
  · refine b_nil.mpr ?_
    trivial
    show (some (O.lst ((List.replicate n (.int 0)).map O.sh)), _) = _
    unfold rowO
    rw [List.map_replicate, List.map_replicate, List.map_replicate]
    rfl
  · subst hp
    rw [zeros_map]
    refine need_t (decide_eq_true (by rw [rangeD_nat, List.length_map, List.length_range]; show _ ≤ 16777216; omega)) ?_
    trivial
    show Wp (runF _ (rangeD 0 (n : Int)) [some (pot x y z), some (.sh (.int (n : Int))), some (.sh (.int B)), some (mxO (zeros n)), none, none, none, none]) _
    refine (runF_rng (n := n) (fun _ e => ∃ x y z m a b d, e = [some (pot x y z), some (.sh (.int (n : Int))), some (.sh (.int B)), some (mxO m), none, a, b, d] ∧ Mat m n B) ⟨x, y, z, zeros n, none, none, none, rfl, Mat.zero h0⟩ ?_).mono ?_
    · rintro i e hi ⟨x, y, z, m, a, b, d, rfl, hm⟩
      have hrg2 : rangeOk 0 (i : Int) = true := decide_eq_true (by omega)
      refine f_b.mpr ?_
      trivial
      show Wp (runF _ (rangeD 0 (i : Int)) [some (pot x y z), some (.sh (.int (n : Int))), some (.sh (.int B)), some (mxO m), none, some (.sh (.int (i : Int))), b, d]) _
      refine (runF_rng (n := i) (fun _ e => ∃ x y z m b d, e = [some (pot x y z), some (.sh (.int (n : Int))), some (.sh (.int B)), some (mxO m), none, some (.sh (.int (i : Int))), b, d] ∧ Mat m n B) ⟨x, y, z, m, b, d, rfl, hm⟩ ?_).mono ?_
      · rintro j e hj ⟨x, y, z, m, b, d, rfl, hm⟩
        refine f_b.mpr ?_
        trivial
        refine cV_0 hD.asg ?_
        trivial
        refine hD.run (by omega) (big_log (by omega) (by have : top + 1 < 2 ^ 200 := (by decide); omega)) fun v x y z g0 g1 => ?_
        trivial
        refine set2_ok hm.sq hi (by omega) ?_
        trivial
        refine set2_ok (put_sq hm.sq hi) (by omega) hi ?_
        trivial
        exact ⟨rfl, x, y, z, _, _, _, rfl, hm.put2 hi (by omega) (by omega) g0 (by omega)⟩
      · rintro ⟨fl, e⟩ ⟨e1, x, y, z, m, b, d, e2, hm⟩
        have e1 : fl = .nx := e1
        have e2 : e = _ := e2
        subst e1
        subst e2
        dsimp only
        trivial
        exact ⟨rfl, x, y, z, m, _, _, _, rfl, hm⟩
    · rintro ⟨fl, e⟩ ⟨e1, x, y, z, m, a, b, d, e2, hm⟩
      have e1 : fl = .nx := e1
      have e2 : e = _ := e2
      subst e1
      subst e2
      dsimp only
      trivial
      exact k m x y z hm
def fBound : Fn := ⟨1, 1, [],
  (.seq (.ret (.ix (.lst (.cons (.int 1) (.cons (.int 3) (.cons (.int 9) (.cons (.int 60) (.cons (.op .pow (.int 10) (.int 6)) (.cons (.op .pow (.int 10) (.int 30)) .nil))))))) (.call 1 (.cons (.var 0) (.cons (.int 6) .nil)))))
    .nil)⟩
structure BoundOk (c : Cfg) : Prop where
  asg : c.asg 24 = []
  run : ∀ {x y z : Int} {Q : O × List O → Prop}, (∀ b x y z, 0 ≤ b → b ≤ top → Q (.sh (.int b), [pot x y z])) → Wp (c.call 24 [pot x y z]) Q
theorem bound_ok {c : Cfg} (hD : DigOk c) {x y z : Int} {Q : O × List O → Prop} (k : ∀ b x y z, 0 ≤ b → b ≤ top → Q (.sh (.int b), [pot x y z])) : Wp (runFn c fBound [pot x y z]) Q := by
  rw [fn_wp]
  refine ⟨rfl, ?_⟩
  show sV c 1 fBound.body [some (pot x y z)] _
  unfold fBound
  dsimp only
  trivial
  refine cV_0 hD.asg ?_
  trivial
  refine hD.run (by decide) (by decide) fun r x y z g0 g1 => ?_
  trivial
  show Wp (ixD (.lst [.int 1, .int 3, .int 9, .int 60, .int 1000000, .int 1000000000000000000000000000000]) (.int r)) _
  refine ix_lst_ok g0 g1 fun d hd => ?_
  have key : ∃ b, d = .int b ∧ 0 ≤ b ∧ b ≤ top := by
    rcases List.mem_cons.mp hd with rfl | hd
    · exact ⟨_, rfl, by decide, by decide⟩
    rcases List.mem_cons.mp hd with rfl | hd
    · exact ⟨_, rfl, by decide, by decide⟩
    rcases List.mem_cons.mp hd with rfl | hd
    · exact ⟨_, rfl, by decide, by decide⟩
    rcases List.mem_cons.mp hd with rfl | hd
    · exact ⟨_, rfl, by decide, by decide⟩
    rcases List.mem_cons.mp hd with rfl | hd
    · exact ⟨_, rfl, by decide, by decide⟩
    rcases List.mem_cons.mp hd with rfl | hd
    · exact ⟨_, rfl, by decide, by decide⟩
    · cases hd
  obtain ⟨b, rfl, b0, b1⟩ := key
  trivial
  exact k b x y z b0 b1
def fText : Fn := ⟨2, 5, [],
  (.seq (.asg (.var 2) (.lst .nil))
    (.seq (.loop [3] false (.range1 (.bl1 .len (.cons (.var 0) .nil))) (.seq (.app 2 (.mt .join (.str " ") (.op .add (.lst (.cons (.ix (.var 0) (.var 3)) .nil)) (.comp [4] false (.bl1 .str (.cons (.var 4) .nil)) (.bor (.sl (.ix (.var 1) (.var 3)) .nil (.var 3))) .nil))))
    .nil))
    (.seq (.ret (.mt .join (.str "\n") (.var 2)))
    .nil)))⟩
structure TextOk (c : Cfg) : Prop where
  asg : c.asg 22 = []
  run : ∀ {ws : List Str} {m : Mx} {Q : O × List O → Prop}, Dst ws m → Q (.sh (.str (textOf ws m)), [tupS ws, mxO m]) → Wp (c.call 22 [tupS ws, mxO m]) Q
/-- the items of a list of texts, joined -/
theorem join_sts {y : Str} {ps : List Str} {Q : O → Prop} (h : (ps.map (·.length)).sum + ps.length * y.length ≤ lim) (k : Q (.sh (.str (Txt.join y ps)))) : Wp (mtD .join (.sh (.str y)) (.lst (sts ps))) Q := by
  refine Wp.eq (a := .sh (.str (Txt.join y ps))) ?_ k
  show ((R.of (strsD (views (sts ps)))) >>= fun ys => R.need (decide ((ys.map (·.length)).sum + ys.length * y.length ≤ lim)) (R.ok (O.sh (.str (Txt.join y ys))))) = _
  rw [views_sts, strsD_map, R.of_some, R.ok_bind, decide_eq_true h]
  rfl
theorem ix_tupS {ws : List Str} {i : Nat} {Q : D → Prop} (h : i < ws.length) (k : Q (.str (ws.getD i ("" : Str)))) : Wp (ixD (.tup (ws.map D.str)) (.int (i : Int))) Q := by
  refine Wp.eq (a := .str (ws.getD i ("" : Str))) ?_ k
  show R.of (atI (ws.map D.str) (i : Int)) = _
  rw [atI_nat (d := D.str "") (by rw [List.length_map]; exact h), getD_map (d := ("" : Str)) h]
  rfl
theorem text_ok {c : Cfg} {ws : List Str} {m : Mx} {Q : O × List O → Prop} (h : Dst ws m) (k : Q (.sh (.str (textOf ws m)), [tupS ws, mxO m])) : Wp (runFn c fText [tupS ws, mxO m]) Q := by
  have hn := h.n9
  have hl : ((ws.map D.str).length : Int) = (ws.length : Int) := by rw [List.length_map]
  have hrg : rangeOk 0 (ws.length : Int) = true := decide_eq_true (by omega)
  rw [fn_wp]
  refine ⟨rfl, ?_⟩
  show sV c 2 fText.body [some (.sh (.tup (ws.map D.str))), some (mxO m), none, none, none] _
  unfold fText
  dsimp only
  trivial
  rw [hl]
  trivial
  show Wp (runF _ (rangeD 0 (ws.length : Int)) [some (.sh (.tup (ws.map D.str))), some (mxO m), some (.lst (sts [])), none, none]) _
  refine (runF_rng (n := ws.length) (fun i e => ∃ a, e = [some (.sh (.tup (ws.map D.str))), some (mxO m), some (.lst (sts ((List.range i).map (lineOf ws m)))), a, none]) ⟨none, rfl⟩ ?_).mono ?_
  · rintro i e hi ⟨a, rfl⟩
    refine f_b.mpr ?_
    trivial
    refine ix_tupS hi ?_
    trivial
    refine Wp.eq (get_share (o := mxO m) rfl (noInss_mx m)) ?_
    rw [view_mxO]
    trivial
    refine ix_mxD h.mt.sq hi ?_
    trivial
    rw [cut_nat, ← List.map_take]
    refine need_t (indeps_ints _) ?_
    refine need_t (noInss_sh _) ?_
    show Wp (itemsD (O.view (rowO _))) _
    rw [view_rowO]
    trivial
    show Wp (runC _ (((m.getD i []).take i).map D.int) [some (.sh (.tup (ws.map D.str))), some (mxO m), some (.lst (sts ((List.range i).map (lineOf ws m)))), some (.sh (.int (i : Int))), none]) _
    refine (runC_over D.int (fun v => O.sh (.str (numS v))) ((m.getD i []).take i) fun v hv => ?_).mono fun p hp => ?_
    · refine b_nil.mpr ?_
      trivial
      refine str_num (h.num hi (List.mem_of_mem_take hv)) ?_
      trivial
      rfl
    subst hp
    have hp1 := parts_len h hi
    have hp2 := parts_sum h hi
    have est : ((m.getD i []).take i).map (fun v => O.sh (.str (numS v))) = sts (((m.getD i []).take i).map numS) := by
      unfold sts
      rw [List.map_map, List.map_map]
      rfl
    rw [est]
    refine need_t (decide_eq_true (by rw [List.length_map, List.length_take]; show _ ≤ 16777216; omega)) ?_
    trivial
    refine add_sts (xs := [ws.getD i ("" : Str)]) (by rw [List.length_map, List.length_take]; show 1 + _ ≤ 16777216; omega) ?_
    trivial
    refine join_sts (ps := partsOf ws m i) (by rw [hp1]; show _ + _ * 1 ≤ 16777216; omega) ?_
    trivial
    have hlim : decide ((sts ((List.range i).map (lineOf ws m))).length < lim) = true := decide_eq_true (by rw [sts_len, List.length_map, List.length_range]; show _ < 16777216; omega)
    refine need_t hlim ?_
    trivial
    refine ⟨rfl, some (.sh (.int (i : Int))), ?_⟩
    rw [List.range_succ, List.map_append, List.map_cons, List.map_nil, ← sts_app]
    rfl
  · rintro ⟨fl, e⟩ ⟨e1, a, e2⟩
    have e1 : fl = .nx := e1
    have e2 : e = _ := e2
    subst e1
    subst e2
    dsimp only
    have hs := lines_sum h
    have hll := lines_len (ws := ws) (m := m)
    trivial
    refine join_sts (ps := linesOf ws m) (by rw [hll]; show _ + _ * 1 ≤ 16777216; omega) ?_
    trivial
    exact k
end MP

set_option Elab.async false
set_option linter.all false
set_option maxRecDepth 100000
set_option maxHeartbeats 4000000
/-! Dq: numbers and tables read from texts. -/
namespace MP
open PySem L2
local macro_rules | `(tactic| trivial) => `(tactic| (repeat (first | (refine sN_of ?_; intro _e _he; (try simp only [give_n, give_v, give_a, List.set_cons_zero, List.set_cons_succ, wipe_n, wipe_c] at _he); subst _he) | ((with_reducible refine mul_row ?_ ?_); first | assumption | omega) | (refine wp_mul ?_ ?_; first | exact mul_r (by decide) | exact mul_l (by decide) | exact mul_r (decide_eq_true (by constructor <;> omega)) | exact mul_l (decide_eq_true (by constructor <;> omega))) | (refine wp_fdiv ?_ ?_; first | assumption | decide | (exact div_of (by first | assumption | omega) (by assumption))) | (refine wp_mod ?_ ?_; first | assumption | decide | omega) | (refine wp_divmod ?_ ?_; first | assumption | decide | (exact div_of (by first | assumption | omega) (by assumption))) | refine Wp.eq rfl ?_ | (refine gt_ix2 rfl rfl rfl ?_) | refine (w_non).mpr ?_ | refine (w_bl).mpr ?_ | refine (w_int).mpr ?_ | refine (w_str).mpr ?_ | refine (w_glb).mpr ?_ | refine (w_var).mpr ?_ | refine (a_var).mpr ?_ | refine (t_var).mpr ?_ | refine (w_op).mpr ?_ | refine (w_neg).mpr ?_ | refine (w_cm).mpr ?_ | refine (w_ch).mpr ?_ | refine (w_and).mpr ?_ | refine (w_or).mpr ?_ | refine (t_and).mpr ?_ | refine (t_or).mpr ?_ | refine (w_not).mpr ?_ | refine (t_not).mpr ?_ | refine (w_ite).mpr ?_ | refine (w_ix).mpr ?_ | refine (o_nil).mpr ?_ | refine (w_sl).mpr ?_ | refine (w_rev).mpr ?_ | refine (k_nil).mpr ?_ | refine (g_nil).mpr ?_ | refine (k_cons).mpr ?_ | refine (g_cons).mpr ?_ | refine (k_star).mpr ?_ | refine (w_tup).mpr ?_ | refine (w_lst).mpr ?_ | refine (w_call).mpr ?_ | refine (w_callK).mpr ?_ | refine (w_bl1).mpr ?_ | refine (w_mt).mpr ?_ | refine (w_isTy).mpr ?_ | refine (w_pop).mpr ?_ | refine (i_range1).mpr ?_ | refine (i_range2).mpr ?_ | refine (i_enum).mpr ?_ | refine (i_zip).mpr ?_ | refine (w_comp).mpr ?_ | refine (gt_var).mpr ?_ | refine (gt_ix).mpr ?_ | refine (gt_tup).mpr ?_ | refine (gt_tupL).mpr ?_ | refine (gl_nil).mpr ?_ | refine (gl_cons).mpr ?_ | refine (go_nil).mpr ?_ | refine (go_cons).mpr ?_ | refine (s_nil).mpr ?_ | refine (s_seqN).mpr ?_ | refine (s_expr).mpr ?_ | refine (s_app).mpr ?_ | refine (s_asg).mpr ?_ | refine (s_par).mpr ?_ | refine (s_ifs).mpr ?_ | refine (s_loop).mpr ?_ | refine (s_retV).mpr ?_ | refine (s_retN).mpr ?_ | refine (f_nil).mpr ?_ | refine (c_nil).mpr ?_ | refine (take_wp).mpr ?_ | refine (takeK_sh).mpr ?_ | refine (takeK_lst).mpr ?_ | refine (arg_wp).mpr ?_ | refine (argK_sh).mpr ?_ | refine (argK_lst).mpr ?_ | refine (bind_1).mpr ?_ | refine (bind_2).mpr ?_ | refine (lend_n).mpr ?_ | refine (lend_v).mpr ?_ | refine (lend_a).mpr ?_ | refine (left_c).mpr ?_ | refine (seeAll_c).mpr ?_ | refine (w_att).mpr ?_ | refine (w_isCl).mpr ?_ | refine (w_revR).mpr ?_ | refine (w_lrange).mpr ?_ | refine (w_make).mpr ?_ | refine (w_makeK).mpr ?_ | refine (w_meth).mpr ?_ | refine (w_methK).mpr ?_ | refine (w_own).mpr ?_ | refine (w_eqO).mpr ?_ | refine (w_idx).mpr ?_ | refine (w_bor).mpr ?_ | refine (w_comp2).mpr ?_ | refine (a_non).mpr ?_ | refine (t_non).mpr ?_ | refine (i_non).mpr ?_ | refine (o_non).mpr ?_ | refine (r_non).mpr ?_ | refine (a_bl).mpr ?_ | refine (t_bl).mpr ?_ | refine (i_bl).mpr ?_ | refine (o_bl).mpr ?_ | refine (r_bl).mpr ?_ | refine (a_int).mpr ?_ | refine (t_int).mpr ?_ | refine (i_int).mpr ?_ | refine (o_int).mpr ?_ | refine (r_int).mpr ?_ | refine (a_str).mpr ?_ | refine (t_str).mpr ?_ | refine (i_str).mpr ?_ | refine (o_str).mpr ?_ | refine (r_str).mpr ?_ | refine (a_glb).mpr ?_ | refine (t_glb).mpr ?_ | refine (i_glb).mpr ?_ | refine (o_glb).mpr ?_ | refine (r_glb).mpr ?_ | refine (a_op).mpr ?_ | refine (t_op).mpr ?_ | refine (i_op).mpr ?_ | refine (o_op).mpr ?_ | refine (r_op).mpr ?_ | refine (a_neg).mpr ?_ | refine (t_neg).mpr ?_ | refine (i_neg).mpr ?_ | refine (o_neg).mpr ?_ | refine (r_neg).mpr ?_ | refine (a_cm).mpr ?_ | refine (t_cm).mpr ?_ | refine (i_cm).mpr ?_ | refine (o_cm).mpr ?_ | refine (r_cm).mpr ?_ | refine (a_ch).mpr ?_ | refine (t_ch).mpr ?_ | refine (i_ch).mpr ?_ | refine (o_ch).mpr ?_ | refine (r_ch).mpr ?_ | refine (a_and).mpr ?_ | refine (i_and).mpr ?_ | refine (o_and).mpr ?_ | refine (r_and).mpr ?_ | refine (a_or).mpr ?_ | refine (i_or).mpr ?_ | refine (o_or).mpr ?_ | refine (r_or).mpr ?_ | refine (a_not).mpr ?_ | refine (i_not).mpr ?_ | refine (o_not).mpr ?_ | refine (r_not).mpr ?_ | refine (a_ite).mpr ?_ | refine (i_ite).mpr ?_ | refine (o_ite).mpr ?_ | refine (r_ite).mpr ?_ | refine (a_ix).mpr ?_ | refine (t_ix).mpr ?_ | refine (i_ix).mpr ?_ | refine (o_ix).mpr ?_ | refine (r_ix).mpr ?_ | refine (a_sl).mpr ?_ | refine (t_sl).mpr ?_ | refine (i_sl).mpr ?_ | refine (o_sl).mpr ?_ | refine (r_sl).mpr ?_ | refine (a_rev).mpr ?_ | refine (t_rev).mpr ?_ | refine (i_rev).mpr ?_ | refine (o_rev).mpr ?_ | refine (r_rev).mpr ?_ | refine (a_tup).mpr ?_ | refine (t_tup).mpr ?_ | refine (i_tup).mpr ?_ | refine (o_tup).mpr ?_ | refine (r_tup).mpr ?_ | refine (a_lst).mpr ?_ | refine (t_lst).mpr ?_ | refine (i_lst).mpr ?_ | refine (o_lst).mpr ?_ | refine (r_lst).mpr ?_ | refine (a_call).mpr ?_ | refine (t_call).mpr ?_ | refine (i_call).mpr ?_ | refine (o_call).mpr ?_ | refine (r_call).mpr ?_ | refine (a_callK).mpr ?_ | refine (t_callK).mpr ?_ | refine (i_callK).mpr ?_ | refine (o_callK).mpr ?_ | refine (r_callK).mpr ?_ | refine (a_bl1).mpr ?_ | refine (t_bl1).mpr ?_ | refine (i_bl1).mpr ?_ | refine (o_bl1).mpr ?_ | refine (r_bl1).mpr ?_ | refine (a_mt).mpr ?_ | refine (t_mt).mpr ?_ | refine (i_mt).mpr ?_ | refine (o_mt).mpr ?_ | refine (r_mt).mpr ?_ | refine (a_isTy).mpr ?_ | refine (t_isTy).mpr ?_ | refine (i_isTy).mpr ?_ | refine (o_isTy).mpr ?_ | refine (r_isTy).mpr ?_ | refine (a_pop).mpr ?_ | refine (t_pop).mpr ?_ | refine (i_pop).mpr ?_ | refine (o_pop).mpr ?_ | refine (r_pop).mpr ?_ | refine (a_comp).mpr ?_ | refine (t_comp).mpr ?_ | refine (i_comp).mpr ?_ | refine (o_comp).mpr ?_ | refine (r_comp).mpr ?_ | refine (a_att).mpr ?_ | refine (t_att).mpr ?_ | refine (i_att).mpr ?_ | refine (o_att).mpr ?_ | refine (r_att).mpr ?_ | refine (a_make).mpr ?_ | refine (t_make).mpr ?_ | refine (i_make).mpr ?_ | refine (o_make).mpr ?_ | refine (r_make).mpr ?_ | refine (a_makeK).mpr ?_ | refine (t_makeK).mpr ?_ | refine (i_makeK).mpr ?_ | refine (o_makeK).mpr ?_ | refine (r_makeK).mpr ?_ | refine (a_meth).mpr ?_ | refine (t_meth).mpr ?_ | refine (i_meth).mpr ?_ | refine (o_meth).mpr ?_ | refine (r_meth).mpr ?_ | refine (a_methK).mpr ?_ | refine (t_methK).mpr ?_ | refine (i_methK).mpr ?_ | refine (o_methK).mpr ?_ | refine (r_methK).mpr ?_ | refine (a_own).mpr ?_ | refine (t_own).mpr ?_ | refine (i_own).mpr ?_ | refine (o_own).mpr ?_ | refine (r_own).mpr ?_ | refine (a_eqO).mpr ?_ | refine (t_eqO).mpr ?_ | refine (i_eqO).mpr ?_ | refine (o_eqO).mpr ?_ | refine (r_eqO).mpr ?_ | refine (a_isCl).mpr ?_ | refine (t_isCl).mpr ?_ | refine (i_isCl).mpr ?_ | refine (o_isCl).mpr ?_ | refine (r_isCl).mpr ?_ | refine (a_comp2).mpr ?_ | refine (t_comp2).mpr ?_ | refine (i_comp2).mpr ?_ | refine (o_comp2).mpr ?_ | refine (r_comp2).mpr ?_ | refine (a_revR).mpr ?_ | refine (t_revR).mpr ?_ | refine (i_revR).mpr ?_ | refine (o_revR).mpr ?_ | refine (r_revR).mpr ?_ | refine (a_lrange).mpr ?_ | refine (t_lrange).mpr ?_ | refine (i_lrange).mpr ?_ | refine (o_lrange).mpr ?_ | refine (r_lrange).mpr ?_ | refine (a_bor).mpr ?_ | refine (t_bor).mpr ?_ | refine (i_bor).mpr ?_ | refine (o_bor).mpr ?_ | refine (r_bor).mpr ?_ | refine (a_idx).mpr ?_ | refine (t_idx).mpr ?_ | refine (i_idx).mpr ?_ | refine (o_idx).mpr ?_ | refine (r_idx).mpr ?_ | refine (i_var).mpr ?_ | refine (o_var).mpr ?_ | (refine and_lt ?_ ?_; exact Nat.le_of_ble_eq_true rfl) | (refine need_t ?_ ?_; first | (with_reducible assumption) | (with_reducible exact ixOk_sh) | (exact decide_eq_true (by omega)) | rfl | decide | exact ixOk_str | exact ixOk_int | omega) | refine br_t.mpr ?_ | refine br_f.mpr ?_ | (refine br_dt ?_ ?_; first | assumption | omega) | (refine br_df ?_ ?_; first | assumption | omega) | (refine br_nt ?_ ?_; first | assumption | omega) | (refine br_nf ?_ ?_; first | assumption | omega))))
structure Globs2 (c : Cfg) : Prop where
  g7 : c.glob 7 = .int 9
  g14 : c.glob 14 = .int top
  g15 : c.glob 15 = .int 31
  g17 : c.glob 17 = .int 2
def figures : Str := "0123456789"
theorem figure_in {ch : Nat} (h : 48 ≤ ch ∧ ch ≤ 57) : ch ∈ figures.cps.toList := by
  have e : figures.cps.toList = [48, 49, 50, 51, 52, 53, 54, 55, 56, 57] := by decide +kernel
  rw [e]
  simp
  omega
theorem int_num {v : Int} {Q : O → Prop} (h : Num v) (k : Q (.sh (.int v))) : Wp (blD .int [.sh (.str (numS v))]) Q := by
  refine Wp.eq (a := .sh (.int v)) ?_ k
  show R.need (decide ((numS v).length ≤ 640)) ((R.of (PySem.intText? (numS v))) >>= fun n => R.ok (O.sh (.int n))) = _
  rw [decide_eq_true (by have := (num_len h).2; omega), num_int h]
  rfl
theorem ix_str_head {z : Str} {a : Nat} {l : List Nat} {Q : D → Prop} (h : z.cps.toList = a :: l) (hz : z.length ≤ lim) (k : Q (.str ⟨#[a]⟩)) : Wp (ixD (.str z) (.int 0)) Q := by
  refine Wp.eq (a := .str ⟨#[a]⟩) ?_ k
  show R.need (decide (z.length ≤ lim)) ((R.of (atI z.cps.toList 0)).bind fun c => R.ok (D.str ⟨#[c]⟩)) = _
  rw [decide_eq_true hz, h]
  show (R.of (atI (a :: l) ((0 : Nat) : Int))).bind _ = _
  rw [atI_nat (d := a) (by simp)]
  rfl
theorem all_tr {α : Type} {xs : List α} {Q : O → Prop} (k : Q (.sh (.bl true))) : Wp (blD .all [.lst (xs.map fun _ => O.sh (.bl true))]) Q := by
  have e : xs.map (fun _ => O.sh (.bl true)) = (xs.map fun _ => D.non).map fun _ => O.sh (.bl true) := by rw [List.map_map]; rfl
  rw [e]
  exact all_trues k
theorem eq_strs1 {x y : Str} {Q : Bool → Prop} (k : Q (decide (x = y))) : Wp (cmD .eq (.str x) (.str y)) Q := Wp.eq (r := cmD .eq (.str x) (.str y)) (a := decide (x = y)) rfl k
theorem br_b {p : Bool} {x y : Prop} (h : p = true) (k : x) : Br p x y := by rw [h]; exact br_t.mpr k
theorem br_c {p : Bool} {x y : Prop} (h : p = false) (k : y) : Br p x y := by rw [h]; exact br_f.mpr k
def fNumIn : Fn := ⟨1, 2, [],
  (.seq (.ifs (.or (.not (.ch .le .le (.int 1) (.bl1 .len (.cons (.var 0) .nil)) (.glb 15))) (.not (.bl1 .all (.cons (.comp [1] false (.cm .isIn (.var 1) (.str "0123456789")) (.var 0) .nil) .nil)))) (.seq (.ret .non)
    .nil) .nil)
    (.seq (.ifs (.or (.and (.cm .eq (.ix (.var 0) (.int 0)) (.str "0")) (.cm .gt (.bl1 .len (.cons (.var 0) .nil)) (.int 1))) (.cm .gt (.bl1 .int (.cons (.var 0) .nil)) (.glb 14))) (.seq (.ret .non)
    .nil) .nil)
    (.seq (.ret (.bl1 .int (.cons (.var 0) .nil)))
    .nil)))⟩
structure NumInOk (c : Cfg) : Prop where
  asg : c.asg 16 = []
  run : ∀ {v : Int} {Q : O × List O → Prop}, Num v → Q (.sh (.int v), [.sh (.str (numS v))]) → Wp (c.call 16 [.sh (.str (numS v))]) Q
theorem numIn_ok {c : Cfg} (hG : Globs2 c) {v : Int} {Q : O × List O → Prop} (h : Num v) (k : Q (.sh (.int v), [.sh (.str (numS v))])) : Wp (runFn c fNumIn [.sh (.str (numS v))]) Q := by
  obtain ⟨hl1, hl2⟩ := num_len h
  have hb := h.hi
  rw [fn_wp]
  refine ⟨rfl, ?_⟩
  show sV c 1 fNumIn.body [some (.sh (.str (numS v))), none] _
  unfold fNumIn
  generalize hs : numS v = s at *
  dsimp only
  trivial
  refine len_str (by show _ ≤ 16777216; omega) ?_
  trivial
  rw [hG.g15]
  trivial
  show Wp (runC _ (s.cps.toList.map fun ch => D.str ⟨#[ch]⟩) [some (.sh (.str s)), none]) _
  refine (runC_over (fun (ch : Nat) => D.str ⟨#[ch]⟩) (fun _ => O.sh (.bl true)) s.cps.toList fun ch hch => ?_).mono fun p hp => ?_
  · refine b_nil.mpr ?_
    trivial
    rw [decide_eq_true (show ch ∈ ("0123456789" : Str).cps.toList from figure_in (num_digit h.lo ch (by rw [hs]; exact hch)))]
    rfl
  subst hp
  have hsz : s.cps.toList.length = s.length := by simp [Str.length]
  refine need_t (decide_eq_true (by rw [List.length_map, hsz]; show _ ≤ 16777216; omega)) ?_
  trivial
  refine all_tr (xs := s.cps.toList) ?_
  trivial
  obtain ⟨a, l, hal⟩ : ∃ a l, s.cps.toList = a :: l := by
    cases e : s.cps.toList with
    | nil =>
      rw [e] at hsz
      have hsz : 0 = s.length := hsz
      omega
    | cons a l => exact ⟨a, l, rfl⟩
  refine ix_str_head hal (by show _ ≤ 16777216; omega) ?_
  trivial
  subst hs
  by_cases ha : a = 48
  · have h1 : (numS v).length = 1 := num_zero h.lo (by rw [hal, ha]; rfl)
    refine br_dt (by rw [ha]; rfl) ?_
    trivial
    refine len_str (by show _ ≤ 16777216; omega) ?_
    trivial
    refine int_num h ?_
    trivial
    rw [hG.g14]
    trivial
    show Br (decide (top < v)) _ _
    refine br_df (by show ¬ (1000000000000000000000000000000 < v); omega) ?_
    trivial
    refine int_num h ?_
    trivial
    exact k
  · refine br_df (fun z => ha ?_) ?_
    · have z : (⟨#[a]⟩ : Str).cps.toList = ("0" : Str).cps.toList := by rw [z]
      have e0 : ("0" : Str).cps.toList = [48] := by decide +kernel
      rw [e0] at z
      have z : [a] = [48] := z
      simpa using z
    trivial
    refine int_num h ?_
    trivial
    rw [hG.g14]
    trivial
    show Br (decide (top < v)) _ _
    refine br_df (by show ¬ (1000000000000000000000000000000 < v); omega) ?_
    trivial
    refine int_num h ?_
    trivial
    exact k
end MP

set_option Elab.async false
set_option linter.all false
set_option maxRecDepth 100000
set_option maxHeartbeats 4000000
/-! Dr: tables read from texts. -/
namespace MP
open PySem L2
local macro_rules | `(tactic| trivial) => `(tactic| (repeat (first | (refine sN_of ?_; intro _e _he; (try simp only [give_n, give_v, give_a, List.set_cons_zero, List.set_cons_succ, wipe_n, wipe_c] at _he); subst _he) | ((with_reducible refine mul_row ?_ ?_); first | assumption | omega) | (refine wp_mul ?_ ?_; first | exact mul_r (by decide) | exact mul_l (by decide) | exact mul_r (decide_eq_true (by constructor <;> omega)) | exact mul_l (decide_eq_true (by constructor <;> omega))) | (refine wp_fdiv ?_ ?_; first | assumption | decide | (exact div_of (by first | assumption | omega) (by assumption))) | (refine wp_mod ?_ ?_; first | assumption | decide | omega) | (refine wp_divmod ?_ ?_; first | assumption | decide | (exact div_of (by first | assumption | omega) (by assumption))) | refine Wp.eq rfl ?_ | (refine gt_ix2 rfl rfl rfl ?_) | refine (w_non).mpr ?_ | refine (w_bl).mpr ?_ | refine (w_int).mpr ?_ | refine (w_str).mpr ?_ | refine (w_glb).mpr ?_ | refine (w_var).mpr ?_ | refine (a_var).mpr ?_ | refine (t_var).mpr ?_ | refine (w_op).mpr ?_ | refine (w_neg).mpr ?_ | refine (w_cm).mpr ?_ | refine (w_ch).mpr ?_ | refine (w_and).mpr ?_ | refine (w_or).mpr ?_ | refine (t_and).mpr ?_ | refine (t_or).mpr ?_ | refine (w_not).mpr ?_ | refine (t_not).mpr ?_ | refine (w_ite).mpr ?_ | refine (w_ix).mpr ?_ | refine (o_nil).mpr ?_ | refine (w_sl).mpr ?_ | refine (w_rev).mpr ?_ | refine (k_nil).mpr ?_ | refine (g_nil).mpr ?_ | refine (k_cons).mpr ?_ | refine (g_cons).mpr ?_ | refine (k_star).mpr ?_ | refine (w_tup).mpr ?_ | refine (w_lst).mpr ?_ | refine (w_call).mpr ?_ | refine (w_callK).mpr ?_ | refine (w_bl1).mpr ?_ | refine (w_mt).mpr ?_ | refine (w_isTy).mpr ?_ | refine (w_pop).mpr ?_ | refine (i_range1).mpr ?_ | refine (i_range2).mpr ?_ | refine (i_enum).mpr ?_ | refine (i_zip).mpr ?_ | refine (w_comp).mpr ?_ | refine (gt_var).mpr ?_ | refine (gt_ix).mpr ?_ | refine (gt_tup).mpr ?_ | refine (gt_tupL).mpr ?_ | refine (gl_nil).mpr ?_ | refine (gl_cons).mpr ?_ | refine (go_nil).mpr ?_ | refine (go_cons).mpr ?_ | refine (s_nil).mpr ?_ | refine (s_seqN).mpr ?_ | refine (s_expr).mpr ?_ | refine (s_app).mpr ?_ | refine (s_asg).mpr ?_ | refine (s_par).mpr ?_ | refine (s_ifs).mpr ?_ | refine (s_loop).mpr ?_ | refine (s_retV).mpr ?_ | refine (s_retN).mpr ?_ | refine (f_nil).mpr ?_ | refine (c_nil).mpr ?_ | refine (take_wp).mpr ?_ | refine (takeK_sh).mpr ?_ | refine (takeK_lst).mpr ?_ | refine (arg_wp).mpr ?_ | refine (argK_sh).mpr ?_ | refine (argK_lst).mpr ?_ | refine (bind_1).mpr ?_ | refine (bind_2).mpr ?_ | refine (lend_n).mpr ?_ | refine (lend_v).mpr ?_ | refine (lend_a).mpr ?_ | refine (left_c).mpr ?_ | refine (seeAll_c).mpr ?_ | refine (w_att).mpr ?_ | refine (w_isCl).mpr ?_ | refine (w_revR).mpr ?_ | refine (w_lrange).mpr ?_ | refine (w_make).mpr ?_ | refine (w_makeK).mpr ?_ | refine (w_meth).mpr ?_ | refine (w_methK).mpr ?_ | refine (w_own).mpr ?_ | refine (w_eqO).mpr ?_ | refine (w_idx).mpr ?_ | refine (w_bor).mpr ?_ | refine (w_comp2).mpr ?_ | refine (a_non).mpr ?_ | refine (t_non).mpr ?_ | refine (i_non).mpr ?_ | refine (o_non).mpr ?_ | refine (r_non).mpr ?_ | refine (a_bl).mpr ?_ | refine (t_bl).mpr ?_ | refine (i_bl).mpr ?_ | refine (o_bl).mpr ?_ | refine (r_bl).mpr ?_ | refine (a_int).mpr ?_ | refine (t_int).mpr ?_ | refine (i_int).mpr ?_ | refine (o_int).mpr ?_ | refine (r_int).mpr ?_ | refine (a_str).mpr ?_ | refine (t_str).mpr ?_ | refine (i_str).mpr ?_ | refine (o_str).mpr ?_ | refine (r_str).mpr ?_ | refine (a_glb).mpr ?_ | refine (t_glb).mpr ?_ | refine (i_glb).mpr ?_ | refine (o_glb).mpr ?_ | refine (r_glb).mpr ?_ | refine (a_op).mpr ?_ | refine (t_op).mpr ?_ | refine (i_op).mpr ?_ | refine (o_op).mpr ?_ | refine (r_op).mpr ?_ | refine (a_neg).mpr ?_ | refine (t_neg).mpr ?_ | refine (i_neg).mpr ?_ | refine (o_neg).mpr ?_ | refine (r_neg).mpr ?_ | refine (a_cm).mpr ?_ | refine (t_cm).mpr ?_ | refine (i_cm).mpr ?_ | refine (o_cm).mpr ?_ | refine (r_cm).mpr ?_ | refine (a_ch).mpr ?_ | refine (t_ch).mpr ?_ | refine (i_ch).mpr ?_ | refine (o_ch).mpr ?_ | refine (r_ch).mpr ?_ | refine (a_and).mpr ?_ | refine (i_and).mpr ?_ | refine (o_and).mpr ?_ | refine (r_and).mpr ?_ | refine (a_or).mpr ?_ | refine (i_or).mpr ?_ | refine (o_or).mpr ?_ | refine (r_or).mpr ?_ | refine (a_not).mpr ?_ | refine (i_not).mpr ?_ | refine (o_not).mpr ?_ | refine (r_not).mpr ?_ | refine (a_ite).mpr ?_ | refine (i_ite).mpr ?_ | refine (o_ite).mpr ?_ | refine (r_ite).mpr ?_ | refine (a_ix).mpr ?_ | refine (t_ix).mpr ?_ | refine (i_ix).mpr ?_ | refine (o_ix).mpr ?_ | refine (r_ix).mpr ?_ | refine (a_sl).mpr ?_ | refine (t_sl).mpr ?_ | refine (i_sl).mpr ?_ | refine (o_sl).mpr ?_ | refine (r_sl).mpr ?_ | refine (a_rev).mpr ?_ | refine (t_rev).mpr ?_ | refine (i_rev).mpr ?_ | refine (o_rev).mpr ?_ | refine (r_rev).mpr ?_ | refine (a_tup).mpr ?_ | refine (t_tup).mpr ?_ | refine (i_tup).mpr ?_ | refine (o_tup).mpr ?_ | refine (r_tup).mpr ?_ | refine (a_lst).mpr ?_ | refine (t_lst).mpr ?_ | refine (i_lst).mpr ?_ | refine (o_lst).mpr ?_ | refine (r_lst).mpr ?_ | refine (a_call).mpr ?_ | refine (t_call).mpr ?_ | refine (i_call).mpr ?_ | refine (o_call).mpr ?_ | refine (r_call).mpr ?_ | refine (a_callK).mpr ?_ | refine (t_callK).mpr ?_ | refine (i_callK).mpr ?_ | refine (o_callK).mpr ?_ | refine (r_callK).mpr ?_ | refine (a_bl1).mpr ?_ | refine (t_bl1).mpr ?_ | refine (i_bl1).mpr ?_ | refine (o_bl1).mpr ?_ | refine (r_bl1).mpr ?_ | refine (a_mt).mpr ?_ | refine (t_mt).mpr ?_ | refine (i_mt).mpr ?_ | refine (o_mt).mpr ?_ | refine (r_mt).mpr ?_ | refine (a_isTy).mpr ?_ | refine (t_isTy).mpr ?_ | refine (i_isTy).mpr ?_ | refine (o_isTy).mpr ?_ | refine (r_isTy).mpr ?_ | refine (a_pop).mpr ?_ | refine (t_pop).mpr ?_ | refine (i_pop).mpr ?_ | refine (o_pop).mpr ?_ | refine (r_pop).mpr ?_ | refine (a_comp).mpr ?_ | refine (t_comp).mpr ?_ | refine (i_comp).mpr ?_ | refine (o_comp).mpr ?_ | refine (r_comp).mpr ?_ | refine (a_att).mpr ?_ | refine (t_att).mpr ?_ | refine (i_att).mpr ?_ | refine (o_att).mpr ?_ | refine (r_att).mpr ?_ | refine (a_make).mpr ?_ | refine (t_make).mpr ?_ | refine (i_make).mpr ?_ | refine (o_make).mpr ?_ | refine (r_make).mpr ?_ | refine (a_makeK).mpr ?_ | refine (t_makeK).mpr ?_ | refine (i_makeK).mpr ?_ | refine (o_makeK).mpr ?_ | refine (r_makeK).mpr ?_ | refine (a_meth).mpr ?_ | refine (t_meth).mpr ?_ | refine (i_meth).mpr ?_ | refine (o_meth).mpr ?_ | refine (r_meth).mpr ?_ | refine (a_methK).mpr ?_ | refine (t_methK).mpr ?_ | refine (i_methK).mpr ?_ | refine (o_methK).mpr ?_ | refine (r_methK).mpr ?_ | refine (a_own).mpr ?_ | refine (t_own).mpr ?_ | refine (i_own).mpr ?_ | refine (o_own).mpr ?_ | refine (r_own).mpr ?_ | refine (a_eqO).mpr ?_ | refine (t_eqO).mpr ?_ | refine (i_eqO).mpr ?_ | refine (o_eqO).mpr ?_ | refine (r_eqO).mpr ?_ | refine (a_isCl).mpr ?_ | refine (t_isCl).mpr ?_ | refine (i_isCl).mpr ?_ | refine (o_isCl).mpr ?_ | refine (r_isCl).mpr ?_ | refine (a_comp2).mpr ?_ | refine (t_comp2).mpr ?_ | refine (i_comp2).mpr ?_ | refine (o_comp2).mpr ?_ | refine (r_comp2).mpr ?_ | refine (a_revR).mpr ?_ | refine (t_revR).mpr ?_ | refine (i_revR).mpr ?_ | refine (o_revR).mpr ?_ | refine (r_revR).mpr ?_ | refine (a_lrange).mpr ?_ | refine (t_lrange).mpr ?_ | refine (i_lrange).mpr ?_ | refine (o_lrange).mpr ?_ | refine (r_lrange).mpr ?_ | refine (a_bor).mpr ?_ | refine (t_bor).mpr ?_ | refine (i_bor).mpr ?_ | refine (o_bor).mpr ?_ | refine (r_bor).mpr ?_ | refine (a_idx).mpr ?_ | refine (t_idx).mpr ?_ | refine (i_idx).mpr ?_ | refine (o_idx).mpr ?_ | refine (r_idx).mpr ?_ | refine (i_var).mpr ?_ | refine (o_var).mpr ?_ | (refine and_lt ?_ ?_; exact Nat.le_of_ble_eq_true rfl) | (refine need_t ?_ ?_; first | (with_reducible assumption) | (with_reducible exact ixOk_sh) | (exact decide_eq_true (by omega)) | rfl | decide | exact ixOk_str | exact ixOk_int | omega) | refine br_t.mpr ?_ | refine br_f.mpr ?_ | (refine br_dt ?_ ?_; first | assumption | omega) | (refine br_df ?_ ?_; first | assumption | omega) | (refine br_nt ?_ ?_; first | assumption | omega) | (refine br_nf ?_ ?_; first | assumption | omega))))
theorem split_wp {s t : Str} {ps : List Str} {Q : O → Prop} (h : Txt.split s t = ps) (ht : (t.length == 0) = false) (hl : s.length + 2 ≤ lim) (k : Q (.lst (sts ps))) : Wp (mtD .split (.sh (.str s)) (.sh (.str t))) Q := by
  refine Wp.eq (a := .lst (sts ps)) ?_ k
  show R.need (!(t.length == 0) && decide (s.length + 2 ≤ lim)) (R.ok (O.lst ((Txt.split s t).map fun z => O.sh (D.str z)))) = _
  rw [ht, decide_eq_true hl, h]
  unfold sts
  rw [List.map_map]
  rfl
theorem range_getD {α : Type} (d : α) : ∀ xs : List α, (List.range xs.length).map (fun k => xs.getD k d) = xs
  | [] => rfl
  | x :: xs => by
    rw [List.length_cons, List.range_succ_eq_map, List.map_cons, List.map_map]
    show x :: (List.range xs.length).map (fun k => xs.getD k d) = _
    rw [range_getD d xs]
def lower (m : Mx) : Mx := (List.range m.length).map fun k => (m.getD k []).take k
theorem runF_enum {bd : D → En → R (Fl × En)} {n : Nat} (g : Nat → D) (I : Nat → En → Prop) {e : En} (h0 : I 0 e) (hs : ∀ (k : Nat) (e : En), k < n → I k e → Wp (bd (.tup [.int (k : Int), g k]) e) fun p => p.1 = .nx ∧ I (k + 1) p.2) : Wp (runF bd (enumD ((List.range n).map g)) e) fun p => p.1 = .nx ∧ I n p.2 := by
  have hl : (enumD ((List.range n).map g)).length = n := by simp [enumD]
  refine (runF_at (xs := enumD ((List.range n).map g)) (fun ys e => I ys.length e) h0 ?_).mono fun p hp => ⟨hp.1, by have := hp.2; rw [hl] at this; exact this⟩
  intro ys x zs e hx hi
  have h1 := at_split hx
  have hn : ys.length < n := by
    have := congrArg List.length hx
    rw [hl, List.length_append, List.length_cons] at this
    omega
  have h2 : (enumD ((List.range n).map g))[ys.length]? = some (.tup [.int (ys.length : Int), g ys.length]) := by
    unfold enumD
    rw [List.getElem?_map, List.getElem?_zipIdx, List.getElem?_map, List.getElem?_range hn]
    simp
  rw [h2] at h1
  cases h1
  rw [List.length_append]
  exact hs _ e hn hi
theorem runC_range {bd : D → En → R (Option O × En)} {e0 : En} {n : Nat} (g : Nat → D) (f : Nat → O) (h : ∀ k, k < n → Wp (bd (g k) e0) fun p => p = (some (f k), e0)) : Wp (runC bd ((List.range n).map g) e0) fun p => p = ((List.range n).map f, e0) := runC_over g f _ fun k hk => h k (List.mem_range.mp hk)
theorem runC_rangeX {bd : D → En → R (Option O × En)} {e0 : En} {n : Nat} {xs : List D} (g : Nat → D) (hx : xs = (List.range n).map g) (f : Nat → O) (h : ∀ k, k < n → Wp (bd (g k) e0) fun p => p = (some (f k), e0)) : Wp (runC bd xs e0) fun p => p = ((List.range n).map f, e0) := by
  rw [hx]
  exact runC_range g f h
theorem runF_enumX {bd : D → En → R (Fl × En)} {n : Nat} {xs : List D} (g : Nat → D) (hx : xs = (List.range n).map g) (I : Nat → En → Prop) {e : En} (h0 : I 0 e) (hs : ∀ (k : Nat) (e : En), k < n → I k e → Wp (bd (.tup [.int (k : Int), g k]) e) fun p => p.1 = .nx ∧ I (k + 1) p.2) : Wp (runF bd (enumD xs) e) fun p => p.1 = .nx ∧ I n p.2 := by
  rw [hx]
  exact runF_enum g I h0 hs
theorem views_at {n : Nat} {f : Nat → O} {g : Nat → D} (h : ∀ k, (f k).view = g k) : views ((List.range n).map f) = (List.range n).map g := by
  rw [views_map, List.map_map]
  exact List.map_congr_left fun k _ => h k
theorem noInss_of : ∀ {xs : List O}, (∀ o ∈ xs, noIns o = true) → noInss xs = true
  | [], _ => rfl
  | x :: xs, h => by
    rw [noInss, h x List.mem_cons_self, noInss_of fun o ho => h o (List.mem_cons_of_mem _ ho)]
    rfl
theorem ix_head {d : D} {ds : List D} {Q : D → Prop} (k : Q d) : Wp (ixD (.lst (d :: ds)) (.int 0)) Q := by
  refine Wp.eq (a := d) ?_ k
  show R.of (atI (d :: ds) ((0 : Nat) : Int)) = _
  rw [atI_nat (d := d) (by simp)]
  rfl
theorem ix_headT {d : D} {ds : List D} {Q : D → Prop} (k : Q d) : Wp (ixD (.tup (d :: ds)) (.int 0)) Q := by
  refine Wp.eq (a := d) ?_ k
  show R.of (atI (d :: ds) ((0 : Nat) : Int)) = _
  rw [atI_nat (d := d) (by simp)]
  rfl
theorem cut_tail {α : Type} {x : α} {xs : List α} : cut (x :: xs) (some 1) none = xs := by
  show ((x :: xs).drop (HT.sIx (x :: xs).length 0 (some ((1 : Nat) : Int)))).take (HT.sIx (x :: xs).length (x :: xs).length none - HT.sIx (x :: xs).length 0 (some ((1 : Nat) : Int))) = xs
  rw [HT.sIx_nat, HT.sIx_none]
  have e : min 1 (x :: xs).length = 1 := Nat.min_eq_left (by simp)
  rw [e]
  show xs.take _ = xs
  exact List.take_of_length_le (by simp)
theorem none_ints : ∀ r : List Int, ((r.map D.int).any fun y => eqF y .non) = false
  | [] => rfl
  | v :: r => none_ints r
theorem flats_ints : ∀ r : List Int, (r.map D.int).all flatD = true
  | [] => rfl
  | v :: r => flats_ints r
theorem no_none {r : List Int} {Q : Bool → Prop} (k : Q false) : Wp (cmD .isIn .non (rowD r)) Q := by
  refine Wp.eq (a := false) ?_ k
  show (if (flatD .non && (r.map D.int).all flatD) = true then R.ok ((r.map D.int).any fun y => eqF y .non) else _) = _
  rw [flats_ints, none_ints]
  rfl
def fTable : Fn := ⟨1, 8, [],
  (.seq (.ifs (.not (.isTy .str (.var 0))) (.seq (.ret .non)
    .nil) .nil)
    (.seq (.asg (.var 1) (.comp [2] false (.mt .split (.var 2) (.str " ")) (.mt .split (.var 0) (.str "\n")) .nil))
    (.seq (.par (.cons (.var 3) (.cons (.var 4) .nil)) (.cons (.bl1 .tuple (.cons (.comp [2] false (.ix (.var 2) (.int 0)) (.var 1) .nil) .nil)) (.cons (.lst .nil) .nil)))
    (.seq (.ifs (.not (.call 6 (.cons (.var 3) (.cons (.glb 17) (.cons (.glb 7) .nil))))) (.seq (.ret .non)
    .nil) .nil)
    (.seq (.loop [5, 2] true (.enum (.var 1)) (.seq (.asg (.var 6) (.comp [7] false (.call 16 (.cons (.var 7) .nil)) (.sl (.var 2) (.int 1) .nil) .nil))
    (.seq (.ifs (.or (.cm .ne (.bl1 .len (.cons (.var 6) .nil)) (.var 5)) (.cm .isIn .non (.var 6))) (.seq (.ret .non)
    .nil) .nil)
    (.seq (.app 4 (.var 6))
    .nil))))
    (.seq (.ret (.tup (.cons (.var 3) (.cons (.var 4) .nil))))
    .nil))))))⟩
structure TableOk (c : Cfg) : Prop where
  asg : c.asg 18 = []
  run : ∀ {ws : List Str} {m : Mx} {Q : O × List O → Prop}, Dst ws m → Q (.sh (.tup [.tup (ws.map D.str), mxD (lower m)]), [.sh (.str (textOf ws m))]) → Wp (c.call 18 [.sh (.str (textOf ws m))]) Q
theorem table_ok {c : Cfg} (hG : Globs2 c) (hA : AreNamesOk c) (hN : NumInOk c) {ws : List Str} {m : Mx} {Q : O × List O → Prop} (h : Dst ws m) (k : Q (.sh (.tup [.tup (ws.map D.str), mxD (lower m)]), [.sh (.str (textOf ws m))])) : Wp (runFn c fTable [.sh (.str (textOf ws m))]) Q := by
  have hn := h.n9
  have hn2 := h.n2
  have htl := text_len h
  have hts := text_split h
  generalize hs : textOf ws m = s at *
  rw [fn_wp]
  refine ⟨rfl, ?_⟩
  show sV c 1 fTable.body [some (.sh (.str s)), none, none, none, none, none, none, none] _
  unfold fTable
  dsimp only
  trivial
  refine split_wp hts rfl (by show _ ≤ 16777216; omega) ?_
  trivial
  refine need_t (noIns_sts _) ?_
  show Wp (itemsD (.lst (views (sts (linesOf ws m))))) _
  rw [views_sts]
  trivial
  have e1 : (linesOf ws m).map D.str = (List.range ws.length).map fun k => D.str (lineOf ws m k) := by
    unfold linesOf
    rw [List.map_map]
    rfl
  rw [e1]
  show Wp (runC _ ((List.range ws.length).map fun k => D.str (lineOf ws m k)) [some (.sh (.str s)), none, none, none, none, none, none, none]) _
  refine (runC_range (fun k => D.str (lineOf ws m k)) (fun k => .lst (sts (partsOf ws m k))) fun k hk => ?_).mono fun p hp => ?_
  · refine b_nil.mpr ?_
    trivial
    refine split_wp (line_split h hk) rfl (by have := line_len h hk; show _ ≤ 16777216; omega) ?_
    trivial
    rfl
  subst hp
  refine need_t (decide_eq_true (by rw [List.length_map, List.length_range]; show _ ≤ 16777216; omega)) ?_
  trivial
  refine need_t (noInss_of fun o ho => ?_) ?_
  · obtain ⟨k, _, rfl⟩ := List.mem_map.mp ho
    exact noIns_sts _
  dsimp only
  rw [views_at (g := fun k => D.lst ((partsOf ws m k).map D.str)) fun k => by show D.lst (views (sts _)) = _; rw [views_sts]]
  generalize hLL : (List.range ws.length).map (fun k => D.lst ((partsOf ws m k).map D.str)) = LL
  trivial
  show Wp (runC _ LL [some (.sh (.str s)), some (.sh (.lst LL)), none, none, none, none, none, none]) _
  refine (runC_rangeX (fun k => D.lst ((partsOf ws m k).map D.str)) hLL.symm (fun k => O.sh (.str (ws.getD k ("" : Str)))) fun k hk => ?_).mono fun p hp => ?_
  · refine b_nil.mpr ?_
    trivial
    refine ix_head ?_
    trivial
    rfl
  subst hp
  have e2 : (List.range ws.length).map (fun k => O.sh (.str (ws.getD k ("" : Str)))) = (ws.map D.str).map O.sh := by
    conv => rhs; rw [← range_getD ("" : Str) ws]
    rw [List.map_map, List.map_map]
    rfl
  rw [e2]
  refine need_t (decide_eq_true (by rw [← hLL, List.length_map, List.length_range]; show _ ≤ 16777216; omega)) ?_
  trivial
  refine Wp.eq (a := tupS ws) bl_tupL ?_
  trivial
  refine cV_0 hA.asg ?_
  rw [hG.g17, hG.g7]
  trivial
  refine hA.run h.nm (by decide) ?_
  trivial
  show Wp (runF _ (enumD LL) [some (.sh (.str s)), some (.sh (.lst LL)), none, some (tupS ws), some (.lst []), none, none, none]) _
  refine (runF_enumX (n := ws.length) (fun k => D.lst ((partsOf ws m k).map D.str)) hLL.symm (fun i e => ∃ a b d, e = [some (.sh (.str s)), some (.sh (.lst LL)), a, some (tupS ws), some (.lst (((List.range i).map fun k => rowD ((m.getD k []).take k)).map O.sh)), b, d, none]) ⟨none, none, none, rfl⟩ ?_).mono ?_
  · rintro i e hi ⟨a, b, d, rfl⟩
    refine f_b.mpr ?_
    trivial
    have ecut : cut ((partsOf ws m i).map D.str) (some 1) none = ((m.getD i []).take i).map fun v => D.str (numS v) := by
      unfold partsOf
      rw [List.map_cons, cut_tail, List.map_map]
      rfl
    have hrl : ((m.getD i []).take i).length = i := by rw [List.length_take, h.rlen hi]; omega
    have hnum : ∀ v ∈ (m.getD i []).take i, Num v := fun v hv => h.num hi (List.mem_of_mem_take hv)
    rw [ecut]
    refine need_t (noInss_sh _) ?_
    show Wp (itemsD (.lst (views (List.map O.sh _)))) _
    rw [views_sh]
    trivial
    show Wp (runC _ (((m.getD i []).take i).map fun v => D.str (numS v)) [some (.sh (.str s)), some (.sh (.lst LL)), some (.sh (.lst ((partsOf ws m i).map D.str))), some (tupS ws), some (.lst (((List.range i).map fun k => rowD ((m.getD k []).take k)).map O.sh)), some (.sh (.int (i : Int))), d, none]) _
    refine (runC_over (fun v => D.str (numS v)) (fun v => O.sh (.int v)) _ fun v hv => ?_).mono fun p hp => ?_
    · refine b_nil.mpr ?_
      trivial
      refine cV_0 hN.asg ?_
      trivial
      refine hN.run (hnum v hv) ?_
      trivial
      rfl
    subst hp
    have e5 : ((m.getD i []).take i).map (fun v => O.sh (.int v)) = (((m.getD i []).take i).map D.int).map O.sh := by
      rw [List.map_map]
      rfl
    rw [e5]
    refine need_t (decide_eq_true (by rw [List.length_map, hrl]; show _ ≤ 16777216; omega)) ?_
    have hrow : (List.range (i + 1)).map (fun k => rowD ((m.getD k []).take k)) = (List.range i).map (fun k => rowD ((m.getD k []).take k)) ++ [rowD ((m.getD i []).take i)] := by
      rw [List.range_succ, List.map_append]
      rfl
    rw [hrow]
    generalize (m.getD i []).take i = r at *
    trivial
    refine br_nt (by (try dsimp only); rw [views_sh, List.length_map, hrl]) ?_
    trivial
    show Wp (cmD .isIn .non (O.view (rowO r))) _
    rw [view_rowO]
    refine no_none ?_
    trivial
    refine need_t (noInss_sh _) ?_
    trivial
    have hlim : decide ((((List.range i).map fun k => rowD ((m.getD k []).take k)).map O.sh).length < lim) = true := decide_eq_true (by rw [List.length_map, List.length_map, List.length_range]; show _ < 16777216; omega)
    refine need_t hlim ?_
    trivial
    refine ⟨rfl, some (.sh (.lst ((partsOf ws m i).map D.str))), some (.sh (.int (i : Int))), some (.sh (.lst (views ((r.map D.int).map O.sh)))), ?_⟩
    rw [List.map_append]
    show [_, _, _, _, some (O.lst (_ ++ [O.sh (.lst (views ((r.map D.int).map O.sh)))])), _, _, _] = _
    rw [views_sh]
    rfl
  · rintro ⟨fl, e⟩ ⟨e1, a, b, d, e2⟩
    have e1 : fl = .nx := e1
    have e2 : e = _ := e2
    subst e1
    subst e2
    dsimp only
    have hlo : (List.range ws.length).map (fun k => rowD ((m.getD k []).take k)) = (lower m).map rowD := by
      unfold lower
      rw [List.map_map, h.mt.sq.len]
      rfl
    rw [hlo]
    trivial
    refine need_t (noInss_sh _) ?_
    trivial
    rw [views_sh]
    exact k
end MP

set_option Elab.async false
set_option linter.all false
set_option maxRecDepth 100000
set_option maxHeartbeats 4000000
/-! Ds: distances made. -/
namespace MP
open PySem L2
local macro_rules | `(tactic| trivial) => `(tactic| (repeat (first | (refine sN_of ?_; intro _e _he; (try simp only [give_n, give_v, give_a, List.set_cons_zero, List.set_cons_succ, wipe_n, wipe_c] at _he); subst _he) | ((with_reducible refine mul_row ?_ ?_); first | assumption | omega) | (refine wp_mul ?_ ?_; first | exact mul_r (by decide) | exact mul_l (by decide) | exact mul_r (decide_eq_true (by constructor <;> omega)) | exact mul_l (decide_eq_true (by constructor <;> omega))) | (refine wp_fdiv ?_ ?_; first | assumption | decide | (exact div_of (by first | assumption | omega) (by assumption))) | (refine wp_mod ?_ ?_; first | assumption | decide | omega) | (refine wp_divmod ?_ ?_; first | assumption | decide | (exact div_of (by first | assumption | omega) (by assumption))) | refine Wp.eq rfl ?_ | (refine gt_ix2 rfl rfl rfl ?_) | refine (w_non).mpr ?_ | refine (w_bl).mpr ?_ | refine (w_int).mpr ?_ | refine (w_str).mpr ?_ | refine (w_glb).mpr ?_ | refine (w_var).mpr ?_ | refine (a_var).mpr ?_ | refine (t_var).mpr ?_ | refine (w_op).mpr ?_ | refine (w_neg).mpr ?_ | refine (w_cm).mpr ?_ | refine (w_ch).mpr ?_ | refine (w_and).mpr ?_ | refine (w_or).mpr ?_ | refine (t_and).mpr ?_ | refine (t_or).mpr ?_ | refine (w_not).mpr ?_ | refine (t_not).mpr ?_ | refine (w_ite).mpr ?_ | refine (w_ix).mpr ?_ | refine (o_nil).mpr ?_ | refine (w_sl).mpr ?_ | refine (w_rev).mpr ?_ | refine (k_nil).mpr ?_ | refine (g_nil).mpr ?_ | refine (k_cons).mpr ?_ | refine (g_cons).mpr ?_ | refine (k_star).mpr ?_ | refine (w_tup).mpr ?_ | refine (w_lst).mpr ?_ | refine (w_call).mpr ?_ | refine (w_callK).mpr ?_ | refine (w_bl1).mpr ?_ | refine (w_mt).mpr ?_ | refine (w_isTy).mpr ?_ | refine (w_pop).mpr ?_ | refine (i_range1).mpr ?_ | refine (i_range2).mpr ?_ | refine (i_enum).mpr ?_ | refine (i_zip).mpr ?_ | refine (w_comp).mpr ?_ | refine (gt_var).mpr ?_ | refine (gt_ix).mpr ?_ | refine (gt_tup).mpr ?_ | refine (gt_tupL).mpr ?_ | refine (gl_nil).mpr ?_ | refine (gl_cons).mpr ?_ | refine (go_nil).mpr ?_ | refine (go_cons).mpr ?_ | refine (s_nil).mpr ?_ | refine (s_seqN).mpr ?_ | refine (s_expr).mpr ?_ | refine (s_app).mpr ?_ | refine (s_asg).mpr ?_ | refine (s_par).mpr ?_ | refine (s_ifs).mpr ?_ | refine (s_loop).mpr ?_ | refine (s_retV).mpr ?_ | refine (s_retN).mpr ?_ | refine (f_nil).mpr ?_ | refine (c_nil).mpr ?_ | refine (take_wp).mpr ?_ | refine (takeK_sh).mpr ?_ | refine (takeK_lst).mpr ?_ | refine (arg_wp).mpr ?_ | refine (argK_sh).mpr ?_ | refine (argK_lst).mpr ?_ | refine (bind_1).mpr ?_ | refine (bind_2).mpr ?_ | refine (lend_n).mpr ?_ | refine (lend_v).mpr ?_ | refine (lend_a).mpr ?_ | refine (left_c).mpr ?_ | refine (seeAll_c).mpr ?_ | refine (w_att).mpr ?_ | refine (w_isCl).mpr ?_ | refine (w_revR).mpr ?_ | refine (w_lrange).mpr ?_ | refine (w_make).mpr ?_ | refine (w_makeK).mpr ?_ | refine (w_meth).mpr ?_ | refine (w_methK).mpr ?_ | refine (w_own).mpr ?_ | refine (w_eqO).mpr ?_ | refine (w_idx).mpr ?_ | refine (w_bor).mpr ?_ | refine (w_comp2).mpr ?_ | refine (a_non).mpr ?_ | refine (t_non).mpr ?_ | refine (i_non).mpr ?_ | refine (o_non).mpr ?_ | refine (r_non).mpr ?_ | refine (a_bl).mpr ?_ | refine (t_bl).mpr ?_ | refine (i_bl).mpr ?_ | refine (o_bl).mpr ?_ | refine (r_bl).mpr ?_ | refine (a_int).mpr ?_ | refine (t_int).mpr ?_ | refine (i_int).mpr ?_ | refine (o_int).mpr ?_ | refine (r_int).mpr ?_ | refine (a_str).mpr ?_ | refine (t_str).mpr ?_ | refine (i_str).mpr ?_ | refine (o_str).mpr ?_ | refine (r_str).mpr ?_ | refine (a_glb).mpr ?_ | refine (t_glb).mpr ?_ | refine (i_glb).mpr ?_ | refine (o_glb).mpr ?_ | refine (r_glb).mpr ?_ | refine (a_op).mpr ?_ | refine (t_op).mpr ?_ | refine (i_op).mpr ?_ | refine (o_op).mpr ?_ | refine (r_op).mpr ?_ | refine (a_neg).mpr ?_ | refine (t_neg).mpr ?_ | refine (i_neg).mpr ?_ | refine (o_neg).mpr ?_ | refine (r_neg).mpr ?_ | refine (a_cm).mpr ?_ | refine (t_cm).mpr ?_ | refine (i_cm).mpr ?_ | refine (o_cm).mpr ?_ | refine (r_cm).mpr ?_ | refine (a_ch).mpr ?_ | refine (t_ch).mpr ?_ | refine (i_ch).mpr ?_ | refine (o_ch).mpr ?_ | refine (r_ch).mpr ?_ | refine (a_and).mpr ?_ | refine (i_and).mpr ?_ | refine (o_and).mpr ?_ | refine (r_and).mpr ?_ | refine (a_or).mpr ?_ | refine (i_or).mpr ?_ | refine (o_or).mpr ?_ | refine (r_or).mpr ?_ | refine (a_not).mpr ?_ | refine (i_not).mpr ?_ | refine (o_not).mpr ?_ | refine (r_not).mpr ?_ | refine (a_ite).mpr ?_ | refine (i_ite).mpr ?_ | refine (o_ite).mpr ?_ | refine (r_ite).mpr ?_ | refine (a_ix).mpr ?_ | refine (t_ix).mpr ?_ | refine (i_ix).mpr ?_ | refine (o_ix).mpr ?_ | refine (r_ix).mpr ?_ | refine (a_sl).mpr ?_ | refine (t_sl).mpr ?_ | refine (i_sl).mpr ?_ | refine (o_sl).mpr ?_ | refine (r_sl).mpr ?_ | refine (a_rev).mpr ?_ | refine (t_rev).mpr ?_ | refine (i_rev).mpr ?_ | refine (o_rev).mpr ?_ | refine (r_rev).mpr ?_ | refine (a_tup).mpr ?_ | refine (t_tup).mpr ?_ | refine (i_tup).mpr ?_ | refine (o_tup).mpr ?_ | refine (r_tup).mpr ?_ | refine (a_lst).mpr ?_ | refine (t_lst).mpr ?_ | refine (i_lst).mpr ?_ | refine (o_lst).mpr ?_ | refine (r_lst).mpr ?_ | refine (a_call).mpr ?_ | refine (t_call).mpr ?_ | refine (i_call).mpr ?_ | refine (o_call).mpr ?_ | refine (r_call).mpr ?_ | refine (a_callK).mpr ?_ | refine (t_callK).mpr ?_ | refine (i_callK).mpr ?_ | refine (o_callK).mpr ?_ | refine (r_callK).mpr ?_ | refine (a_bl1).mpr ?_ | refine (t_bl1).mpr ?_ | refine (i_bl1).mpr ?_ | refine (o_bl1).mpr ?_ | refine (r_bl1).mpr ?_ | refine (a_mt).mpr ?_ | refine (t_mt).mpr ?_ | refine (i_mt).mpr ?_ | refine (o_mt).mpr ?_ | refine (r_mt).mpr ?_ | refine (a_isTy).mpr ?_ | refine (t_isTy).mpr ?_ | refine (i_isTy).mpr ?_ | refine (o_isTy).mpr ?_ | refine (r_isTy).mpr ?_ | refine (a_pop).mpr ?_ | refine (t_pop).mpr ?_ | refine (i_pop).mpr ?_ | refine (o_pop).mpr ?_ | refine (r_pop).mpr ?_ | refine (a_comp).mpr ?_ | refine (t_comp).mpr ?_ | refine (i_comp).mpr ?_ | refine (o_comp).mpr ?_ | refine (r_comp).mpr ?_ | refine (a_att).mpr ?_ | refine (t_att).mpr ?_ | refine (i_att).mpr ?_ | refine (o_att).mpr ?_ | refine (r_att).mpr ?_ | refine (a_make).mpr ?_ | refine (t_make).mpr ?_ | refine (i_make).mpr ?_ | refine (o_make).mpr ?_ | refine (r_make).mpr ?_ | refine (a_makeK).mpr ?_ | refine (t_makeK).mpr ?_ | refine (i_makeK).mpr ?_ | refine (o_makeK).mpr ?_ | refine (r_makeK).mpr ?_ | refine (a_meth).mpr ?_ | refine (t_meth).mpr ?_ | refine (i_meth).mpr ?_ | refine (o_meth).mpr ?_ | refine (r_meth).mpr ?_ | refine (a_methK).mpr ?_ | refine (t_methK).mpr ?_ | refine (i_methK).mpr ?_ | refine (o_methK).mpr ?_ | refine (r_methK).mpr ?_ | refine (a_own).mpr ?_ | refine (t_own).mpr ?_ | refine (i_own).mpr ?_ | refine (o_own).mpr ?_ | refine (r_own).mpr ?_ | refine (a_eqO).mpr ?_ | refine (t_eqO).mpr ?_ | refine (i_eqO).mpr ?_ | refine (o_eqO).mpr ?_ | refine (r_eqO).mpr ?_ | refine (a_isCl).mpr ?_ | refine (t_isCl).mpr ?_ | refine (i_isCl).mpr ?_ | refine (o_isCl).mpr ?_ | refine (r_isCl).mpr ?_ | refine (a_comp2).mpr ?_ | refine (t_comp2).mpr ?_ | refine (i_comp2).mpr ?_ | refine (o_comp2).mpr ?_ | refine (r_comp2).mpr ?_ | refine (a_revR).mpr ?_ | refine (t_revR).mpr ?_ | refine (i_revR).mpr ?_ | refine (o_revR).mpr ?_ | refine (r_revR).mpr ?_ | refine (a_lrange).mpr ?_ | refine (t_lrange).mpr ?_ | refine (i_lrange).mpr ?_ | refine (o_lrange).mpr ?_ | refine (r_lrange).mpr ?_ | refine (a_bor).mpr ?_ | refine (t_bor).mpr ?_ | refine (i_bor).mpr ?_ | refine (o_bor).mpr ?_ | refine (r_bor).mpr ?_ | refine (a_idx).mpr ?_ | refine (t_idx).mpr ?_ | refine (i_idx).mpr ?_ | refine (o_idx).mpr ?_ | refine (r_idx).mpr ?_ | refine (i_var).mpr ?_ | refine (o_var).mpr ?_ | (refine and_lt ?_ ?_; exact Nat.le_of_ble_eq_true rfl) | (refine need_t ?_ ?_; first | (with_reducible assumption) | (with_reducible exact ixOk_sh) | (exact decide_eq_true (by omega)) | rfl | decide | exact ixOk_str | exact ixOk_int | omega) | refine br_t.mpr ?_ | refine br_f.mpr ?_ | (refine br_dt ?_ ?_; first | assumption | omega) | (refine br_df ?_ ?_; first | assumption | omega) | (refine br_nt ?_ ?_; first | assumption | omega) | (refine br_nf ?_ ?_; first | assumption | omega))))
structure DistC (c : Cfg) : Prop where
  flds : c.flds 1 = (["text", "names", "rows"] : List Str)
  cls : c.cls.contains 1 = true
/-- distances, as an object -/
def dst (ws : List Str) (m : Mx) : D := .obj 1 [.str (textOf ws m), .tup (ws.map D.str), mxT m]
theorem has_text {c : Cfg} (h : DistC c) : (c.flds 1).contains "text" = true := by rw [h.flds]; decide +kernel
theorem has_names {c : Cfg} (h : DistC c) : (c.flds 1).contains "names" = true := by rw [h.flds]; decide +kernel
theorem has_rows {c : Cfg} (h : DistC c) : (c.flds 1).contains "rows" = true := by rw [h.flds]; decide +kernel
theorem put_names {a b : D} : putD ("names" : Str) b [(("text" : Str), a)] = [(("text" : Str), a), (("names" : Str), b)] := by
  unfold putD
  rw [if_neg (by decide +kernel)]
  rfl
theorem put_rows {a b d : D} : putD ("rows" : Str) d [(("text" : Str), a), (("names" : Str), b)] = [(("text" : Str), a), (("names" : Str), b), (("rows" : Str), d)] := by
  unfold putD
  rw [if_neg (by decide +kernel)]
  unfold putD
  rw [if_neg (by decide +kernel)]
  rfl
/-- the object in the making, done -/
def dstI (ws : List Str) (m : Mx) : O := .ins 1 [(("text" : Str), .str (textOf ws m)), (("names" : Str), .tup (ws.map D.str)), (("rows" : Str), mxT m)]
theorem ix_mxG {m : Mx} {i : Nat} {Q : D → Prop} (hi : i < m.length) (k : Q (rowD (m.getD i []))) : Wp (ixD (mxD m) (.int (i : Int))) Q := by
  refine Wp.eq (a := rowD (m.getD i [])) ?_ k
  show R.of (atI (m.map rowD) (i : Int)) = _
  rw [atI_nat (d := rowD []) (by rw [List.length_map]; exact hi), getD_map (d := []) hi]
  rfl
theorem lower_len (m : Mx) : (lower m).length = m.length := by simp [lower]
theorem lower_row {m : Mx} {i : Nat} (h : i < m.length) : (lower m).getD i [] = (m.getD i []).take i := by
  unfold lower
  rw [List.getD_eq_getElem?_getD, List.getElem?_map, List.getElem?_range h]
  rfl
theorem take_at {m : Mx} {n i j : Nat} (h : m.sq n) (hi : i < n) (hj : j < i) : ((m.getD i []).take i).getD j 0 = m.at i j := by
  unfold Mx.at
  rw [List.getD_eq_getElem?_getD, List.getD_eq_getElem?_getD (l := m.getD i []), List.getElem?_take, if_pos hj]
/-- the table, as far as it stands -/
def Upto (m F : Mx) (n far near : Nat) : Prop := F.sq n ∧ ∀ i j, F.at i j = if (i < far ∧ j < far) ∨ (i = far ∧ j < near) ∨ (j = far ∧ i < near) then m.at i j else 0
theorem upto_step {m F : Mx} {n far near : Nat} {B : Int} (h : Mat m n B) (hf : far < n) (hn : near < far) (u : Upto m F n far near) : Upto m ((F.put far near (m.at far near)).put near far (m.at far near)) n far (near + 1) := by
  refine ⟨put_sq (put_sq u.1 hf) (by omega), fun i j => ?_⟩
  rw [at_put (put_sq u.1 hf) (by omega) hf, at_put u.1 hf (by omega), u.2 i j]
  by_cases a : i = near ∧ j = far
  · rw [if_pos a, if_pos (by omega), a.1, a.2]
    exact h.sym _ _
  · rw [if_neg a]
    by_cases b : i = far ∧ j = near
    · rw [if_pos b, if_pos (by omega), b.1, b.2]
    · rw [if_neg b]
      by_cases d : (i < far ∧ j < far) ∨ (i = far ∧ j < near) ∨ (j = far ∧ i < near)
      · rw [if_pos d, if_pos (by omega)]
      · rw [if_neg d, if_neg (by omega)]
theorem upto_row {m F : Mx} {n far : Nat} {B : Int} (h : Mat m n B) (u : Upto m F n far far) : Upto m F n (far + 1) 0 := by
  refine ⟨u.1, fun i j => ?_⟩
  rw [u.2 i j]
  by_cases d : (i < far ∧ j < far) ∨ (i = far ∧ j < far) ∨ (j = far ∧ i < far)
  · rw [if_pos d, if_pos (by omega)]
  · rw [if_neg d]
    by_cases e : i = far ∧ j = far
    · rw [if_pos (by omega), e.1, e.2, h.dia]
    · rw [if_neg (by omega)]
theorem upto_end {m F : Mx} {n : Nat} {B : Int} (h : Mat m n B) (u : Upto m F n n 0) : F = m := by
  refine Mx.ext u.1 h.sq fun i j hi hj => ?_
  rw [u.2 i j, if_pos (by omega)]
def fInit : Fn := ⟨2, 9, [],
  (.seq (.asg (.var 2) (.call 18 (.cons (.var 1) .nil)))
    (.seq (.ifs (.cm .isN (.var 2) .non) (.seq .never
    .nil) .nil)
    (.seq (.par (.cons (.att 0 "text") (.cons (.att 0 "names") .nil)) (.cons (.var 1) (.cons (.ix (.var 2) (.int 0)) .nil)))
    (.seq (.par (.cons (.var 3) (.cons (.var 4) .nil)) (.cons (.bl1 .len (.cons (.ix (.var 2) (.int 0)) .nil)) (.cons (.ix (.var 2) (.int 1)) .nil)))
    (.seq (.asg (.var 5) (.comp [6] false (.op .mul (.lst (.cons (.int 0) .nil)) (.var 3)) (.range1 (.var 3)) .nil))
    (.seq (.loop [7] false (.range1 (.var 3)) (.seq (.loop [8] false (.range1 (.var 7)) (.seq (.asg (.ix2 5 7 8) (.bor (.ix (.ix (.var 4) (.var 7)) (.var 8))))
    (.seq (.asg (.ix2 5 8 7) (.bor (.ix (.ix (.var 4) (.var 7)) (.var 8))))
    .nil)))
    .nil))
    (.seq (.asg (.att 0 "rows") (.bl1 .tuple (.cons (.comp [6] false (.bl1 .tuple (.cons (.var 6) .nil)) (.var 5) .nil) .nil)))
    .nil)))))))⟩
structure InitOk (c : Cfg) : Prop where
  asg : c.asg 21 = []
  run : ∀ {ws : List Str} {m : Mx} {Q : O × List O → Prop}, Dst ws m → Q (.sh .non, [dstI ws m, .sh (.str (textOf ws m))]) → Wp (c.low 21 [.ins 1 [], .sh (.str (textOf ws m))]) Q
theorem init_ok {c : Cfg} (hF : DistC c) (hT : TableOk c) {ws : List Str} {m : Mx} {Q : O × List O → Prop} (h : Dst ws m) (k : Q (.sh .non, [dstI ws m, .sh (.str (textOf ws m))])) : Wp (runFn c fInit [.ins 1 [], .sh (.str (textOf ws m))]) Q := by
  have hn := h.n9
  have hn2 := h.n2
  unfold dstI at k
  have hrun := fun (Q : O × List O → Prop) => hT.run (Q := Q) h
  generalize hs : textOf ws m = s at *
  have hl : ((ws.map D.str).length : Int) = (ws.length : Int) := by rw [List.length_map]
  have hrg : rangeOk 0 (ws.length : Int) = true := decide_eq_true (by omega)
  rw [fn_wp]
  refine ⟨rfl, ?_⟩
  show sV c 2 fInit.body [some (.ins 1 []), some (.sh (.str s)), none, none, none, none, none, none, none] _
  unfold fInit
  dsimp only
  trivial
  refine cV_0 hT.asg ?_
  trivial
  refine hrun _ ?_
  trivial
  refine gt_att rfl (by rw [has_text hF]; rfl) ?_
  trivial
  refine gt_att rfl (by rw [has_names hF]; rfl) ?_
  show gO c .nil [] [some (.ins 1 (putD ("names" : Str) (.tup (ws.map D.str)) [(("text" : Str), .str s)])), some (.sh (.str s)), some (.sh (.tup [.tup (ws.map D.str), mxD (lower m)])), none, none, none, none, none, none] _
  rw [put_names]
  trivial
  rw [hl]
  trivial
  show Wp (runC _ (rangeD 0 (ws.length : Int)) [some (.ins 1 [(("text" : Str), .str s), (("names" : Str), .tup (ws.map D.str))]), some (.sh (.str s)), some (.sh (.tup [.tup (ws.map D.str), mxD (lower m)])), some (.sh (.int (ws.length : Int))), some (.sh (mxD (lower m))), none, none, none, none]) _
  refine (runC_rng (fun _ => rowO (List.replicate ws.length 0)) fun i hi => ?_).mono fun p hp => ?_
  · refine b_nil.mpr ?_
    trivial
    show (some (O.lst ((List.replicate ws.length (.int 0)).map O.sh)), _) = _
    unfold rowO
    rw [List.map_replicate, List.map_replicate, List.map_replicate]
    rfl
  subst hp
  rw [zeros_map]
  refine need_t (decide_eq_true (by rw [rangeD_nat, List.length_map, List.length_range]; show _ ≤ 16777216; omega)) ?_
  trivial
  show Wp (runF _ (rangeD 0 (ws.length : Int)) [some (.ins 1 [(("text" : Str), .str s), (("names" : Str), .tup (ws.map D.str))]), some (.sh (.str s)), some (.sh (.tup [.tup (ws.map D.str), mxD (lower m)])), some (.sh (.int (ws.length : Int))), some (.sh (mxD (lower m))), some (mxO (zeros ws.length)), none, none, none]) _
  refine (runF_rng (n := ws.length) (fun i e => ∃ F a b, e = [some (.ins 1 [(("text" : Str), .str s), (("names" : Str), .tup (ws.map D.str))]), some (.sh (.str s)), some (.sh (.tup [.tup (ws.map D.str), mxD (lower m)])), some (.sh (.int (ws.length : Int))), some (.sh (mxD (lower m))), some (mxO F), none, a, b] ∧ Upto m F ws.length i 0) ⟨zeros ws.length, none, none, rfl, zeros_sq _, fun i j => by rw [zeros_at, if_neg (by omega)]⟩ ?_).mono ?_
  · rintro i e hi ⟨F, a, b, rfl, hu⟩
    have hrg2 : rangeOk 0 (i : Int) = true := decide_eq_true (by omega)
    refine f_b.mpr ?_
    trivial
    show Wp (runF _ (rangeD 0 (i : Int)) [some (.ins 1 [(("text" : Str), .str s), (("names" : Str), .tup (ws.map D.str))]), some (.sh (.str s)), some (.sh (.tup [.tup (ws.map D.str), mxD (lower m)])), some (.sh (.int (ws.length : Int))), some (.sh (mxD (lower m))), some (mxO F), none, some (.sh (.int (i : Int))), b]) _
    refine (runF_rng (n := i) (fun j e => ∃ F b, e = [some (.ins 1 [(("text" : Str), .str s), (("names" : Str), .tup (ws.map D.str))]), some (.sh (.str s)), some (.sh (.tup [.tup (ws.map D.str), mxD (lower m)])), some (.sh (.int (ws.length : Int))), some (.sh (mxD (lower m))), some (mxO F), none, some (.sh (.int (i : Int))), b] ∧ Upto m F ws.length i j) ⟨F, b, rfl, hu⟩ ?_).mono ?_
    · rintro j e hj ⟨F, b, rfl, hu⟩
      have hll : i < (lower m).length := by rw [lower_len, h.mt.sq.len]; exact hi
      have hil : i < m.length := by rw [h.mt.sq.len]; exact hi
      have hrl : j < ((m.getD i []).take i).length := by rw [List.length_take, h.rlen hi]; omega
      refine f_b.mpr ?_
      trivial
      refine ix_mxG hll ?_
      rw [lower_row hil]
      trivial
      refine ix_rowD hrl ?_
      rw [take_at h.mt.sq hi hj]
      trivial
      refine set2_ok hu.1 hi (by omega) ?_
      trivial
      refine ix_mxG hll ?_
      rw [lower_row hil]
      trivial
      refine ix_rowD hrl ?_
      rw [take_at h.mt.sq hi hj]
      trivial
      refine set2_ok (put_sq hu.1 hi) (by omega) hi ?_
      trivial
      exact ⟨rfl, _, _, rfl, upto_step h.mt hi hj hu⟩
    · rintro ⟨fl, e⟩ ⟨e1, F, b, e2, hu⟩
      have e1 : fl = .nx := e1
      have e2 : e = _ := e2
      subst e1
      subst e2
      dsimp only
      trivial
      exact ⟨rfl, F, _, _, rfl, upto_row h.mt hu⟩
  · rintro ⟨fl, e⟩ ⟨e1, F, a, b, e2, hu⟩
    have e1 : fl = .nx := e1
    have e2 : e = _ := e2
    subst e1
    subst e2
    have hFm := upto_end h.mt hu
    subst hFm
    dsimp only
    trivial
    refine need_t (noInss_mx F) ?_
    dsimp only
    rw [views_mx]
    trivial
    show Wp (runC _ (F.map rowD) [some (.ins 1 [(("text" : Str), .str s), (("names" : Str), .tup (ws.map D.str))]), some (.sh (.str s)), some (.sh (.tup [.tup (ws.map D.str), mxD (lower F)])), some (.sh (.int (ws.length : Int))), some (.sh (mxD (lower F))), some (.sh (.lst (F.map rowD))), none, a, b]) _
    refine (runC_over rowD (fun r => O.sh (rowT r)) F fun r hr => ?_).mono fun p hp => ?_
    · refine b_nil.mpr ?_
      trivial
      rfl
    subst hp
    have e5 : F.map (fun r => O.sh (rowT r)) = (F.map rowT).map O.sh := by
      rw [List.map_map]
      rfl
    rw [e5]
    refine need_t (decide_eq_true (by rw [List.length_map, h.mt.sq.len]; show _ ≤ 16777216; omega)) ?_
    trivial
    refine Wp.eq (a := .sh (mxT F)) bl_tupL ?_
    refine gt_att rfl (by rw [has_rows hF]; rfl) ?_
    show sN c 2 .nil [some (.ins 1 (putD ("rows" : Str) (mxT F) [(("text" : Str), .str s), (("names" : Str), .tup (ws.map D.str))])), some (.sh (.str s)), some (.sh (.tup [.tup (ws.map D.str), mxD (lower F)])), some (.sh (.int (ws.length : Int))), some (.sh (mxD (lower F))), some (.sh (.lst (F.map rowD))), none, a, b] _
    rw [put_rows]
    trivial
    exact k
/-- distances made of their text -/
theorem make_dst {c : Cfg} (hF : DistC c) (hI : InitOk c) {ws : List Str} {m : Mx} {e : En} {Q : O → En → Prop} (h : Dst ws m) (k : Q (.sh (dst ws m)) e) : nV c 1 21 [.val (.sh (.str (textOf ws m)))] e Q := by
  refine nV_0 hI.asg ?_
  trivial
  refine hI.run h ?_
  refine ⟨_, _, rfl, rfl, ?_, k⟩
  rw [hF.flds]
  rfl
end MP

set_option Elab.async false
set_option linter.all false
set_option maxRecDepth 100000
set_option maxHeartbeats 4000000
/-! Dt: small data, their repr; places. -/
namespace MP
open PySem L2
local macro_rules | `(tactic| trivial) => `(tactic| (repeat (first | (refine sN_of ?_; intro _e _he; (try simp only [give_n, give_v, give_a, List.set_cons_zero, List.set_cons_succ, wipe_n, wipe_c] at _he); subst _he) | ((with_reducible refine mul_row ?_ ?_); first | assumption | omega) | (refine wp_mul ?_ ?_; first | exact mul_r (by decide) | exact mul_l (by decide) | exact mul_r (decide_eq_true (by constructor <;> omega)) | exact mul_l (decide_eq_true (by constructor <;> omega))) | (refine wp_fdiv ?_ ?_; first | assumption | decide | (exact div_of (by first | assumption | omega) (by assumption))) | (refine wp_mod ?_ ?_; first | assumption | decide | omega) | (refine wp_divmod ?_ ?_; first | assumption | decide | (exact div_of (by first | assumption | omega) (by assumption))) | refine Wp.eq rfl ?_ | (refine gt_ix2 rfl rfl rfl ?_) | refine (w_non).mpr ?_ | refine (w_bl).mpr ?_ | refine (w_int).mpr ?_ | refine (w_str).mpr ?_ | refine (w_glb).mpr ?_ | refine (w_var).mpr ?_ | refine (a_var).mpr ?_ | refine (t_var).mpr ?_ | refine (w_op).mpr ?_ | refine (w_neg).mpr ?_ | refine (w_cm).mpr ?_ | refine (w_ch).mpr ?_ | refine (w_and).mpr ?_ | refine (w_or).mpr ?_ | refine (t_and).mpr ?_ | refine (t_or).mpr ?_ | refine (w_not).mpr ?_ | refine (t_not).mpr ?_ | refine (w_ite).mpr ?_ | refine (w_ix).mpr ?_ | refine (o_nil).mpr ?_ | refine (w_sl).mpr ?_ | refine (w_rev).mpr ?_ | refine (k_nil).mpr ?_ | refine (g_nil).mpr ?_ | refine (k_cons).mpr ?_ | refine (g_cons).mpr ?_ | refine (k_star).mpr ?_ | refine (w_tup).mpr ?_ | refine (w_lst).mpr ?_ | refine (w_call).mpr ?_ | refine (w_callK).mpr ?_ | refine (w_bl1).mpr ?_ | refine (w_mt).mpr ?_ | refine (w_isTy).mpr ?_ | refine (w_pop).mpr ?_ | refine (i_range1).mpr ?_ | refine (i_range2).mpr ?_ | refine (i_enum).mpr ?_ | refine (i_zip).mpr ?_ | refine (w_comp).mpr ?_ | refine (gt_var).mpr ?_ | refine (gt_ix).mpr ?_ | refine (gt_tup).mpr ?_ | refine (gt_tupL).mpr ?_ | refine (gl_nil).mpr ?_ | refine (gl_cons).mpr ?_ | refine (go_nil).mpr ?_ | refine (go_cons).mpr ?_ | refine (s_nil).mpr ?_ | refine (s_seqN).mpr ?_ | refine (s_expr).mpr ?_ | refine (s_app).mpr ?_ | refine (s_asg).mpr ?_ | refine (s_par).mpr ?_ | refine (s_ifs).mpr ?_ | refine (s_loop).mpr ?_ | refine (s_retV).mpr ?_ | refine (s_retN).mpr ?_ | refine (f_nil).mpr ?_ | refine (c_nil).mpr ?_ | refine (take_wp).mpr ?_ | refine (takeK_sh).mpr ?_ | refine (takeK_lst).mpr ?_ | refine (arg_wp).mpr ?_ | refine (argK_sh).mpr ?_ | refine (argK_lst).mpr ?_ | refine (bind_1).mpr ?_ | refine (bind_2).mpr ?_ | refine (lend_n).mpr ?_ | refine (lend_v).mpr ?_ | refine (lend_a).mpr ?_ | refine (left_c).mpr ?_ | refine (seeAll_c).mpr ?_ | refine (w_att).mpr ?_ | refine (w_isCl).mpr ?_ | refine (w_revR).mpr ?_ | refine (w_lrange).mpr ?_ | refine (w_make).mpr ?_ | refine (w_makeK).mpr ?_ | refine (w_meth).mpr ?_ | refine (w_methK).mpr ?_ | refine (w_own).mpr ?_ | refine (w_eqO).mpr ?_ | refine (w_idx).mpr ?_ | refine (w_bor).mpr ?_ | refine (w_comp2).mpr ?_ | refine (a_non).mpr ?_ | refine (t_non).mpr ?_ | refine (i_non).mpr ?_ | refine (o_non).mpr ?_ | refine (r_non).mpr ?_ | refine (a_bl).mpr ?_ | refine (t_bl).mpr ?_ | refine (i_bl).mpr ?_ | refine (o_bl).mpr ?_ | refine (r_bl).mpr ?_ | refine (a_int).mpr ?_ | refine (t_int).mpr ?_ | refine (i_int).mpr ?_ | refine (o_int).mpr ?_ | refine (r_int).mpr ?_ | refine (a_str).mpr ?_ | refine (t_str).mpr ?_ | refine (i_str).mpr ?_ | refine (o_str).mpr ?_ | refine (r_str).mpr ?_ | refine (a_glb).mpr ?_ | refine (t_glb).mpr ?_ | refine (i_glb).mpr ?_ | refine (o_glb).mpr ?_ | refine (r_glb).mpr ?_ | refine (a_op).mpr ?_ | refine (t_op).mpr ?_ | refine (i_op).mpr ?_ | refine (o_op).mpr ?_ | refine (r_op).mpr ?_ | refine (a_neg).mpr ?_ | refine (t_neg).mpr ?_ | refine (i_neg).mpr ?_ | refine (o_neg).mpr ?_ | refine (r_neg).mpr ?_ | refine (a_cm).mpr ?_ | refine (t_cm).mpr ?_ | refine (i_cm).mpr ?_ | refine (o_cm).mpr ?_ | refine (r_cm).mpr ?_ | refine (a_ch).mpr ?_ | refine (t_ch).mpr ?_ | refine (i_ch).mpr ?_ | refine (o_ch).mpr ?_ | refine (r_ch).mpr ?_ | refine (a_and).mpr ?_ | refine (i_and).mpr ?_ | refine (o_and).mpr ?_ | refine (r_and).mpr ?_ | refine (a_or).mpr ?_ | refine (i_or).mpr ?_ | refine (o_or).mpr ?_ | refine (r_or).mpr ?_ | refine (a_not).mpr ?_ | refine (i_not).mpr ?_ | refine (o_not).mpr ?_ | refine (r_not).mpr ?_ | refine (a_ite).mpr ?_ | refine (i_ite).mpr ?_ | refine (o_ite).mpr ?_ | refine (r_ite).mpr ?_ | refine (a_ix).mpr ?_ | refine (t_ix).mpr ?_ | refine (i_ix).mpr ?_ | refine (o_ix).mpr ?_ | refine (r_ix).mpr ?_ | refine (a_sl).mpr ?_ | refine (t_sl).mpr ?_ | refine (i_sl).mpr ?_ | refine (o_sl).mpr ?_ | refine (r_sl).mpr ?_ | refine (a_rev).mpr ?_ | refine (t_rev).mpr ?_ | refine (i_rev).mpr ?_ | refine (o_rev).mpr ?_ | refine (r_rev).mpr ?_ | refine (a_tup).mpr ?_ | refine (t_tup).mpr ?_ | refine (i_tup).mpr ?_ | refine (o_tup).mpr ?_ | refine (r_tup).mpr ?_ | refine (a_lst).mpr ?_ | refine (t_lst).mpr ?_ | refine (i_lst).mpr ?_ | refine (o_lst).mpr ?_ | refine (r_lst).mpr ?_ | refine (a_call).mpr ?_ | refine (t_call).mpr ?_ | refine (i_call).mpr ?_ | refine (o_call).mpr ?_ | refine (r_call).mpr ?_ | refine (a_callK).mpr ?_ | refine (t_callK).mpr ?_ | refine (i_callK).mpr ?_ | refine (o_callK).mpr ?_ | refine (r_callK).mpr ?_ | refine (a_bl1).mpr ?_ | refine (t_bl1).mpr ?_ | refine (i_bl1).mpr ?_ | refine (o_bl1).mpr ?_ | refine (r_bl1).mpr ?_ | refine (a_mt).mpr ?_ | refine (t_mt).mpr ?_ | refine (i_mt).mpr ?_ | refine (o_mt).mpr ?_ | refine (r_mt).mpr ?_ | refine (a_isTy).mpr ?_ | refine (t_isTy).mpr ?_ | refine (i_isTy).mpr ?_ | refine (o_isTy).mpr ?_ | refine (r_isTy).mpr ?_ | refine (a_pop).mpr ?_ | refine (t_pop).mpr ?_ | refine (i_pop).mpr ?_ | refine (o_pop).mpr ?_ | refine (r_pop).mpr ?_ | refine (a_comp).mpr ?_ | refine (t_comp).mpr ?_ | refine (i_comp).mpr ?_ | refine (o_comp).mpr ?_ | refine (r_comp).mpr ?_ | refine (a_att).mpr ?_ | refine (t_att).mpr ?_ | refine (i_att).mpr ?_ | refine (o_att).mpr ?_ | refine (r_att).mpr ?_ | refine (a_make).mpr ?_ | refine (t_make).mpr ?_ | refine (i_make).mpr ?_ | refine (o_make).mpr ?_ | refine (r_make).mpr ?_ | refine (a_makeK).mpr ?_ | refine (t_makeK).mpr ?_ | refine (i_makeK).mpr ?_ | refine (o_makeK).mpr ?_ | refine (r_makeK).mpr ?_ | refine (a_meth).mpr ?_ | refine (t_meth).mpr ?_ | refine (i_meth).mpr ?_ | refine (o_meth).mpr ?_ | refine (r_meth).mpr ?_ | refine (a_methK).mpr ?_ | refine (t_methK).mpr ?_ | refine (i_methK).mpr ?_ | refine (o_methK).mpr ?_ | refine (r_methK).mpr ?_ | refine (a_own).mpr ?_ | refine (t_own).mpr ?_ | refine (i_own).mpr ?_ | refine (o_own).mpr ?_ | refine (r_own).mpr ?_ | refine (a_eqO).mpr ?_ | refine (t_eqO).mpr ?_ | refine (i_eqO).mpr ?_ | refine (o_eqO).mpr ?_ | refine (r_eqO).mpr ?_ | refine (a_isCl).mpr ?_ | refine (t_isCl).mpr ?_ | refine (i_isCl).mpr ?_ | refine (o_isCl).mpr ?_ | refine (r_isCl).mpr ?_ | refine (a_comp2).mpr ?_ | refine (t_comp2).mpr ?_ | refine (i_comp2).mpr ?_ | refine (o_comp2).mpr ?_ | refine (r_comp2).mpr ?_ | refine (a_revR).mpr ?_ | refine (t_revR).mpr ?_ | refine (i_revR).mpr ?_ | refine (o_revR).mpr ?_ | refine (r_revR).mpr ?_ | refine (a_lrange).mpr ?_ | refine (t_lrange).mpr ?_ | refine (i_lrange).mpr ?_ | refine (o_lrange).mpr ?_ | refine (r_lrange).mpr ?_ | refine (a_bor).mpr ?_ | refine (t_bor).mpr ?_ | refine (i_bor).mpr ?_ | refine (o_bor).mpr ?_ | refine (r_bor).mpr ?_ | refine (a_idx).mpr ?_ | refine (t_idx).mpr ?_ | refine (i_idx).mpr ?_ | refine (o_idx).mpr ?_ | refine (r_idx).mpr ?_ | refine (i_var).mpr ?_ | refine (o_var).mpr ?_ | (refine and_lt ?_ ?_; exact Nat.le_of_ble_eq_true rfl) | (refine need_t ?_ ?_; first | (with_reducible assumption) | (with_reducible exact ixOk_sh) | (exact decide_eq_true (by omega)) | rfl | decide | exact ixOk_str | exact ixOk_int | omega) | refine br_t.mpr ?_ | refine br_f.mpr ?_ | (refine br_dt ?_ ?_; first | assumption | omega) | (refine br_df ?_ ?_; first | assumption | omega) | (refine br_nt ?_ ?_; first | assumption | omega) | (refine br_nf ?_ ?_; first | assumption | omega))))
/-- data that are small enough to be shown -/
def Sz (d : D) (k L : Nat) : Prop := ∃ p, d.py = some p ∧ PyData.showable p = true ∧ p.depth ≤ k ∧ p.shown.length ≤ L
section
variable {d : D} {ds : List D} {k k' L L' : Nat}
theorem Sz.mono (h : Sz d k L) (h1 : k ≤ k') (h2 : L ≤ L') : Sz d k' L' := by
  obtain ⟨p, a, b, x, y⟩ := h
  exact ⟨p, a, b, Nat.le_trans x h1, Nat.le_trans y h2⟩
theorem Sz.all (h : ∀ d ∈ ds, Sz d k L) : ∃ ps, D.py.pys ds = some ps ∧ PyData.showableAll ps = true ∧ PyData.depthAll ps ≤ k ∧ ps.length = ds.length ∧ ((PyData.shownAll ps).map fun t => t.length + 2).sum ≤ ds.length * (L + 2) ∧ (PyData.shownAll ps).length = ds.length := by
  induction ds with
  | nil => exact ⟨[], rfl, rfl, Nat.zero_le _, rfl, Nat.zero_le _, rfl⟩
  | cons d ds ih =>
    obtain ⟨p, a, b, x, y⟩ := h d List.mem_cons_self
    obtain ⟨ps, a2, b2, x2, n2, y2, l2⟩ := ih fun e he => h e (List.mem_cons_of_mem _ he)
    refine ⟨p :: ps, ?_, ?_, ?_, by rw [List.length_cons, List.length_cons, n2], ?_, ?_⟩
    · rw [D.py.pys, a, a2]
    · rw [PyData.showableAll, b, b2]
      rfl
    · rw [PyData.depthAll]
      exact Nat.max_le.mpr ⟨x, x2⟩
    · rw [PyData.shownAll, List.map_cons, List.sum_cons, List.length_cons, Nat.add_mul]
      omega
    · rw [PyData.shownAll, List.length_cons, List.length_cons, l2]
theorem Sz.lst (h : ∀ d ∈ ds, Sz d k L) : Sz (.lst ds) (k + 1) (ds.length * (L + 2) + 2) := by
  obtain ⟨ps, a, b, x, _, y, _⟩ := Sz.all h
  refine ⟨.list ps, ?_, b, ?_, ?_⟩
  · show (D.py.pys ds).map PyData.list = _
    rw [a]
    rfl
  · show PyData.depthAll ps + 1 ≤ k + 1
    omega
  · show (listText (PyData.shownAll ps)).length ≤ _
    unfold listText
    rw [app_len]
    have h1 := from_len (PyData.shownAll ps) 0 "["
    have h3 : ("[" : Str).length = 1 := by decide +kernel
    have h4 : ("]" : Str).length = 1 := by decide +kernel
    omega
theorem Sz.tup (h : ∀ d ∈ ds, Sz d k L) : Sz (.tup ds) (k + 1) (ds.length * (L + 2) + 3) := by
  obtain ⟨ps, a, b, x, _, y, l⟩ := Sz.all h
  refine ⟨.tuple ps, ?_, b, ?_, ?_⟩
  · show (D.py.pys ds).map PyData.tuple = _
    rw [a]
    rfl
  · show PyData.depthAll ps + 1 ≤ k + 1
    omega
  · show (tupleText (PyData.shownAll ps)).length ≤ _
    have h1 := tup_len (PyData.shownAll ps)
    have h2 : ((PyData.shownAll ps).map fun t => t.length + 2).sum = ((PyData.shownAll ps).map (·.length)).sum + (PyData.shownAll ps).length * 2 := by
      generalize PyData.shownAll ps = ts
      induction ts with
      | nil => rfl
      | cons t ts ih =>
        rw [List.map_cons, List.sum_cons, ih, List.map_cons, List.sum_cons, List.length_cons]
        omega
    omega
theorem Sz.word {w : Str} (h : Word w) : Sz (.str w) 0 82 := ⟨.str w, rfl, rfl, Nat.zero_le _, repr_word h⟩
theorem Sz.non : Sz .non 0 4 := ⟨.none, rfl, rfl, Nat.zero_le _, by decide +kernel⟩
theorem Sz.bl {b : Bool} : Sz (.bl b) 0 5 := ⟨.bool b, rfl, rfl, Nat.zero_le _, by cases b <;> decide +kernel⟩
theorem Sz.num {v : Int} (h : Num v) : Sz (.int v) 0 31 := ⟨.int v, rfl, decide_eq_true (num_log h), Nat.zero_le _, (num_len h).2⟩
theorem Sz.row {r : List Int} (h : ∀ v ∈ r, Num v) : Sz (rowD r) 1 (r.length * 33 + 2) := by
  have := Sz.lst (ds := r.map D.int) (k := 0) (L := 31) fun d hd => by
    obtain ⟨v, hv, rfl⟩ := List.mem_map.mp hd
    exact Sz.num (h v hv)
  rw [List.length_map] at this
  exact this
def reprOf (d : D) : Str := match reprD d with
  | .ok s => s
  | _ => ("" : Str)
theorem repr_wp {o : O} {Q : O → Prop} (h : Sz o.view k L) (h1 : k ≤ 64) (h2 : L ≤ lim) (q : Q (.sh (.str (reprOf o.view)))) : Wp (blD .repr [o]) Q := by
  obtain ⟨p, a, b, x, y⟩ := h
  have e : reprD o.view = .ok p.shown := by
    unfold reprD
    rw [a]
    show R.need (PyData.showable p && decide (p.depth ≤ 64) && decide (p.shown.length ≤ lim)) (R.ok p.shown) = _
    rw [b, decide_eq_true (Nat.le_trans x h1), decide_eq_true (Nat.le_trans y h2)]
    rfl
  refine Wp.eq (a := .sh (.str (reprOf o.view))) ?_ q
  show (reprD o.view >>= fun z => R.ok (O.sh (.str z))) = _
  unfold reprOf
  rw [e]
  rfl
end
/-! ### places -/
theorem att_text {c : Cfg} (h : DistC c) {ws : List Str} {m : Mx} {Q : O → Prop} (k : Q (.sh (.str (textOf ws m)))) : Wp (attD c.flds "text" (.sh (dst ws m))) Q := by
  refine Wp.eq (a := .sh (.str (textOf ws m))) ?_ k
  show (R.of (((c.flds 1).zip [.str (textOf ws m), .tup (ws.map D.str), mxT m]).lookup ("text" : Str))).bind (fun d => R.ok (O.sh d)) = _
  rw [h.flds]
  rfl
theorem att_names {c : Cfg} (h : DistC c) {ws : List Str} {m : Mx} {Q : O → Prop} (k : Q (tupS ws)) : Wp (attD c.flds "names" (.sh (dst ws m))) Q := by
  refine Wp.eq (a := tupS ws) ?_ k
  show (R.of (((c.flds 1).zip [.str (textOf ws m), .tup (ws.map D.str), mxT m]).lookup ("names" : Str))).bind (fun d => R.ok (O.sh d)) = _
  rw [h.flds]
  rfl
theorem att_rows {c : Cfg} (h : DistC c) {ws : List Str} {m : Mx} {Q : O → Prop} (k : Q (.sh (mxT m))) : Wp (attD c.flds "rows" (.sh (dst ws m))) Q := by
  refine Wp.eq (a := .sh (mxT m)) ?_ k
  show (R.of (((c.flds 1).zip [.str (textOf ws m), .tup (ws.map D.str), mxT m]).lookup ("rows" : Str))).bind (fun d => R.ok (O.sh d)) = _
  rw [h.flds]
  rfl
theorem is_dst {c : Cfg} (h : DistC c) {ws : List Str} {m : Mx} {f : Str} (hf : (["text", "names", "rows"] : List Str).contains f = false) : isO c.flds 1 f (.sh (dst ws m)) = true := by
  show (decide (1 = 1) && !(c.flds 1).contains f) = true
  rw [h.flds, hf]
  rfl
theorem name_mem {ws : List Str} {i : Nat} (h : i < ws.length) : ws.getD i ("" : Str) ∈ ws := getD_mem h
theorem idx_name {ws : List Str} {i : Nat} {Q : D → Prop} (nd : ws.Nodup) (h : i < ws.length) (k : Q (.int (i : Int))) : Wp (idxD true (.tup (ws.map D.str)) (.str (ws.getD i ("" : Str)))) Q := by
  refine Wp.eq (a := .int (i : Int)) ?_ k
  show ((R.of (strsD (ws.map D.str))).bind fun ys => (R.of (ys.findIdx? fun y => decide (y = ws.getD i ("" : Str)))).bind fun j => R.ok (D.int (j : Nat))) = _
  rw [strsD_map]
  show (R.of (ws.findIdx? fun y => decide (y = ws.getD i ("" : Str)))).bind _ = _
  have e : (ws.findIdx? fun y => decide (y = ws.getD i ("" : Str))) = some i := by
    rw [List.findIdx?_eq_some_iff_getElem]
    have e1 : ws.getD i ("" : Str) = ws[i] := by
      rw [List.getD_eq_getElem?_getD, List.getElem?_eq_getElem h]
      rfl
    refine ⟨h, decide_eq_true e1.symm, fun j hj => ?_⟩
    rw [e1]
    intro z
    have z := of_decide_eq_true z
    have := (List.getElem_inj nd).mp z
    omega
  rw [e]
  rfl
def fPlace : Fn := ⟨2, 2, [],
  (.seq (.ifs (.or (.not (.isTy .str (.var 1))) (.cm .notIn (.var 1) (.att (.var 0) "names"))) (.seq .never
    .nil) .nil)
    (.seq (.ret (.idx true (.att (.var 0) "names") (.var 1)))
    .nil))⟩
structure PlaceOk (c : Cfg) : Prop where
  asg : c.asg 19 = []
  run : ∀ {ws : List Str} {m : Mx} {i : Nat} {Q : O × List O → Prop}, Dst ws m → i < ws.length → Q (.sh (.int (i : Int)), [.sh (dst ws m), .sh (.str (ws.getD i ("" : Str)))]) → Wp (c.call 19 [.sh (dst ws m), .sh (.str (ws.getD i ("" : Str)))]) Q
theorem place_ok {c : Cfg} (hF : DistC c) {ws : List Str} {m : Mx} {i : Nat} {Q : O × List O → Prop} (h : Dst ws m) (hi : i < ws.length) (k : Q (.sh (.int (i : Int)), [.sh (dst ws m), .sh (.str (ws.getD i ("" : Str)))])) : Wp (runFn c fPlace [.sh (dst ws m), .sh (.str (ws.getD i ("" : Str)))]) Q := by
  rw [fn_wp]
  refine ⟨rfl, ?_⟩
  show sV c 2 fPlace.body [some (.sh (dst ws m)), some (.sh (.str (ws.getD i ("" : Str))))] _
  unfold fPlace
  dsimp only
  trivial
  refine att_names hF ?_
  trivial
  refine notin_tup ?_
  trivial
  refine br_nt (name_mem hi) ?_
  trivial
  refine att_names hF ?_
  trivial
  refine idx_name h.nm.nd hi ?_
  trivial
  exact k
def fBetween : Fn := ⟨3, 5, [],
  (.seq (.par (.cons (.var 3) (.cons (.var 4) .nil)) (.cons (.call 19 (.cons (.var 0) (.cons (.var 1) .nil))) (.cons (.call 19 (.cons (.var 0) (.cons (.var 2) .nil))) .nil)))
    (.seq (.ret (.ix (.ix (.att (.var 0) "rows") (.var 3)) (.var 4)))
    .nil))⟩
structure BetweenOk (c : Cfg) : Prop where
  asg : c.asg 20 = []
  run : ∀ {ws : List Str} {m : Mx} {i j : Nat} {Q : O × List O → Prop}, Dst ws m → i < ws.length → j < ws.length → Q (.sh (.int (m.at i j)), [.sh (dst ws m), .sh (.str (ws.getD i ("" : Str))), .sh (.str (ws.getD j ("" : Str)))]) → Wp (c.call 20 [.sh (dst ws m), .sh (.str (ws.getD i ("" : Str))), .sh (.str (ws.getD j ("" : Str)))]) Q
theorem between_ok {c : Cfg} (hF : DistC c) (hP : PlaceOk c) {ws : List Str} {m : Mx} {i j : Nat} {Q : O × List O → Prop} (h : Dst ws m) (hi : i < ws.length) (hj : j < ws.length) (k : Q (.sh (.int (m.at i j)), [.sh (dst ws m), .sh (.str (ws.getD i ("" : Str))), .sh (.str (ws.getD j ("" : Str)))])) : Wp (runFn c fBetween [.sh (dst ws m), .sh (.str (ws.getD i ("" : Str))), .sh (.str (ws.getD j ("" : Str)))]) Q := by
  rw [fn_wp]
  refine ⟨rfl, ?_⟩
  show sV c 3 fBetween.body [some (.sh (dst ws m)), some (.sh (.str (ws.getD i ("" : Str)))), some (.sh (.str (ws.getD j ("" : Str)))), none, none] _
  unfold fBetween
  dsimp only
  trivial
  refine cV_0 hP.asg ?_
  trivial
  refine hP.run h hi ?_
  trivial
  refine cV_0 hP.asg ?_
  trivial
  refine hP.run h hj ?_
  trivial
  refine att_rows hF ?_
  trivial
  refine ix_mxT h.mt.sq hi ?_
  trivial
  refine ix_rowT (by rw [h.rlen hi]; exact hj) ?_
  trivial
  exact k
end MP

set_option Elab.async false
set_option linter.all false
set_option maxRecDepth 100000
set_option maxHeartbeats 4000000
/-! Du: what the laws are asked by; the functions of the program at their depths. -/
namespace MP
open PySem L2
section
local macro_rules | `(tactic| trivial) => `(tactic| (repeat (first | (refine sN_of ?_; intro _e _he; (try simp only [give_n, give_v, give_a, List.set_cons_zero, List.set_cons_succ, wipe_n, wipe_c] at _he); subst _he) | ((with_reducible refine mul_row ?_ ?_); first | assumption | omega) | (refine wp_mul ?_ ?_; first | exact mul_r (by decide) | exact mul_l (by decide) | exact mul_r (decide_eq_true (by constructor <;> omega)) | exact mul_l (decide_eq_true (by constructor <;> omega))) | (refine wp_fdiv ?_ ?_; first | assumption | decide | (exact div_of (by first | assumption | omega) (by assumption))) | (refine wp_mod ?_ ?_; first | assumption | decide | omega) | (refine wp_divmod ?_ ?_; first | assumption | decide | (exact div_of (by first | assumption | omega) (by assumption))) | refine Wp.eq rfl ?_ | (refine gt_ix2 rfl rfl rfl ?_) | refine (w_non).mpr ?_ | refine (w_bl).mpr ?_ | refine (w_int).mpr ?_ | refine (w_str).mpr ?_ | refine (w_glb).mpr ?_ | refine (w_var).mpr ?_ | refine (a_var).mpr ?_ | refine (t_var).mpr ?_ | refine (w_op).mpr ?_ | refine (w_neg).mpr ?_ | refine (w_cm).mpr ?_ | refine (w_ch).mpr ?_ | refine (w_and).mpr ?_ | refine (w_or).mpr ?_ | refine (t_and).mpr ?_ | refine (t_or).mpr ?_ | refine (w_not).mpr ?_ | refine (t_not).mpr ?_ | refine (w_ite).mpr ?_ | refine (w_ix).mpr ?_ | refine (o_nil).mpr ?_ | refine (w_sl).mpr ?_ | refine (w_rev).mpr ?_ | refine (k_nil).mpr ?_ | refine (g_nil).mpr ?_ | refine (k_cons).mpr ?_ | refine (g_cons).mpr ?_ | refine (k_star).mpr ?_ | refine (w_tup).mpr ?_ | refine (w_lst).mpr ?_ | refine (w_call).mpr ?_ | refine (w_callK).mpr ?_ | refine (w_bl1).mpr ?_ | refine (w_mt).mpr ?_ | refine (w_isTy).mpr ?_ | refine (w_pop).mpr ?_ | refine (i_range1).mpr ?_ | refine (i_range2).mpr ?_ | refine (i_enum).mpr ?_ | refine (i_zip).mpr ?_ | refine (w_comp).mpr ?_ | refine (gt_var).mpr ?_ | refine (gt_ix).mpr ?_ | refine (gt_tup).mpr ?_ | refine (gt_tupL).mpr ?_ | refine (gl_nil).mpr ?_ | refine (gl_cons).mpr ?_ | refine (go_nil).mpr ?_ | refine (go_cons).mpr ?_ | refine (s_nil).mpr ?_ | refine (s_seqN).mpr ?_ | refine (s_expr).mpr ?_ | refine (s_app).mpr ?_ | refine (s_asg).mpr ?_ | refine (s_par).mpr ?_ | refine (s_ifs).mpr ?_ | refine (s_loop).mpr ?_ | refine (s_retV).mpr ?_ | refine (s_retN).mpr ?_ | refine (f_nil).mpr ?_ | refine (c_nil).mpr ?_ | refine (take_wp).mpr ?_ | refine (takeK_sh).mpr ?_ | refine (takeK_lst).mpr ?_ | refine (arg_wp).mpr ?_ | refine (argK_sh).mpr ?_ | refine (argK_lst).mpr ?_ | refine (bind_1).mpr ?_ | refine (bind_2).mpr ?_ | refine (lend_n).mpr ?_ | refine (lend_v).mpr ?_ | refine (lend_a).mpr ?_ | refine (left_c).mpr ?_ | refine (seeAll_c).mpr ?_ | refine (w_att).mpr ?_ | refine (w_isCl).mpr ?_ | refine (w_revR).mpr ?_ | refine (w_lrange).mpr ?_ | refine (w_make).mpr ?_ | refine (w_makeK).mpr ?_ | refine (w_meth).mpr ?_ | refine (w_methK).mpr ?_ | refine (w_own).mpr ?_ | refine (w_eqO).mpr ?_ | refine (w_idx).mpr ?_ | refine (w_bor).mpr ?_ | refine (w_comp2).mpr ?_ | refine (a_non).mpr ?_ | refine (t_non).mpr ?_ | refine (i_non).mpr ?_ | refine (o_non).mpr ?_ | refine (r_non).mpr ?_ | refine (a_bl).mpr ?_ | refine (t_bl).mpr ?_ | refine (i_bl).mpr ?_ | refine (o_bl).mpr ?_ | refine (r_bl).mpr ?_ | refine (a_int).mpr ?_ | refine (t_int).mpr ?_ | refine (i_int).mpr ?_ | refine (o_int).mpr ?_ | refine (r_int).mpr ?_ | refine (a_str).mpr ?_ | refine (t_str).mpr ?_ | refine (i_str).mpr ?_ | refine (o_str).mpr ?_ | refine (r_str).mpr ?_ | refine (a_glb).mpr ?_ | refine (t_glb).mpr ?_ | refine (i_glb).mpr ?_ | refine (o_glb).mpr ?_ | refine (r_glb).mpr ?_ | refine (a_op).mpr ?_ | refine (t_op).mpr ?_ | refine (i_op).mpr ?_ | refine (o_op).mpr ?_ | refine (r_op).mpr ?_ | refine (a_neg).mpr ?_ | refine (t_neg).mpr ?_ | refine (i_neg).mpr ?_ | refine (o_neg).mpr ?_ | refine (r_neg).mpr ?_ | refine (a_cm).mpr ?_ | refine (t_cm).mpr ?_ | refine (i_cm).mpr ?_ | refine (o_cm).mpr ?_ | refine (r_cm).mpr ?_ | refine (a_ch).mpr ?_ | refine (t_ch).mpr ?_ | refine (i_ch).mpr ?_ | refine (o_ch).mpr ?_ | refine (r_ch).mpr ?_ | refine (a_and).mpr ?_ | refine (i_and).mpr ?_ | refine (o_and).mpr ?_ | refine (r_and).mpr ?_ | refine (a_or).mpr ?_ | refine (i_or).mpr ?_ | refine (o_or).mpr ?_ | refine (r_or).mpr ?_ | refine (a_not).mpr ?_ | refine (i_not).mpr ?_ | refine (o_not).mpr ?_ | refine (r_not).mpr ?_ | refine (a_ite).mpr ?_ | refine (i_ite).mpr ?_ | refine (o_ite).mpr ?_ | refine (r_ite).mpr ?_ | refine (a_ix).mpr ?_ | refine (t_ix).mpr ?_ | refine (i_ix).mpr ?_ | refine (o_ix).mpr ?_ | refine (r_ix).mpr ?_ | refine (a_sl).mpr ?_ | refine (t_sl).mpr ?_ | refine (i_sl).mpr ?_ | refine (o_sl).mpr ?_ | refine (r_sl).mpr ?_ | refine (a_rev).mpr ?_ | refine (t_rev).mpr ?_ | refine (i_rev).mpr ?_ | refine (o_rev).mpr ?_ | refine (r_rev).mpr ?_ | refine (a_tup).mpr ?_ | refine (t_tup).mpr ?_ | refine (i_tup).mpr ?_ | refine (o_tup).mpr ?_ | refine (r_tup).mpr ?_ | refine (a_lst).mpr ?_ | refine (t_lst).mpr ?_ | refine (i_lst).mpr ?_ | refine (o_lst).mpr ?_ | refine (r_lst).mpr ?_ | refine (a_call).mpr ?_ | refine (t_call).mpr ?_ | refine (i_call).mpr ?_ | refine (o_call).mpr ?_ | refine (r_call).mpr ?_ | refine (a_callK).mpr ?_ | refine (t_callK).mpr ?_ | refine (i_callK).mpr ?_ | refine (o_callK).mpr ?_ | refine (r_callK).mpr ?_ | refine (a_bl1).mpr ?_ | refine (t_bl1).mpr ?_ | refine (i_bl1).mpr ?_ | refine (o_bl1).mpr ?_ | refine (r_bl1).mpr ?_ | refine (a_mt).mpr ?_ | refine (t_mt).mpr ?_ | refine (i_mt).mpr ?_ | refine (o_mt).mpr ?_ | refine (r_mt).mpr ?_ | refine (a_isTy).mpr ?_ | refine (t_isTy).mpr ?_ | refine (i_isTy).mpr ?_ | refine (o_isTy).mpr ?_ | refine (r_isTy).mpr ?_ | refine (a_pop).mpr ?_ | refine (t_pop).mpr ?_ | refine (i_pop).mpr ?_ | refine (o_pop).mpr ?_ | refine (r_pop).mpr ?_ | refine (a_comp).mpr ?_ | refine (t_comp).mpr ?_ | refine (i_comp).mpr ?_ | refine (o_comp).mpr ?_ | refine (r_comp).mpr ?_ | refine (a_att).mpr ?_ | refine (t_att).mpr ?_ | refine (i_att).mpr ?_ | refine (o_att).mpr ?_ | refine (r_att).mpr ?_ | refine (a_make).mpr ?_ | refine (t_make).mpr ?_ | refine (i_make).mpr ?_ | refine (o_make).mpr ?_ | refine (r_make).mpr ?_ | refine (a_makeK).mpr ?_ | refine (t_makeK).mpr ?_ | refine (i_makeK).mpr ?_ | refine (o_makeK).mpr ?_ | refine (r_makeK).mpr ?_ | refine (a_meth).mpr ?_ | refine (t_meth).mpr ?_ | refine (i_meth).mpr ?_ | refine (o_meth).mpr ?_ | refine (r_meth).mpr ?_ | refine (a_methK).mpr ?_ | refine (t_methK).mpr ?_ | refine (i_methK).mpr ?_ | refine (o_methK).mpr ?_ | refine (r_methK).mpr ?_ | refine (a_own).mpr ?_ | refine (t_own).mpr ?_ | refine (i_own).mpr ?_ | refine (o_own).mpr ?_ | refine (r_own).mpr ?_ | refine (a_eqO).mpr ?_ | refine (t_eqO).mpr ?_ | refine (i_eqO).mpr ?_ | refine (o_eqO).mpr ?_ | refine (r_eqO).mpr ?_ | refine (a_isCl).mpr ?_ | refine (t_isCl).mpr ?_ | refine (i_isCl).mpr ?_ | refine (o_isCl).mpr ?_ | refine (r_isCl).mpr ?_ | refine (a_comp2).mpr ?_ | refine (t_comp2).mpr ?_ | refine (i_comp2).mpr ?_ | refine (o_comp2).mpr ?_ | refine (r_comp2).mpr ?_ | refine (a_revR).mpr ?_ | refine (t_revR).mpr ?_ | refine (i_revR).mpr ?_ | refine (o_revR).mpr ?_ | refine (r_revR).mpr ?_ | refine (a_lrange).mpr ?_ | refine (t_lrange).mpr ?_ | refine (i_lrange).mpr ?_ | refine (o_lrange).mpr ?_ | refine (r_lrange).mpr ?_ | refine (a_bor).mpr ?_ | refine (t_bor).mpr ?_ | refine (i_bor).mpr ?_ | refine (o_bor).mpr ?_ | refine (r_bor).mpr ?_ | refine (a_idx).mpr ?_ | refine (t_idx).mpr ?_ | refine (i_idx).mpr ?_ | refine (o_idx).mpr ?_ | refine (r_idx).mpr ?_ | refine (i_var).mpr ?_ | refine (o_var).mpr ?_ | (refine and_lt ?_ ?_; exact Nat.le_of_ble_eq_true rfl) | (refine need_t ?_ ?_; first | (with_reducible assumption) | (with_reducible exact ixOk_sh) | (exact decide_eq_true (by omega)) | rfl | decide | exact ixOk_str | exact ixOk_int | omega) | refine br_t.mpr ?_ | refine br_f.mpr ?_ | (refine br_dt ?_ ?_; first | assumption | omega) | (refine br_df ?_ ?_; first | assumption | omega) | (refine br_nt ?_ ?_; first | assumption | omega) | (refine br_nf ?_ ?_; first | assumption | omega))))
structure RightOk (c : Cfg) : Prop where
  asg : c.asg 11 = []
  run : ∀ {x y z : Int} {Q : O × List O → Prop}, (∀ x y z, Q (.sh (.bl true), [pot x y z])) → Wp (c.call 11 [pot x y z]) Q
def fLaw (q : Int) : Fn := ⟨1, 2, [],
  (.seq (.ret (.bl1 .all (.cons (.comp [1] false (.call 11 (.cons (.call 12 (.cons (.var 0) (.cons (.var 1) .nil))) .nil)) (.range1 (.bl1 .max (.cons (.int 2) (.cons (.bl1 .min (.cons (.bl1 .len (.cons (.var 0) .nil)) (.cons (.int q) .nil))) .nil)))) .nil) .nil)))
    .nil)⟩
theorem law_ok {c : Cfg} {q : Int} (q0 : 0 ≤ q) (q1 : q ≤ 100) (hP : PotOk c) (hR : RightOk c) {ns : List Int} (hl : ns.length ≤ 63) {Q : O × List O → Prop} (k : ∀ os, Q (.sh (.bl true), os)) : Wp (runFn c (fLaw q) [.sh (.arr ns)]) Q := by
  rw [fn_wp]
  refine ⟨rfl, ?_⟩
  show sV c 1 (fLaw q).body [some (.sh (.arr ns)), none] _
  unfold fLaw
  dsimp only
  generalize hm : (if q < (ns.length : Int) then q else (ns.length : Int)) = m
  generalize hm2 : (if m > (2 : Int) then m else (2 : Int)) = m2
  have hm3 : 0 ≤ m2 ∧ m2 ≤ 100 := by
    rw [← hm2, ← hm]
    split <;> split <;> omega
  have hrg : rangeOk 0 m2 = true := decide_eq_true (by omega)
  trivial
  rw [hm, hm2]
  trivial
  show Wp (runC _ (rangeD 0 m2) [some (.sh (.arr ns)), none]) _
  refine (runC_trues _ fun d hd => ?_).mono fun p hp => ?_
  · obtain ⟨kk, rfl, g0, g1⟩ := rangeD_mem hd
    refine b_nil.mpr ?_
    trivial
    refine cV_0 hP.asg ?_
    trivial
    refine hP.run g0 (by omega) (by omega) fun x y z => ?_
    trivial
    refine cV_0 hR.asg ?_
    trivial
    refine hR.run fun x y z => ?_
    trivial
    rfl
  · subst hp
    refine need_t (decide_eq_true ?_) ?_
    · rw [rangeD_len]
      show _ ≤ 16777216
      omega
    · trivial
      refine all_trues ?_
      trivial
      exact k _
end
section
variable {P : Prg}
theorem asg_at {c c2 : Nat → List O → R (O × List O)} {f : Nat} {x : Fn} (h : P.fns.lookup f = some x) : (P.cfg c c2).asg f = x.asg := by
  show (match P.fns.lookup f with | some x => x.asg | none => []) = _
  rw [h]
theorem wp_at {f k : Nat} {x : Fn} {os : List O} {Q : O × List O → Prop} (h : P.fns.lookup f = some x) (k1 : Wp (runFn (P.cfg (evC P k) (evM P k)) x os) Q) : Wp ((P.cfg (evC P (k + 1)) (evM P (k + 1))).call f os) Q := by
  show Wp (evC P (k + 1) f os) Q
  rw [evC_succ h]
  exact k1
theorem digAt (h : P.fns.lookup 1 = some fDig) (n : Nat) : DigOk (P.cfg (evC P (n + 1)) (evM P (n + 1))) := ⟨asg_at h, fun a b k => wp_at h (dig_ok a b k)⟩
theorem wordAt (h1 : P.fns.lookup 1 = some fDig) (h : P.fns.lookup 2 = some fWord) (n : Nat) : WordOk (P.cfg (evC P (n + 2)) (evM P (n + 2))) := ⟨asg_at h, fun k => wp_at h (word_ok (digAt h1 n) k)⟩
theorem namesAt (h1 : P.fns.lookup 1 = some fDig) (h2 : P.fns.lookup 2 = some fWord) (h : P.fns.lookup 10 = some fNames) (n : Nat) : NamesOk (P.cfg (evC P (n + 3)) (evM P (n + 3))) := ⟨asg_at h, fun a b k => wp_at h (names_ok (digAt h1 (n + 1)) (wordAt h1 h2 n) a b k)⟩
theorem mixedAt (h1 : P.fns.lookup 1 = some fDig) (h : P.fns.lookup 9 = some fMixed) (n : Nat) : MixedOk (P.cfg (evC P (n + 2)) (evM P (n + 2))) := ⟨asg_at h, fun a k => wp_at h (mixed_ok (digAt h1 n) a k)⟩
theorem globsAt {c c2 : Nat → List O → R (O × List O)} (h3 : P.glob.lookup 3 = some (.int 8)) (h4 : P.glob.lookup 4 = some (.str letters)) (h7 : P.glob.lookup 7 = some (.int 9)) : Globs (P.cfg c c2) := by
  refine ⟨?_, ?_, ?_⟩
  · show (P.glob.lookup 3).getD .non = _
    rw [h3]
    rfl
  · show (P.glob.lookup 4).getD .non = _
    rw [h4]
    rfl
  · show (P.glob.lookup 7).getD .non = _
    rw [h7]
    rfl
theorem isWordAt (hg : ∀ c c2, Globs (P.cfg c c2)) (h : P.fns.lookup 5 = some fIsWord) (n : Nat) : IsWordOk (P.cfg (evC P (n + 1)) (evM P (n + 1))) := ⟨asg_at h, fun a k => wp_at h (isWord_ok (hg _ _) a k)⟩
theorem areNamesAt (hg : ∀ c c2, Globs (P.cfg c c2)) (h5 : P.fns.lookup 5 = some fIsWord) (h : P.fns.lookup 6 = some fAreNames) (n : Nat) : AreNamesOk (P.cfg (evC P (n + 2)) (evM P (n + 2))) := ⟨asg_at h, fun a b k => wp_at h (areNames_ok (isWordAt hg h5 n) a b k)⟩
theorem roundAt (hg : ∀ c c2, Globs (P.cfg c c2)) (h5 : P.fns.lookup 5 = some fIsWord) (h6 : P.fns.lookup 6 = some fAreNames) (h : P.fns.lookup 8 = some fRound) (n : Nat) : RoundOk (P.cfg (evC P (n + 3)) (evM P (n + 3))) := ⟨asg_at h, fun a b d k => wp_at h (round_ok (hg _ _) (areNamesAt hg h5 h6 n) a b d k)⟩
theorem potAt (h : P.fns.lookup 12 = some fPot) (n : Nat) : PotOk (P.cfg (evC P (n + 1)) (evM P (n + 1))) := ⟨asg_at h, fun a b d k => wp_at h (pot_ok a b d k)⟩
theorem say_at {f k : Nat} {x : Fn} {os : List O} (h : P.fns.lookup f = some x) (w : Wp (runFn (P.cfg (evC P k) (evM P k)) x os) fun p => p.1 = .sh (.bl true)) : ∃ ls, evC P (k + 1) f os = .ok (.sh (.bl true), ls) := by
  rw [evC_succ h]
  obtain ⟨⟨o, ls⟩, e, h2⟩ := w
  have h2 : o = .sh (.bl true) := h2
  subst h2
  exact ⟨ls, e⟩
end
end MP

set_option Elab.async false
set_option linter.all false
set_option maxRecDepth 100000
set_option maxHeartbeats 4000000
/-! Dv: the functions for distances at their depths. -/
namespace MP
open PySem L2
section
variable {P : Prg}
theorem glob2At {c c2 : Nat → List O → R (O × List O)} (h7 : P.glob.lookup 7 = some (.int 9)) (h14 : P.glob.lookup 14 = some (.int top)) (h15 : P.glob.lookup 15 = some (.int 31)) (h17 : P.glob.lookup 17 = some (.int 2)) : Globs2 (P.cfg c c2) := by
  refine ⟨?_, ?_, ?_, ?_⟩
  · show (P.glob.lookup 7).getD .non = _
    rw [h7]
    rfl
  · show (P.glob.lookup 14).getD .non = _
    rw [h14]
    rfl
  · show (P.glob.lookup 15).getD .non = _
    rw [h15]
    rfl
  · show (P.glob.lookup 17).getD .non = _
    rw [h17]
    rfl
theorem rowsAt (h1 : P.fns.lookup 1 = some fDig) (h : P.fns.lookup 23 = some fRows) (n : Nat) : RowsOk (P.cfg (evC P (n + 2)) (evM P (n + 2))) := ⟨asg_at h, fun a b d k => wp_at h (rows_ok (digAt h1 n) a b d k)⟩
theorem boundAt (h1 : P.fns.lookup 1 = some fDig) (h : P.fns.lookup 24 = some fBound) (n : Nat) : BoundOk (P.cfg (evC P (n + 2)) (evM P (n + 2))) := ⟨asg_at h, fun k => wp_at h (bound_ok (digAt h1 n) k)⟩
theorem textAt (h : P.fns.lookup 22 = some fText) (n : Nat) : TextOk (P.cfg (evC P (n + 1)) (evM P (n + 1))) := ⟨asg_at h, fun a k => wp_at h (text_ok a k)⟩
theorem numInAt (hg : ∀ c c2, Globs2 (P.cfg c c2)) (h : P.fns.lookup 16 = some fNumIn) (n : Nat) : NumInOk (P.cfg (evC P (n + 1)) (evM P (n + 1))) := ⟨asg_at h, fun a k => wp_at h (numIn_ok (hg _ _) a k)⟩
theorem tableAt (hg : ∀ c c2, Globs (P.cfg c c2)) (hg2 : ∀ c c2, Globs2 (P.cfg c c2)) (h5 : P.fns.lookup 5 = some fIsWord) (h6 : P.fns.lookup 6 = some fAreNames) (h16 : P.fns.lookup 16 = some fNumIn) (h : P.fns.lookup 18 = some fTable) (n : Nat) : TableOk (P.cfg (evC P (n + 3)) (evM P (n + 3))) := ⟨asg_at h, fun a k => wp_at h (table_ok (hg2 _ _) (areNamesAt hg h5 h6 n) (numInAt hg2 h16 (n + 1)) a k)⟩
theorem initAt (hg : ∀ c c2, Globs (P.cfg c c2)) (hg2 : ∀ c c2, Globs2 (P.cfg c c2)) (hd : ∀ c c2, DistC (P.cfg c c2)) (h5 : P.fns.lookup 5 = some fIsWord) (h6 : P.fns.lookup 6 = some fAreNames) (h16 : P.fns.lookup 16 = some fNumIn) (h18 : P.fns.lookup 18 = some fTable) (h : P.fns.lookup 21 = some fInit) (n : Nat) : InitOk (P.cfg (evC P (n + 5)) (evM P (n + 5))) := by
  refine ⟨asg_at h, fun a k => ?_⟩
  show Wp (evC P (n + 4) 21 _) _
  rw [evC_succ h]
  exact init_ok (hd _ _) (tableAt hg hg2 h5 h6 h16 h18 n) a k
theorem placeAt (hd : ∀ c c2, DistC (P.cfg c c2)) (h : P.fns.lookup 19 = some fPlace) (n : Nat) : PlaceOk (P.cfg (evC P (n + 1)) (evM P (n + 1))) := ⟨asg_at h, fun a b k => wp_at h (place_ok (hd _ _) a b k)⟩
theorem betweenAt (hd : ∀ c c2, DistC (P.cfg c c2)) (h19 : P.fns.lookup 19 = some fPlace) (h : P.fns.lookup 20 = some fBetween) (n : Nat) : BetweenOk (P.cfg (evC P (n + 2)) (evM P (n + 2))) := ⟨asg_at h, fun a b d k => wp_at h (between_ok (hd _ _) (placeAt hd h19 n) a b d k)⟩
end
end MP

set_option Elab.async false
set_option linter.all false
set_option maxRecDepth 100000
set_option maxHeartbeats 4000000
/-! Dw: distances made from rows; numbers and pairs that are checked. -/
namespace MP
open PySem L2
local macro_rules | `(tactic| trivial) => `(tactic| (repeat (first | (refine sN_of ?_; intro _e _he; (try simp only [give_n, give_v, give_a, List.set_cons_zero, List.set_cons_succ, wipe_n, wipe_c] at _he); subst _he) | ((with_reducible refine mul_row ?_ ?_); first | assumption | omega) | (refine wp_mul ?_ ?_; first | exact mul_r (by decide) | exact mul_l (by decide) | exact mul_r (decide_eq_true (by constructor <;> omega)) | exact mul_l (decide_eq_true (by constructor <;> omega))) | (refine wp_fdiv ?_ ?_; first | assumption | decide | (exact div_of (by first | assumption | omega) (by assumption))) | (refine wp_mod ?_ ?_; first | assumption | decide | omega) | (refine wp_divmod ?_ ?_; first | assumption | decide | (exact div_of (by first | assumption | omega) (by assumption))) | refine Wp.eq rfl ?_ | (refine gt_ix2 rfl rfl rfl ?_) | refine (w_non).mpr ?_ | refine (w_bl).mpr ?_ | refine (w_int).mpr ?_ | refine (w_str).mpr ?_ | refine (w_glb).mpr ?_ | refine (w_var).mpr ?_ | refine (a_var).mpr ?_ | refine (t_var).mpr ?_ | refine (w_op).mpr ?_ | refine (w_neg).mpr ?_ | refine (w_cm).mpr ?_ | refine (w_ch).mpr ?_ | refine (w_and).mpr ?_ | refine (w_or).mpr ?_ | refine (t_and).mpr ?_ | refine (t_or).mpr ?_ | refine (w_not).mpr ?_ | refine (t_not).mpr ?_ | refine (w_ite).mpr ?_ | refine (w_ix).mpr ?_ | refine (o_nil).mpr ?_ | refine (w_sl).mpr ?_ | refine (w_rev).mpr ?_ | refine (k_nil).mpr ?_ | refine (g_nil).mpr ?_ | refine (k_cons).mpr ?_ | refine (g_cons).mpr ?_ | refine (k_star).mpr ?_ | refine (w_tup).mpr ?_ | refine (w_lst).mpr ?_ | refine (w_call).mpr ?_ | refine (w_callK).mpr ?_ | refine (w_bl1).mpr ?_ | refine (w_mt).mpr ?_ | refine (w_isTy).mpr ?_ | refine (w_pop).mpr ?_ | refine (i_range1).mpr ?_ | refine (i_range2).mpr ?_ | refine (i_enum).mpr ?_ | refine (i_zip).mpr ?_ | refine (w_comp).mpr ?_ | refine (gt_var).mpr ?_ | refine (gt_ix).mpr ?_ | refine (gt_tup).mpr ?_ | refine (gt_tupL).mpr ?_ | refine (gl_nil).mpr ?_ | refine (gl_cons).mpr ?_ | refine (go_nil).mpr ?_ | refine (go_cons).mpr ?_ | refine (s_nil).mpr ?_ | refine (s_seqN).mpr ?_ | refine (s_expr).mpr ?_ | refine (s_app).mpr ?_ | refine (s_asg).mpr ?_ | refine (s_par).mpr ?_ | refine (s_ifs).mpr ?_ | refine (s_loop).mpr ?_ | refine (s_retV).mpr ?_ | refine (s_retN).mpr ?_ | refine (f_nil).mpr ?_ | refine (c_nil).mpr ?_ | refine (take_wp).mpr ?_ | refine (takeK_sh).mpr ?_ | refine (takeK_lst).mpr ?_ | refine (arg_wp).mpr ?_ | refine (argK_sh).mpr ?_ | refine (argK_lst).mpr ?_ | refine (bind_1).mpr ?_ | refine (bind_2).mpr ?_ | refine (lend_n).mpr ?_ | refine (lend_v).mpr ?_ | refine (lend_a).mpr ?_ | refine (left_c).mpr ?_ | refine (seeAll_c).mpr ?_ | refine (w_att).mpr ?_ | refine (w_isCl).mpr ?_ | refine (w_revR).mpr ?_ | refine (w_lrange).mpr ?_ | refine (w_make).mpr ?_ | refine (w_makeK).mpr ?_ | refine (w_meth).mpr ?_ | refine (w_methK).mpr ?_ | refine (w_own).mpr ?_ | refine (w_eqO).mpr ?_ | refine (w_idx).mpr ?_ | refine (w_bor).mpr ?_ | refine (w_comp2).mpr ?_ | refine (a_non).mpr ?_ | refine (t_non).mpr ?_ | refine (i_non).mpr ?_ | refine (o_non).mpr ?_ | refine (r_non).mpr ?_ | refine (a_bl).mpr ?_ | refine (t_bl).mpr ?_ | refine (i_bl).mpr ?_ | refine (o_bl).mpr ?_ | refine (r_bl).mpr ?_ | refine (a_int).mpr ?_ | refine (t_int).mpr ?_ | refine (i_int).mpr ?_ | refine (o_int).mpr ?_ | refine (r_int).mpr ?_ | refine (a_str).mpr ?_ | refine (t_str).mpr ?_ | refine (i_str).mpr ?_ | refine (o_str).mpr ?_ | refine (r_str).mpr ?_ | refine (a_glb).mpr ?_ | refine (t_glb).mpr ?_ | refine (i_glb).mpr ?_ | refine (o_glb).mpr ?_ | refine (r_glb).mpr ?_ | refine (a_op).mpr ?_ | refine (t_op).mpr ?_ | refine (i_op).mpr ?_ | refine (o_op).mpr ?_ | refine (r_op).mpr ?_ | refine (a_neg).mpr ?_ | refine (t_neg).mpr ?_ | refine (i_neg).mpr ?_ | refine (o_neg).mpr ?_ | refine (r_neg).mpr ?_ | refine (a_cm).mpr ?_ | refine (t_cm).mpr ?_ | refine (i_cm).mpr ?_ | refine (o_cm).mpr ?_ | refine (r_cm).mpr ?_ | refine (a_ch).mpr ?_ | refine (t_ch).mpr ?_ | refine (i_ch).mpr ?_ | refine (o_ch).mpr ?_ | refine (r_ch).mpr ?_ | refine (a_and).mpr ?_ | refine (i_and).mpr ?_ | refine (o_and).mpr ?_ | refine (r_and).mpr ?_ | refine (a_or).mpr ?_ | refine (i_or).mpr ?_ | refine (o_or).mpr ?_ | refine (r_or).mpr ?_ | refine (a_not).mpr ?_ | refine (i_not).mpr ?_ | refine (o_not).mpr ?_ | refine (r_not).mpr ?_ | refine (a_ite).mpr ?_ | refine (i_ite).mpr ?_ | refine (o_ite).mpr ?_ | refine (r_ite).mpr ?_ | refine (a_ix).mpr ?_ | refine (t_ix).mpr ?_ | refine (i_ix).mpr ?_ | refine (o_ix).mpr ?_ | refine (r_ix).mpr ?_ | refine (a_sl).mpr ?_ | refine (t_sl).mpr ?_ | refine (i_sl).mpr ?_ | refine (o_sl).mpr ?_ | refine (r_sl).mpr ?_ | refine (a_rev).mpr ?_ | refine (t_rev).mpr ?_ | refine (i_rev).mpr ?_ | refine (o_rev).mpr ?_ | refine (r_rev).mpr ?_ | refine (a_tup).mpr ?_ | refine (t_tup).mpr ?_ | refine (i_tup).mpr ?_ | refine (o_tup).mpr ?_ | refine (r_tup).mpr ?_ | refine (a_lst).mpr ?_ | refine (t_lst).mpr ?_ | refine (i_lst).mpr ?_ | refine (o_lst).mpr ?_ | refine (r_lst).mpr ?_ | refine (a_call).mpr ?_ | refine (t_call).mpr ?_ | refine (i_call).mpr ?_ | refine (o_call).mpr ?_ | refine (r_call).mpr ?_ | refine (a_callK).mpr ?_ | refine (t_callK).mpr ?_ | refine (i_callK).mpr ?_ | refine (o_callK).mpr ?_ | refine (r_callK).mpr ?_ | refine (a_bl1).mpr ?_ | refine (t_bl1).mpr ?_ | refine (i_bl1).mpr ?_ | refine (o_bl1).mpr ?_ | refine (r_bl1).mpr ?_ | refine (a_mt).mpr ?_ | refine (t_mt).mpr ?_ | refine (i_mt).mpr ?_ | refine (o_mt).mpr ?_ | refine (r_mt).mpr ?_ | refine (a_isTy).mpr ?_ | refine (t_isTy).mpr ?_ | refine (i_isTy).mpr ?_ | refine (o_isTy).mpr ?_ | refine (r_isTy).mpr ?_ | refine (a_pop).mpr ?_ | refine (t_pop).mpr ?_ | refine (i_pop).mpr ?_ | refine (o_pop).mpr ?_ | refine (r_pop).mpr ?_ | refine (a_comp).mpr ?_ | refine (t_comp).mpr ?_ | refine (i_comp).mpr ?_ | refine (o_comp).mpr ?_ | refine (r_comp).mpr ?_ | refine (a_att).mpr ?_ | refine (t_att).mpr ?_ | refine (i_att).mpr ?_ | refine (o_att).mpr ?_ | refine (r_att).mpr ?_ | refine (a_make).mpr ?_ | refine (t_make).mpr ?_ | refine (i_make).mpr ?_ | refine (o_make).mpr ?_ | refine (r_make).mpr ?_ | refine (a_makeK).mpr ?_ | refine (t_makeK).mpr ?_ | refine (i_makeK).mpr ?_ | refine (o_makeK).mpr ?_ | refine (r_makeK).mpr ?_ | refine (a_meth).mpr ?_ | refine (t_meth).mpr ?_ | refine (i_meth).mpr ?_ | refine (o_meth).mpr ?_ | refine (r_meth).mpr ?_ | refine (a_methK).mpr ?_ | refine (t_methK).mpr ?_ | refine (i_methK).mpr ?_ | refine (o_methK).mpr ?_ | refine (r_methK).mpr ?_ | refine (a_own).mpr ?_ | refine (t_own).mpr ?_ | refine (i_own).mpr ?_ | refine (o_own).mpr ?_ | refine (r_own).mpr ?_ | refine (a_eqO).mpr ?_ | refine (t_eqO).mpr ?_ | refine (i_eqO).mpr ?_ | refine (o_eqO).mpr ?_ | refine (r_eqO).mpr ?_ | refine (a_isCl).mpr ?_ | refine (t_isCl).mpr ?_ | refine (i_isCl).mpr ?_ | refine (o_isCl).mpr ?_ | refine (r_isCl).mpr ?_ | refine (a_comp2).mpr ?_ | refine (t_comp2).mpr ?_ | refine (i_comp2).mpr ?_ | refine (o_comp2).mpr ?_ | refine (r_comp2).mpr ?_ | refine (a_revR).mpr ?_ | refine (t_revR).mpr ?_ | refine (i_revR).mpr ?_ | refine (o_revR).mpr ?_ | refine (r_revR).mpr ?_ | refine (a_lrange).mpr ?_ | refine (t_lrange).mpr ?_ | refine (i_lrange).mpr ?_ | refine (o_lrange).mpr ?_ | refine (r_lrange).mpr ?_ | refine (a_bor).mpr ?_ | refine (t_bor).mpr ?_ | refine (i_bor).mpr ?_ | refine (o_bor).mpr ?_ | refine (r_bor).mpr ?_ | refine (a_idx).mpr ?_ | refine (t_idx).mpr ?_ | refine (i_idx).mpr ?_ | refine (o_idx).mpr ?_ | refine (r_idx).mpr ?_ | refine (i_var).mpr ?_ | refine (o_var).mpr ?_ | (refine and_lt ?_ ?_; exact Nat.le_of_ble_eq_true rfl) | (refine need_t ?_ ?_; first | (with_reducible assumption) | (with_reducible exact ixOk_sh) | (exact decide_eq_true (by omega)) | rfl | decide | exact ixOk_str | exact ixOk_int | omega) | refine br_t.mpr ?_ | refine br_f.mpr ?_ | (refine br_dt ?_ ?_; first | assumption | omega) | (refine br_df ?_ ?_; first | assumption | omega) | (refine br_nt ?_ ?_; first | assumption | omega) | (refine br_nf ?_ ?_; first | assumption | omega))))
def fIsInt : Fn := ⟨1, 1, [],
  (.seq (.ret (.and (.isTy .int (.var 0)) (.not (.isTy .bool (.var 0)))))
    .nil)⟩
structure IsIntOk (c : Cfg) : Prop where
  asg : c.asg 28 = []
  run : ∀ {v : Int} {Q : O × List O → Prop}, Q (.sh (.bl true), [.sh (.int v)]) → Wp (c.call 28 [.sh (.int v)]) Q
theorem isInt_ok {c : Cfg} {v : Int} {Q : O × List O → Prop} (k : Q (.sh (.bl true), [.sh (.int v)])) : Wp (runFn c fIsInt [.sh (.int v)]) Q := by
  rw [fn_wp]
  refine ⟨rfl, ?_⟩
  show sV c 1 fIsInt.body [some (.sh (.int v))] _
  unfold fIsInt
  dsimp only
  trivial
  exact k
def fBetw : Fn := ⟨3, 3, [],
  (.seq (.ret (.and (.call 28 (.cons (.var 0) .nil)) (.ch .le .le (.var 1) (.var 0) (.var 2))))
    .nil)⟩
structure BetwOk (c : Cfg) : Prop where
  asg : c.asg 29 = []
  run : ∀ {v a b : Int} {Q : O × List O → Prop}, a ≤ v → v ≤ b → Q (.sh (.bl true), [.sh (.int v), .sh (.int a), .sh (.int b)]) → Wp (c.call 29 [.sh (.int v), .sh (.int a), .sh (.int b)]) Q
theorem betw_ok {c : Cfg} (hI : IsIntOk c) {v a b : Int} {Q : O × List O → Prop} (h1 : a ≤ v) (h2 : v ≤ b) (k : Q (.sh (.bl true), [.sh (.int v), .sh (.int a), .sh (.int b)])) : Wp (runFn c fBetw [.sh (.int v), .sh (.int a), .sh (.int b)]) Q := by
  rw [fn_wp]
  refine ⟨rfl, ?_⟩
  show sV c 3 fBetw.body [some (.sh (.int v)), some (.sh (.int a)), some (.sh (.int b))] _
  unfold fBetw
  dsimp only
  trivial
  refine cV_0 hI.asg ?_
  trivial
  refine hI.run ?_
  trivial
  show Q (.sh (.bl (decide (v ≤ b))), _)
  rw [decide_eq_true h2]
  exact k
def fCheckNum : Fn := ⟨3, 3, [],
  (.seq (.ifs (.not (.call 29 (.cons (.var 0) (.cons (.var 1) (.cons (.var 2) .nil))))) (.seq .never
    .nil) .nil)
    .nil)⟩
structure CheckNumOk (c : Cfg) : Prop where
  asg : c.asg 32 = []
  run : ∀ {v a b : Int} {Q : O × List O → Prop}, a ≤ v → v ≤ b → Q (.sh .non, [.sh (.int v), .sh (.int a), .sh (.int b)]) → Wp (c.call 32 [.sh (.int v), .sh (.int a), .sh (.int b)]) Q
theorem checkNum_ok {c : Cfg} (hI : BetwOk c) {v a b : Int} {Q : O × List O → Prop} (h1 : a ≤ v) (h2 : v ≤ b) (k : Q (.sh .non, [.sh (.int v), .sh (.int a), .sh (.int b)])) : Wp (runFn c fCheckNum [.sh (.int v), .sh (.int a), .sh (.int b)]) Q := by
  rw [fn_wp]
  refine ⟨rfl, ?_⟩
  show sV c 3 fCheckNum.body [some (.sh (.int v)), some (.sh (.int a)), some (.sh (.int b))] _
  unfold fCheckNum
  dsimp only
  trivial
  refine cV_0 hI.asg ?_
  trivial
  refine hI.run h1 h2 ?_
  trivial
  exact k
def fPair : Fn := ⟨3, 5, [],
  (.seq (.par (.cons (.var 3) (.cons (.var 4) .nil)) (.cons (.call 19 (.cons (.var 0) (.cons (.var 1) .nil))) (.cons (.call 19 (.cons (.var 0) (.cons (.var 2) .nil))) .nil)))
    (.seq (.ifs (.cm .eq (.var 3) (.var 4)) (.seq .never
    .nil) .nil)
    (.seq (.ret (.tup (.cons (.var 3) (.cons (.var 4) .nil))))
    .nil)))⟩
structure PairOk (c : Cfg) : Prop where
  asg : c.asg 33 = []
  run : ∀ {ws : List Str} {m : Mx} {i j : Nat} {Q : O × List O → Prop}, Dst ws m → i < ws.length → j < ws.length → i ≠ j → Q (.sh (.tup [.int (i : Int), .int (j : Int)]), [.sh (dst ws m), .sh (.str (ws.getD i ("" : Str))), .sh (.str (ws.getD j ("" : Str)))]) → Wp (c.call 33 [.sh (dst ws m), .sh (.str (ws.getD i ("" : Str))), .sh (.str (ws.getD j ("" : Str)))]) Q
theorem pair_ok {c : Cfg} (hP : PlaceOk c) {ws : List Str} {m : Mx} {i j : Nat} {Q : O × List O → Prop} (h : Dst ws m) (hi : i < ws.length) (hj : j < ws.length) (hij : i ≠ j) (k : Q (.sh (.tup [.int (i : Int), .int (j : Int)]), [.sh (dst ws m), .sh (.str (ws.getD i ("" : Str))), .sh (.str (ws.getD j ("" : Str)))])) : Wp (runFn c fPair [.sh (dst ws m), .sh (.str (ws.getD i ("" : Str))), .sh (.str (ws.getD j ("" : Str)))]) Q := by
  rw [fn_wp]
  refine ⟨rfl, ?_⟩
  show sV c 3 fPair.body [some (.sh (dst ws m)), some (.sh (.str (ws.getD i ("" : Str)))), some (.sh (.str (ws.getD j ("" : Str)))), none, none] _
  unfold fPair
  dsimp only
  trivial
  refine cV_0 hP.asg ?_
  trivial
  refine hP.run h hi ?_
  trivial
  refine cV_0 hP.asg ?_
  trivial
  refine hP.run h hj ?_
  trivial
  exact k
/-! ### the text of names and rows -/
theorem zip_range {ws : List Str} {m : Mx} (h : m.length = ws.length) : zipD (ws.map D.str) ((lower m).map rowD) = (List.range ws.length).map fun k => D.tup [.str (ws.getD k ("" : Str)), rowD ((m.getD k []).take k)] := by
  unfold zipD lower
  rw [h]
  apply List.ext_getElem
  · simp
  · intro i h1 h2
    have hi : i < ws.length := by simpa using h2
    simp [hi]
def fTextWith : Fn := ⟨2, 6, [],
  (.seq (.asg (.var 2) (.comp [3, 4] true (.mt .join (.str " ") (.lst (.cons (.var 3) (.star (.comp [5] false (.bl1 .str (.cons (.var 5) .nil)) (.var 4) .nil) .nil)))) (.zip (.var 0) (.var 1)) .nil))
    (.seq (.ret (.mt .join (.str "\n") (.var 2)))
    .nil))⟩
structure TextWithOk (c : Cfg) : Prop where
  asg : c.asg 30 = []
  run : ∀ {ws : List Str} {m : Mx} {Q : O × List O → Prop}, Dst ws m → (∀ o, Q (.sh (.str (textOf ws m)), [tupS ws, o])) → Wp (c.call 30 [tupS ws, mxO (lower m)]) Q
theorem star_sts {ps : List Str} {w : Str} : O.sh (.str w) :: ((views (sts ps)).map O.sh ++ []) = sts (w :: ps) := by
  rw [views_sts, List.append_nil]
  rfl
theorem textWith_ok {c : Cfg} {ws : List Str} {m : Mx} {Q : O × List O → Prop} (h : Dst ws m) (k : ∀ o, Q (.sh (.str (textOf ws m)), [tupS ws, o])) : Wp (runFn c fTextWith [tupS ws, mxO (lower m)]) Q := by
  have hn := h.n9
  rw [fn_wp]
  refine ⟨rfl, ?_⟩
  show sV c 2 fTextWith.body [some (.sh (.tup (ws.map D.str))), some (.lst ((lower m).map rowO)), none, none, none, none] _
  unfold fTextWith
  dsimp only
  trivial
  refine need_t (noInss_mx _) ?_
  dsimp only
  rw [views_mx]
  trivial
  rw [zip_range h.mt.sq.len]
  show Wp (runC _ ((List.range ws.length).map fun k => D.tup [.str (ws.getD k ("" : Str)), rowD ((m.getD k []).take k)]) [some (.sh (.tup (ws.map D.str))), some (.sh (mxD (lower m))), none, none, none, none]) _
  refine (runC_range _ (fun k => O.sh (.str (lineOf ws m k))) fun i hi => ?_).mono fun p hp => ?_
  · refine b_nil.mpr ?_
    trivial
    show Wp (runC _ (((m.getD i []).take i).map D.int) [some (.sh (.tup (ws.map D.str))), some (.sh (mxD (lower m))), none, some (.sh (.str (ws.getD i ("" : Str)))), some (.sh (rowD ((m.getD i []).take i))), none]) _
    refine (runC_over D.int (fun v => O.sh (.str (numS v))) ((m.getD i []).take i) fun v hv => ?_).mono fun p hp => ?_
    · refine b_nil.mpr ?_
      trivial
      refine str_num (h.num hi (List.mem_of_mem_take hv)) ?_
      trivial
      rfl
    subst hp
    have hp1 := parts_len h hi
    have hp2 := parts_sum h hi
    have est : ((m.getD i []).take i).map (fun v => O.sh (.str (numS v))) = sts (((m.getD i []).take i).map numS) := by
      unfold sts
      rw [List.map_map, List.map_map]
      rfl
    rw [est]
    refine need_t (decide_eq_true (by rw [List.length_map, List.length_take]; show _ ≤ 16777216; omega)) ?_
    refine need_t (noIns_sts _) ?_
    trivial
    rw [star_sts]
    refine need_t (decide_eq_true (by rw [sts_len, List.length_cons, List.length_map, List.length_take]; show _ ≤ 16777216; omega)) ?_
    trivial
    refine join_sts (ps := partsOf ws m i) (by rw [hp1]; show _ + _ * 1 ≤ 16777216; omega) ?_
    trivial
    rfl
  subst hp
  have hs := lines_sum h
  have hll := lines_len (ws := ws) (m := m)
  have el : (List.range ws.length).map (fun k => O.sh (.str (lineOf ws m k))) = sts (linesOf ws m) := by
    unfold sts linesOf
    rw [List.map_map, List.map_map]
    rfl
  rw [el]
  refine need_t (decide_eq_true (by rw [List.length_map, List.length_range]; show _ ≤ 16777216; omega)) ?_
  trivial
  refine join_sts (ps := linesOf ws m) (by rw [hll]; show _ + _ * 1 ≤ 16777216; omega) ?_
  trivial
  exact k _
def fMade : Fn := ⟨2, 4, [],
  (.seq (.ret (.make 1 21 (.cons (.call 30 (.cons (.var 0) (.cons (.comp [2, 3] true (.sl (.var 3) .nil (.var 2)) (.enum (.var 1)) .nil) .nil))) .nil)))
    .nil)⟩
structure MadeOk (c : Cfg) : Prop where
  asg : c.asg 31 = []
  run : ∀ {ws : List Str} {m : Mx} {o : O} {Q : O × List O → Prop}, Dst ws m → o.view = mxD m → noIns o = true → (∀ o, Q (.sh (dst ws m), [tupS ws, o])) → Wp (c.call 31 [tupS ws, o]) Q
theorem lower_map (m : Mx) : (lower m).map rowO = (List.range m.length).map fun k => rowO ((m.getD k []).take k) := by
  unfold lower
  rw [List.map_map]
  rfl
theorem enum_rows (m : Mx) : m.map rowD = (List.range m.length).map fun k => rowD (m.getD k []) := by
  conv => lhs; rw [← range_getD [] m]
  rw [List.map_map]
  rfl
/-- what is taken out of a slot, its datum known -/
theorem takeK_v {i : Nat} {e : En} {o : O} {d : D} {Q : O × En → Prop} (h : e[i]? = some (some o)) (hv : o.view = d) (hn : noIns o = true) (k : Q (.sh d, e.set i (some (.sh d)))) : takeK i o e Q := by
  subst hv
  rw [takeK_iff]
  cases o with
  | sh d =>
    show Q (.sh d, e)
    have e2 : e.set i (some (.sh d)) = e := by
      obtain ⟨hi, h3⟩ := List.getElem?_eq_some_iff.mp h
      rw [← h3]
      exact List.set_getElem_self hi
    have k : Q (.sh d, e.set i (some (.sh d))) := k
    rw [e2] at k
    exact k
  | lst xs => exact ⟨hn, k⟩
  | ins c fs => cases hn
theorem made_ok {c : Cfg} (hF : DistC c) (hI : InitOk c) (hT : TextWithOk c) {ws : List Str} {m : Mx} {o : O} {Q : O × List O → Prop} (h : Dst ws m) (hv : o.view = mxD m) (ho : noIns o = true) (k : ∀ o, Q (.sh (dst ws m), [tupS ws, o])) : Wp (runFn c fMade [tupS ws, o]) Q := by
  have hn := h.n9
  have hml := h.mt.sq.len
  rw [fn_wp]
  refine ⟨rfl, ?_⟩
  show sV c 2 fMade.body [some (.sh (.tup (ws.map D.str))), some o, none, none] _
  unfold fMade
  dsimp only
  trivial
  refine takeK_v rfl hv ho ?_
  trivial
  show Wp (runC _ (enumD (m.map rowD)) [some (.sh (.tup (ws.map D.str))), some (.sh (mxD m)), none, none]) _
  have ee : enumD (m.map rowD) = (List.range m.length).map fun (k : Nat) => D.tup [.int (k : Int), rowD (m.getD k [])] := by
    rw [enum_rows]
    unfold enumD
    apply List.ext_getElem
    · simp
    · intro i h1 h2
      simp
  rw [ee]
  refine (runC_range _ (fun k => rowO ((m.getD k []).take k)) fun i hi => ?_).mono fun p hp => ?_
  · refine b_nil.mpr ?_
    trivial
    show (some (O.lst ((cut ((m.getD i []).map D.int) none (some (i : Int))).map O.sh)), _) = _
    rw [cut_nat, ← List.map_take]
    rfl
  subst hp
  rw [← lower_map]
  refine need_t (decide_eq_true (by rw [List.length_map, List.length_range]; show _ ≤ 16777216; omega)) ?_
  trivial
  refine cV_0 hT.asg ?_
  trivial
  refine hT.run h fun o => ?_
  trivial
  refine make_dst hF hI h ?_
  trivial
  exact k _
def fPut : Fn := ⟨4, 8, [],
  (.seq (.asg (.tup (.cons (.var 4) (.cons (.var 5) .nil))) (.call 33 (.cons (.var 0) (.cons (.var 1) (.cons (.var 2) .nil)))))
    (.seq (.expr (.call 32 (.cons (.var 3) (.cons (.int 0) (.cons (.glb 14) .nil)))))
    (.seq (.asg (.var 6) (.comp [7] false (.bl1 .list (.cons (.var 7) .nil)) (.att (.var 0) "rows") .nil))
    (.seq (.par (.cons (.ix2 6 4 5) (.cons (.ix2 6 5 4) .nil)) (.cons (.var 3) (.cons (.var 3) .nil)))
    (.seq (.ret (.call 31 (.cons (.att (.var 0) "names") (.cons (.var 6) .nil))))
    .nil)))))⟩
structure PutOk (c : Cfg) : Prop where
  asg : c.asg 35 = []
  run : ∀ {ws : List Str} {m : Mx} {i j : Nat} {v : Int} {Q : O × List O → Prop}, Dst ws m → i < ws.length → j < ws.length → i ≠ j → 0 ≤ v → v ≤ top → Q (.sh (dst ws ((m.put i j v).put j i v)), [.sh (dst ws m), .sh (.str (ws.getD i ("" : Str))), .sh (.str (ws.getD j ("" : Str))), .sh (.int v)]) → Wp (c.call 35 [.sh (dst ws m), .sh (.str (ws.getD i ("" : Str))), .sh (.str (ws.getD j ("" : Str))), .sh (.int v)]) Q
theorem put_ok {c : Cfg} (hF : DistC c) (hG : Globs2 c) (hP : PairOk c) (hN : CheckNumOk c) (hM : MadeOk c) {ws : List Str} {m : Mx} {i j : Nat} {v : Int} {Q : O × List O → Prop} (h : Dst ws m) (hi : i < ws.length) (hj : j < ws.length) (hij : i ≠ j) (h0 : 0 ≤ v) (h1 : v ≤ top) (k : Q (.sh (dst ws ((m.put i j v).put j i v)), [.sh (dst ws m), .sh (.str (ws.getD i ("" : Str))), .sh (.str (ws.getD j ("" : Str))), .sh (.int v)])) : Wp (runFn c fPut [.sh (dst ws m), .sh (.str (ws.getD i ("" : Str))), .sh (.str (ws.getD j ("" : Str))), .sh (.int v)]) Q := by
  have hn := h.n9
  have hml := h.mt.sq.len
  have h' : Dst ws ((m.put i j v).put j i v) := ⟨h.nm, h.mt.put2 hi hj hij h0 h1⟩
  rw [fn_wp]
  refine ⟨rfl, ?_⟩
  show sV c 4 fPut.body [some (.sh (dst ws m)), some (.sh (.str (ws.getD i ("" : Str)))), some (.sh (.str (ws.getD j ("" : Str)))), some (.sh (.int v)), none, none, none, none] _
  unfold fPut
  dsimp only
  trivial
  refine cV_0 hP.asg ?_
  trivial
  refine hP.run h hi hj hij ?_
  trivial
  refine cV_0 hN.asg ?_
  rw [hG.g14]
  trivial
  refine hN.run h0 h1 ?_
  trivial
  refine att_rows hF ?_
  trivial
  show Wp (runC _ (m.map rowT) [some (.sh (dst ws m)), some (.sh (.str (ws.getD i ("" : Str)))), some (.sh (.str (ws.getD j ("" : Str)))), some (.sh (.int v)), some (.sh (.int (i : Int))), some (.sh (.int (j : Int))), none, none]) _
  refine (runC_over rowT rowO m fun r hr => ?_).mono fun p hp => ?_
  · refine b_nil.mpr ?_
    trivial
    rfl
  subst hp
  refine need_t (decide_eq_true (by rw [List.length_map]; show _ ≤ 16777216; omega)) ?_
  trivial
  refine set2_ok h.mt.sq hi hj ?_
  trivial
  refine set2_ok (put_sq h.mt.sq hi) hj hi ?_
  trivial
  refine att_names hF ?_
  trivial
  refine cV_0 hM.asg ?_
  trivial
  refine hM.run (o := mxO ((m.put i j v).put j i v)) h' (view_mxO _) (noInss_mx _) fun o => ?_
  trivial
  exact k
end MP

set_option Elab.async false
set_option linter.all false
set_option maxRecDepth 100000
set_option maxHeartbeats 4000000
/-! Dx: what is shown of distances; own ==, len, str. -/
namespace MP
open PySem L2
local macro_rules | `(tactic| trivial) => `(tactic| (repeat (first | (refine sN_of ?_; intro _e _he; (try simp only [give_n, give_v, give_a, List.set_cons_zero, List.set_cons_succ, wipe_n, wipe_c] at _he); subst _he) | ((with_reducible refine mul_row ?_ ?_); first | assumption | omega) | (refine wp_mul ?_ ?_; first | exact mul_r (by decide) | exact mul_l (by decide) | exact mul_r (decide_eq_true (by constructor <;> omega)) | exact mul_l (decide_eq_true (by constructor <;> omega))) | (refine wp_fdiv ?_ ?_; first | assumption | decide | (exact div_of (by first | assumption | omega) (by assumption))) | (refine wp_mod ?_ ?_; first | assumption | decide | omega) | (refine wp_divmod ?_ ?_; first | assumption | decide | (exact div_of (by first | assumption | omega) (by assumption))) | refine Wp.eq rfl ?_ | (refine gt_ix2 rfl rfl rfl ?_) | refine (w_non).mpr ?_ | refine (w_bl).mpr ?_ | refine (w_int).mpr ?_ | refine (w_str).mpr ?_ | refine (w_glb).mpr ?_ | refine (w_var).mpr ?_ | refine (a_var).mpr ?_ | refine (t_var).mpr ?_ | refine (w_op).mpr ?_ | refine (w_neg).mpr ?_ | refine (w_cm).mpr ?_ | refine (w_ch).mpr ?_ | refine (w_and).mpr ?_ | refine (w_or).mpr ?_ | refine (t_and).mpr ?_ | refine (t_or).mpr ?_ | refine (w_not).mpr ?_ | refine (t_not).mpr ?_ | refine (w_ite).mpr ?_ | refine (w_ix).mpr ?_ | refine (o_nil).mpr ?_ | refine (w_sl).mpr ?_ | refine (w_rev).mpr ?_ | refine (k_nil).mpr ?_ | refine (g_nil).mpr ?_ | refine (k_cons).mpr ?_ | refine (g_cons).mpr ?_ | refine (k_star).mpr ?_ | refine (w_tup).mpr ?_ | refine (w_lst).mpr ?_ | refine (w_call).mpr ?_ | refine (w_callK).mpr ?_ | refine (w_bl1).mpr ?_ | refine (w_mt).mpr ?_ | refine (w_isTy).mpr ?_ | refine (w_pop).mpr ?_ | refine (i_range1).mpr ?_ | refine (i_range2).mpr ?_ | refine (i_enum).mpr ?_ | refine (i_zip).mpr ?_ | refine (w_comp).mpr ?_ | refine (gt_var).mpr ?_ | refine (gt_ix).mpr ?_ | refine (gt_tup).mpr ?_ | refine (gt_tupL).mpr ?_ | refine (gl_nil).mpr ?_ | refine (gl_cons).mpr ?_ | refine (go_nil).mpr ?_ | refine (go_cons).mpr ?_ | refine (s_nil).mpr ?_ | refine (s_seqN).mpr ?_ | refine (s_expr).mpr ?_ | refine (s_app).mpr ?_ | refine (s_asg).mpr ?_ | refine (s_par).mpr ?_ | refine (s_ifs).mpr ?_ | refine (s_loop).mpr ?_ | refine (s_retV).mpr ?_ | refine (s_retN).mpr ?_ | refine (f_nil).mpr ?_ | refine (c_nil).mpr ?_ | refine (take_wp).mpr ?_ | refine (takeK_sh).mpr ?_ | refine (takeK_lst).mpr ?_ | refine (arg_wp).mpr ?_ | refine (argK_sh).mpr ?_ | refine (argK_lst).mpr ?_ | refine (bind_1).mpr ?_ | refine (bind_2).mpr ?_ | refine (lend_n).mpr ?_ | refine (lend_v).mpr ?_ | refine (lend_a).mpr ?_ | refine (left_c).mpr ?_ | refine (seeAll_c).mpr ?_ | refine (w_att).mpr ?_ | refine (w_isCl).mpr ?_ | refine (w_revR).mpr ?_ | refine (w_lrange).mpr ?_ | refine (w_make).mpr ?_ | refine (w_makeK).mpr ?_ | refine (w_meth).mpr ?_ | refine (w_methK).mpr ?_ | refine (w_own).mpr ?_ | refine (w_eqO).mpr ?_ | refine (w_idx).mpr ?_ | refine (w_bor).mpr ?_ | refine (w_comp2).mpr ?_ | refine (a_non).mpr ?_ | refine (t_non).mpr ?_ | refine (i_non).mpr ?_ | refine (o_non).mpr ?_ | refine (r_non).mpr ?_ | refine (a_bl).mpr ?_ | refine (t_bl).mpr ?_ | refine (i_bl).mpr ?_ | refine (o_bl).mpr ?_ | refine (r_bl).mpr ?_ | refine (a_int).mpr ?_ | refine (t_int).mpr ?_ | refine (i_int).mpr ?_ | refine (o_int).mpr ?_ | refine (r_int).mpr ?_ | refine (a_str).mpr ?_ | refine (t_str).mpr ?_ | refine (i_str).mpr ?_ | refine (o_str).mpr ?_ | refine (r_str).mpr ?_ | refine (a_glb).mpr ?_ | refine (t_glb).mpr ?_ | refine (i_glb).mpr ?_ | refine (o_glb).mpr ?_ | refine (r_glb).mpr ?_ | refine (a_op).mpr ?_ | refine (t_op).mpr ?_ | refine (i_op).mpr ?_ | refine (o_op).mpr ?_ | refine (r_op).mpr ?_ | refine (a_neg).mpr ?_ | refine (t_neg).mpr ?_ | refine (i_neg).mpr ?_ | refine (o_neg).mpr ?_ | refine (r_neg).mpr ?_ | refine (a_cm).mpr ?_ | refine (t_cm).mpr ?_ | refine (i_cm).mpr ?_ | refine (o_cm).mpr ?_ | refine (r_cm).mpr ?_ | refine (a_ch).mpr ?_ | refine (t_ch).mpr ?_ | refine (i_ch).mpr ?_ | refine (o_ch).mpr ?_ | refine (r_ch).mpr ?_ | refine (a_and).mpr ?_ | refine (i_and).mpr ?_ | refine (o_and).mpr ?_ | refine (r_and).mpr ?_ | refine (a_or).mpr ?_ | refine (i_or).mpr ?_ | refine (o_or).mpr ?_ | refine (r_or).mpr ?_ | refine (a_not).mpr ?_ | refine (i_not).mpr ?_ | refine (o_not).mpr ?_ | refine (r_not).mpr ?_ | refine (a_ite).mpr ?_ | refine (i_ite).mpr ?_ | refine (o_ite).mpr ?_ | refine (r_ite).mpr ?_ | refine (a_ix).mpr ?_ | refine (t_ix).mpr ?_ | refine (i_ix).mpr ?_ | refine (o_ix).mpr ?_ | refine (r_ix).mpr ?_ | refine (a_sl).mpr ?_ | refine (t_sl).mpr ?_ | refine (i_sl).mpr ?_ | refine (o_sl).mpr ?_ | refine (r_sl).mpr ?_ | refine (a_rev).mpr ?_ | refine (t_rev).mpr ?_ | refine (i_rev).mpr ?_ | refine (o_rev).mpr ?_ | refine (r_rev).mpr ?_ | refine (a_tup).mpr ?_ | refine (t_tup).mpr ?_ | refine (i_tup).mpr ?_ | refine (o_tup).mpr ?_ | refine (r_tup).mpr ?_ | refine (a_lst).mpr ?_ | refine (t_lst).mpr ?_ | refine (i_lst).mpr ?_ | refine (o_lst).mpr ?_ | refine (r_lst).mpr ?_ | refine (a_call).mpr ?_ | refine (t_call).mpr ?_ | refine (i_call).mpr ?_ | refine (o_call).mpr ?_ | refine (r_call).mpr ?_ | refine (a_callK).mpr ?_ | refine (t_callK).mpr ?_ | refine (i_callK).mpr ?_ | refine (o_callK).mpr ?_ | refine (r_callK).mpr ?_ | refine (a_bl1).mpr ?_ | refine (t_bl1).mpr ?_ | refine (i_bl1).mpr ?_ | refine (o_bl1).mpr ?_ | refine (r_bl1).mpr ?_ | refine (a_mt).mpr ?_ | refine (t_mt).mpr ?_ | refine (i_mt).mpr ?_ | refine (o_mt).mpr ?_ | refine (r_mt).mpr ?_ | refine (a_isTy).mpr ?_ | refine (t_isTy).mpr ?_ | refine (i_isTy).mpr ?_ | refine (o_isTy).mpr ?_ | refine (r_isTy).mpr ?_ | refine (a_pop).mpr ?_ | refine (t_pop).mpr ?_ | refine (i_pop).mpr ?_ | refine (o_pop).mpr ?_ | refine (r_pop).mpr ?_ | refine (a_comp).mpr ?_ | refine (t_comp).mpr ?_ | refine (i_comp).mpr ?_ | refine (o_comp).mpr ?_ | refine (r_comp).mpr ?_ | refine (a_att).mpr ?_ | refine (t_att).mpr ?_ | refine (i_att).mpr ?_ | refine (o_att).mpr ?_ | refine (r_att).mpr ?_ | refine (a_make).mpr ?_ | refine (t_make).mpr ?_ | refine (i_make).mpr ?_ | refine (o_make).mpr ?_ | refine (r_make).mpr ?_ | refine (a_makeK).mpr ?_ | refine (t_makeK).mpr ?_ | refine (i_makeK).mpr ?_ | refine (o_makeK).mpr ?_ | refine (r_makeK).mpr ?_ | refine (a_meth).mpr ?_ | refine (t_meth).mpr ?_ | refine (i_meth).mpr ?_ | refine (o_meth).mpr ?_ | refine (r_meth).mpr ?_ | refine (a_methK).mpr ?_ | refine (t_methK).mpr ?_ | refine (i_methK).mpr ?_ | refine (o_methK).mpr ?_ | refine (r_methK).mpr ?_ | refine (a_own).mpr ?_ | refine (t_own).mpr ?_ | refine (i_own).mpr ?_ | refine (o_own).mpr ?_ | refine (r_own).mpr ?_ | refine (a_eqO).mpr ?_ | refine (t_eqO).mpr ?_ | refine (i_eqO).mpr ?_ | refine (o_eqO).mpr ?_ | refine (r_eqO).mpr ?_ | refine (a_isCl).mpr ?_ | refine (t_isCl).mpr ?_ | refine (i_isCl).mpr ?_ | refine (o_isCl).mpr ?_ | refine (r_isCl).mpr ?_ | refine (a_comp2).mpr ?_ | refine (t_comp2).mpr ?_ | refine (i_comp2).mpr ?_ | refine (o_comp2).mpr ?_ | refine (r_comp2).mpr ?_ | refine (a_revR).mpr ?_ | refine (t_revR).mpr ?_ | refine (i_revR).mpr ?_ | refine (o_revR).mpr ?_ | refine (r_revR).mpr ?_ | refine (a_lrange).mpr ?_ | refine (t_lrange).mpr ?_ | refine (i_lrange).mpr ?_ | refine (o_lrange).mpr ?_ | refine (r_lrange).mpr ?_ | refine (a_bor).mpr ?_ | refine (t_bor).mpr ?_ | refine (i_bor).mpr ?_ | refine (o_bor).mpr ?_ | refine (r_bor).mpr ?_ | refine (a_idx).mpr ?_ | refine (t_idx).mpr ?_ | refine (i_idx).mpr ?_ | refine (o_idx).mpr ?_ | refine (r_idx).mpr ?_ | refine (i_var).mpr ?_ | refine (o_var).mpr ?_ | (refine and_lt ?_ ?_; exact Nat.le_of_ble_eq_true rfl) | (refine need_t ?_ ?_; first | (with_reducible assumption) | (with_reducible exact ixOk_sh) | (exact decide_eq_true (by omega)) | rfl | decide | exact ixOk_str | exact ixOk_int | omega) | refine br_t.mpr ?_ | refine br_f.mpr ?_ | (refine br_dt ?_ ?_; first | assumption | omega) | (refine br_df ?_ ?_; first | assumption | omega) | (refine br_nt ?_ ?_; first | assumption | omega) | (refine br_nf ?_ ?_; first | assumption | omega))))
section
variable {ws : List Str} {m : Mx}
theorem text_ascii (h : Dst ws m) : ∀ c ∈ (textOf ws m).cps.toList, c < 127 ∧ (10 = c ∨ 32 ≤ c) := by
  intro c hc
  rcases join_mem hc with hc | ⟨p, hp, hc⟩
  · have e : TL.tl ("\n" : Str) = [10] := rfl
    rw [e, List.mem_singleton] at hc
    omega
  · unfold linesOf at hp
    obtain ⟨i, hi, rfl⟩ := List.mem_map.mp hp
    rw [List.mem_range] at hi
    rcases join_mem hc with hc | ⟨q, hq, hc⟩
    · have e : TL.tl (" " : Str) = [32] := rfl
      rw [e, List.mem_singleton] at hc
      omega
    · have := parts_sign h hi q hq c hc
      omega
theorem Sz.text (h : Dst ws m) : Sz (.str (textOf ws m)) 0 40000 := by
  refine ⟨.str (textOf ws m), rfl, rfl, Nat.zero_le _, ?_⟩
  have h1 := StrLaws.reprText_len (textOf ws m) fun ch hc => by
    have := text_ascii h ch hc
    omega
  have h2 := text_len h
  show (reprText (textOf ws m)).length ≤ _
  omega
theorem Sz.names (h : NamesAre ws 2 9) : Sz (.tup (ws.map D.str)) 1 1000 := by
  have h1 := Sz.tup (ds := ws.map D.str) (k := 0) (L := 82) fun d hd => by
    obtain ⟨w, hw, rfl⟩ := List.mem_map.mp hd
    exact Sz.word (h.word w hw)
  have h2 := h.hi
  rw [List.length_map] at h1
  exact h1.mono (Nat.le_refl _) (by omega)
theorem Sz.rows (h : Mat m ws.length top) (h9 : ws.length ≤ 9) : Sz (mxT m) 2 5000 := by
  have h1 := Sz.tup (ds := m.map rowT) (k := 1) (L := 500) fun d hd => by
    obtain ⟨r, hr, rfl⟩ := List.mem_map.mp hd
    have h2 := Sz.tup (ds := r.map D.int) (k := 0) (L := 31) fun d hd => by
      obtain ⟨v, hv, rfl⟩ := List.mem_map.mp hd
      exact Sz.num (h.num hr hv)
    rw [List.length_map, h.sq.row r hr] at h2
    exact h2.mono (Nat.le_refl _) (by omega)
  rw [List.length_map, h.sq.len] at h1
  exact h1.mono (Nat.le_refl _) (by omega)
end
def fEq : Fn := ⟨2, 2, [],
  (.seq (.ret (.and (.isCl 1 (.var 1)) (.cm .eq (.att (.var 0) "text") (.att (.var 1) "text"))))
    .nil)⟩
structure EqOk (c : Cfg) : Prop where
  run : ∀ {ws vs : List Str} {m l : Mx} {Q : O × List O → Prop}, Q (.sh (.bl (decide (textOf ws m = textOf vs l))), [.sh (dst ws m), .sh (dst vs l)]) → Wp (c.low 34 [.sh (dst ws m), .sh (dst vs l)]) Q
theorem isCl_dst {c : Cfg} (hF : DistC c) {ws : List Str} {m : Mx} {Q : O → Prop} (k : Q (.sh (.bl true))) : Wp (isClD c.cls 1 (.sh (dst ws m))) Q := by
  refine Wp.eq (a := .sh (.bl true)) ?_ k
  show R.need (c.cls.contains 1) (R.ok (O.sh (.bl (decide (1 = 1))))) = _
  rw [hF.cls]
  rfl
theorem eq_ok {c : Cfg} (hF : DistC c) {ws vs : List Str} {m l : Mx} {Q : O × List O → Prop} (k : Q (.sh (.bl (decide (textOf ws m = textOf vs l))), [.sh (dst ws m), .sh (dst vs l)])) : Wp (runFn c fEq [.sh (dst ws m), .sh (dst vs l)]) Q := by
  rw [fn_wp]
  refine ⟨rfl, ?_⟩
  show sV c 2 fEq.body [some (.sh (dst ws m)), some (.sh (dst vs l))] _
  unfold fEq
  dsimp only
  trivial
  refine isCl_dst hF ?_
  trivial
  refine att_text hF ?_
  trivial
  refine att_text hF ?_
  trivial
  exact k
/-- x == y, x != y of distances -/
theorem eqO_dst {c : Cfg} (hE : EqOk c) {ws vs : List Str} {m l : Mx} {ne : Bool} {Q : O → Prop} (k : Q (.sh (.bl (if ne then !decide (textOf ws m = textOf vs l) else decide (textOf ws m = textOf vs l))))) : Wp (eqOF c 1 34 ne (.sh (dst ws m)) (.sh (dst vs l))) Q := by
  unfold eqOF
  rw [wp_need, wp_bnd]
  refine ⟨rfl, hE.run ?_⟩
  rw [wp_need]
  exact ⟨rfl, wp_ok.mpr k⟩
def fLenO : Fn := ⟨1, 1, [],
  (.seq (.ret (.bl1 .len (.cons (.att (.var 0) "names") .nil)))
    .nil)⟩
structure LenOk (c : Cfg) : Prop where
  run : ∀ {ws : List Str} {m : Mx} {Q : O × List O → Prop}, Q (.sh (.int (ws.length : Int)), [.sh (dst ws m)]) → Wp (c.low 25 [.sh (dst ws m)]) Q
theorem len_ok {c : Cfg} (hF : DistC c) {ws : List Str} {m : Mx} {Q : O × List O → Prop} (k : Q (.sh (.int (ws.length : Int)), [.sh (dst ws m)])) : Wp (runFn c fLenO [.sh (dst ws m)]) Q := by
  have hlen : ((ws.map D.str).length : Int) = (ws.length : Int) := by rw [List.length_map]
  rw [fn_wp]
  refine ⟨rfl, ?_⟩
  show sV c 1 fLenO.body [some (.sh (dst ws m))] _
  unfold fLenO
  dsimp only
  trivial
  refine att_names hF ?_
  trivial
  rw [hlen]
  exact k
def fStrO : Fn := ⟨1, 1, [],
  (.seq (.ret (.bl1 .str (.cons (.att (.var 0) "text") .nil)))
    .nil)⟩
structure StrOk (c : Cfg) : Prop where
  run : ∀ {ws : List Str} {m : Mx} {Q : O × List O → Prop}, Q (.sh (.str (textOf ws m)), [.sh (dst ws m)]) → Wp (c.low 26 [.sh (dst ws m)]) Q
theorem str_ok {c : Cfg} (hF : DistC c) {ws : List Str} {m : Mx} {Q : O × List O → Prop} (k : Q (.sh (.str (textOf ws m)), [.sh (dst ws m)])) : Wp (runFn c fStrO [.sh (dst ws m)]) Q := by
  rw [fn_wp]
  refine ⟨rfl, ?_⟩
  show sV c 1 fStrO.body [some (.sh (dst ws m))] _
  unfold fStrO
  dsimp only
  trivial
  refine att_text hF ?_
  trivial
  exact k
theorem own_len {c : Cfg} (hL : LenOk c) {ws : List Str} {m : Mx} {Q : O → Prop} (h : ws.length ≤ 100) (k : Q (.sh (.int (ws.length : Int)))) : Wp (ownF c .len 1 25 (.sh (dst ws m))) Q := by
  unfold ownF
  rw [wp_need, wp_bnd]
  refine ⟨rfl, hL.run ?_⟩
  rw [wp_need]
  refine ⟨rfl, ?_⟩
  show Wp (R.need (decide (0 ≤ (ws.length : Int)) && decide ((ws.length : Int) < 2 ^ 63)) (R.ok (O.sh (.int (ws.length : Int))))) _
  rw [wp_need, decide_eq_true (show 0 ≤ (ws.length : Int) by omega), decide_eq_true (show (ws.length : Int) < 2 ^ 63 by omega)]
  exact ⟨rfl, wp_ok.mpr k⟩
theorem own_bool {c : Cfg} (hL : LenOk c) {ws : List Str} {m : Mx} {Q : O → Prop} (h : ws.length ≤ 100) (h0 : 0 < ws.length) (k : Q (.sh (.bl true))) : Wp (ownF c .bool 1 25 (.sh (dst ws m))) Q := by
  unfold ownF
  rw [wp_need, wp_bnd]
  refine ⟨rfl, hL.run ?_⟩
  rw [wp_need]
  refine ⟨rfl, ?_⟩
  show Wp (R.need (decide (0 ≤ (ws.length : Int)) && decide ((ws.length : Int) < 2 ^ 63)) (R.ok (O.sh (.bl ((ws.length : Int) != 0))))) _
  rw [wp_need, decide_eq_true (show 0 ≤ (ws.length : Int) by omega), decide_eq_true (show (ws.length : Int) < 2 ^ 63 by omega), show ((ws.length : Int) != 0) = true from bne_iff_ne.mpr (by omega)]
  exact ⟨rfl, wp_ok.mpr k⟩
theorem own_str {c : Cfg} (hL : StrOk c) {ws : List Str} {m : Mx} {Q : O → Prop} (k : Q (.sh (.str (textOf ws m)))) : Wp (ownF c .str 1 26 (.sh (dst ws m))) Q := by
  unfold ownF
  rw [wp_need, wp_bnd]
  refine ⟨rfl, hL.run ?_⟩
  rw [wp_need]
  exact ⟨rfl, wp_ok.mpr k⟩
end MP

set_option Elab.async false
set_option linter.all false
set_option maxRecDepth 100000
set_option maxHeartbeats 4000000
/-! Dy: the functions of Dw, Dx at their depths. -/
namespace MP
open PySem L2
section
variable {P : Prg}
theorem low_at {f k : Nat} {x : Fn} {os : List O} {Q : O × List O → Prop} (h : P.fns.lookup f = some x) (k1 : Wp (runFn (P.cfg (evC P k) (evM P k)) x os) Q) : Wp ((P.cfg (evC P (k + 2)) (evM P (k + 2))).low f os) Q := by
  show Wp (evC P (k + 1) f os) Q
  rw [evC_succ h]
  exact k1
theorem isIntAt (h : P.fns.lookup 28 = some fIsInt) (n : Nat) : IsIntOk (P.cfg (evC P (n + 1)) (evM P (n + 1))) := ⟨asg_at h, fun k => wp_at h (isInt_ok k)⟩
theorem betwAt (h28 : P.fns.lookup 28 = some fIsInt) (h : P.fns.lookup 29 = some fBetw) (n : Nat) : BetwOk (P.cfg (evC P (n + 2)) (evM P (n + 2))) := ⟨asg_at h, fun a b k => wp_at h (betw_ok (isIntAt h28 n) a b k)⟩
theorem checkNumAt (h28 : P.fns.lookup 28 = some fIsInt) (h29 : P.fns.lookup 29 = some fBetw) (h : P.fns.lookup 32 = some fCheckNum) (n : Nat) : CheckNumOk (P.cfg (evC P (n + 3)) (evM P (n + 3))) := ⟨asg_at h, fun a b k => wp_at h (checkNum_ok (betwAt h28 h29 n) a b k)⟩
theorem pairAt (hd : ∀ c c2, DistC (P.cfg c c2)) (h19 : P.fns.lookup 19 = some fPlace) (h : P.fns.lookup 33 = some fPair) (n : Nat) : PairOk (P.cfg (evC P (n + 2)) (evM P (n + 2))) := ⟨asg_at h, fun a b d e k => wp_at h (pair_ok (placeAt hd h19 n) a b d e k)⟩
theorem textWithAt (h : P.fns.lookup 30 = some fTextWith) (n : Nat) : TextWithOk (P.cfg (evC P (n + 1)) (evM P (n + 1))) := ⟨asg_at h, fun a k => wp_at h (textWith_ok a k)⟩
/-- all that distances are made with -/
structure Made (P : Prg) : Prop where
  g : ∀ c c2, Globs (P.cfg c c2)
  g2 : ∀ c c2, Globs2 (P.cfg c c2)
  d : ∀ c c2, DistC (P.cfg c c2)
  h5 : P.fns.lookup 5 = some fIsWord
  h6 : P.fns.lookup 6 = some fAreNames
  h16 : P.fns.lookup 16 = some fNumIn
  h18 : P.fns.lookup 18 = some fTable
  h21 : P.fns.lookup 21 = some fInit
theorem Made.init (M : Made P) (n : Nat) : InitOk (P.cfg (evC P (n + 5)) (evM P (n + 5))) := initAt M.g M.g2 M.d M.h5 M.h6 M.h16 M.h18 M.h21 n
theorem madeAt (M : Made P) (h30 : P.fns.lookup 30 = some fTextWith) (h : P.fns.lookup 31 = some fMade) (n : Nat) : MadeOk (P.cfg (evC P (n + 6)) (evM P (n + 6))) := ⟨asg_at h, fun a b d k => wp_at h (made_ok (M.d _ _) (M.init n) (textWithAt h30 (n + 4)) a b d k)⟩
theorem putAt (M : Made P) (h19 : P.fns.lookup 19 = some fPlace) (h33 : P.fns.lookup 33 = some fPair) (h28 : P.fns.lookup 28 = some fIsInt) (h29 : P.fns.lookup 29 = some fBetw) (h32 : P.fns.lookup 32 = some fCheckNum) (h30 : P.fns.lookup 30 = some fTextWith) (h31 : P.fns.lookup 31 = some fMade) (h : P.fns.lookup 35 = some fPut) (n : Nat) : PutOk (P.cfg (evC P (n + 7)) (evM P (n + 7))) :=
  ⟨asg_at h, fun a b d e f g k => wp_at h (put_ok (M.d _ _) (M.g2 _ _) (pairAt M.d h19 h33 (n + 4)) (checkNumAt h28 h29 h32 (n + 3)) (madeAt M h30 h31 n) a b d e f g k)⟩
theorem eqAt (hd : ∀ c c2, DistC (P.cfg c c2)) (h : P.fns.lookup 34 = some fEq) (n : Nat) : EqOk (P.cfg (evC P (n + 2)) (evM P (n + 2))) := ⟨fun k => low_at h (eq_ok (hd _ _) k)⟩
theorem lenOAt (hd : ∀ c c2, DistC (P.cfg c c2)) (h : P.fns.lookup 25 = some fLenO) (n : Nat) : LenOk (P.cfg (evC P (n + 2)) (evM P (n + 2))) := ⟨fun k => low_at h (len_ok (hd _ _) k)⟩
theorem strOAt (hd : ∀ c c2, DistC (P.cfg c c2)) (h : P.fns.lookup 26 = some fStrO) (n : Nat) : StrOk (P.cfg (evC P (n + 2)) (evM P (n + 2))) := ⟨fun k => low_at h (str_ok (hd _ _) k)⟩
end
end MP

set_option Elab.async false
set_option linter.all false
set_option maxRecDepth 100000
/-! ### the program as terms (printed by mkir.py) -/
namespace K02
open PySem L2 MP
def f12 : MP.Fn := ⟨2, 5, [],
  (.seq (.par (.cons (.var 2) (.cons (.var 3) .nil)) (.cons (.ite (.cm .lt (.var 1) (.bl1 .len (.cons (.var 0) .nil))) (.ix (.var 0) (.var 1)) (.int 0)) (.cons (.op .add (.int 223607) (.op .mul (.int 61027) (.var 1))) .nil)))
    (.seq (.loop [4] false (.range1 (.bl1 .min (.cons (.bl1 .len (.cons (.var 0) .nil)) (.cons (.int 9) .nil)))) (.seq (.asg (.var 3) (.op .mod (.bl1 .int (.cons (.op .mul (.op .add (.op .add (.op .mul (.var 3) (.int 41011)) (.op .mul (.ix (.var 0) (.var 4)) (.int 7))) (.int 4099)) (.op .add (.op .mul (.int 2) (.var 4)) (.int 3))) .nil)) (.int 2147483423)))
    .nil))
    (.seq (.ret (.lst (.cons (.ite (.or (.cm .lt (.var 2) (.int 0)) (.cm .ge (.var 2) (.op .pow (.int 10) (.int 18)))) (.bl1 .abs (.cons (.var 2) .nil)) (.int 0)) (.cons (.op .mod (.bl1 .int (.cons (.op .add (.var 3) (.op .mul (.var 2) (.int 3001))) .nil)) (.int 2147483423)) (.cons (.int 5) .nil)))))
    .nil)))⟩
def f1 : MP.Fn := ⟨2, 3, [],
  (.seq (.ifs (.cm .gt (.ix (.var 0) (.int 0)) (.int 0)) (.seq (.asg (.tup (.cons (.ix 0 (.int 0)) (.cons (.var 2) .nil))) (.bl1 .divmod (.cons (.ix (.var 0) (.int 0)) (.cons (.var 1) .nil))))
    (.seq (.ret (.var 2))
    .nil)) .nil)
    (.seq (.asg (.ix 0 (.int 2)) (.op .add (.ix (.var 0) (.int 2)) (.int 1)))
    (.seq (.asg (.ix 0 (.int 1)) (.op .mod (.bl1 .int (.cons (.op .add (.op .add (.op .mul (.ix (.var 0) (.int 1)) (.op .add (.op .mod (.bl1 .int (.cons (.op .fdiv (.ix (.var 0) (.int 1)) (.int 32)) .nil)) (.int 28001)) (.int 17))) (.op .mul (.int 24593) (.ix (.var 0) (.int 2)))) (.int 7)) .nil)) (.int 2147483423)))
    (.seq (.ret (.op .mod (.bl1 .int (.cons (.op .fdiv (.ix (.var 0) (.int 1)) (.int 512)) .nil)) (.var 1)))
    .nil))))⟩
def f2 : MP.Fn := ⟨1, 2, [],
  (.seq (.ret (.mt .join (.str "") (.comp [1] false (.ix (.str "abcdefghijklmnopqrstuvwxyz") (.call 1 (.cons (.var 0) (.cons (.int 26) .nil)))) (.range1 (.op .add (.int 1) (.call 1 (.cons (.var 0) (.cons (.int 8) .nil))))) .nil)))
    .nil)⟩
def f10 : MP.Fn := ⟨2, 7, [],
  (.seq (.asg (.var 2) (.lst .nil))
    (.seq (.loop [3] false (.range1 (.var 1)) (.seq (.asg (.var 4) (.call 2 (.cons (.var 0) .nil)))
    (.seq (.ifs (.and (.cm .ne (.var 2) (.lst .nil)) (.cm .eq (.call 1 (.cons (.var 0) (.cons (.int 4) .nil))) (.int 0))) (.seq (.asg (.var 4) (.sl (.op .add (.ix (.var 2) (.call 1 (.cons (.var 0) (.cons (.bl1 .len (.cons (.var 2) .nil)) .nil)))) (.var 4)) .nil (.int 8)))
    .nil) .nil)
    (.seq (.asg (.var 5) (.op .add (.lst (.cons (.var 4) .nil)) (.comp [6] false (.op .add (.sl (.var 4) .nil (.int 7)) (.var 6)) (.str "abcdefghij") .nil)))
    (.seq (.app 2 (.ix (.comp [6] false (.var 6) (.var 5) (.cm .notIn (.var 6) (.var 2))) (.int 0)))
    .nil)))))
    (.seq (.ret (.bl1 .tuple (.cons (.var 2) .nil)))
    .nil)))⟩
def f23 : MP.Fn := ⟨3, 8, [],
  (.seq (.asg (.var 3) (.comp [4] false (.op .mul (.lst (.cons (.int 0) .nil)) (.var 1)) (.range1 (.var 1)) .nil))
    (.seq (.loop [5] false (.range1 (.var 1)) (.seq (.loop [6] false (.range1 (.var 5)) (.seq (.asg (.var 7) (.call 1 (.cons (.var 0) (.cons (.op .add (.var 2) (.int 1)) .nil))))
    (.seq (.par (.cons (.ix2 3 5 6) (.cons (.ix2 3 6 5) .nil)) (.cons (.var 7) (.cons (.var 7) .nil)))
    .nil)))
    .nil))
    (.seq (.ret (.var 3))
    .nil)))⟩
def f22 : MP.Fn := ⟨2, 5, [],
  (.seq (.asg (.var 2) (.lst .nil))
    (.seq (.loop [3] false (.range1 (.bl1 .len (.cons (.var 0) .nil))) (.seq (.app 2 (.mt .join (.str " ") (.op .add (.lst (.cons (.ix (.var 0) (.var 3)) .nil)) (.comp [4] false (.bl1 .str (.cons (.var 4) .nil)) (.bor (.sl (.ix (.var 1) (.var 3)) .nil (.var 3))) .nil))))
    .nil))
    (.seq (.ret (.mt .join (.str "\n") (.var 2)))
    .nil)))⟩
def f24 : MP.Fn := ⟨1, 1, [],
  (.seq (.ret (.ix (.lst (.cons (.int 1) (.cons (.int 3) (.cons (.int 9) (.cons (.int 60) (.cons (.op .pow (.int 10) (.int 6)) (.cons (.op .pow (.int 10) (.int 30)) .nil))))))) (.call 1 (.cons (.var 0) (.cons (.int 6) .nil)))))
    .nil)⟩
def f26 : MP.Fn := ⟨1, 1, [],
  (.seq (.ret (.bl1 .str (.cons (.att (.var 0) "text") .nil)))
    .nil)⟩
def f25 : MP.Fn := ⟨1, 1, [],
  (.seq (.ret (.bl1 .len (.cons (.att (.var 0) "names") .nil)))
    .nil)⟩
def f27 : MP.Fn := ⟨1, 1, [],
  (.seq (.ret (.lst (.cons (.att (.var 0) "text") (.cons (.att (.var 0) "names") (.cons (.att (.var 0) "rows") (.cons (.own .str 1 26 (.var 0)) (.cons (.own .len 1 25 (.var 0)) (.cons (.own .bool 1 25 (.var 0)) .nil))))))))
    .nil)⟩
def f5 : MP.Fn := ⟨1, 2, [],
  (.seq (.ret (.and (.isTy .str (.var 0)) (.and (.ch .le .le (.int 1) (.bl1 .len (.cons (.var 0) .nil)) (.glb 3)) (.bl1 .all (.cons (.comp [1] false (.cm .isIn (.var 1) (.glb 4)) (.var 0) .nil) .nil)))))
    .nil)⟩
def f6 : MP.Fn := ⟨3, 5, [],
  (.seq (.ifs (.or (.not (.isTy .tuple (.var 0))) (.or (.not (.ch .le .le (.var 1) (.bl1 .len (.cons (.var 0) .nil)) (.var 2))) (.not (.bl1 .all (.cons (.comp [3] false (.call 5 (.cons (.var 3) .nil)) (.var 0) .nil) .nil))))) (.seq (.ret (.bl false))
    .nil) .nil)
    (.seq (.ret (.bl1 .all (.cons (.comp [4, 3] true (.cm .notIn (.var 3) (.sl (.var 0) .nil (.var 4))) (.enum (.var 0)) .nil) .nil)))
    .nil))⟩
def f16 : MP.Fn := ⟨1, 2, [],
  (.seq (.ifs (.or (.not (.ch .le .le (.int 1) (.bl1 .len (.cons (.var 0) .nil)) (.glb 15))) (.not (.bl1 .all (.cons (.comp [1] false (.cm .isIn (.var 1) (.str "0123456789")) (.var 0) .nil) .nil)))) (.seq (.ret .non)
    .nil) .nil)
    (.seq (.ifs (.or (.and (.cm .eq (.ix (.var 0) (.int 0)) (.str "0")) (.cm .gt (.bl1 .len (.cons (.var 0) .nil)) (.int 1))) (.cm .gt (.bl1 .int (.cons (.var 0) .nil)) (.glb 14))) (.seq (.ret .non)
    .nil) .nil)
    (.seq (.ret (.bl1 .int (.cons (.var 0) .nil)))
    .nil)))⟩
def f18 : MP.Fn := ⟨1, 8, [],
  (.seq (.ifs (.not (.isTy .str (.var 0))) (.seq (.ret .non)
    .nil) .nil)
    (.seq (.asg (.var 1) (.comp [2] false (.mt .split (.var 2) (.str " ")) (.mt .split (.var 0) (.str "\n")) .nil))
    (.seq (.par (.cons (.var 3) (.cons (.var 4) .nil)) (.cons (.bl1 .tuple (.cons (.comp [2] false (.ix (.var 2) (.int 0)) (.var 1) .nil) .nil)) (.cons (.lst .nil) .nil)))
    (.seq (.ifs (.not (.call 6 (.cons (.var 3) (.cons (.glb 17) (.cons (.glb 7) .nil))))) (.seq (.ret .non)
    .nil) .nil)
    (.seq (.loop [5, 2] true (.enum (.var 1)) (.seq (.asg (.var 6) (.comp [7] false (.call 16 (.cons (.var 7) .nil)) (.sl (.var 2) (.int 1) .nil) .nil))
    (.seq (.ifs (.or (.cm .ne (.bl1 .len (.cons (.var 6) .nil)) (.var 5)) (.cm .isIn .non (.var 6))) (.seq (.ret .non)
    .nil) .nil)
    (.seq (.app 4 (.var 6))
    .nil))))
    (.seq (.ret (.tup (.cons (.var 3) (.cons (.var 4) .nil))))
    .nil))))))⟩
def f21 : MP.Fn := ⟨2, 9, [],
  (.seq (.asg (.var 2) (.call 18 (.cons (.var 1) .nil)))
    (.seq (.ifs (.cm .isN (.var 2) .non) (.seq .never
    .nil) .nil)
    (.seq (.par (.cons (.att 0 "text") (.cons (.att 0 "names") .nil)) (.cons (.var 1) (.cons (.ix (.var 2) (.int 0)) .nil)))
    (.seq (.par (.cons (.var 3) (.cons (.var 4) .nil)) (.cons (.bl1 .len (.cons (.ix (.var 2) (.int 0)) .nil)) (.cons (.ix (.var 2) (.int 1)) .nil)))
    (.seq (.asg (.var 5) (.comp [6] false (.op .mul (.lst (.cons (.int 0) .nil)) (.var 3)) (.range1 (.var 3)) .nil))
    (.seq (.loop [7] false (.range1 (.var 3)) (.seq (.loop [8] false (.range1 (.var 7)) (.seq (.asg (.ix2 5 7 8) (.bor (.ix (.ix (.var 4) (.var 7)) (.var 8))))
    (.seq (.asg (.ix2 5 8 7) (.bor (.ix (.ix (.var 4) (.var 7)) (.var 8))))
    .nil)))
    .nil))
    (.seq (.asg (.att 0 "rows") (.bl1 .tuple (.cons (.comp [6] false (.bl1 .tuple (.cons (.var 6) .nil)) (.var 5) .nil) .nil)))
    .nil)))))))⟩
def f13 : MP.Fn := ⟨1, 10, [],
  (.seq (.asg (.var 1) (.lst .nil))
    (.seq (.loop [2] false (.range1 (.bl1 .max (.cons (.int 2) (.cons (.bl1 .min (.cons (.bl1 .len (.cons (.var 0) .nil)) (.cons (.int 6) .nil))) .nil)))) (.seq (.asg (.var 3) (.call 12 (.cons (.var 0) (.cons (.var 2) .nil))))
    (.seq (.asg (.var 4) (.call 10 (.cons (.var 3) (.cons (.op .add (.int 2) (.call 1 (.cons (.var 3) (.cons (.int 8) .nil)))) .nil))))
    (.seq (.asg (.var 5) (.call 23 (.cons (.var 3) (.cons (.bl1 .len (.cons (.var 4) .nil)) (.cons (.call 24 (.cons (.var 3) .nil)) .nil)))))
    (.seq (.asg (.var 6) (.call 22 (.cons (.var 4) (.cons (.var 5) .nil))))
    (.seq (.asg (.var 7) (.lst (.cons (.var 6) (.cons (.var 4) (.cons (.bor (.bl1 .tuple (.cons (.comp [8] false (.bl1 .tuple (.cons (.var 8) .nil)) (.var 5) .nil) .nil))) (.cons (.var 6) (.cons (.bl1 .len (.cons (.var 4) .nil)) (.cons (.bl true) .nil))))))))
    (.seq (.asg (.var 1) (.op .add (.var 1) (.lst (.cons (.tup (.cons (.make 1 21 (.cons (.var 6) .nil)) (.cons (.var 7) .nil))) (.cons (.tup (.cons (.makeK 1 21 .nil ["text"] [0] (.cons (.var 6) .nil)) (.cons (.var 7) .nil))) .nil)))))
    .nil)))))))
    (.seq (.loop [9, 7] true (.op .add (.var 1) (.rev (.var 1))) (.seq (.ifs (.cm .ne (.bl1 .repr (.cons (.call 27 (.cons (.var 9) .nil)) .nil)) (.bl1 .repr (.cons (.var 7) .nil))) (.seq (.ret (.bl false))
    .nil) .nil)
    .nil))
    (.seq (.ret (.bl true))
    .nil))))⟩
def T : Tab := {
  gn := [(3, "LONGEST_NAME"), (4, "LETTERS"), (14, "MOST_NUMBER"), (15, "MOST_FIGURES"), (7, "MOST_PLACES"), (17, "LEAST_PLACES")]
  fs := [(12, "_law_pot"), (1, "_law_dig"), (2, "_law_word"), (10, "_law_names"), (23, "_law_rows"), (22, "_law_text"), (24, "_law_bound"), (27, "_law_told"), (5, "is_word"), (6, "are_names"), (16, "number_in"), (18, "read_table"), (13, "law")]
  bt := ["int", "abs", "range", "min", "len", "divmod", "tuple", "str", "bool", "isinstance", "all", "enumerate", "repr", "max"]
  kw := []
  cl := [(1, "Distances")]
  ini := [(1, 21)]
  ms := []
  sp := [(26, 1, "__str__"), (25, 1, "__len__")]
  kwm := [(21, ["text"], [0])] }
def flL : List (Nat × List Str) := [(1, ["text", "names", "rows"])]
def P : Prg := ⟨[(3, (.int 8)), (4, (.str "abcdefghijklmnopqrstuvwxyz")), (14, (.int 1000000000000000000000000000000)), (15, (.int 31)), (7, (.int 9)), (17, (.int 2))], [(12, f12), (1, f1), (2, f2), (10, f10), (23, f23), (22, f22), (24, f24), (26, f26), (25, f25), (27, f27), (5, f5), (6, f6), (16, f16), (18, f18), (21, f21), (13, f13)], fun k => (flL.lookup k).getD [], [1]⟩
def stm (i : Nat) : Stmt := PySem.Challenge.pw_lotrounds_k02_distances_made.main.body.getD i (.Pass ⟨0, 0, 0, 0⟩)
abbrev st12 : Stmt := stm 25
def nm12 : List Str := ["_law_cells", "_law_at", "_law_own", "_law_mixed", "_law_k"]
theorem sc12 : FnScope nm12 ["_law_cells", "_law_at"] (defScope st12) := ⟨rfl, rfl, rfl, by decide +kernel, rfl, by decide +kernel, by decide +kernel⟩
theorem ck12 : chkS T nm12 (defScope st12) f12.np f12.asg f12.body (.b (defBody st12)) = true := by decide +kernel
abbrev st1 : Stmt := stm 26
def nm1 : List Str := ["_law_pot_here", "_law_many", "_law_figure"]
theorem sc1 : FnScope nm1 ["_law_pot_here", "_law_many"] (defScope st1) := ⟨rfl, rfl, rfl, by decide +kernel, rfl, by decide +kernel, by decide +kernel⟩
theorem ck1 : chkS T nm1 (defScope st1) f1.np f1.asg f1.body (.b (defBody st1)) = true := by decide +kernel
abbrev st2 : Stmt := stm 27
def nm2 : List Str := ["_law_pot_here", "_law_k"]
theorem sc2 : FnScope nm2 ["_law_pot_here"] (defScope st2) := ⟨rfl, rfl, rfl, by decide +kernel, rfl, by decide +kernel, by decide +kernel⟩
theorem ck2 : chkS T nm2 (defScope st2) f2.np f2.asg f2.body (.b (defBody st2)) = true := by decide +kernel
abbrev st10 : Stmt := stm 28
def nm10 : List Str := ["_law_pot_here", "_law_many", "_law_found", "_law_turn", "_law_word_here", "_law_some", "_law_each"]
theorem sc10 : FnScope nm10 ["_law_pot_here", "_law_many"] (defScope st10) := ⟨rfl, rfl, rfl, by decide +kernel, rfl, by decide +kernel, by decide +kernel⟩
theorem ck10 : chkS T nm10 (defScope st10) f10.np f10.asg f10.body (.b (defBody st10)) = true := by decide +kernel
abbrev st23 : Stmt := stm 29
def nm23 : List Str := ["_law_pot_here", "_law_many", "_law_bound_here", "_law_found", "_law_k", "_law_far", "_law_near", "_law_number"]
theorem sc23 : FnScope nm23 ["_law_pot_here", "_law_many", "_law_bound_here"] (defScope st23) := ⟨rfl, rfl, rfl, by decide +kernel, rfl, by decide +kernel, by decide +kernel⟩
theorem ck23 : chkS T nm23 (defScope st23) f23.np f23.asg f23.body (.b (defBody st23)) = true := by decide +kernel
abbrev st22 : Stmt := stm 30
def nm22 : List Str := ["_law_names_here", "_law_rows_here", "_law_lines", "_law_k", "_law_number"]
theorem sc22 : FnScope nm22 ["_law_names_here", "_law_rows_here"] (defScope st22) := ⟨rfl, rfl, rfl, by decide +kernel, rfl, by decide +kernel, by decide +kernel⟩
theorem ck22 : chkS T nm22 (defScope st22) f22.np f22.asg f22.body (.b (defBody st22)) = true := by decide +kernel
abbrev st24 : Stmt := stm 31
def nm24 : List Str := ["_law_pot_here"]
theorem sc24 : FnScope nm24 ["_law_pot_here"] (defScope st24) := ⟨rfl, rfl, rfl, by decide +kernel, rfl, by decide +kernel, by decide +kernel⟩
theorem ck24 : chkS T nm24 (defScope st24) f24.np f24.asg f24.body (.b (defBody st24)) = true := by decide +kernel
abbrev st26 : Stmt := inClass (stm 18) 2
def nm26 : List Str := ["self"]
theorem sc26 : FnScope nm26 ["self"] (defScope st26) := ⟨rfl, rfl, rfl, by decide +kernel, rfl, by decide +kernel, by decide +kernel⟩
theorem ck26 : chkS T nm26 (defScope st26) f26.np f26.asg f26.body (.b (defBody st26)) = true := by decide +kernel
abbrev st25 : Stmt := inClass (stm 18) 3
def nm25 : List Str := ["self"]
theorem sc25 : FnScope nm25 ["self"] (defScope st25) := ⟨rfl, rfl, rfl, by decide +kernel, rfl, by decide +kernel, by decide +kernel⟩
theorem ck25 : chkS T nm25 (defScope st25) f25.np f25.asg f25.body (.b (defBody st25)) = true := by decide +kernel
abbrev st27 : Stmt := stm 32
def nm27 : List Str := ["_law_mine"]
theorem sc27 : FnScope nm27 ["_law_mine"] (defScope st27) := ⟨rfl, rfl, rfl, by decide +kernel, rfl, by decide +kernel, by decide +kernel⟩
theorem ck27 : chkS T nm27 (defScope st27) f27.np f27.asg f27.body (.b (defBody st27)) = true := by decide +kernel
abbrev st5 : Stmt := stm 10
def nm5 : List Str := ["value", "sign"]
theorem sc5 : FnScope nm5 ["value"] (defScope st5) := ⟨rfl, rfl, rfl, by decide +kernel, rfl, by decide +kernel, by decide +kernel⟩
theorem ck5 : chkS T nm5 (defScope st5) f5.np f5.asg f5.body (.b (defBody st5)) = true := by decide +kernel
abbrev st6 : Stmt := stm 11
def nm6 : List Str := ["value", "least", "most", "name", "index"]
theorem sc6 : FnScope nm6 ["value", "least", "most"] (defScope st6) := ⟨rfl, rfl, rfl, by decide +kernel, rfl, by decide +kernel, by decide +kernel⟩
theorem ck6 : chkS T nm6 (defScope st6) f6.np f6.asg f6.body (.b (defBody st6)) = true := by decide +kernel
abbrev st16 : Stmt := stm 15
def nm16 : List Str := ["word", "sign"]
theorem sc16 : FnScope nm16 ["word"] (defScope st16) := ⟨rfl, rfl, rfl, by decide +kernel, rfl, by decide +kernel, by decide +kernel⟩
theorem ck16 : chkS T nm16 (defScope st16) f16.np f16.asg f16.body (.b (defBody st16)) = true := by decide +kernel
abbrev st18 : Stmt := stm 16
def nm18 : List Str := ["text", "lines", "line", "names", "ahead", "index", "numbers", "word"]
theorem sc18 : FnScope nm18 ["text"] (defScope st18) := ⟨rfl, rfl, rfl, by decide +kernel, rfl, by decide +kernel, by decide +kernel⟩
theorem ck18 : chkS T nm18 (defScope st18) f18.np f18.asg f18.body (.b (defBody st18)) = true := by decide +kernel
abbrev st21 : Stmt := inClass (stm 18) 0
def nm21 : List Str := ["self", "text", "told", "many", "ahead", "full", "row", "far", "near"]
theorem sc21 : FnScope nm21 ["self", "text"] (defScope st21) := ⟨rfl, rfl, rfl, by decide +kernel, rfl, by decide +kernel, by decide +kernel⟩
theorem ck21 : chkS T nm21 (defScope st21) f21.np f21.asg f21.body (.b (defBody st21)) = true := by decide +kernel
abbrev st13 : Stmt := stm 33
def nm13 : List Str := ["_law_cells", "_law_held", "_law_at", "_law_pot_here", "_law_names_here", "_law_rows_here", "_law_string", "_law_due", "_law_row", "_law_mine"]
theorem sc13 : FnScope nm13 ["_law_cells"] (defScope st13) := ⟨rfl, rfl, rfl, by decide +kernel, rfl, by decide +kernel, by decide +kernel⟩
theorem ck13 : chkS T nm13 (defScope st13) f13.np f13.asg f13.body (.b (defBody st13)) = true := by decide +kernel
end K02
namespace K02
open PySem L2 MP
theorem noFl : ∀ k, k ∉ T.cl.map (·.1) → P.flds k = [] := by
  intro k hk
  show (flL.lookup k).getD [] = []
  have h : flL.lookup k = none := by
    cases e : flL.lookup k with
    | none => rfl
    | some x => exact absurd (lookupN_mem e) hk
  rw [h]; rfl
theorem kw12 : ∀ n ks g, (12, n, ks, g) ∈ T.kw → ∀ (kV doc pm : Value) (an : Option Addr) (cdv ct : Value) (us zs ys : List Value), us.length = n → zs.length = ks.length → pick (us ++ zs) g = some ys → ys.length = [("_law_cells" : Str), ("_law_at" : Str)].length → bindArgs (PySem.W.fnOf "_law_pot" "_law_pot" (defArgs st12) (defBody st12) (defScope st12) .none kV doc pm an cdv ct) ⟨us, ks.zip zs⟩ = pure ((["_law_cells", "_law_at"] : List Str).zip ys) := by
  intro n ks g hm
  simp [T] at hm
theorem kw1 : ∀ n ks g, (1, n, ks, g) ∈ T.kw → ∀ (kV doc pm : Value) (an : Option Addr) (cdv ct : Value) (us zs ys : List Value), us.length = n → zs.length = ks.length → pick (us ++ zs) g = some ys → ys.length = [("_law_pot_here" : Str), ("_law_many" : Str)].length → bindArgs (PySem.W.fnOf "_law_dig" "_law_dig" (defArgs st1) (defBody st1) (defScope st1) .none kV doc pm an cdv ct) ⟨us, ks.zip zs⟩ = pure ((["_law_pot_here", "_law_many"] : List Str).zip ys) := by
  intro n ks g hm
  simp [T] at hm
theorem kw2 : ∀ n ks g, (2, n, ks, g) ∈ T.kw → ∀ (kV doc pm : Value) (an : Option Addr) (cdv ct : Value) (us zs ys : List Value), us.length = n → zs.length = ks.length → pick (us ++ zs) g = some ys → ys.length = [("_law_pot_here" : Str)].length → bindArgs (PySem.W.fnOf "_law_word" "_law_word" (defArgs st2) (defBody st2) (defScope st2) .none kV doc pm an cdv ct) ⟨us, ks.zip zs⟩ = pure ((["_law_pot_here"] : List Str).zip ys) := by
  intro n ks g hm
  simp [T] at hm
theorem kw10 : ∀ n ks g, (10, n, ks, g) ∈ T.kw → ∀ (kV doc pm : Value) (an : Option Addr) (cdv ct : Value) (us zs ys : List Value), us.length = n → zs.length = ks.length → pick (us ++ zs) g = some ys → ys.length = [("_law_pot_here" : Str), ("_law_many" : Str)].length → bindArgs (PySem.W.fnOf "_law_names" "_law_names" (defArgs st10) (defBody st10) (defScope st10) .none kV doc pm an cdv ct) ⟨us, ks.zip zs⟩ = pure ((["_law_pot_here", "_law_many"] : List Str).zip ys) := by
  intro n ks g hm
  simp [T] at hm
theorem kw23 : ∀ n ks g, (23, n, ks, g) ∈ T.kw → ∀ (kV doc pm : Value) (an : Option Addr) (cdv ct : Value) (us zs ys : List Value), us.length = n → zs.length = ks.length → pick (us ++ zs) g = some ys → ys.length = [("_law_pot_here" : Str), ("_law_many" : Str), ("_law_bound_here" : Str)].length → bindArgs (PySem.W.fnOf "_law_rows" "_law_rows" (defArgs st23) (defBody st23) (defScope st23) .none kV doc pm an cdv ct) ⟨us, ks.zip zs⟩ = pure ((["_law_pot_here", "_law_many", "_law_bound_here"] : List Str).zip ys) := by
  intro n ks g hm
  simp [T] at hm
theorem kw22 : ∀ n ks g, (22, n, ks, g) ∈ T.kw → ∀ (kV doc pm : Value) (an : Option Addr) (cdv ct : Value) (us zs ys : List Value), us.length = n → zs.length = ks.length → pick (us ++ zs) g = some ys → ys.length = [("_law_names_here" : Str), ("_law_rows_here" : Str)].length → bindArgs (PySem.W.fnOf "_law_text" "_law_text" (defArgs st22) (defBody st22) (defScope st22) .none kV doc pm an cdv ct) ⟨us, ks.zip zs⟩ = pure ((["_law_names_here", "_law_rows_here"] : List Str).zip ys) := by
  intro n ks g hm
  simp [T] at hm
theorem kw24 : ∀ n ks g, (24, n, ks, g) ∈ T.kw → ∀ (kV doc pm : Value) (an : Option Addr) (cdv ct : Value) (us zs ys : List Value), us.length = n → zs.length = ks.length → pick (us ++ zs) g = some ys → ys.length = [("_law_pot_here" : Str)].length → bindArgs (PySem.W.fnOf "_law_bound" "_law_bound" (defArgs st24) (defBody st24) (defScope st24) .none kV doc pm an cdv ct) ⟨us, ks.zip zs⟩ = pure ((["_law_pot_here"] : List Str).zip ys) := by
  intro n ks g hm
  simp [T] at hm
theorem kw27 : ∀ n ks g, (27, n, ks, g) ∈ T.kw → ∀ (kV doc pm : Value) (an : Option Addr) (cdv ct : Value) (us zs ys : List Value), us.length = n → zs.length = ks.length → pick (us ++ zs) g = some ys → ys.length = [("_law_mine" : Str)].length → bindArgs (PySem.W.fnOf "_law_told" "_law_told" (defArgs st27) (defBody st27) (defScope st27) .none kV doc pm an cdv ct) ⟨us, ks.zip zs⟩ = pure ((["_law_mine"] : List Str).zip ys) := by
  intro n ks g hm
  simp [T] at hm
theorem kw5 : ∀ n ks g, (5, n, ks, g) ∈ T.kw → ∀ (kV doc pm : Value) (an : Option Addr) (cdv ct : Value) (us zs ys : List Value), us.length = n → zs.length = ks.length → pick (us ++ zs) g = some ys → ys.length = [("value" : Str)].length → bindArgs (PySem.W.fnOf "is_word" "is_word" (defArgs st5) (defBody st5) (defScope st5) .none kV doc pm an cdv ct) ⟨us, ks.zip zs⟩ = pure ((["value"] : List Str).zip ys) := by
  intro n ks g hm
  simp [T] at hm
theorem kw6 : ∀ n ks g, (6, n, ks, g) ∈ T.kw → ∀ (kV doc pm : Value) (an : Option Addr) (cdv ct : Value) (us zs ys : List Value), us.length = n → zs.length = ks.length → pick (us ++ zs) g = some ys → ys.length = [("value" : Str), ("least" : Str), ("most" : Str)].length → bindArgs (PySem.W.fnOf "are_names" "are_names" (defArgs st6) (defBody st6) (defScope st6) .none kV doc pm an cdv ct) ⟨us, ks.zip zs⟩ = pure ((["value", "least", "most"] : List Str).zip ys) := by
  intro n ks g hm
  simp [T] at hm
theorem kw16 : ∀ n ks g, (16, n, ks, g) ∈ T.kw → ∀ (kV doc pm : Value) (an : Option Addr) (cdv ct : Value) (us zs ys : List Value), us.length = n → zs.length = ks.length → pick (us ++ zs) g = some ys → ys.length = [("word" : Str)].length → bindArgs (PySem.W.fnOf "number_in" "number_in" (defArgs st16) (defBody st16) (defScope st16) .none kV doc pm an cdv ct) ⟨us, ks.zip zs⟩ = pure ((["word"] : List Str).zip ys) := by
  intro n ks g hm
  simp [T] at hm
theorem kw18 : ∀ n ks g, (18, n, ks, g) ∈ T.kw → ∀ (kV doc pm : Value) (an : Option Addr) (cdv ct : Value) (us zs ys : List Value), us.length = n → zs.length = ks.length → pick (us ++ zs) g = some ys → ys.length = [("text" : Str)].length → bindArgs (PySem.W.fnOf "read_table" "read_table" (defArgs st18) (defBody st18) (defScope st18) .none kV doc pm an cdv ct) ⟨us, ks.zip zs⟩ = pure ((["text"] : List Str).zip ys) := by
  intro n ks g hm
  simp [T] at hm
theorem kw13 : ∀ n ks g, (13, n, ks, g) ∈ T.kw → ∀ (kV doc pm : Value) (an : Option Addr) (cdv ct : Value) (us zs ys : List Value), us.length = n → zs.length = ks.length → pick (us ++ zs) g = some ys → ys.length = [("_law_cells" : Str)].length → bindArgs (PySem.W.fnOf "law" "law" (defArgs st13) (defBody st13) (defScope st13) .none kV doc pm an cdv ct) ⟨us, ks.zip zs⟩ = pure ((["_law_cells"] : List Str).zip ys) := by
  intro n ks g hm
  simp [T] at hm
theorem kw21 : ∀ ks g, (21, ks, g) ∈ T.kwm → ∀ (kV doc pm : Value) (an : Option Addr) (cdv ct : Value) (u : Value) (zs ys : List Value), zs.length = ks.length → pick ([] ++ zs) g = some ys → (u :: ys).length = [("self" : Str), ("text" : Str)].length → bindArgs (PySem.W.fnOf "__init__" "Distances.__init__" (defArgs st21) (defBody st21) (defScope st21) .none kV doc pm an cdv ct) ⟨[u], ks.zip zs⟩ = pure ((["self", "text"] : List Str).zip (u :: ys)) := by
  intro ks g hm
  simp only [T, List.mem_cons, List.not_mem_nil, or_false, Prod.mk.injEq] at hm
  have q0 := hm
  · obtain ⟨_, rfl, rfl⟩ := q0
    intro kV doc pm an cdv ct u zs ys h2 h3 h4
    match zs, h2, h3 with
    | [b0], _, h3 => cases h3; rfl
theorem kw26 : ∀ ks g, (26, ks, g) ∈ T.kwm → ∀ (kV doc pm : Value) (an : Option Addr) (cdv ct : Value) (u : Value) (zs ys : List Value), zs.length = ks.length → pick ([] ++ zs) g = some ys → (u :: ys).length = [("self" : Str)].length → bindArgs (PySem.W.fnOf "__str__" "Distances.__str__" (defArgs st26) (defBody st26) (defScope st26) .none kV doc pm an cdv ct) ⟨[u], ks.zip zs⟩ = pure ((["self"] : List Str).zip (u :: ys)) := by
  intro ks g hm
  simp [T] at hm
theorem kw25 : ∀ ks g, (25, ks, g) ∈ T.kwm → ∀ (kV doc pm : Value) (an : Option Addr) (cdv ct : Value) (u : Value) (zs ys : List Value), zs.length = ks.length → pick ([] ++ zs) g = some ys → (u :: ys).length = [("self" : Str)].length → bindArgs (PySem.W.fnOf "__len__" "Distances.__len__" (defArgs st25) (defBody st25) (defScope st25) .none kV doc pm an cdv ct) ⟨[u], ks.zip zs⟩ = pure ((["self"] : List Str).zip (u :: ys)) := by
  intro ks g hm
  simp [T] at hm
end K02

set_option Elab.async false
set_option linter.all false
set_option maxRecDepth 100000
set_option maxHeartbeats 4000000
/-! K02w: what the law asks of distances made. -/
namespace K02
open PySem L2 MP
local macro_rules | `(tactic| trivial) => `(tactic| (repeat (first | (refine sN_of ?_; intro _e _he; (try simp only [give_n, give_v, give_a, List.set_cons_zero, List.set_cons_succ, wipe_n, wipe_c] at _he); subst _he) | ((with_reducible refine mul_row ?_ ?_); first | assumption | omega) | (refine wp_mul ?_ ?_; first | exact mul_r (by decide) | exact mul_l (by decide) | exact mul_r (decide_eq_true (by constructor <;> omega)) | exact mul_l (decide_eq_true (by constructor <;> omega))) | (refine wp_fdiv ?_ ?_; first | assumption | decide | (exact div_of (by first | assumption | omega) (by assumption))) | (refine wp_mod ?_ ?_; first | assumption | decide | omega) | (refine wp_divmod ?_ ?_; first | assumption | decide | (exact div_of (by first | assumption | omega) (by assumption))) | refine Wp.eq rfl ?_ | (refine gt_ix2 rfl rfl rfl ?_) | refine (w_non).mpr ?_ | refine (w_bl).mpr ?_ | refine (w_int).mpr ?_ | refine (w_str).mpr ?_ | refine (w_glb).mpr ?_ | refine (w_var).mpr ?_ | refine (a_var).mpr ?_ | refine (t_var).mpr ?_ | refine (w_op).mpr ?_ | refine (w_neg).mpr ?_ | refine (w_cm).mpr ?_ | refine (w_ch).mpr ?_ | refine (w_and).mpr ?_ | refine (w_or).mpr ?_ | refine (t_and).mpr ?_ | refine (t_or).mpr ?_ | refine (w_not).mpr ?_ | refine (t_not).mpr ?_ | refine (w_ite).mpr ?_ | refine (w_ix).mpr ?_ | refine (o_nil).mpr ?_ | refine (w_sl).mpr ?_ | refine (w_rev).mpr ?_ | refine (k_nil).mpr ?_ | refine (g_nil).mpr ?_ | refine (k_cons).mpr ?_ | refine (g_cons).mpr ?_ | refine (k_star).mpr ?_ | refine (w_tup).mpr ?_ | refine (w_lst).mpr ?_ | refine (w_call).mpr ?_ | refine (w_callK).mpr ?_ | refine (w_bl1).mpr ?_ | refine (w_mt).mpr ?_ | refine (w_isTy).mpr ?_ | refine (w_pop).mpr ?_ | refine (i_range1).mpr ?_ | refine (i_range2).mpr ?_ | refine (i_enum).mpr ?_ | refine (i_zip).mpr ?_ | refine (w_comp).mpr ?_ | refine (gt_var).mpr ?_ | refine (gt_ix).mpr ?_ | refine (gt_tup).mpr ?_ | refine (gt_tupL).mpr ?_ | refine (gl_nil).mpr ?_ | refine (gl_cons).mpr ?_ | refine (go_nil).mpr ?_ | refine (go_cons).mpr ?_ | refine (s_nil).mpr ?_ | refine (s_seqN).mpr ?_ | refine (s_expr).mpr ?_ | refine (s_app).mpr ?_ | refine (s_asg).mpr ?_ | refine (s_par).mpr ?_ | refine (s_ifs).mpr ?_ | refine (s_loop).mpr ?_ | refine (s_retV).mpr ?_ | refine (s_retN).mpr ?_ | refine (f_nil).mpr ?_ | refine (c_nil).mpr ?_ | refine (take_wp).mpr ?_ | refine (takeK_sh).mpr ?_ | refine (takeK_lst).mpr ?_ | refine (arg_wp).mpr ?_ | refine (argK_sh).mpr ?_ | refine (argK_lst).mpr ?_ | refine (bind_1).mpr ?_ | refine (bind_2).mpr ?_ | refine (lend_n).mpr ?_ | refine (lend_v).mpr ?_ | refine (lend_a).mpr ?_ | refine (left_c).mpr ?_ | refine (seeAll_c).mpr ?_ | refine (w_att).mpr ?_ | refine (w_isCl).mpr ?_ | refine (w_revR).mpr ?_ | refine (w_lrange).mpr ?_ | refine (w_make).mpr ?_ | refine (w_makeK).mpr ?_ | refine (w_meth).mpr ?_ | refine (w_methK).mpr ?_ | refine (w_own).mpr ?_ | refine (w_eqO).mpr ?_ | refine (w_idx).mpr ?_ | refine (w_bor).mpr ?_ | refine (w_comp2).mpr ?_ | refine (a_non).mpr ?_ | refine (t_non).mpr ?_ | refine (i_non).mpr ?_ | refine (o_non).mpr ?_ | refine (r_non).mpr ?_ | refine (a_bl).mpr ?_ | refine (t_bl).mpr ?_ | refine (i_bl).mpr ?_ | refine (o_bl).mpr ?_ | refine (r_bl).mpr ?_ | refine (a_int).mpr ?_ | refine (t_int).mpr ?_ | refine (i_int).mpr ?_ | refine (o_int).mpr ?_ | refine (r_int).mpr ?_ | refine (a_str).mpr ?_ | refine (t_str).mpr ?_ | refine (i_str).mpr ?_ | refine (o_str).mpr ?_ | refine (r_str).mpr ?_ | refine (a_glb).mpr ?_ | refine (t_glb).mpr ?_ | refine (i_glb).mpr ?_ | refine (o_glb).mpr ?_ | refine (r_glb).mpr ?_ | refine (a_op).mpr ?_ | refine (t_op).mpr ?_ | refine (i_op).mpr ?_ | refine (o_op).mpr ?_ | refine (r_op).mpr ?_ | refine (a_neg).mpr ?_ | refine (t_neg).mpr ?_ | refine (i_neg).mpr ?_ | refine (o_neg).mpr ?_ | refine (r_neg).mpr ?_ | refine (a_cm).mpr ?_ | refine (t_cm).mpr ?_ | refine (i_cm).mpr ?_ | refine (o_cm).mpr ?_ | refine (r_cm).mpr ?_ | refine (a_ch).mpr ?_ | refine (t_ch).mpr ?_ | refine (i_ch).mpr ?_ | refine (o_ch).mpr ?_ | refine (r_ch).mpr ?_ | refine (a_and).mpr ?_ | refine (i_and).mpr ?_ | refine (o_and).mpr ?_ | refine (r_and).mpr ?_ | refine (a_or).mpr ?_ | refine (i_or).mpr ?_ | refine (o_or).mpr ?_ | refine (r_or).mpr ?_ | refine (a_not).mpr ?_ | refine (i_not).mpr ?_ | refine (o_not).mpr ?_ | refine (r_not).mpr ?_ | refine (a_ite).mpr ?_ | refine (i_ite).mpr ?_ | refine (o_ite).mpr ?_ | refine (r_ite).mpr ?_ | refine (a_ix).mpr ?_ | refine (t_ix).mpr ?_ | refine (i_ix).mpr ?_ | refine (o_ix).mpr ?_ | refine (r_ix).mpr ?_ | refine (a_sl).mpr ?_ | refine (t_sl).mpr ?_ | refine (i_sl).mpr ?_ | refine (o_sl).mpr ?_ | refine (r_sl).mpr ?_ | refine (a_rev).mpr ?_ | refine (t_rev).mpr ?_ | refine (i_rev).mpr ?_ | refine (o_rev).mpr ?_ | refine (r_rev).mpr ?_ | refine (a_tup).mpr ?_ | refine (t_tup).mpr ?_ | refine (i_tup).mpr ?_ | refine (o_tup).mpr ?_ | refine (r_tup).mpr ?_ | refine (a_lst).mpr ?_ | refine (t_lst).mpr ?_ | refine (i_lst).mpr ?_ | refine (o_lst).mpr ?_ | refine (r_lst).mpr ?_ | refine (a_call).mpr ?_ | refine (t_call).mpr ?_ | refine (i_call).mpr ?_ | refine (o_call).mpr ?_ | refine (r_call).mpr ?_ | refine (a_callK).mpr ?_ | refine (t_callK).mpr ?_ | refine (i_callK).mpr ?_ | refine (o_callK).mpr ?_ | refine (r_callK).mpr ?_ | refine (a_bl1).mpr ?_ | refine (t_bl1).mpr ?_ | refine (i_bl1).mpr ?_ | refine (o_bl1).mpr ?_ | refine (r_bl1).mpr ?_ | refine (a_mt).mpr ?_ | refine (t_mt).mpr ?_ | refine (i_mt).mpr ?_ | refine (o_mt).mpr ?_ | refine (r_mt).mpr ?_ | refine (a_isTy).mpr ?_ | refine (t_isTy).mpr ?_ | refine (i_isTy).mpr ?_ | refine (o_isTy).mpr ?_ | refine (r_isTy).mpr ?_ | refine (a_pop).mpr ?_ | refine (t_pop).mpr ?_ | refine (i_pop).mpr ?_ | refine (o_pop).mpr ?_ | refine (r_pop).mpr ?_ | refine (a_comp).mpr ?_ | refine (t_comp).mpr ?_ | refine (i_comp).mpr ?_ | refine (o_comp).mpr ?_ | refine (r_comp).mpr ?_ | refine (a_att).mpr ?_ | refine (t_att).mpr ?_ | refine (i_att).mpr ?_ | refine (o_att).mpr ?_ | refine (r_att).mpr ?_ | refine (a_make).mpr ?_ | refine (t_make).mpr ?_ | refine (i_make).mpr ?_ | refine (o_make).mpr ?_ | refine (r_make).mpr ?_ | refine (a_makeK).mpr ?_ | refine (t_makeK).mpr ?_ | refine (i_makeK).mpr ?_ | refine (o_makeK).mpr ?_ | refine (r_makeK).mpr ?_ | refine (a_meth).mpr ?_ | refine (t_meth).mpr ?_ | refine (i_meth).mpr ?_ | refine (o_meth).mpr ?_ | refine (r_meth).mpr ?_ | refine (a_methK).mpr ?_ | refine (t_methK).mpr ?_ | refine (i_methK).mpr ?_ | refine (o_methK).mpr ?_ | refine (r_methK).mpr ?_ | refine (a_own).mpr ?_ | refine (t_own).mpr ?_ | refine (i_own).mpr ?_ | refine (o_own).mpr ?_ | refine (r_own).mpr ?_ | refine (a_eqO).mpr ?_ | refine (t_eqO).mpr ?_ | refine (i_eqO).mpr ?_ | refine (o_eqO).mpr ?_ | refine (r_eqO).mpr ?_ | refine (a_isCl).mpr ?_ | refine (t_isCl).mpr ?_ | refine (i_isCl).mpr ?_ | refine (o_isCl).mpr ?_ | refine (r_isCl).mpr ?_ | refine (a_comp2).mpr ?_ | refine (t_comp2).mpr ?_ | refine (i_comp2).mpr ?_ | refine (o_comp2).mpr ?_ | refine (r_comp2).mpr ?_ | refine (a_revR).mpr ?_ | refine (t_revR).mpr ?_ | refine (i_revR).mpr ?_ | refine (o_revR).mpr ?_ | refine (r_revR).mpr ?_ | refine (a_lrange).mpr ?_ | refine (t_lrange).mpr ?_ | refine (i_lrange).mpr ?_ | refine (o_lrange).mpr ?_ | refine (r_lrange).mpr ?_ | refine (a_bor).mpr ?_ | refine (t_bor).mpr ?_ | refine (i_bor).mpr ?_ | refine (o_bor).mpr ?_ | refine (r_bor).mpr ?_ | refine (a_idx).mpr ?_ | refine (t_idx).mpr ?_ | refine (i_idx).mpr ?_ | refine (o_idx).mpr ?_ | refine (r_idx).mpr ?_ | refine (i_var).mpr ?_ | refine (o_var).mpr ?_ | (refine and_lt ?_ ?_; exact Nat.le_of_ble_eq_true rfl) | (refine need_t ?_ ?_; first | (with_reducible assumption) | (with_reducible exact ixOk_sh) | (exact decide_eq_true (by omega)) | rfl | decide | exact ixOk_str | exact ixOk_int | omega) | refine br_t.mpr ?_ | refine br_f.mpr ?_ | (refine br_dt ?_ ?_; first | assumption | omega) | (refine br_df ?_ ?_; first | assumption | omega) | (refine br_nt ?_ ?_; first | assumption | omega) | (refine br_nf ?_ ?_; first | assumption | omega))))
theorem sV_mono {c : Cfg} {np : Nat} {x : S} {e : En} {Q Q' : Fl → En → Prop} (h : sV c np x e Q) (k : ∀ f e, Q f e → Q' f e) : sV c np x e Q' := sV_iff.mpr ((sV_iff.mp h).mono fun p hp => k _ _ hp)
theorem lf_ints : ∀ r : List Int, lfs (r.map D.int) = true
  | [] => rfl
  | v :: r => lf_ints r
theorem lf_mxT (m : Mx) : indep (.sh (mxT m)) = true := by
  show lfs (m.map rowT) = true
  induction m with
  | nil => rfl
  | cons r m ih =>
    show (lfs (r.map D.int) && lfs (m.map rowT)) = true
    rw [lf_ints, ih]
    rfl
def dueL (ws : List Str) (m : Mx) : List D := [.str (textOf ws m), .tup (ws.map D.str), mxT m, .str (textOf ws m), .int (ws.length : Int), .bl true]
def due (ws : List Str) (m : Mx) : D := .lst (dueL ws m)
theorem due_sz {ws : List Str} {m : Mx} (h : Dst ws m) : Sz (due ws m) 3 400000 := by
  have h9 := h.n9
  have h1 := Sz.lst (ds := dueL ws m) (k := 2) (L := 40000) fun d hd => by
    unfold dueL at hd
    rcases List.mem_cons.mp hd with rfl | hd
    · exact (Sz.text h).mono (by decide) (Nat.le_refl _)
    rcases List.mem_cons.mp hd with rfl | hd
    · exact (Sz.names h.nm).mono (by decide) (by decide)
    rcases List.mem_cons.mp hd with rfl | hd
    · exact (Sz.rows h.mt h9).mono (by decide) (by decide)
    rcases List.mem_cons.mp hd with rfl | hd
    · exact (Sz.text h).mono (by decide) (Nat.le_refl _)
    rcases List.mem_cons.mp hd with rfl | hd
    · exact (Sz.num ⟨by omega, by omega⟩).mono (by decide) (by decide)
    rcases List.mem_cons.mp hd with rfl | hd
    · exact (Sz.bl).mono (by decide) (by decide)
    · cases hd
  exact h1.mono (by decide) (by show 6 * 40002 + 2 ≤ 400000; decide)
def fTold : Fn := ⟨1, 1, [],
  (.seq (.ret (.lst (.cons (.att (.var 0) "text") (.cons (.att (.var 0) "names") (.cons (.att (.var 0) "rows") (.cons (.own .str 1 26 (.var 0)) (.cons (.own .len 1 25 (.var 0)) (.cons (.own .bool 1 25 (.var 0)) .nil))))))))
    .nil)⟩
structure ToldOk (c : Cfg) : Prop where
  asg : c.asg 27 = []
  run : ∀ {ws : List Str} {m : Mx} {Q : O × List O → Prop}, Dst ws m → Q (.lst ((dueL ws m).map O.sh), [.sh (dst ws m)]) → Wp (c.call 27 [.sh (dst ws m)]) Q
theorem told_ok {c : Cfg} (hF : DistC c) (hL : LenOk c) (hS : StrOk c) {ws : List Str} {m : Mx} {Q : O × List O → Prop} (h : Dst ws m) (k : Q (.lst ((dueL ws m).map O.sh), [.sh (dst ws m)])) : Wp (runFn c fTold [.sh (dst ws m)]) Q := by
  have h9 := h.n9
  have h2 := h.n2
  rw [fn_wp]
  refine ⟨rfl, ?_⟩
  show sV c 1 fTold.body [some (.sh (dst ws m))] _
  unfold fTold
  dsimp only
  trivial
  refine att_text hF ?_
  trivial
  refine att_names hF ?_
  trivial
  refine att_rows hF ?_
  trivial
  refine own_str hS ?_
  trivial
  refine own_len hL (by omega) ?_
  trivial
  refine own_bool hL (by omega) (by omega) ?_
  trivial
  exact k
theorem add_shs {xs ys : List D} {Q : O → Prop} (h : xs.length + ys.length ≤ lim) (k : Q (.lst ((xs ++ ys).map O.sh))) : Wp (opD .add (.lst (xs.map O.sh)) (.lst (ys.map O.sh))) Q := by
  refine Wp.eq (a := .lst ((xs ++ ys).map O.sh)) ?_ k
  unfold opD
  simp only [O.flat, shAll_map, Option.map_some]
  rw [decide_eq_true h]
  rfl
theorem rev_shs {xs : List D} {Q : O → Prop} (k : Q (.lst (xs.reverse.map O.sh))) : Wp (revD (.lst (xs.map O.sh))) Q := by
  refine Wp.eq (a := .lst (xs.reverse.map O.sh)) ?_ k
  unfold revD
  simp only [O.flat, shAll_map, Option.map_some]
@[irreducible] def body : S := (.seq (.asg (.var 3) (.call 12 (.cons (.var 0) (.cons (.var 2) .nil)))) (.seq (.asg (.var 4) (.call 10 (.cons (.var 3) (.cons (.op .add (.int 2) (.call 1 (.cons (.var 3) (.cons (.int 8) .nil)))) .nil)))) (.seq (.asg (.var 5) (.call 23 (.cons (.var 3) (.cons (.bl1 .len (.cons (.var 4) .nil)) (.cons (.call 24 (.cons (.var 3) .nil)) .nil))))) (.seq (.asg (.var 6) (.call 22 (.cons (.var 4) (.cons (.var 5) .nil)))) (.seq (.asg (.var 7) (.lst (.cons (.var 6) (.cons (.var 4) (.cons (.bor (.bl1 .tuple (.cons (.comp [8] false (.bl1 .tuple (.cons (.var 8) .nil)) (.var 5) .nil) .nil))) (.cons (.var 6) (.cons (.bl1 .len (.cons (.var 4) .nil)) (.cons (.bl true) .nil)))))))) (.seq (.asg (.var 1) (.op .add (.var 1) (.lst (.cons (.tup (.cons (.make 1 21 (.cons (.var 6) .nil)) (.cons (.var 7) .nil))) (.cons (.tup (.cons (.makeK 1 21 .nil ["text"] [0] (.cons (.var 6) .nil)) (.cons (.var 7) .nil))) .nil))))) .nil))))))
@[irreducible] def look : S := (.seq (.ifs (.cm .ne (.bl1 .repr (.cons (.call 27 (.cons (.var 9) .nil)) .nil)) (.bl1 .repr (.cons (.var 7) .nil))) (.seq (.ret (.bl false)) .nil) .nil) .nil)
def fLaw2 : Fn := ⟨1, 10, [],
  (.seq (.asg (.var 1) (.lst .nil)) (.seq (.loop [2] false (.range1 (.bl1 .max (.cons (.int 2) (.cons (.bl1 .min (.cons (.bl1 .len (.cons (.var 0) .nil)) (.cons (.int 6) .nil))) .nil)))) body) (.seq (.loop [9, 7] true (.op .add (.var 1) (.rev (.var 1))) look) (.seq (.ret (.bl true)) .nil))))⟩
def Fine (d : D) : Prop := ∃ ws m, Dst ws m ∧ d = .tup [dst ws m, due ws m]
def Inv (ns : List Int) (i : Nat) (e : En) : Prop := ∃ (hs : List D) (s2 s3 s4 s5 s6 s7 : Option O), e = [some (.sh (.arr ns)), some (.lst (hs.map O.sh)), s2, s3, s4, s5, s6, s7, none, none] ∧ (∀ h ∈ hs, Fine h) ∧ hs.length = 2 * i
theorem body_ok {c : Cfg} (hF : DistC c) (hPo : PotOk c) (hD : DigOk c) (hN : NamesOk c) (hR : RowsOk c) (hB : BoundOk c) (hX : TextOk c) (hI : InitOk c) {ns : List Int} (hl : ns.length ≤ 63) {i : Nat} (hi : i ≤ 100) {e : En} (h : Inv ns i e) :
    sV c 1 body (e.set 2 (some (.sh (.int (i : Int))))) fun f e => f = .nx ∧ Inv ns (i + 1) e := by
  obtain ⟨hs, s2, s3, s4, s5, s6, s7, rfl, hf, hln⟩ := h
  show sV c 1 body [some (.sh (.arr ns)), some (.lst (hs.map O.sh)), some (.sh (.int (i : Int))), s3, s4, s5, s6, s7, none, none] _
  unfold body
  trivial
  refine cV_0 hPo.asg ?_
  trivial
  refine hPo.run (by omega) (by omega) (by omega) fun x y z => ?_
  trivial
  refine cV_0 hD.asg ?_
  trivial
  refine hD.run (by decide) (by decide) fun r x y z g0 g1 => ?_
  trivial
  refine cV_0 hN.asg ?_
  trivial
  refine hN.run (by omega) (by omega) fun ws x y z hl2 hnd hwd => ?_
  have h9 : ws.length ≤ 9 := by omega
  have h2 : 2 ≤ ws.length := by omega
  have hlen : ((ws.map D.str).length : Int) = (ws.length : Int) := by rw [List.length_map]
  trivial
  refine cV_0 hB.asg ?_
  trivial
  refine hB.run fun b x y z b0 b1 => ?_
  trivial
  refine cV_0 hR.asg ?_
  rw [hlen]
  trivial
  refine hR.run (by omega) b0 b1 fun m x y z hm => ?_
  have hd : Dst ws m := ⟨⟨hnd, hwd, by omega, by omega⟩, hm.mono b1⟩
  have hml := hm.sq.len
  trivial
  refine cV_0 hX.asg ?_
  trivial
  refine hX.run hd ?_
  trivial
  refine Wp.eq (get_share (o := mxO m) rfl (noInss_mx m)) ?_
  rw [view_mxO]
  trivial
  refine (runC_over rowD (fun r => O.sh (rowT r)) m fun r hr => ?_).mono fun p hp => ?_
  · refine b_nil.mpr ?_
    trivial
    rfl
  subst hp
  have e5 : m.map (fun r => O.sh (rowT r)) = (m.map rowT).map O.sh := by
    rw [List.map_map]
    rfl
  rw [e5]
  refine need_t (decide_eq_true (by rw [List.length_map]; show _ ≤ 16777216; omega)) ?_
  trivial
  refine Wp.eq (a := .sh (mxT m)) bl_tupL ?_
  refine need_t (lf_mxT m) ?_
  trivial
  rw [hlen]
  trivial
  refine make_dst hF hI hd ?_
  trivial
  refine make_dst hF hI hd ?_
  trivial
  refine add_shs (xs := hs) (ys := [.tup [dst ws m, due ws m], .tup [dst ws m, due ws m]]) (by show _ + 2 ≤ 16777216; omega) ?_
  trivial
  refine ⟨rfl, hs ++ [.tup [dst ws m, due ws m], .tup [dst ws m, due ws m]], _, _, _, _, _, _, rfl, fun h hh => ?_, by rw [List.length_append, hln]; show 2 * i + 2 = _; omega⟩
  rcases List.mem_append.mp hh with hh | hh
  · exact hf h hh
  · refine ⟨ws, m, hd, ?_⟩
    rcases List.mem_cons.mp hh with h | h
    · exact h
    · exact List.mem_singleton.mp h
theorem look_ok {c : Cfg} (hT : ToldOk c) {ns : List Int} {s1 s2 s3 s4 s5 s6 : Option O} {ws : List Str} {m : Mx} (hd : Dst ws m) : sV c 1 look [some (.sh (.arr ns)), s1, s2, s3, s4, s5, s6, some (.sh (due ws m)), none, some (.sh (dst ws m))] fun f e => f = .nx ∧ e = [some (.sh (.arr ns)), s1, s2, s3, s4, s5, s6, some (.sh (due ws m)), none, some (.sh (dst ws m))] := by
  have sz := due_sz hd
  unfold look
  trivial
  refine cV_0 hT.asg ?_
  trivial
  refine hT.run hd ?_
  trivial
  have ev : (O.lst ((dueL ws m).map O.sh)).view = due ws m := by
    show D.lst (views _) = _
    rw [views_sh]
    rfl
  refine repr_wp (by rw [ev]; exact sz) (by decide) (by decide) ?_
  trivial
  refine repr_wp sz (by decide) (by decide) ?_
  trivial
  refine br_nt (by dsimp only; rw [ev]; rfl) ?_
  trivial
  exact ⟨rfl, rfl⟩
theorem said_ok {c : Cfg} (hF : DistC c) (hPo : PotOk c) (hD : DigOk c) (hN : NamesOk c) (hR : RowsOk c) (hB : BoundOk c) (hX : TextOk c) (hI : InitOk c) (hT : ToldOk c) {ns : List Int} (hl : ns.length ≤ 63) {Q : O × List O → Prop} (k : ∀ os, Q (.sh (.bl true), os)) : Wp (runFn c fLaw2 [.sh (.arr ns)]) Q := by
  rw [fn_wp]
  refine ⟨rfl, ?_⟩
  show sV c 1 fLaw2.body [some (.sh (.arr ns)), none, none, none, none, none, none, none, none, none] _
  unfold fLaw2
  dsimp only
  generalize hm : (if (6 : Int) < (ns.length : Int) then (6 : Int) else (ns.length : Int)) = m
  generalize hm2 : (if m > (2 : Int) then m else (2 : Int)) = m2
  have hm3 : 0 ≤ m2 ∧ m2 ≤ 100 := by
    rw [← hm2, ← hm]
    split <;> split <;> omega
  have hrg : rangeOk 0 m2 = true := decide_eq_true (by omega)
  trivial
  rw [hm, hm2]
  trivial
  obtain ⟨n, rfl⟩ := Int.eq_ofNat_of_zero_le hm3.1
  refine (runF_rng (n := n) (fun i e => Inv ns i e) ⟨[], none, none, none, none, none, none, rfl, fun h hh => (by cases hh), rfl⟩ ?_).mono ?_
  · rintro i e hi h
    refine f_b.mpr ?_
    refine bind_1.mpr ?_
    exact body_ok hF hPo hD hN hR hB hX hI hl (by omega) h
  · rintro ⟨fl, e⟩ ⟨e1, hs, s2, s3, s4, s5, s6, s7, e2, hf, hln⟩
    have e1 : fl = .nx := e1
    have e2 : e = _ := e2
    subst e1
    subst e2
    dsimp only
    trivial
    refine rev_shs ?_
    trivial
    refine add_shs (by rw [List.length_reverse]; show _ ≤ 16777216; omega) ?_
    refine need_t (noInss_sh _) ?_
    show Wp (itemsD (.lst (views (List.map O.sh _)))) _
    rw [views_sh]
    trivial
    refine (runF_inv (fun _ e => ∃ s7 s9, e = [some (.sh (.arr ns)), some (.lst (hs.map O.sh)), s2, s3, s4, s5, s6, s7, none, s9]) _ [] _ ⟨s7, none, rfl⟩ ?_).mono ?_
    · rintro _ dd e hdd ⟨s7, s9, rfl⟩
      have hdd : Fine dd := by
        rcases List.mem_append.mp hdd with h | h
        · exact hf _ h
        · exact hf _ (List.mem_reverse.mp h)
      obtain ⟨ws, m, hd, rfl⟩ := hdd
      refine f_b.mpr ?_
      refine bind_2.mpr ?_
      refine sV_mono (look_ok hT hd (s1 := some (.lst (hs.map O.sh)))) ?_
      rintro f e ⟨e1, e2⟩
      exact ⟨e1, _, _, e2⟩
    · rintro ⟨fl, e⟩ ⟨e1, s7, s9, e2⟩
      have e1 : fl = .nx := e1
      have e2 : e = _ := e2
      subst e1
      subst e2
      dsimp only
      trivial
      exact k _
end K02

set_option Elab.async false
set_option linter.all false
set_option maxRecDepth 100000
namespace K02
open PySem L2 MP
theorem said : ∀ ns : List Int, ns.length ≤ 63 → ∃ os, evC P 7 13 [.sh (.arr ns)] = .ok (.sh (.bl true), os) := by
  intro ns hl
  have M : Made P := ⟨fun c c2 => globsAt rfl rfl rfl, fun c c2 => glob2At rfl rfl rfl rfl, fun c c2 => ⟨rfl, rfl⟩, rfl, rfl, rfl, rfl, rfl⟩
  have h1 : P.fns.lookup 1 = some fDig := rfl
  have h27 : P.fns.lookup 27 = some fTold := rfl
  have hT : ToldOk (P.cfg (evC P 6) (evM P 6)) := ⟨asg_at h27, fun h k => wp_at h27 (told_ok (M.d _ _) (lenOAt M.d rfl 3) (strOAt M.d rfl 3) h k)⟩
  exact say_at (x := fLaw2) (by with_unfolding_all rfl) (said_ok (M.d _ _) (potAt rfl 5) (digAt h1 5) (namesAt h1 rfl rfl 3) (rowsAt h1 rfl 4) (boundAt h1 rfl 4) (textAt rfl 5) (M.init 1) hT hl fun os => rfl)
end K02
open PySem PySem.W PyProof.Rows
set_option maxRecDepth 100000 in
set_option maxHeartbeats 0 in
theorem PySem.Challenge.cw_lotrounds_k02_distances_made_holds : PySem.Challenge.rw_lotrounds_k02_distances_made.Holds := by
  w_on; o_law; k_head; (case hw => w_witness2)
  k_fill
  refine MP.law_end (l := PySem.Challenge.rw_lotrounds_k02_distances_made) (T := K02.T) (P := K02.P) (i := 13) (fn := K02.f13) (k := 7) rfl (by decide) rfl ⟨rfl, by decide, by decide⟩ (fun w h Y => PySem.W.kIn_of Y) rfl rfl rfl ?F K02.said
  case F =>
    intro w mg h KX G
    refine MP.prg_is rfl rfl rfl (fun k hk => Classical.byContradiction fun hn => hk (K02.noFl k hn)) ?ds ?gs ?bs ?cs ?tw ?cn ?ct ?is ?ms ?sp
    case bs => exact ⟨MP.none_is KX G (by k_is), MP.none_is KX G (by k_is), MP.none_is KX G (by k_is), MP.none_is KX G (by k_is), MP.none_is KX G (by k_is), MP.none_is KX G (by k_is), MP.none_is KX G (by k_is), MP.none_is KX G (by k_is), MP.none_is KX G (by k_is), MP.none_is KX G (by k_is), MP.none_is KX G (by k_is), MP.none_is KX G (by k_is), MP.none_is KX G (by k_is), MP.none_is KX G (by k_is), trivial⟩
    case gs => exact ⟨MP.glob_at rfl (MP.glob_int KX G (by k_is)), MP.glob_at rfl (MP.glob_str KX G (by k_is)), MP.glob_at rfl (MP.glob_int KX G (by k_is)), MP.glob_at rfl (MP.glob_int KX G (by k_is)), MP.glob_at rfl (MP.glob_int KX G (by k_is)), MP.glob_at rfl (MP.glob_int KX G (by k_is)), trivial⟩
    case cs =>
      refine ⟨?F1, trivial⟩
      case F1 =>
        refine' MP.cls_is (T := K02.T) KX G rfl rfl ?a ?pg ?hd ?po ?sa ?cc ?cm ?fl ?kb
        (case a => k_is); (case pg => k_is); (case hd => k_is); (case po => k_is); (case sa => k_is); (case cc => k_is); (case cm => k_is)
        (case fl => exact ⟨(by (show PySem.W.findIn _ _ _ = _; k_is)), (by (show PySem.W.findIn _ _ _ = _; k_is)), (by (show PySem.W.findIn _ _ _ = _; k_is)), trivial⟩)
        (case kb => exact ⟨(by (show PySem.W.kitOne _ _ _ = _; kit_is)), (by (show PySem.W.kitOne _ _ _ = _; kit_is)), (by (show PySem.W.kitOne _ _ _ = _; kit_is)), (by (show PySem.W.kitOne _ _ _ = _; kit_is)), (by (show PySem.W.kitOne _ _ _ = _; kit_is)), (by (show PySem.W.kitOne _ _ _ = _; kit_is)), trivial⟩)
    case tw => exact ⟨MP.two_is rfl rfl rfl (by k_is) (by k_is) (by kit_is), trivial⟩
    case cn => k_is
    case ct => k_is
    case ds =>
      refine ⟨?d12, ?d1, ?d2, ?d10, ?d23, ?d22, ?d24, ?d27, ?d5, ?d6, ?d16, ?d18, ?d13, trivial⟩
      case d12 =>
        refine' MP.def_is KX G rfl K02.sc12 rfl rfl K02.ck12 (fun _ _ _ _ _ _ us hl => match us, hl with | [_, _], _ => rfl) K02.kw12 (by decide) ?a12 ?l12 ?c12 ?k12
        (case a12 => k_is); (case l12 => k_is); (case c12 => k_is); (case k12 => k_is)
      case d1 =>
        refine' MP.def_is KX G rfl K02.sc1 rfl rfl K02.ck1 (fun _ _ _ _ _ _ us hl => match us, hl with | [_, _], _ => rfl) K02.kw1 (by decide) ?a1 ?l1 ?c1 ?k1
        (case a1 => k_is); (case l1 => k_is); (case c1 => k_is); (case k1 => k_is)
      case d2 =>
        refine' MP.def_is KX G rfl K02.sc2 rfl rfl K02.ck2 (fun _ _ _ _ _ _ us hl => match us, hl with | [_], _ => rfl) K02.kw2 (by decide) ?a2 ?l2 ?c2 ?k2
        (case a2 => k_is); (case l2 => k_is); (case c2 => k_is); (case k2 => k_is)
      case d10 =>
        refine' MP.def_is KX G rfl K02.sc10 rfl rfl K02.ck10 (fun _ _ _ _ _ _ us hl => match us, hl with | [_, _], _ => rfl) K02.kw10 (by decide) ?a10 ?l10 ?c10 ?k10
        (case a10 => k_is); (case l10 => k_is); (case c10 => k_is); (case k10 => k_is)
      case d23 =>
        refine' MP.def_is KX G rfl K02.sc23 rfl rfl K02.ck23 (fun _ _ _ _ _ _ us hl => match us, hl with | [_, _, _], _ => rfl) K02.kw23 (by decide) ?a23 ?l23 ?c23 ?k23
        (case a23 => k_is); (case l23 => k_is); (case c23 => k_is); (case k23 => k_is)
      case d22 =>
        refine' MP.def_is KX G rfl K02.sc22 rfl rfl K02.ck22 (fun _ _ _ _ _ _ us hl => match us, hl with | [_, _], _ => rfl) K02.kw22 (by decide) ?a22 ?l22 ?c22 ?k22
        (case a22 => k_is); (case l22 => k_is); (case c22 => k_is); (case k22 => k_is)
      case d24 =>
        refine' MP.def_is KX G rfl K02.sc24 rfl rfl K02.ck24 (fun _ _ _ _ _ _ us hl => match us, hl with | [_], _ => rfl) K02.kw24 (by decide) ?a24 ?l24 ?c24 ?k24
        (case a24 => k_is); (case l24 => k_is); (case c24 => k_is); (case k24 => k_is)
      case d27 =>
        refine' MP.def_is KX G rfl K02.sc27 rfl rfl K02.ck27 (fun _ _ _ _ _ _ us hl => match us, hl with | [_], _ => rfl) K02.kw27 (by decide) ?a27 ?l27 ?c27 ?k27
        (case a27 => k_is); (case l27 => k_is); (case c27 => k_is); (case k27 => k_is)
      case d5 =>
        refine' MP.def_is KX G rfl K02.sc5 rfl rfl K02.ck5 (fun _ _ _ _ _ _ us hl => match us, hl with | [_], _ => rfl) K02.kw5 (by decide) ?a5 ?l5 ?c5 ?k5
        (case a5 => k_is); (case l5 => k_is); (case c5 => k_is); (case k5 => k_is)
      case d6 =>
        refine' MP.def_is KX G rfl K02.sc6 rfl rfl K02.ck6 (fun _ _ _ _ _ _ us hl => match us, hl with | [_, _, _], _ => rfl) K02.kw6 (by decide) ?a6 ?l6 ?c6 ?k6
        (case a6 => k_is); (case l6 => k_is); (case c6 => k_is); (case k6 => k_is)
      case d16 =>
        refine' MP.def_is KX G rfl K02.sc16 rfl rfl K02.ck16 (fun _ _ _ _ _ _ us hl => match us, hl with | [_], _ => rfl) K02.kw16 (by decide) ?a16 ?l16 ?c16 ?k16
        (case a16 => k_is); (case l16 => k_is); (case c16 => k_is); (case k16 => k_is)
      case d18 =>
        refine' MP.def_is KX G rfl K02.sc18 rfl rfl K02.ck18 (fun _ _ _ _ _ _ us hl => match us, hl with | [_], _ => rfl) K02.kw18 (by decide) ?a18 ?l18 ?c18 ?k18
        (case a18 => k_is); (case l18 => k_is); (case c18 => k_is); (case k18 => k_is)
      case d13 =>
        refine' MP.def_is KX G rfl K02.sc13 rfl rfl K02.ck13 (fun _ _ _ _ _ _ us hl => match us, hl with | [_], _ => rfl) K02.kw13 (by decide) ?a13 ?l13 ?c13 ?k13
        (case a13 => k_is); (case l13 => k_is); (case c13 => k_is); (case k13 => k_is)
    case is =>
      refine ⟨?d21, trivial⟩
      case d21 =>
        refine' MP.ini_is rfl K02.sc21 rfl rfl K02.ck21 (fun _ _ _ _ _ _ us hl => match us, hl with | [_, _], _ => rfl) K02.kw21 (by decide) rfl rfl ?b21 ?a21 ?i21 ?m21 ?n21 ?l21 ?c21 ?k21
        (case b21 => k_is); (case a21 => k_is); (case i21 => k_is); (case m21 => k_is); (case n21 => k_is); (case l21 => k_is); (case c21 => k_is); (case k21 => k_is)
    case ms =>
      rintro ⟨F1, _⟩
      refine trivial
    case sp =>
      rintro ⟨F1, _⟩
      refine ⟨?d26, ?d25, trivial⟩
      case d26 =>
        refine' MP.spc_is rfl K02.sc26 rfl rfl K02.ck26 (fun _ _ _ _ _ _ us hl => match us, hl with | [_], _ => rfl) K02.kw26 (by decide) rfl rfl F1 ?b26 ?a26 ?i26 ?e26 ?o26 ?l26 ?c26 ?k26
        (case b26 => k_is); (case a26 => k_is); (case i26 => k_is); (case e26 => k_is); (case o26 => k_is); (case l26 => k_is); (case c26 => k_is); (case k26 => k_is)
      case d25 =>
        refine' MP.spc_is rfl K02.sc25 rfl rfl K02.ck25 (fun _ _ _ _ _ _ us hl => match us, hl with | [_], _ => rfl) K02.kw25 (by decide) rfl rfl F1 ?b25 ?a25 ?i25 ?e25 ?o25 ?l25 ?c25 ?k25
        (case b25 => k_is); (case a25 => k_is); (case i25 => k_is); (case e25 => k_is); (case o25 => k_is); (case l25 => k_is); (case c25 => k_is); (case k25 => k_is)

