import PyProof.Rows.All
import HandS.ForMost
import HandS.ForExc
import HandS.TupAny
import HandS.TupMul
import HandS.Deep
import HandS.Style
import HandS.TupLe
import PyProof.StrOps2
import HandS.IsInst
import HandS.StrMore
import HandS.ExcCtx
import HandS.TryOnly
import HandS.Iter
import HandS.AnyAll
import PyProof.GenQ
import HandS.GenOver
import HandS.More
import HandS.Rev
import KE.KDictList
import KE.GoesMore
import PyProof.Draws
import HandS.SortKw
import PyProof.MinMaxWalk
import HandS.WrittenGet
import KE.KDictPairs
import HandS.TupSets
import HandS.Defaults
import HandS.ExcIs
import HandS.ExcOwn
import HandS.HotCalls
import HandS.HeadHook2
import HandS.Head0
import HandS.Head1
import HandS.Head2
import HandS.HeadEnd
import HandS.HeadHook3
import HandS.EndTab
import HandS.HeadWalk
import PySem.Challenge.RW_treeschanged_k07_whole_trees_with_keys
set_option Elab.async false
section -- I0
set_option autoImplicit false
namespace L3

/-- data: a list by value (own: nobody else has it), a mutable object by its number in the store, the script -/
inductive D where
  | non | bl (b : Bool) | int (i : Int) | str (s : List Nat) | tup (xs : List D) | lv (own : Bool) (xs : List D) | ref (n : Nat) | scr (ns : List Int)
  deriving Inhabited

/-- keys of dicts -/
abbrev Ky := Sum Int (List Nat)
/-- mutable objects -/
inductive MO where
  | lst (xs : List D) | dct (ks : List Ky) (vs : List D) | dtp (ks : List (List Ky)) (vs : List D)
  deriving Inhabited

structure S where
  cells : List MO
  base : Nat
  up : Option Nat

inductive R (α : Type) where
  | ok (a : α) (s : S) | exc (c : Nat) (s : S) | bad

def R.bind {α β : Type} : R α → (α → S → R β) → R β
  | .ok a s, f => f a s
  | .exc c s, _ => .exc c s
  | .bad, _ => .bad
@[simp] theorem R.bind_ok {α β : Type} (a : α) (s : S) (f : α → S → R β) : (R.ok a s).bind f = f a s := rfl
@[simp] theorem R.bind_exc {α β : Type} (c : Nat) (s : S) (f : α → S → R β) : (R.exc c s : R α).bind f = .exc c s := rfl
@[simp] theorem R.bind_bad {α β : Type} (f : α → S → R β) : (R.bad : R α).bind f = .bad := rfl
/-- a value that may be none: bad -/
def R.opt {α : Type} (o : Option α) (s : S) : R α := match o with | some a => .ok a s | none => .bad
@[simp] theorem R.opt_some {α : Type} (a : α) (s : S) : R.opt (some a) s = .ok a s := rfl
@[simp] theorem R.opt_none {α : Type} (s : S) : R.opt (none : Option α) s = .bad := rfl
/-- no exception leaves -/
def R.nox {α : Type} : R α → R α
  | .exc _ _ => .bad
  | r => r
@[simp] theorem R.nox_ok {α : Type} (a : α) (s : S) : (R.ok a s).nox = .ok a s := rfl
@[simp] theorem R.nox_bad {α : Type} : (R.bad : R α).nox = .bad := rfl
@[simp] theorem R.nox_exc {α : Type} (c : Nat) (s : S) : (R.exc c s : R α).nox = .bad := rfl
def R.chk {α : Type} (b : Bool) (r : R α) : R α := if b then r else .bad
@[simp] theorem R.chk_true {α : Type} (r : R α) : R.chk true r = r := rfl

abbrev Env := List (Option D)

/-- the list is somebody's -/
def D.frz : D → D
  | .lv _ xs => .lv false xs
  | d => d
def D.same : D → D → Bool
  | .non, .non => true
  | .bl a, .bl b => a == b
  | .int a, .int b => decide (a = b)
  | .str a, .str b => a == b
  | .tup a, .tup b => sameL a b
  | .lv o a, .lv p b => o == p && sameL a b
  | .ref a, .ref b => a == b
  | .scr a, .scr b => a == b
  | _, _ => false
where sameL : List D → List D → Bool
  | [], [] => true
  | a :: as, b :: bs => D.same a b && sameL as bs
  | _, _ => false
mutual
theorem D.same_eq : ∀ (a b : D), D.same a b = true → a = b
  | .non, b, h => by cases b <;> simp_all [D.same]
  | .bl a, b, h => by cases b <;> simp_all [D.same]
  | .int a, b, h => by cases b <;> simp_all [D.same]
  | .str a, b, h => by cases b <;> simp_all [D.same]
  | .ref a, b, h => by cases b <;> simp_all [D.same]
  | .scr a, b, h => by cases b <;> simp_all [D.same]
  | .tup a, b, h => by
    cases b <;> simp [D.same] at h
    rw [D.sameL_eq _ _ h]
  | .lv o a, b, h => by
    cases b <;> simp [D.same] at h
    rw [D.sameL_eq _ _ h.2, h.1]
theorem D.sameL_eq : ∀ (a b : List D), D.same.sameL a b = true → a = b
  | [], b, h => by cases b <;> simp_all [D.same.sameL]
  | a :: as, b, h => by
    cases b with
    | nil => simp [D.same.sameL] at h
    | cons b bs =>
      simp only [D.same.sameL, Bool.and_eq_true] at h
      rw [D.same_eq a b h.1, D.sameL_eq as bs h.2]
end
/-- no number of n or more, no exception, no own list -/
def D.lt (n : Nat) : D → Bool
  | .ref m => decide (m < n)
  | .tup xs => ltL n xs
  | .lv _ xs => ltL n xs
  | _ => true
where ltL (n : Nat) : List D → Bool
  | [] => true
  | x :: xs => D.lt n x && ltL n xs
abbrev D.ltL := D.lt.ltL

/-- a list at a number is read -/
def D.rd (s : S) : D → D
  | .ref n => match s.cells[n]? with
    | some (.lst xs) => .lv false xs
    | _ => .ref n
  | d => d

/-- == of data (True is 1) -/
def D.eqv : D → D → Bool
  | .non, .non => true
  | .bl a, .bl b => a == b
  | .int a, .int b => decide (a = b)
  | .bl a, .int b => decide ((if a then 1 else 0 : Int) = b)
  | .int a, .bl b => decide (a = (if b then 1 else 0 : Int))
  | .str a, .str b => a == b
  | .tup xs, .tup ys => eqvL xs ys
  | .lv _ xs, .lv _ ys => eqvL xs ys
  | _, _ => false
where eqvL : List D → List D → Bool
  | [], [] => true
  | x :: xs, y :: ys => D.eqv x y && eqvL xs ys
  | _, _ => false
abbrev D.eqvL := D.eqv.eqvL
def big : Nat := 16777216
/-- a text of common signs -/
def okS (s : List Nat) : Bool := s.all (· < 1114112)
/-- == is known of it: nothing mutable within, not too deep -/
def D.fit : Nat → D → Bool
  | n + 1, .tup xs => fitL n xs
  | n + 1, .lv _ xs => fitL n xs
  | 0, .tup _ => false
  | 0, .lv _ _ => false
  | _, .ref _ => false
  | _, .scr _ => false
  | _, .str s => okS s
  | _, _ => true
where fitL (n : Nat) : List D → Bool
  | [] => true
  | x :: xs => D.fit n x && fitL n xs
abbrev D.fitL := D.fit.fitL

/-- no test of a great bound by Int's order: the kernel would run deep at a cast -/
def wide (i : Int) : Bool := Nat.blt i.natAbs 18446744073709551616

inductive Op2 where | add | sub | mul | fdiv | mod | pow
inductive Cmp where | eq | ne | lt | le | gt | ge | is | isnot | inn | notin

def bin2 : Op2 → D → D → Option D
  | .add, .int a, .int b => some (.int (a + b))
  | .add, .str a, .str b => if a.length + b.length ≤ big then some (.str (a ++ b)) else none
  | .add, .tup a, .tup b => if a.length + b.length ≤ big then some (.tup (a ++ b)) else none
  | .add, .lv _ a, .lv _ b => if a.length + b.length ≤ big then some (.lv true (a ++ b)) else none
  | .sub, .int a, .int b => some (.int (a - b))
  | .mul, .tup a, .int k => if a.length ≤ 1000 ∧ a ≠ [] ∧ 2 ≤ k ∧ k ≤ 1000 then some (.tup (List.replicate k.toNat a).flatten) else none
  | .mul, .str a, .int k => if 0 ≤ k ∧ k ≤ 100000 ∧ a.length ≤ 100 then some (.str (List.replicate k.toNat a).flatten) else none
  | .mul, .lv _ a, .int k => if a.length ≤ 1000 ∧ 0 ≤ k ∧ k ≤ 1000 then some (.lv true (List.replicate k.toNat a).flatten) else none
  | .mul, .int a, .int b => if wide a || wide b then some (.int (a * b)) else none
  | .fdiv, .int a, .int b => if 0 < b ∧ b < 1073741824 then some (.int (a / b)) else none
  | .mod, .int a, .int b => if 0 < b then some (.int (a % b)) else none
  | .pow, .int a, .int b => if 0 ≤ b ∧ b ≤ 1000 ∧ wide a then some (.int (a ^ b.toNat)) else none
  | _, _, _ => none

/-- order of lists of code points -/
def strLt : List Nat → List Nat → Bool
  | [], [] => false
  | [], _ :: _ => true
  | _ :: _, [] => false
  | a :: as, b :: bs => if a = b then strLt as bs else decide (a < b)
/-- order of tuples of ints -/
def intsOf : List D → Option (List Int)
  | [] => some []
  | .int i :: r => (intsOf r).map (i :: ·)
  | _ => none
def lexLt : List Int → List Int → Bool
  | [], [] => false
  | [], _ :: _ => true
  | _ :: _, [] => false
  | a :: as, b :: bs => if a = b then lexLt as bs else decide (a < b)

/-- order: ints, texts, tuples of these -/
def ordL (f : D → D → Option Bool) : List D → List D → Option Bool
  | [], [] => some false
  | [], _ :: _ => some true
  | _ :: _, [] => some false
  | x :: xs, y :: ys => (ordL f xs ys).bind fun r => if x.eqv y then some r else f x y
def ordD : Nat → D → D → Option Bool
  | n + 1, .tup xs, .tup ys => ordL (ordD n) xs ys
  | _, .int a, .int b => some (decide (a < b))
  | _, .str a, .str b => some (strLt a b)
  | _, _, _ => none
def D.isBl : D → Bool | .bl _ => true | _ => false
def D.isNon : D → Bool | .non => true | _ => false
def cmp2 : Cmp → D → D → Option Bool
  | .eq, .str a, .str b => some (a == b)
  | .ne, .str a, .str b => some (!(a == b))
  | .eq, a, b => if a.fit 64 && b.fit 64 then some (a.eqv b) else none
  | .ne, a, b => if a.fit 64 && b.fit 64 then some (!a.eqv b) else none
  | .lt, .int a, .int b => some (decide (a < b))
  | .le, .int a, .int b => some (decide (a ≤ b))
  | .gt, .int a, .int b => some (decide (b < a))
  | .ge, .int a, .int b => some (decide (b ≤ a))
  | .lt, .str a, .str b => some (strLt a b)
  | .lt, .tup a, .tup b => if D.fitL 63 a && D.fitL 63 b then ordD 64 (.tup a) (.tup b) else none
  | .le, .str a, .str b => some (!strLt b a)
  | .is, a, .non => some a.isNon
  | .isnot, a, .non => some (!a.isNon)
  | .is, .bl a, .bl b => some (a == b)
  | .isnot, .bl a, .bl b => some (!(a == b))
  | .inn, .str [c], .str s => some (s.contains c)
  | .notin, .str [c], .str s => some (!s.contains c)
  | .inn, a, .tup xs => if a.fit 64 && D.fitL 63 xs then some (xs.any fun x => x.eqv a) else none
  | .notin, a, .tup xs => if a.fit 64 && D.fitL 63 xs then some (!xs.any fun x => x.eqv a) else none
  | .inn, a, .lv _ xs => if a.fit 64 && D.fitL 63 xs then some (xs.any fun x => x.eqv a) else none
  | .notin, a, .lv _ xs => if a.fit 64 && D.fitL 63 xs then some (!xs.any fun x => x.eqv a) else none
  | _, _, _ => none

/-- the place that an index means -/
def ixN (n : Nat) (i : Int) : Option Nat := if 0 ≤ i then (if i < n then some i.toNat else none) else if -(n : Int) ≤ i then some (i + n).toNat else none
def atI {α : Type} (xs : List α) (i : Int) : Option α := (ixN xs.length i).bind fun j => xs[j]?
def idx2 : D → D → Option D
  | .tup xs, .int i => atI xs i
  | .lv _ xs, .int i => atI xs i
  | .str s, .int i => if s.length ≤ big then (atI s i).map fun c => .str [c] else none
  | .scr ns, .int i => (atI ns i).map .int
  | _, _ => none
def sIx (n d : Nat) : Option Int → Nat
  | none => d
  | some v => if v < 0 then (v + (n : Int)).toNat else min v.toNat n
def cut {α : Type} (xs : List α) (lo hi : Option Int) : List α := (xs.drop (sIx xs.length 0 lo)).take (sIx xs.length xs.length hi - sIx xs.length 0 lo)
def slc2 (lo hi : Option Int) : D → Option D
  | .tup xs => some (.tup (cut xs lo hi))
  | .lv _ xs => some (.lv true (cut xs lo hi))
  | .str s => if s.length ≤ big then some (.str (cut s lo hi)) else none
  | _ => none
def D.toInt : D → Option Int | .int i => some i | _ => none

inductive Ty where | int | bool | str | list | tuple
def isTy : Ty → D → Option Bool
  | _, .ref _ => none
  | _, .scr _ => none
  | .int, .int _ => some true
  | .int, .bl _ => some true
  | .bool, .bl _ => some true
  | .str, .str _ => some true
  | .list, .lv _ _ => some true
  | .tuple, .tup _ => some true
  | _, _ => some false
inductive BI where | len | tuple | list | int | abs | sum | max | min | revlist | rev1
def D.items : D → Option (List D)
  | .tup xs => some xs
  | .lv _ xs => some xs
  | _ => none
def maxI : List Int → Option Int
  | [] => none
  | a :: r => some (r.foldl (fun m x => if m < x then x else m) a)
def minI : List Int → Option Int
  | [] => none
  | a :: r => some (r.foldl (fun m x => if x < m then x else m) a)
def bi : BI → List D → Option D
  | .len, [.tup xs] => some (.int xs.length)
  | .len, [.lv _ xs] => some (.int xs.length)
  | .len, [.scr ns] => some (.int ns.length)
  | .len, [.str s] => if s.length ≤ big then some (.int s.length) else none
  | .tuple, [.tup xs] => some (.tup xs)
  | .tuple, [.lv _ xs] => some (.tup xs)
  | .list, [.tup xs] => some (.lv true xs)
  | .list, [.lv _ xs] => some (.lv true xs)
  | .int, [.int i] => some (.int i)
  | .int, [.bl b] => some (.int (if b then 1 else 0))
  | .abs, [.int i] => some (.int (if i < 0 then -i else i))
  | .sum, [.lv _ xs] => (intsOf xs).map fun ns => .int ns.sum
  | .max, [.lv _ xs] => (intsOf xs).bind fun ns => (maxI ns).map .int
  | .min, [.lv _ xs] => (intsOf xs).bind fun ns => (minI ns).map .int
  | .max, [.int a, .int b] => some (.int (if a < b then b else a))
  | .min, [.int a, .int b] => some (.int (if b < a then b else a))
  | .revlist, [.lv _ xs] => some (.lv true xs.reverse)
  | _, _ => none
/-- methods that change nothing -/
inductive BM where | join | find
def strsOf : List D → Option (List (List Nat))
  | [] => some []
  | .str i :: r => (strsOf r).map (i :: ·)
  | _ => none
def joinS (sep : List Nat) : List (List Nat) → List Nat
  | [] => []
  | [a] => a
  | a :: r => a ++ sep ++ joinS sep r
def findFrom (c : Nat) : List Nat → Nat → Int
  | [], _ => -1
  | x :: r, k => if x = c then (k : Int) else findFrom c r (k + 1)
def bm : BM → D → List D → Option D
  | .join, .str sep, [.lv _ xs] => (strsOf xs).bind fun ss => if (ss.map (·.length)).sum + sep.length * ss.length ≤ big then some (.str (joinS sep ss)) else none
  | .find, .str s, [.str [c], .int i] => if 0 ≤ i ∧ i ≤ s.length ∧ s.length ≤ big then some (.int (findFrom c (s.drop i.toNat) i.toNat)) else none
  | _, _, _ => none

def MO.lt (n : Nat) : MO → Bool
  | .lst xs => D.ltL n xs
  | .dct _ vs => D.ltL n vs
  | .dtp _ vs => D.ltL n vs
def joinU : Option Nat → Option Nat → Option Nat
  | none, b => b
  | some a, none => some a
  | some a, some b => some (min a b)
/-- a cell gets another object -/
def S.put (s : S) (n : Nat) (o : MO) : S := ⟨s.cells.set n o, s.base, if o.lt 0 then s.up else joinU s.up (some n)⟩
/-- a new cell for a list that is ours alone -/
def newCell : D → S → R D
  | .lv true xs, s => .ok (.ref s.cells.length) ⟨s.cells ++ [.lst xs], s.base, s.up⟩
  | _, _ => .bad
/-- an older object has come to hold what may be younger -/
def S.viol (t : S) : Bool := match t.up with | some l => decide (l < t.base) | none => false
/-- what a call made goes; what it made stays -/
def S.gone (s t : S) : S := ⟨t.cells.take t.base, s.base, s.up⟩
def S.stay (s t : S) : S := ⟨t.cells, s.base, joinU s.up t.up⟩
/-- behind a call: what it made goes, if nothing leads there -/
def norm (s : S) (d : D) (t : S) : R D :=
  if t.viol then .ok d (s.stay t)
  else match d with
    | .ref m => if m < t.base then .ok d (s.gone t)
      else match t.cells[m]? with
        | some (.lst xs) => if D.ltL t.base xs then .ok (.lv true xs) (s.gone t) else .ok d (s.stay t)
        | _ => .ok d (s.stay t)
    | _ => if d.lt t.base then .ok d (s.gone t) else .ok d (s.stay t)
def callR (f : List D → S → R D) (vs : List D) (s : S) : R D :=
  match f vs ⟨s.cells, s.cells.length, none⟩ with
  | .ok d t => norm s d t
  | .exc c t => .exc c (if t.viol then s.stay t else s.gone t)
  | .bad => .bad
/-- methods that change a list -/
inductive MM where | append | extend | pop
def mutI : MM → Nat → List D → List D → S → R D
  | .append, n, xs, [x], s => if xs.length < big then .ok .non (s.put n (.lst (xs ++ [x]))) else .bad
  | .extend, n, xs, [y], s => match y.rd s with
    | .lv _ ys => if xs.length + ys.length ≤ big then .ok .non (s.put n (.lst (xs ++ ys))) else .bad
    | _ => .bad
  | .pop, n, xs, [], s => match xs.getLast? with
    | some x => .ok x (s.put n (.lst xs.dropLast))
    | none => .bad
  | .pop, n, xs, [.int i], s => match ixN xs.length i with
    | some k => match xs[k]? with
      | some x => .ok x (s.put n (.lst (xs.eraseIdx k)))
      | none => .bad
    | none => .bad
  | _, _, _, _, _ => .bad
end L3
end

section -- I1
set_option autoImplicit false
namespace L3

/-- targets -/
inductive Tg where
  | nm (i : Nat) | tup (ts : List Tg)

mutual
inductive CE where
  | var (i : Nat) | con (d : D) | glob (d : D)
  | bin (op : Op2) (a b : CE) | neg (a : CE) | not (a : CE) | and (a b : CE) | or (a b : CE)
  | cmp (op : Cmp) (a b : CE) | chain (o1 o2 : Cmp) (a b c : CE) | ite (c a b : CE)
  | tup (xs : List CE) | lst (xs : List CE) | star (a : CE)
  | idx (a i : CE) | slc (a : CE) (lo hi : Option CE)
  | isa (a : CE) (t : Ty)
  | call (f : Nat) (xs : List CE) | bi (b : BI) (xs : List CE) | bm (m : BM) (o : CE) (xs : List CE) | mm (m : MM) (o : CE) (xs : List CE)
  | lc (elt : CE) (t : Tg) (src : Src) (ifs : List CE) (own : List Nat)
  | gen (all : Bool) (elt : CE) (t : Tg) (src : Src) (ifs : List CE) (own : List Nat)
  | cell (a : CE)
  | gin (neg : Bool) (a : CE) (kvs : List (List Nat × D)) | gix (kvs : List (List Nat × D)) (a : CE) | rev (a : CE) | maxd (a : CE) (k : Int)
  | kget (kvs : List (List Nat × D)) (a : CE) | dct (ks : List Ky) (vs : List D) | dix (a i : CE)
  | srev (a : CE) | dofp (a : CE) | lset (a : CE)
inductive Src where
  | seq (a : CE) | rng1 (a : CE) | rng2 (a b : CE) | enum (a : CE) | chars (a : CE)
end

/-- what stands behind an except clause -/
inductive Suite where
  | word (f : Nat) | con (d : D) | pass | cont

inductive CS where
  | asg (t : Tg) (e : CE) | aug (i : Nat) (op : Op2) (e : CE) | put (o i e : CE) | augp (o i : CE) (op : Op2) (e : CE) | expr (e : CE)
  | ret (e : CE) | retN | ite (c : CE) (a b : List CS) | whl (c : CE) (b : List CS) | forr (t : Tg) (src : Src) (b : List CS)
  | raise (c : Nat) | tryy (b : List CS) (c : Nat) (i : Option Nat) (h : Suite) | pass | brk | cont

mutual
def asg : Tg → D → Env → Option Env
  | .nm i, d, e => some (e.set i (some d.frz))
  | .tup ts, d, e => match d with
    | .tup xs => asgs ts xs e
    | .lv _ xs => asgs ts xs e
    | _ => none
def asgs : List Tg → List D → Env → Option Env
  | [], [], e => some e
  | t :: ts, x :: xs, e => (asg t x e).bind fun e' => asgs ts xs e'
  | _, _, _ => none
end
def wipe (e : Env) : List Nat → Env
  | [] => e
  | v :: vs => (wipe e vs).set v none
def getV (e : Env) (i : Nat) : Option D := match e[i]? with | some (some d) => some d | _ => none

/-- what a loop goes over: fixed items, or a list in the store -/
inductive It where
  | fix (xs : List D) | at (n : Nat)
/-- a comprehension: each item hands on nothing or one more -/
def lcL (f : D → S → R (Option D)) : List D → List D → S → R D
  | [], acc, s => .ok (.lv true acc) s
  | x :: r, acc, s => (f x s).bind fun o s => match o with
    | some d => if acc.length < big then lcL f r (acc ++ [d.frz]) s else .bad
    | none => lcL f r acc s
def lcC (f : D → S → R (Option D)) (n : Nat) : Nat → Nat → List D → S → R D
  | 0, _, _, _ => .bad
  | k + 1, i, acc, s => match s.cells[n]? with
    | some (.lst xs) => match xs[i]? with
      | none => .ok (.lv true acc) s
      | some x => (f x s).bind fun o s => match o with
        | some d => if acc.length < big then lcC f n k (i + 1) (acc ++ [d.frz]) s else .bad
        | none => lcC f n k (i + 1) acc s
    | _ => .bad
/-- all (any): the first item that tells ends it -/
def geL (all : Bool) (f : D → S → R (Option Bool)) : List D → S → R D
  | [], s => .ok (.bl all) s
  | x :: r, s => (f x s).bind fun o s => match o with
    | some b => if b == all then geL all f r s else .ok (.bl (!all)) s
    | none => geL all f r s
def geC (all : Bool) (f : D → S → R (Option Bool)) (n : Nat) : Nat → Nat → S → R D
  | 0, _, _ => .bad
  | k + 1, i, s => match s.cells[n]? with
    | some (.lst xs) => match xs[i]? with
      | none => .ok (.bl all) s
      | some x => (f x s).bind fun o s => match o with
        | some b => if b == all then geC all f n k (i + 1) s else .ok (.bl (!all)) s
        | none => geC all f n k (i + 1) s
    | _ => .bad
def cellLen (s : S) (n : Nat) : Nat := match s.cells[n]? with | some (.lst xs) => xs.length | _ => 0
def lcI (f : D → S → R (Option D)) (it : It) (s : S) : R D := match it with
  | .fix xs => lcL f xs [] s
  | .at n => lcC f n (cellLen s n + 1) 0 [] s
def geI (all : Bool) (f : D → S → R (Option Bool)) (it : It) (s : S) : R D := match it with
  | .fix xs => geL all f xs s
  | .at n => geC all f n (cellLen s n + 1) 0 s

def seqOf (s : S) : D → Option It
  | .tup xs => some (.fix xs)
  | .lv _ xs => some (.fix xs)
  | .ref n => match s.cells[n]? with
    | some (.lst _) => some (.at n)
    | _ => none
  | .scr ns => some (.fix (ns.map .int))
  | .str z => some (.fix (z.map fun c => .str [c]))
  | _ => none
def rng (a b : Int) : Option It := if a.natAbs < 4611686018427387904 ∧ b.natAbs < 4611686018427387904 then some (.fix ((List.range (b - a).toNat).map fun (i : Nat) => .int (a + (i : Int)))) else none
def enumL (xs : List D) : List D := xs.zipIdx.map fun p => .tup [.int p.2, p.1]
def enumOf : D → Option It
  | .tup xs => some (.fix (enumL xs))
  | .lv _ xs => some (.fix (enumL xs))
  | _ => none
def charsOf : D → Option It
  | .str s => some (.fix (s.map fun c => .str [c]))
  | _ => none
def D.bool : D → Option Bool | .bl b => some b | _ => none

def strOf : D → Option (List Nat)
  | .str z => some z
  | _ => none
def cellOf (x : D) (s : S) : Option Nat := match x with
  | .ref n => match s.cells[n]? with
    | some (.lst _) => some n
    | _ => none
  | _ => none
def mmS (m : MM) (n : Nat) (ds : List D) (s : S) : R D := match s.cells[n]? with
  | some (.lst ys) => mutI m n ys ds s
  | _ => .bad

def maxdOf : D → Int → Option D
  | .lv _ xs, k => (intsOf xs).map fun ns => .int ((maxI ns).getD k)
  | _, _ => none
def revOf : D → Option D
  | .lv _ xs => some (.lv true xs.reverse)
  | _ => none
/-- keys and dicts in the store -/
def keyD : D → Option Ky
  | .int i => some (.inl i)
  | .str z => some (.inr z)
  | _ => none
def lkD : List Ky → List D → Ky → Option D
  | k :: ks, v :: vs, x => if k = x then some v else lkD ks vs x
  | _, _, _ => none
def keysD : List D → Option (List Ky)
  | [] => some []
  | d :: r => (keyD d).bind fun k => (keysD r).map (k :: ·)
def keyT : D → Option (List Ky)
  | .tup (.str _ :: _) => none
  | .tup (.int _ :: .str _ :: _) => none
  | .tup xs => keysD xs
  | _ => none
def lkP : List (List Ky) → List D → List Ky → Option D
  | k :: ks, v :: vs, x => if k = x then some v else lkP ks vs x
  | _, _, _ => none
/-- pairs: keys that are tuples, and what is there -/
def pairsP : List D → Option (List (List Ky) × List D)
  | [] => some ([], [])
  | .tup [k, v] :: r => (keyT k).bind fun k => (pairsP r).map fun q => (k :: q.1, v :: q.2)
  | _ => none
def dofpOf (x : D) (s : S) : R D := match x with
  | .lv _ xs => match pairsP xs with
    | some (ks, vs) => if ks.Nodup then .ok (.ref s.cells.length) ⟨s.cells ++ [.dtp ks vs], s.base, s.up⟩ else .bad
    | none => .bad
  | _ => .bad
/-- tuples of keys; how many are different -/
def keysT : List D → Option (List (List Ky))
  | [] => some []
  | .tup xs :: r => (keysD xs).bind fun k => (keysT r).map (k :: ·)
  | _ => none
def ndis {α : Type} [DecidableEq α] : List α → Nat
  | [] => 0
  | x :: r => (if x ∈ r then 0 else 1) + ndis r
def lsetOf : D → Option D
  | .lv _ xs => (keysT xs).bind fun ks => if ks.length < 64 then some (.int (ndis ks)) else none
  | _ => none
/-- an item of a list in the store -/
def getC (s : S) : D → D → Option D
  | .ref n, .int k => match s.cells[n]? with
    | some (.lst xs) => (ixN xs.length k).bind fun j => xs[j]?
    | _ => none
  | _, _ => none
def putC (s : S) (r : D) : D → D → Option S
  | .ref n, .int k => match s.cells[n]? with
    | some (.lst xs) => (ixN xs.length k).map fun j => s.put n (.lst (xs.set j r))
    | _ => none
  | _, _ => none
def srevOf : D → Option D
  | .tup xs => some (.tup xs.reverse)
  | _ => none
def dixOf (x y : D) (s : S) : Option D := match x with
  | .ref n => match s.cells[n]? with
    | some (.dct ks vs) => (keyD y).bind fun k => lkD ks vs k
    | some (.dtp ks vs) => (keyT y).bind fun k => lkP ks vs k
    | _ => none
  | _ => none
variable (C : Nat → List D → S → R D)
mutual
def ev : CE → Env → S → R D
  | .var i, e, s => R.opt (getV e i) s
  | .con d, _, s => .ok d s
  | .glob d, _, s => .ok d s
  | .bin op a b, e, s => (ev a e s).bind fun x s => (ev b e s).bind fun y s => R.opt (bin2 op (x.rd s) (y.rd s)) s
  | .neg a, e, s => (ev a e s).bind fun x s => R.opt (x.toInt.map fun i => .int (-i)) s
  | .not a, e, s => (ev a e s).bind fun x s => R.opt (x.bool.map fun b => .bl (!b)) s
  | .and a b, e, s => (ev a e s).bind fun x s => (R.opt x.bool s).bind fun t s => if t then ev b e s else .ok (.bl false) s
  | .or a b, e, s => (ev a e s).bind fun x s => (R.opt x.bool s).bind fun t s => if t then .ok (.bl true) s else ev b e s
  | .cmp op a b, e, s => (ev a e s).bind fun x s => (ev b e s).bind fun y s => R.opt ((cmp2 op (x.rd s) (y.rd s)).map .bl) s
  | .chain o1 o2 a b c, e, s => (ev a e s).bind fun x s => (ev b e s).bind fun y s => (R.opt (cmp2 o1 (x.rd s) (y.rd s)) s).bind fun t s =>
      if t then (ev c e s).bind fun z s => R.opt ((cmp2 o2 (y.rd s) (z.rd s)).map .bl) s else .ok (.bl false) s
  | .ite c a b, e, s => (ev c e s).bind fun x s => (R.opt x.bool s).bind fun t s => if t then ev a e s else ev b e s
  | .tup xs, e, s => (evs xs e s).bind fun ds s => R.chk (decide (ds.length ≤ big)) (.ok (.tup ds) s)
  | .lst xs, e, s => (evs xs e s).bind fun ds s => R.chk (decide (ds.length ≤ big)) (.ok (.lv true ds) s)
  | .star _, _, _ => .bad
  | .idx a i, e, s => (ev a e s).bind fun x s => (ev i e s).bind fun y s => R.opt (idx2 (x.rd s) y) s
  | .slc a lo hi, e, s => (ev a e s).bind fun x s => (evo lo e s).bind fun l s => (evo hi e s).bind fun h s => R.opt (slc2 l h (x.rd s)) s
  | .isa a t, e, s => (ev a e s).bind fun x s => R.opt ((isTy t (x.rd s)).map .bl) s
  | .call f xs, e, s => (evs xs e s).bind fun ds s => callR (C f) ds s
  | .bi b xs, e, s => (evs xs e s).bind fun ds s => R.opt (bi b (ds.map (·.rd s))) s
  | .bm m o xs, e, s => (ev o e s).bind fun x s => (R.opt (strOf x) s).bind fun z s => (evs xs e s).bind fun ds s => R.opt (bm m (.str z) (ds.map (·.rd s))) s
  | .mm m o xs, e, s => (ev o e s).bind fun x s => (R.opt (cellOf x s) s).bind fun n s => (evs xs e s).bind fun ds s => mmS m n ds s
  | .lc elt t src ifs own, e, s => (items src e s).bind fun it s => lcI (fun x s => match asg t x (wipe e own) with
      | none => .bad
      | some e1 => ((tests ifs e1 s).bind fun b s => if b then (ev elt e1 s).bind fun d s => .ok (some d) s else .ok none s).nox) it s
  | .gen all elt t src ifs own, e, s => (items src e s).bind fun it s => geI all (fun x s => match asg t x (wipe e own) with
      | none => .bad
      | some e1 => ((tests ifs e1 s).bind fun b s => if b then (ev elt e1 s).bind fun d s => (R.opt d.bool s).bind fun b s => .ok (some b) s else .ok none s).nox) it s
  | .cell a, e, s => (ev a e s).bind fun x s => newCell x s
  | .gin neg a kvs, e, s => (ev a e s).bind fun x s => R.opt ((strOf x).map fun z => .bl (if neg then !(kvs.lookup z).isSome else (kvs.lookup z).isSome)) s
  | .gix kvs a, e, s => (ev a e s).bind fun x s => R.opt ((strOf x).bind fun z => kvs.lookup z) s
  | .rev a, e, s => (ev a e s).bind fun x s => R.opt (revOf (x.rd s)) s
  | .maxd a k, e, s => (ev a e s).bind fun x s => R.opt (maxdOf (x.rd s) k) s
  | .kget kvs a, e, s => (ev a e s).bind fun x s => R.opt ((strOf x).map fun z => (kvs.lookup z).getD .non) s
  | .dct ks vs, _, s => .ok (.ref s.cells.length) ⟨s.cells ++ [.dct ks vs], s.base, s.up⟩
  | .dix a i, e, s => (ev a e s).bind fun x s => (ev i e s).bind fun y s => R.opt (dixOf x y s) s
  | .srev a, e, s => (ev a e s).bind fun x s => R.opt (srevOf x) s
  | .dofp a, e, s => (ev a e s).bind fun x s => dofpOf (x.rd s) s
  | .lset a, e, s => (ev a e s).bind fun x s => R.opt (lsetOf (x.rd s)) s
/-- arguments, items: lists are everybody's -/
def evs : List CE → Env → S → R (List D)
  | [], _, s => .ok [] s
  | .star a :: r, e, s => (ev a e s).bind fun x s => (R.opt (x.rd s).items s).bind fun xs s => (evs r e s).bind fun ys s => .ok (xs ++ ys) s
  | a :: r, e, s => (ev a e s).bind fun x s => (evs r e s).bind fun ys s => .ok (x.frz :: ys) s
def evo : Option CE → Env → S → R (Option Int)
  | none, _, s => .ok none s
  | some a, e, s => (ev a e s).bind fun x s => (R.opt x.toInt s).bind fun i s => .ok (some i) s
def tests : List CE → Env → S → R Bool
  | [], _, s => .ok true s
  | c :: r, e, s => (ev c e s).bind fun x s => (R.opt x.bool s).bind fun b s => if b then tests r e s else .ok false s
def items : Src → Env → S → R It
  | .seq a, e, s => (ev a e s).bind fun x s => R.opt (seqOf s x) s
  | .rng1 a, e, s => (ev a e s).bind fun x s => R.opt (x.toInt.bind fun i => rng 0 i) s
  | .rng2 a b, e, s => (ev a e s).bind fun x s => (ev b e s).bind fun y s => R.opt (x.toInt.bind fun i => y.toInt.bind fun j => rng i j) s
  | .enum a, e, s => (ev a e s).bind fun x s => R.opt (enumOf x) s
  | .chars a, e, s => (ev a e s).bind fun x s => R.opt (charsOf x) s
end

inductive F where
  | nx (e : Env) (s : S) | bk (e : Env) (s : S) | ct (e : Env) (s : S) | rt (d : D) (s : S) | ex (c : Nat) (e : Env) (s : S) | bad
def F.of {α : Type} (r : R α) (e : Env) (k : α → S → F) : F := match r with
  | .ok a s => k a s
  | .exc c s => .ex c e s
  | .bad => .bad
@[simp] theorem F.of_ok {α : Type} (a : α) (s : S) (e : Env) (k : α → S → F) : F.of (.ok a s) e k = k a s := rfl
@[simp] theorem F.of_exc {α : Type} (c : Nat) (s : S) (e : Env) (k : α → S → F) : F.of (.exc c s : R α) e k = .ex c e s := rfl
@[simp] theorem F.of_bad {α : Type} (e : Env) (k : α → S → F) : F.of (.bad : R α) e k = .bad := rfl
def F.next (f : F) (k : Env → S → F) : F := match f with
  | .nx e s => k e s
  | f => f
@[simp] theorem F.next_nx (e : Env) (s : S) (k : Env → S → F) : (F.nx e s).next k = k e s := rfl
@[simp] theorem F.next_rt (d : D) (s : S) (k : Env → S → F) : (F.rt d s).next k = .rt d s := rfl
@[simp] theorem F.next_ex (c : Nat) (e : Env) (s : S) (k : Env → S → F) : (F.ex c e s).next k = .ex c e s := rfl
@[simp] theorem F.next_bad (k : Env → S → F) : F.bad.next k = .bad := rfl
@[simp] theorem F.next_bk (e : Env) (s : S) (k : Env → S → F) : (F.bk e s).next k = .bk e s := rfl
@[simp] theorem F.next_ct (e : Env) (s : S) (k : Env → S → F) : (F.ct e s).next k = .ct e s := rfl
/-- behind a loop's turn -/
def F.turn (f : F) (k : Env → S → F) : F := match f with
  | .nx e s => k e s
  | .ct e s => k e s
  | .bk e s => .nx e s
  | f => f
@[simp] theorem F.turn_nx (e : Env) (s : S) (k : Env → S → F) : (F.nx e s).turn k = k e s := rfl
@[simp] theorem F.turn_ct (e : Env) (s : S) (k : Env → S → F) : (F.ct e s).turn k = k e s := rfl
@[simp] theorem F.turn_bk (e : Env) (s : S) (k : Env → S → F) : (F.bk e s).turn k = .nx e s := rfl
@[simp] theorem F.turn_rt (d : D) (s : S) (k : Env → S → F) : (F.rt d s).turn k = .rt d s := rfl
@[simp] theorem F.turn_ex (c : Nat) (e : Env) (s : S) (k : Env → S → F) : (F.ex c e s).turn k = .ex c e s := rfl
@[simp] theorem F.turn_bad (k : Env → S → F) : F.bad.turn k = .bad := rfl

def aug2 : Op2 → D → D → Option D
  | .add, .int a, .int b => some (.int (a + b))
  | .sub, .int a, .int b => some (.int (a - b))
  | _, _, _ => none
def foL (f : D → Env → S → F) : List D → Env → S → F
  | [], e, s => .nx e s
  | x :: r, e, s => (f x e s).turn fun e s => foL f r e s
def foC (f : D → Env → S → F) (n : Nat) : Nat → Nat → Env → S → F
  | 0, _, _, _ => .bad
  | k + 1, i, e, s => match s.cells[n]? with
    | some (.lst xs) => match xs[i]? with
      | none => .nx e s
      | some x => (f x e s).turn fun e s => foC f n k (i + 1) e s
    | _ => .bad
def foI (f : D → Env → S → F) (it : It) (e : Env) (s : S) : F := match it with
  | .fix xs => foL f xs e s
  | .at n => foC f n (cellLen s n + 1) 0 e s
def whI (c : Env → S → R Bool) (b : Env → S → F) : Nat → Env → S → F
  | 0, _, _ => .bad
  | k + 1, e, s => F.of (c e s) e fun t s => if t then (b e s).turn fun e s => whI c b k e s else .nx e s
/-- exception classes: 0 the base, 1 OutOfRange, 2 Malformed, 3 NotThere, 4 Refused, 5 TooMuch -/
def subX (c k : Nat) : Bool := k == 0 || c == k
def wordX : Nat → List Nat
  | 1 => [114, 97, 110, 103, 101]
  | 2 => [102, 111, 114, 109]
  | 3 => [110, 111, 110, 101]
  | 4 => [114, 101, 102, 117, 115, 101, 100]
  | 5 => [109, 117, 99, 104]
  | _ => [109, 97, 110, 121]
def suite (h : Suite) (c : Nat) (e : Env) (s : S) : F := match h with
  | .word _ => .rt (.str (wordX c)) s
  | .con d => .rt d s
  | .pass => .nx e s
  | .cont => .ct e s
def clr (i : Option Nat) (e : Env) : Env := match i with | some i => e.set i none | none => e

variable (w : Nat)
mutual
def ex : CS → Env → S → F
  | .asg t x, e, s => F.of (ev C x e s) e fun d s => match asg t d e with
      | some e' => .nx e' s
      | none => .bad
  | .aug i op x, e, s => match getV e i with
      | some a => F.of (ev C x e s) e fun d s => match aug2 op a d with
        | some r => .nx (e.set i (some r)) s
        | none => .bad
      | none => .bad
  | .put o i x, e, s => F.of (ev C x e s) e fun d s => F.of (ev C o e s) e fun a s => F.of (ev C i e s) e fun k s => match a, k with
      | .ref n, .int k => match s.cells[n]? with
        | some (.lst xs) => match ixN xs.length k with
          | some j => .nx e (s.put n (.lst (xs.set j d.frz)))
          | none => .bad
        | _ => .bad
      | _, _ => .bad
  | .augp o i op x, e, s => F.of (ev C o e s) e fun a s => F.of (ev C i e s) e fun k s => match getC s a k with
      | some old => F.of (ev C x e s) e fun d s => match (aug2 op old d).bind fun r => putC s r a k with
        | some s => .nx e s
        | none => .bad
      | none => .bad
  | .expr x, e, s => F.of (ev C x e s) e fun _ s => .nx e s
  | .ret x, e, s => F.of (ev C x e s) e fun d s => .rt d s
  | .retN, _, s => .rt .non s
  | .ite c a b, e, s => F.of (ev C c e s) e fun d s => match d.bool with
      | some true => exs a e s
      | some false => exs b e s
      | none => .bad
  | .whl c b, e, s => whI (fun e s => (ev C c e s).bind fun d s => R.opt d.bool s) (fun e s => exs b e s) w e s
  | .forr t src b, e, s => F.of (items C src e s) e fun it s => foI (fun x e s => match asg t x e with
      | some e' => exs b e' s
      | none => .bad) it e s
  | .raise c, e, s => .ex c e s
  | .tryy b c i h, e, s => match exs b e s with
      | .ex k e' s' => if k ≤ 5 then (if subX k c then (match suite h k e' s' with
          | .nx e s => .nx (clr i e) s
          | .ct e s => .ct (clr i e) s
          | f => f) else .ex k e' s') else .bad
      | f => f
  | .pass, e, s => .nx e s
  | .brk, e, s => .bk e s
  | .cont, e, s => .ct e s
def exs : List CS → Env → S → F
  | [], e, s => .nx e s
  | x :: r, e, s => (ex x e s).next fun e s => exs r e s
end

/-- a def: how many names beyond the parameters, its body -/
structure Fn where
  par : Nat
  more : Nat
  body : List CS
def run (f : Fn) (vs : List D) (s : S) : R D := if vs.length = f.par then match exs C w f.body (vs.map some ++ List.replicate f.more none) s with
  | .nx _ s => .ok .non s
  | .rt d s => .ok d s
  | .ex c _ s => .exc c s
  | _ => .bad
  else .bad
/-- calls in one another to the depth n -/
def calls (fs : Array Fn) (w : Nat) : Nat → Nat → List D → S → R D
  | 0, _, _, _ => .bad
  | n + 1, f, vs, s => match fs[f]? with
    | some b => run (calls fs w n) w b vs s
    | none => .bad
end L3
end

section -- I2
set_option autoImplicit false
set_option linter.all false
set_option maxRecDepth 100000
namespace L3
open PySem PySem.Spec PyProof.Rows L2

def toS (s : List Nat) : Str := ⟨s.toArray⟩
abbrev Fr := PySem.W.Frag
/-- where the numbered objects stand; addresses that no list by value has -/
structure Rh where
  f : Nat → Addr
  av : List Addr
instance : CoeFun Rh (fun _ => Nat → Addr) := ⟨Rh.f⟩

/-- the script stands there -/
def ScrAt (K : Fr) (H : Hp) (a : Addr) (vs : List V) : Prop := (∃ o, H a = some (.frz o (.lst vs))) ∨
    ∃ (o : Obj) (its : Array Value) (n : Nat), K.lookup a = some o ∧ o.cls = .type "list" ∧ o.dict = none ∧ o.data = .seq its n ∧ its.size ≤ sizeLine ∧ Vals vs its.toList
theorem ScrAt.sq {K : Fr} {H : Hp} {a : Addr} {vs : List V} (h : ScrAt K H a vs) : SqL K H a vs := h.elim (fun h => .inl (.inr h)) .inr
/-- a tuple stands there -/
def CsT (K : Fr) (a : Addr) (vs : List V) : Prop := ∃ (o : Obj) (its : Array Value) (n : Nat), K.lookup a = some o ∧ o.cls = .type "tuple" ∧ o.data = .seq its n ∧ its.size ≤ sizeLine ∧ Vals vs its.toList
/-- how a constant tuple of the module begins -/
def HdT : List V → Prop
  | .str _ :: _ => True
  | .int _ :: .str _ :: _ => True
  | _ => False
/-- .. made here, or a constant of the module -/
def TpK (K : Fr) (H : Hp) (a : Addr) (vs : List V) : Prop := H a = some (.tup vs) ∨ (CsT K a vs ∧ HdT vs)
theorem TpK.of {K : Fr} {H : Hp} {a : Addr} {vs : List V} (h : H a = some (.tup vs)) : TpK K H a vs := .inl h
theorem TpK.sq {K : Fr} {H : Hp} {a : Addr} {vs : List V} (h : TpK K H a vs) : SqT K H a vs := h.elim (fun h => .inl (.inl h)) fun h => .inr h.1
mutual
/-- a value is the data; n numbers at ρ; x: an address that no list by value has -/
inductive Rel (K : Fr) (ρ : Rh) (n : Nat) (x : Option Addr) (H : Hp) : D → V → Prop where
  | non : Rel K ρ n x H .non .non
  | bl (b : Bool) : Rel K ρ n x H (.bl b) (.bl b)
  | int (i : Int) : Rel K ρ n x H (.int i) (.int i)
  | str (s : List Nat) : Rel K ρ n x H (.str s) (.str (toS s))
  | tup {xs : List D} {a : Addr} {vs : List V} : TpK K H a vs → RelL K ρ n x H xs vs → Rel K ρ n x H (.tup xs) (.ref a)
  | scr {ns : List Int} {a : Addr} : ScrAt K H a (ns.map V.int) → Rel K ρ n x H (.scr ns) (.ref a)
  | lv {xs : List D} {a : Addr} {vs : List V} : H a = some (.lst vs) → (∀ i, i < n → ρ i ≠ a) → x ≠ some a → a ∉ ρ.av → RelL K ρ n x H xs vs → Rel K ρ n x H (.lv false xs) (.ref a)
  | ref {i : Nat} : i < n → Rel K ρ n x H (.ref i) (.ref (ρ i))
inductive RelL (K : Fr) (ρ : Rh) (n : Nat) (x : Option Addr) (H : Hp) : List D → List V → Prop where
  | nil : RelL K ρ n x H [] []
  | cons {d : D} {v : V} {ds : List D} {vs : List V} : Rel K ρ n x H d v → RelL K ρ n x H ds vs → RelL K ρ n x H (d :: ds) (v :: vs)
end

def NoTbl : HO → Prop
  | .tbl _ => False
  | _ => True

abbrev S.n (s : S) : Nat := s.cells.length
/-- from a state to a later one -/
structure Ext (K : Fr) (ρ : Rh) (H : Hp) (s : S) (ρ' : Rh) (H' : Hp) (s' : S) : Prop where
  base : s'.base = s.base
  av : ρ'.av = ρ.av
  le : s.n ≤ s'.n
  same : ∀ i, i < s.n → ρ' i = ρ i
  keep : ∀ a o, H a = some o → (∀ i, i < s.n → ρ i ≠ a) → NoTbl o → H' a = some o
  fresh : ∀ i, s.n ≤ i → i < s'.n → H (ρ' i) = none
  there : ∀ a, H a ≠ none → H' a ≠ none
  upm : ∀ l, s.up = some l → ∃ l', s'.up = some l' ∧ l' ≤ l
  chg : ∀ (i : Nat) (o o' : MO), s.cells[i]? = some o → s'.cells[i]? = some o' → o' = o ∨ o'.lt 0 = true ∨ ∃ l, s'.up = some l ∧ l ≤ i

def toK : Ky → L2.Key
  | .inl i => .inl i
  | .inr z => .inr (toS z)
def CellRel (K : Fr) (ρ : Rh) (n : Nat) (x : Option Addr) (H : Hp) (a : Addr) : MO → Prop
  | .lst xs => ∃ vs, H a = some (.lst vs) ∧ RelL K ρ n x H xs vs
  | .dct ks xs => ∃ vs, H a = some (.dK ((ks.map toK).zip vs)) ∧ ks.length = xs.length ∧ RelL K ρ n x H xs vs
  | .dtp ks xs => ∃ vs, H a = some (.dT ((ks.map (List.map toK)).zip vs)) ∧ ks.length = xs.length ∧ RelL K ρ n x H xs vs

/-- the store stands in the heap; Ps: tables of code objects -/
structure Good (K : Fr) (Ps : List Addr) (ρ : Rh) (x : Option Addr) (H : Hp) (s : S) : Prop where
  inj : ∀ i j, i < s.n → j < s.n → ρ i = ρ j → i = j
  cell : ∀ i o, s.cells[i]? = some o → CellRel K ρ s.n x H (ρ i) o
  clean : ∀ i o, i < s.base → s.cells[i]? = some o → (∀ l, s.up = some l → i < l) → o.lt s.base = true
  bl : s.base ≤ s.n
  tb : ∀ P ∈ Ps, ∃ ps : Array Value, H P = some (.tbl ps) ∧ TriplesOk ps.toList
  xt : ∀ a ∈ ρ.av, H a ≠ none

section
variable {K : Fr} {Ps : List Addr} {ρ ρ' ρ1 ρ2 : Rh} {n n' : Nat} {x y : Option Addr} {H H' H1 H2 : Hp} {s s' s1 s2 : S} {d : D} {v : V} {ds : List D} {vs : List V} {a : Addr} {o : HO}

theorem RelL.length : ∀ {ds : List D} {vs : List V}, RelL K ρ n x H ds vs → ds.length = vs.length
  | _, _, .nil => rfl
  | _, _, .cons _ t => by simp [RelL.length t]
theorem RelL.get : ∀ {ds : List D} {vs : List V} {i : Nat} {d : D}, RelL K ρ n x H ds vs → ds[i]? = some d → ∃ v, vs[i]? = some v ∧ Rel K ρ n x H d v
  | _, _, 0, _, .cons r _, e => by simp at e; subst e; exact ⟨_, rfl, r⟩
  | _, _, i + 1, _, .cons _ t, e => by
    obtain ⟨v, h1, h2⟩ := RelL.get (i := i) t (by simpa using e)
    exact ⟨v, by simpa using h1, h2⟩
  | _, _, _, _, .nil, e => by simp at e
theorem RelL.append : ∀ {ds es : List D} {vs us : List V}, RelL K ρ n x H ds vs → RelL K ρ n x H es us → RelL K ρ n x H (ds ++ es) (vs ++ us)
  | _, _, _, _, .nil, q => q
  | _, _, _, _, .cons r t, q => .cons r (RelL.append t q)
theorem RelL.drop : ∀ {ds : List D} {vs : List V} (i : Nat), RelL K ρ n x H ds vs → RelL K ρ n x H (ds.drop i) (vs.drop i)
  | _, _, 0, q => q
  | _, _, _ + 1, .nil => .nil
  | _, _, i + 1, .cons _ t => RelL.drop i t
theorem RelL.take : ∀ {ds : List D} {vs : List V} (i : Nat), RelL K ρ n x H ds vs → RelL K ρ n x H (ds.take i) (vs.take i)
  | _, _, 0, q => .nil
  | _, _, _ + 1, .nil => .nil
  | _, _, i + 1, .cons r t => .cons r (RelL.take i t)
theorem RelL.set : ∀ {ds : List D} {vs : List V} (i : Nat) {d : D} {v : V}, Rel K ρ n x H d v → RelL K ρ n x H ds vs → RelL K ρ n x H (ds.set i d) (vs.set i v)
  | _, _, _, _, _, _, .nil => .nil
  | _, _, 0, _, _, r, .cons _ t => .cons r t
  | _, _, i + 1, _, _, r, .cons q t => .cons q (RelL.set i r t)
theorem RelL.snoc {ds : List D} {vs : List V} (h : RelL K ρ n x H ds vs) (r : Rel K ρ n x H d v) : RelL K ρ n x H (ds ++ [d]) (vs ++ [v]) := h.append (.cons r .nil)
theorem RelL.reverse : ∀ {ds : List D} {vs : List V}, RelL K ρ n x H ds vs → RelL K ρ n x H ds.reverse vs.reverse
  | _, _, .nil => .nil
  | _, _, .cons r t => by rw [List.reverse_cons, List.reverse_cons]; exact (RelL.reverse t).snoc r

mutual
theorem Rel.map (hn : ∀ i, i < n → i < n' ∧ ρ' i = ρ i) (hT : ∀ a vs, TpK K H a vs → TpK K H' a vs) (hS : ∀ a vs, ScrAt K H a vs → ScrAt K H' a vs) (hL : ∀ a vs, H a = some (.lst vs) → (∀ i, i < n → ρ i ≠ a) → x ≠ some a → a ∉ ρ.av → H' a = some (.lst vs) ∧ (∀ i, i < n' → ρ' i ≠ a) ∧ y ≠ some a ∧ a ∉ ρ'.av) :
    ∀ {d : D} {v : V}, Rel K ρ n x H d v → Rel K ρ' n' y H' d v
  | _, _, .non => .non
  | _, _, .bl b => .bl b
  | _, _, .int i => .int i
  | _, _, .str s => .str s
  | _, _, .tup h r => .tup (hT _ _ h) (RelL.map hn hT hS hL r)
  | _, _, .scr h => .scr (hS _ _ h)
  | _, _, .lv h1 h2 h3 h4 r => let ⟨q1, q2, q3, q4⟩ := hL _ _ h1 h2 h3 h4; .lv q1 q2 q3 q4 (RelL.map hn hT hS hL r)
  | _, _, .ref h => by rw [← (hn _ h).2]; exact .ref (hn _ h).1
theorem RelL.map (hn : ∀ i, i < n → i < n' ∧ ρ' i = ρ i) (hT : ∀ a vs, TpK K H a vs → TpK K H' a vs) (hS : ∀ a vs, ScrAt K H a vs → ScrAt K H' a vs) (hL : ∀ a vs, H a = some (.lst vs) → (∀ i, i < n → ρ i ≠ a) → x ≠ some a → a ∉ ρ.av → H' a = some (.lst vs) ∧ (∀ i, i < n' → ρ' i ≠ a) ∧ y ≠ some a ∧ a ∉ ρ'.av) :
    ∀ {d : List D} {v : List V}, RelL K ρ n x H d v → RelL K ρ' n' y H' d v
  | _, _, .nil => .nil
  | _, _, .cons r t => .cons (Rel.map hn hT hS hL r) (RelL.map hn hT hS hL t)
end
mutual
theorem Rel.shrink {m : Nat} (hm : m ≤ n) : ∀ {d : D} {v : V}, Rel K ρ n x H d v → D.lt m d = true → Rel K ρ m x H d v
  | _, _, .non, _ => .non
  | _, _, .bl b, _ => .bl b
  | _, _, .int i, _ => .int i
  | _, _, .str s, _ => .str s
  | _, _, .scr h, _ => .scr h
  | _, _, .tup h r, e => .tup h (RelL.shrink hm r (by simpa [D.lt] using e))
  | _, _, .lv h1 h2 h3 h4 r, e => .lv h1 (fun i hi => h2 i (Nat.lt_of_lt_of_le hi hm)) h3 h4 (RelL.shrink hm r (by simpa [D.lt] using e))
  | _, _, .ref h, e => .ref (by simpa [D.lt] using e)
theorem RelL.shrink {m : Nat} (hm : m ≤ n) : ∀ {d : List D} {v : List V}, RelL K ρ n x H d v → D.ltL m d = true → RelL K ρ m x H d v
  | _, _, .nil, _ => .nil
  | _, _, .cons r t, e => by
    simp only [D.ltL, D.lt.ltL, Bool.and_eq_true] at e
    exact .cons (Rel.shrink hm r e.1) (RelL.shrink hm t e.2)
end
mutual
theorem Rel.ltn : ∀ {d : D} {v : V}, Rel K ρ n x H d v → D.lt n d = true
  | _, _, .non => rfl
  | _, _, .bl b => rfl
  | _, _, .int i => rfl
  | _, _, .str s => rfl
  | _, _, .scr h => rfl
  | _, _, .tup h r => by simpa [D.lt] using RelL.ltn r
  | _, _, .lv h1 h2 h3 h4 r => by simpa [D.lt] using RelL.ltn r
  | _, _, .ref h => by simpa [D.lt] using h
theorem RelL.ltn : ∀ {d : List D} {v : List V}, RelL K ρ n x H d v → D.ltL n d = true
  | _, _, .nil => rfl
  | _, _, .cons r t => by simp [D.ltL, D.lt.ltL, Rel.ltn r]; exact RelL.ltn t
end
mutual
/-- another address is avoided: it is not there at all -/
theorem Rel.avoid (hy : ∀ a, y = some a → H a = none) : ∀ {d : D} {v : V}, Rel K ρ n x H d v → Rel K ρ n y H d v
  | _, _, .non => .non
  | _, _, .bl b => .bl b
  | _, _, .int i => .int i
  | _, _, .str s => .str s
  | _, _, .scr h => .scr h
  | _, _, .tup h r => .tup h (RelL.avoid hy r)
  | _, _, .lv h1 h2 h3 h4 r => .lv h1 h2 (fun e => by rw [hy _ e] at h1; cases h1) h4 (RelL.avoid hy r)
  | _, _, .ref h => .ref h
theorem RelL.avoid (hy : ∀ a, y = some a → H a = none) : ∀ {d : List D} {v : List V}, RelL K ρ n x H d v → RelL K ρ n y H d v
  | _, _, .nil => .nil
  | _, _, .cons r t => .cons (Rel.avoid hy r) (RelL.avoid hy t)
end
theorem Rel.unavoid (h : Rel K ρ n x H d v) : Rel K ρ n none H d v := h.map (fun _ h => ⟨h, rfl⟩) (fun _ _ h => h) (fun _ _ h => h) fun _ _ h1 h2 _ h4 => ⟨h1, h2, by simp, h4⟩
theorem RelL.unavoid (h : RelL K ρ n x H ds vs) : RelL K ρ n none H ds vs := h.map (fun _ h => ⟨h, rfl⟩) (fun _ _ h => h) (fun _ _ h => h) fun _ _ h1 h2 _ h4 => ⟨h1, h2, by simp, h4⟩

def IsM : HO → Prop
  | .lst _ => True
  | .dK _ => True
  | .dT _ => True
  | _ => False
theorem CellRel.there {m : MO} (h : CellRel K ρ n x H a m) : ∃ u, H a = some u ∧ IsM u := by
  cases m with
  | lst xs => obtain ⟨vs, h, _⟩ := h; exact ⟨_, h, trivial⟩
  | dct ks xs => obtain ⟨vs, h, _⟩ := h; exact ⟨_, h, trivial⟩
  | dtp ks xs => obtain ⟨vs, h, _⟩ := h; exact ⟨_, h, trivial⟩
theorem Good.lst (g : Good K Ps ρ x H s) {i : Nat} (hi : i < s.n) : ∃ u, H (ρ i) = some u ∧ IsM u := by
  have e : s.cells[i]? = some s.cells[i] := List.getElem?_eq_getElem hi
  exact (g.cell i _ e).there
theorem Good.unavoid (g : Good K Ps ρ x H s) : Good K Ps ρ none H s := by
  refine ⟨g.inj, fun i o e => ?_, g.clean, g.bl, g.tb, g.xt⟩
  have q := g.cell i o e
  cases o with
  | lst xs => obtain ⟨vs, h1, h2⟩ := q; exact ⟨vs, h1, h2.unavoid⟩
  | dct ks xs => obtain ⟨vs, h1, h3, h2⟩ := q; exact ⟨vs, h1, h3, h2.unavoid⟩
  | dtp ks xs => obtain ⟨vs, h1, h3, h2⟩ := q; exact ⟨vs, h1, h3, h2.unavoid⟩
theorem Good.nlist (g : Good K Ps ρ x H s) {i : Nat} (hi : i < s.n) : ρ i ≠ a ∨ ∃ u, H a = some u ∧ IsM u := by
  by_cases e : ρ i = a
  · exact .inr (e ▸ g.lst hi)
  · exact .inl e

theorem SqT.ext (g : Good K Ps ρ x H s) (e : Ext K ρ H s ρ' H' s') {a : Addr} {vs : List V} (h : SqT K H a vs) : SqT K H' a vs := by
  rcases h with (h | ⟨o, h⟩) | h
  · exact .inl (.inl (e.keep a _ h (fun i hi q => by obtain ⟨us, z, hz⟩ := g.lst hi; rw [q, h] at z; cases z; exact hz.elim) trivial))
  · exact .inl (.inr ⟨o, e.keep a _ h (fun i hi q => by obtain ⟨us, z, hz⟩ := g.lst hi; rw [q, h] at z; cases z; exact hz.elim) trivial⟩)
  · exact .inr h
theorem TpK.ext (g : Good K Ps ρ x H s) (e : Ext K ρ H s ρ' H' s') {a : Addr} {vs : List V} (h : TpK K H a vs) : TpK K H' a vs := by
  rcases h with h | h
  · exact .inl (e.keep a _ h (fun i hi q => by obtain ⟨us, z, hz⟩ := g.lst hi; rw [q, h] at z; cases z; exact hz.elim) trivial)
  · exact .inr h
theorem ScrAt.ext (g : Good K Ps ρ x H s) (e : Ext K ρ H s ρ' H' s') {a : Addr} {vs : List V} (h : ScrAt K H a vs) : ScrAt K H' a vs := by
  rcases h with ⟨o, h⟩ | h
  · exact .inl ⟨o, e.keep a _ h (fun i hi q => by obtain ⟨us, z, hz⟩ := g.lst hi; rw [q, h] at z; cases z; exact hz.elim) trivial⟩
  · exact .inr h
theorem lst_ext (e : Ext K ρ H s ρ' H' s') {a : Addr} {vs : List V} (h : H a = some (.lst vs)) (hn : ∀ i, i < s.n → ρ i ≠ a) : H' a = some (.lst vs) ∧ ∀ i, i < s'.n → ρ' i ≠ a := by
  refine ⟨e.keep a _ h hn trivial, fun i hi q => ?_⟩
  by_cases hs : i < s.n
  · rw [e.same i hs] at q; exact hn i hs q
  · have f1 := e.fresh i (by omega) hi
    rw [q, h] at f1; cases f1
theorem Rel.ext (g : Good K Ps ρ none H s) (e : Ext K ρ H s ρ' H' s') (h : Rel K ρ s.n none H d v) : Rel K ρ' s'.n none H' d v :=
  h.map (fun i hi => ⟨Nat.lt_of_lt_of_le hi e.le, e.same i hi⟩) (fun _ _ h => TpK.ext g e h) (fun _ _ h => ScrAt.ext g e h) fun _ _ h1 h2 _ h4 => let ⟨q1, q2⟩ := lst_ext (K := K) e h1 h2; ⟨q1, q2, by simp, by rw [e.av]; exact h4⟩
theorem RelL.ext (g : Good K Ps ρ none H s) (e : Ext K ρ H s ρ' H' s') (h : RelL K ρ s.n none H ds vs) : RelL K ρ' s'.n none H' ds vs :=
  h.map (fun i hi => ⟨Nat.lt_of_lt_of_le hi e.le, e.same i hi⟩) (fun _ _ h => TpK.ext g e h) (fun _ _ h => ScrAt.ext g e h) fun _ _ h1 h2 _ h4 => let ⟨q1, q2⟩ := lst_ext (K := K) e h1 h2; ⟨q1, q2, by simp, by rw [e.av]; exact h4⟩

theorem Ext.refl : Ext K ρ H s ρ H s := ⟨rfl, rfl, Nat.le_refl _, fun _ _ => rfl, fun _ _ h _ _ => h, fun i h1 h2 => absurd h2 (by omega), fun _ h => h, fun l h => ⟨l, h, Nat.le_refl _⟩, fun i o o' h1 h2 => .inl (by rw [h1] at h2; cases h2; rfl)⟩
theorem Ext.trans (e1 : Ext K ρ H s ρ1 H1 s1) (e2 : Ext K ρ1 H1 s1 ρ2 H2 s2) : Ext K ρ H s ρ2 H2 s2 where
  base := e2.base.trans e1.base
  av := e2.av.trans e1.av
  le := Nat.le_trans e1.le e2.le
  same := fun i h => (e2.same i (Nat.lt_of_lt_of_le h e1.le)).trans (e1.same i h)
  keep := fun a o h hn ht => e2.keep a o (e1.keep a o h hn ht) (fun i hi q => by
    by_cases hs : i < s.n
    · rw [e1.same i hs] at q; exact hn i hs q
    · have f := e1.fresh i (by omega) hi
      rw [q, h] at f; cases f) ht
  fresh := fun i h1 h2 => by
    by_cases hs : i < s1.n
    · have f := e1.fresh i h1 hs
      rw [e2.same i hs]; exact f
    · have f := e2.fresh i (by omega) h2
      cases q : H (ρ2 i) with
      | none => rfl
      | some o => exact absurd f (e1.there _ (by rw [q]; simp))
  there := fun a h => e2.there a (e1.there a h)
  upm := fun l h => by
    obtain ⟨l1, h1, h2⟩ := e1.upm l h
    obtain ⟨l2, h3, h4⟩ := e2.upm l1 h1
    exact ⟨l2, h3, Nat.le_trans h4 h2⟩
  chg := fun i o o' h1 h2 => by
    have hi : i < s1.n := Nat.lt_of_lt_of_le (List.getElem?_eq_some_iff.mp h1).1 e1.le
    have q : s1.cells[i]? = some s1.cells[i] := List.getElem?_eq_getElem hi
    rcases e2.chg i _ o' q h2 with e | e | e
    · subst e
      rcases e1.chg i o _ h1 q with e | e | ⟨l, e, z⟩
      · exact .inl e
      · exact .inr (.inl e)
      · obtain ⟨l', e', z'⟩ := e2.upm l e
        exact .inr (.inr ⟨l', e', Nat.le_trans z' z⟩)
    · exact .inr (.inl e)
    · exact .inr (.inr e)
/-- the heap grows at a free place -/
theorem Ext.new (hp : H a = none) : Ext K ρ H s ρ (upd H a o) s :=
  ⟨rfl, rfl, Nat.le_refl _, fun _ _ => rfl, fun b u h _ _ => by rw [upd_ne (ne_of_none h hp)]; exact h, fun i h1 h2 => absurd h2 (by omega), fun b h => by
    by_cases e : b = a
    · rw [e, upd_same]; simp
    · rw [upd_ne e]; exact h, fun l h => ⟨l, h, Nat.le_refl _⟩, fun i o o' h1 h2 => .inl (by rw [h1] at h2; cases h2; rfl)⟩
/-- the same store over another heap -/
theorem Good.over (g : Good K Ps ρ none H s) (e : Ext K ρ H s ρ H' s) (hc : ∀ i, i < s.n → H' (ρ i) = H (ρ i)) (tb : ∀ P ∈ Ps, ∃ ps : Array Value, H' P = some (.tbl ps) ∧ TriplesOk ps.toList) : Good K Ps ρ none H' s := by
  refine ⟨g.inj, fun i o q => ?_, g.clean, g.bl, tb, fun a h => e.there a (g.xt a h)⟩
  have hi : i < s.n := (List.getElem?_eq_some_iff.mp q).1
  have z := g.cell i o q
  cases o with
  | lst xs => obtain ⟨vs, h1, h2⟩ := z; exact ⟨vs, by rw [hc i hi]; exact h1, h2.ext g e⟩
  | dct ks xs => obtain ⟨vs, h1, h3, h2⟩ := z; exact ⟨vs, by rw [hc i hi]; exact h1, h3, h2.ext g e⟩
  | dtp ks xs => obtain ⟨vs, h1, h3, h2⟩ := z; exact ⟨vs, by rw [hc i hi]; exact h1, h3, h2.ext g e⟩
theorem Good.new (g : Good K Ps ρ none H s) (hp : H a = none) : Good K Ps ρ none (upd H a o) s := by
  refine g.over (Ext.new hp) (fun i hi => ?_) fun P hP => ?_
  · obtain ⟨vs, q, _⟩ := g.lst hi
    exact upd_ne (ne_of_none q hp)
  · obtain ⟨ps, q, t⟩ := g.tb P hP
    exact ⟨ps, by rw [upd_ne (ne_of_none q hp)]; exact q, t⟩

/-- a result's value -/
def OkR (K : Fr) (Ps : List Addr) (H : Hp) (ρ' : Rh) (H' : Hp) (s' : S) : D → V → Prop
  | .lv true xs, v => ∃ a vs, v = .ref a ∧ H a = none ∧ H' a = some (.lst vs) ∧ (∀ i, i < s'.n → ρ' i ≠ a) ∧ a ∉ ρ'.av ∧ Good K Ps ρ' (some a) H' s' ∧ RelL K ρ' s'.n (some a) H' xs vs
  | d, v => Good K Ps ρ' none H' s' ∧ Rel K ρ' s'.n none H' d v
theorem OkR.of (hd : ∀ xs, d ≠ .lv true xs) (g : Good K Ps ρ' none H' s') (r : Rel K ρ' s'.n none H' d v) : OkR K Ps H ρ' H' s' d v := by
  cases d with
  | lv o xs =>
    cases o with
    | true => exact absurd rfl (hd xs)
    | false => exact ⟨g, r⟩
  | _ => exact ⟨g, r⟩
theorem OkR.good (h : OkR K Ps H ρ' H' s' d v) : Good K Ps ρ' none H' s' := by
  cases d with
  | lv o xs =>
    cases o with
    | true => obtain ⟨_, _, _, _, _, _, _, g, _⟩ := h; exact g.unavoid
    | false => exact h.1
  | _ => exact h.1
theorem OkR.frz (h : OkR K Ps H ρ' H' s' d v) : Rel K ρ' s'.n none H' d.frz v := by
  cases d with
  | lv o xs =>
    cases o with
    | true =>
      obtain ⟨a, vs, rfl, hz, q, hn, hv, g, r⟩ := h
      exact .lv q hn (by simp) hv r.unavoid
    | false => exact h.2
  | _ => exact h.2
theorem OkR.weak (hw : ∀ a, H1 a = none → H a = none) (h : OkR K Ps H1 ρ' H' s' d v) : OkR K Ps H ρ' H' s' d v := by
  cases d with
  | lv o xs =>
    cases o with
    | true => obtain ⟨a, vs, e, h1, h2⟩ := h; exact ⟨a, vs, e, hw a h1, h2⟩
    | false => exact h
  | _ => exact h
/-- a value to be read: lists wherever they are -/
def RelRd (K : Fr) (ρ : Rh) (n : Nat) (H : Hp) : D → V → Prop
  | .lv _ xs, v => ∃ a vs, v = .ref a ∧ H a = some (.lst vs) ∧ RelL K ρ n none H xs vs
  | d, v => Rel K ρ n none H d v
theorem RelRd.of (h : Rel K ρ n none H d v) : RelRd K ρ n H d v := by
  cases h with
  | lv h1 h2 h3 h4 r => exact ⟨_, _, rfl, h1, r⟩
  | non => exact .non
  | bl b => exact .bl b
  | int i => exact .int i
  | str s => exact .str s
  | tup h r => exact .tup h r
  | ref h => exact .ref h
  | scr h => exact .scr h
theorem Rel.rd (g : Good K Ps ρ none H s) (h : Rel K ρ s.n none H d.frz v) : RelRd K ρ s.n H (d.rd s) v := by
  cases d with
  | ref m =>
    have h' : Rel K ρ s.n none H (.ref m) v := h
    cases h' with
    | ref hm =>
      have e : s.cells[m]? = some s.cells[m] := List.getElem?_eq_getElem hm
      have q := g.cell m _ e
      generalize s.cells[m] = o at e q
      cases o with
      | lst xs =>
        obtain ⟨vs, q1, q2⟩ := q
        have z : (D.ref m).rd s = .lv false xs := by simp [D.rd, e]
        rw [z]
        exact ⟨_, vs, rfl, q1, q2⟩
      | dct ks xs =>
        have z : (D.ref m).rd s = .ref m := by simp [D.rd, e]
        rw [z]
        exact .ref hm
      | dtp ks xs =>
        have z : (D.ref m).rd s = .ref m := by simp [D.rd, e]
        rw [z]
        exact .ref hm
  | lv o xs =>
    have h' : Rel K ρ s.n none H (.lv false xs) v := h
    cases h' with
    | lv h1 h2 h3 h4 r => exact ⟨_, _, rfl, h1, r⟩
  | _ => exact RelRd.of (show Rel K ρ s.n none H _ v from h)
theorem OkR.rd (h : OkR K Ps H ρ' H' s' d v) : RelRd K ρ' s'.n H' (d.rd s') v := Rel.rd h.good h.frz

/-- names -/
def EnvRel (K : Fr) (ρ : Rh) (n : Nat) (H : Hp) (σ : L2.St) (e : Env) : Prop := ∀ i d, getV e i = some d → ∃ v, σ[i]? = some (some v) ∧ Rel K ρ n none H d v
theorem EnvRel.ext {σ : L2.St} {e : Env} (g : Good K Ps ρ none H s) (x : Ext K ρ H s ρ' H' s') (h : EnvRel K ρ s.n H σ e) : EnvRel K ρ' s'.n H' σ e := fun i d q => by
  obtain ⟨v, h1, h2⟩ := h i d q
  exact ⟨v, h1, h2.ext g x⟩

def Post (K : Fr) (Ps : List Addr) (ρ : Rh) (H : Hp) (s : S) (r : R D) (Q : VK) (XQ : Nat → Hp → Prop) : Prop := match r with
  | .ok d s' => ∀ ρ' H' v, Ext K ρ H s ρ' H' s' → OkR K Ps H ρ' H' s' d v → Q v H'
  | .exc c s' => ∀ ρ' H', Ext K ρ H s ρ' H' s' → Good K Ps ρ' none H' s' → XQ c H'
  | .bad => False
theorem Post.shift {r : R D} {Q : VK} {XQ : Nat → Hp → Prop} (e : Ext K ρ H s ρ1 H1 s1) (p : Post K Ps ρ H s r Q XQ) : Post K Ps ρ1 H1 s1 r Q XQ := by
  cases r with
  | ok d s' => exact fun ρ' H' v e' o => p ρ' H' v (e.trans e') (o.weak fun a h => Classical.byContradiction fun q => e.there a q h)
  | exc c s' => exact fun ρ' H' e' g => p ρ' H' (e.trans e') g
  | bad => exact p
/-- the same over any result type -/
def PostG {α : Type} (K : Fr) (Ps : List Addr) (ρ : Rh) (H : Hp) (s : S) (r : R α) (G : α → S → (Rh) → Hp → Prop) (XQ : Nat → Hp → Prop) : Prop := match r with
  | .ok d s' => ∀ ρ' H', Ext K ρ H s ρ' H' s' → G d s' ρ' H'
  | .exc c s' => ∀ ρ' H', Ext K ρ H s ρ' H' s' → Good K Ps ρ' none H' s' → XQ c H'
  | .bad => False
/-- first one, then the other -/
theorem Post.bind {r : R D} {f : D → S → R D} {Q Q1 : VK} {XQ : Nat → Hp → Prop} (p : Post K Ps ρ H s (r.bind f) Q XQ)
    (h : ∀ d s1 ρ1 H1 v, Ext K ρ H s ρ1 H1 s1 → OkR K Ps H ρ1 H1 s1 d v → Post K Ps ρ1 H1 s1 (f d s1) Q XQ → Q1 v H1) : Post K Ps ρ H s r Q1 XQ := by
  cases r with
  | ok d s' => exact fun ρ' H' v e o => h d s' ρ' H' v e o (Post.shift e p)
  | exc c s' => exact p
  | bad => exact p
theorem Post.opt {o : Option D} {Q : VK} {XQ : Nat → Hp → Prop} (p : Post K Ps ρ H s (R.opt o s1) Q XQ) : ∃ d, o = some d ∧ Post K Ps ρ H s (.ok d s1) Q XQ := by
  cases o with
  | none => exact p.elim
  | some d => exact ⟨d, rfl, p⟩
theorem Post.optb {α : Type} {o : Option α} {f : α → S → R D} {Q : VK} {XQ : Nat → Hp → Prop} (p : Post K Ps ρ H s ((R.opt o s1).bind f) Q XQ) : ∃ d, o = some d ∧ Post K Ps ρ H s (f d s1) Q XQ := by
  cases o with
  | none => exact p.elim
  | some d => exact ⟨d, rfl, p⟩
/-- the state stays, a value that is there -/
theorem Post.val {Q : VK} {XQ : Nat → Hp → Prop} (p : Post K Ps ρ H s (.ok d s) Q XQ) (g : Good K Ps ρ none H s) (hd : ∀ xs, d ≠ .lv true xs) (r : Rel K ρ s.n none H d v) : Q v H :=
  p ρ H v Ext.refl (.of hd g r)
/-- .. a new tuple -/
theorem Post.newT {Q : VK} {XQ : Nat → Hp → Prop} (p : Post K Ps ρ H s (.ok (.tup ds) s) Q XQ) (g : Good K Ps ρ none H s) (hp : H a = none) (r : RelL K ρ s.n none H ds vs) : Q (.ref a) (upd H a (.tup vs)) :=
  p ρ _ _ (Ext.new hp) (.of (by simp) (g.new hp) (.tup (.of upd_same) (r.ext g (Ext.new hp))))
/-- .. a new list -/
theorem Post.newL {Q : VK} {XQ : Nat → Hp → Prop} (p : Post K Ps ρ H s (.ok (.lv true ds) s) Q XQ) (g : Good K Ps ρ none H s) (hp : H a = none) (r : RelL K ρ s.n none H ds vs) : Q (.ref a) (upd H a (.lst vs)) := by
  have ha : ∀ b, some a = some b → H b = none := fun b e => by cases e; exact hp
  have avL : ∀ {d : List D} {v : List V}, RelL K ρ s.n none H d v → RelL K ρ s.n (some a) (upd H a (.lst vs)) d v := fun {d v} r => (r.avoid ha).map (fun i hi => ⟨hi, rfl⟩) (fun _ _ h => TpK.ext g (Ext.new hp) h) (fun _ _ h => ScrAt.ext g (Ext.new hp) h) fun _ _ h1 h2 h3 h4 => let ⟨q1, q2⟩ := lst_ext (K := K) (Ext.new hp) h1 h2; ⟨q1, q2, h3, h4⟩
  have hne : ∀ i, i < s.n → ρ i ≠ a := fun i hi => by
    obtain ⟨us, q, _⟩ := g.lst hi
    exact ne_of_none q hp
  refine p ρ _ _ (Ext.new hp) ⟨a, vs, rfl, hp, upd_same, hne, fun q => g.xt a q hp, ⟨g.inj, fun i o e => ?_, g.clean, g.bl, fun P hP => ?_, fun b q => (Ext.new (K := K) (ρ := ρ) (s := s) (o := .lst vs) hp).there b (g.xt b q)⟩, avL r⟩
  · have q := g.cell i o e
    have hi : i < s.n := (List.getElem?_eq_some_iff.mp e).1
    cases o with
    | lst xs =>
      obtain ⟨us, q1, q2⟩ := q
      exact ⟨us, by rw [upd_ne (hne i hi)]; exact q1, avL q2⟩
    | dct ks xs =>
      obtain ⟨us, q1, q3, q2⟩ := q
      exact ⟨us, by rw [upd_ne (hne i hi)]; exact q1, q3, avL q2⟩
    | dtp ks xs =>
      obtain ⟨us, q1, q3, q2⟩ := q
      exact ⟨us, by rw [upd_ne (hne i hi)]; exact q1, q3, avL q2⟩
  · obtain ⟨ps, q, t⟩ := g.tb P hP
    exact ⟨ps, by rw [upd_ne (ne_of_none q hp)]; exact q, t⟩
end

abbrev XC := Nat → Value
/-- the reading: W: what is wanted of an exception, cl: its classes -/
def TX (K : Fr) (Ps : List Addr) (cl : XC) (W : WX) (f : Env → S → R D) : TE := fun σ H Q => ∃ ρ e s, Good K Ps ρ none H s ∧ EnvRel K ρ s.n H σ e ∧ Post K Ps ρ H s (f e s) Q fun c H' => W (cl c) none σ H'
theorem PE.imp {X : Cx} {e : Expr} {t t' : TE} (h : PE X e t) (i : ∀ σ H Q, t' σ H Q → t σ H Q) : PE X e t' := ⟨fun pins s σ H Q I q => h.run pins s σ H Q I (i σ H Q q)⟩
theorem PT.imp {X : Cx} {e : Expr} {t t' : TT} (h : PT X e t) (i : ∀ σ H Q, t' σ H Q → t σ H Q) : PT X e t' := ⟨fun pins s σ H Q I q => h.run pins s σ H Q I (i σ H Q q)⟩
theorem PW.imp {X : Cx} {e : Expr} {t t' : TT} (h : PW X e t) (i : ∀ σ H Q, t' σ H Q → t σ H Q) : PW X e t' := ⟨fun wh pins s σ H Q I q => h.run wh pins s σ H Q I (i σ H Q q)⟩
theorem PA.imp {X : Cx} {e : List Expr} {t t' : TA} (h : PA X e t) (i : ∀ σ H Q, t' σ H Q → t σ H Q) : PA X e t' := ⟨fun ps pins s σ H Q I q => h.run ps pins s σ H Q I (i σ H Q q)⟩
theorem PS.imp {X : Cx} {e : Stmt} {t t' : TS} (h : PS X e t) (i : ∀ D σ H, t' D σ H → t D σ H) : PS X e t' := ⟨fun pins s σ H Q I q => h.run pins s σ H Q I (i Q σ H q)⟩
theorem PSs.imp {X : Cx} {e : List Stmt} {t t' : TS} (h : PSs X e t) (i : ∀ D σ H, t' D σ H → t D σ H) : PSs X e t' := ⟨fun pins s σ H Q I q => h.run pins s σ H Q I (i Q σ H q)⟩
theorem PG.imp {X : Cx} {e : Expr} {t t' : TG} (h : PG X e t) (i : ∀ v σ H Q, t' v σ H Q → t v σ H Q) : PG X e t' := ⟨fun pins s σ H v u Q I r q => h.run pins s σ H v u Q I r (i v σ H Q q)⟩
theorem PI.imp {X : Cx} {tg e : Expr} {t t' : TI} (h : PI X tg e t) (i : ∀ σ H Q, t' σ H Q → t σ H Q) : PI X tg e t' := ⟨fun pins s σ H Q I q => h.run pins s σ H Q I (i σ H Q q)⟩
end L3
end

section -- I3
set_option autoImplicit false
set_option linter.all false
set_option maxRecDepth 100000
set_option maxHeartbeats 1000000
namespace L3
open PySem PySem.Spec PyProof.Rows L2

theorem toS_len (s : List Nat) : (toS s).length = s.length := by simp [toS, Str.length]
theorem toS_cps (s : List Nat) : (toS s).cps.toList = s := by simp [toS]
theorem toS_app (a b : List Nat) : toS a ++ toS b = toS (a ++ b) := by
  show Str.append _ _ = _
  simp [toS, Str.append]
theorem toS_inj {a b : List Nat} (h : toS a = toS b) : a = b := by
  have := congrArg (fun z => z.cps.toList) h
  simpa [toS] using this
theorem toS_beq (a b : List Nat) : (toS a == toS b) = (a == b) := by
  rw [Bool.eq_iff_iff]
  simp only [beq_iff_eq]
  exact ⟨toS_inj, fun h => by rw [h]⟩
theorem big_eq : big = sizeLine := by rw [sizeLine_eq]; rfl

def D.toP : D → PyData
  | .non => .none
  | .bl b => .bool b
  | .int i => .int i
  | .str s => .str (toS s)
  | .tup xs => .tuple (toPL xs)
  | .lv _ xs => .list (toPL xs)
  | _ => .none
where toPL : List D → List PyData
  | [] => []
  | x :: xs => D.toP x :: toPL xs
abbrev D.toPL := D.toP.toPL
section
variable {K : Fr} {ρ : Rh} {n : Nat} {H : Hp}
mutual
theorem Rel.dp {m : Nat} : ∀ {d : D} {v : V}, Rel K ρ n none H d v → D.fit m d = true → Dp K H v d.toP
  | _, _, .non, _ => .non
  | _, _, .bl b, _ => .bl b
  | _, _, .int i, _ => .int i
  | _, _, .str s, _ => .str _
  | _, _, .tup h r, e => by
    cases m with
    | zero => simp [D.fit] at e
    | succ m => exact .tup h.sq (RelL.dp r (m := m) (by simpa [D.fit] using e))
  | _, _, .lv h1 h2 h3 h4 r, e => by
    cases m with
    | zero => simp [D.fit] at e
    | succ m => exact .lst (.of h1) (RelL.dp r (m := m) (by simpa [D.fit] using e))
  | _, _, .ref h, e => by cases m <;> simp [D.fit] at e
  | _, _, .scr h, e => by cases m <;> simp [D.fit] at e
theorem RelL.dp {m : Nat} : ∀ {d : List D} {v : List V}, RelL K ρ n none H d v → D.fitL m d = true → DpAll K H v (D.toPL d)
  | _, _, .nil, _ => .nil
  | _, _, .cons r t, e => by
    simp only [D.fitL, D.fit.fitL, Bool.and_eq_true] at e
    exact .cons (Rel.dp r e.1) (RelL.dp t e.2)
end
theorem RelRd.dp {m : Nat} {d : D} {v : V} (h : RelRd K ρ n H d v) (e : D.fit m d = true) : Dp K H v d.toP := by
  cases d with
  | lv o xs =>
    obtain ⟨a, vs, rfl, h1, r⟩ := h
    cases m with
    | zero => simp [D.fit] at e
    | succ m => exact .lst (.of h1) (r.dp (m := m) (by simpa [D.fit] using e))
  | _ => exact Rel.dp (show Rel K ρ n none H _ v from h) e
end
theorem okS_ok {s : List Nat} (h : okS s = true) : PySem.PyData.strOk (toS s) = true := by
  simp only [PySem.PyData.strOk, toS]
  simpa [okS] using h
mutual
theorem toP_lay : ∀ (d : D) (m : Nat), d.fit m = true → d.toP.canLay0 = true
  | .non, _, _ => rfl
  | .bl _, _, _ => rfl
  | .int _, _, _ => rfl
  | .str s, m, h => by
    have h' : okS s = true := by cases m <;> simpa [D.fit] using h
    simpa [D.toP, PyData.canLay0] using okS_ok h'
  | .tup xs, m, h => by
    cases m with
    | zero => simp [D.fit] at h
    | succ m => simp [D.toP, PyData.canLay0]; exact toPL_lay xs m (by simpa [D.fit] using h)
  | .lv _ xs, m, h => by
    cases m with
    | zero => simp [D.fit] at h
    | succ m => simp [D.toP, PyData.canLay0]; exact toPL_lay xs m (by simpa [D.fit] using h)
  | .ref _, _, _ => rfl
  | .scr _, _, _ => rfl
theorem toPL_lay : ∀ (d : List D) (m : Nat), D.fitL m d = true → PyData.canLayAll0 (D.toPL d) = true
  | [], _, _ => rfl
  | x :: xs, m, h => by
    simp only [D.fitL, D.fit.fitL, Bool.and_eq_true] at h
    simp [D.toPL, D.toP.toPL, PyData.canLayAll0, toP_lay x m h.1]; exact toPL_lay xs m h.2
end
mutual
theorem toP_depth : ∀ (d : D) (m : Nat), d.fit m = true → d.toP.depth ≤ m
  | .non, m, _ => by simp [D.toP, PyData.depth]
  | .bl _, m, _ => by simp [D.toP, PyData.depth]
  | .int _, m, _ => by simp [D.toP, PyData.depth]
  | .str _, m, _ => by simp [D.toP, PyData.depth]
  | .tup xs, m, h => by
    cases m with
    | zero => simp [D.fit] at h
    | succ m => have := toPL_depth xs m (by simpa [D.fit] using h); simp [D.toP, PyData.depth]; exact this
  | .lv _ xs, m, h => by
    cases m with
    | zero => simp [D.fit] at h
    | succ m => have := toPL_depth xs m (by simpa [D.fit] using h); simp [D.toP, PyData.depth]; exact this
  | .ref _, m, h => by simp [D.toP, PyData.depth]
  | .scr _, m, h => by simp [D.toP, PyData.depth]
theorem toPL_depth : ∀ (d : List D) (m : Nat), D.fitL m d = true → PyData.depthAll (D.toPL d) ≤ m
  | [], m, _ => by simp [D.toPL, D.toP.toPL, PyData.depthAll]
  | x :: xs, m, h => by
    simp only [D.fitL, D.fit.fitL, Bool.and_eq_true] at h
    have h1 := toP_depth x m h.1
    have h2 := toPL_depth xs m h.2
    simp only [D.toPL, D.toP.toPL, PyData.depthAll]
    exact Nat.max_le.mpr ⟨h1, h2⟩
end
theorem toP_shaped {d : D} (h : d.fit 64 = true) : SeqAt.shaped d.toP = true := by
  simp only [SeqAt.shaped, Bool.and_eq_true, decide_eq_true_eq]
  exact ⟨toP_lay d 64 h, toP_depth d 64 h⟩
mutual
theorem toP_eqv {m m' : Nat} : ∀ (a b : D), a.fit m = true → b.fit m' = true → PyData.eqv a.toP b.toP = a.eqv b
  | .non, b, h1, h2 => by cases b <;> first | rfl | (cases m' <;> simp [D.fit] at h2)
  | .bl a, b, h1, h2 => by
    cases b <;> first
      | (simp only [D.toP, PyData.eqv, D.eqv]; rw [Bool.eq_iff_iff]; simp; done)
      | rfl
      | (cases m' <;> simp [D.fit] at h2; done)
  | .int a, b, h1, h2 => by
    cases b <;> first
      | (simp only [D.toP, PyData.eqv, D.eqv]; rw [Bool.eq_iff_iff]; simp; done)
      | rfl
      | (cases m' <;> simp [D.fit] at h2; done)
  | .str a, b, h1, h2 => by
    cases b <;> first
      | (simp only [D.toP, PyData.eqv, D.eqv]; exact toS_beq _ _)
      | rfl
      | (cases m' <;> simp [D.fit] at h2; done)
  | .tup a, b, h1, h2 => by
    cases b <;> first | rfl | (cases m' <;> simp [D.fit] at h2; done) | skip
    case tup b =>
      cases m with
      | zero => simp [D.fit] at h1
      | succ m =>
        cases m' with
        | zero => simp [D.fit] at h2
        | succ m' => simp only [D.toP, PyData.eqv, D.eqv]; exact toPL_eqv a b (by simpa [D.fit] using h1) (by simpa [D.fit] using h2)
  | .lv o a, b, h1, h2 => by
    cases b <;> first | rfl | (cases m' <;> simp [D.fit] at h2; done) | skip
    case lv p b =>
      cases m with
      | zero => simp [D.fit] at h1
      | succ m =>
        cases m' with
        | zero => simp [D.fit] at h2
        | succ m' => simp only [D.toP, PyData.eqv, D.eqv]; exact toPL_eqv a b (by simpa [D.fit] using h1) (by simpa [D.fit] using h2)
  | .ref _, b, h1, h2 => by cases m <;> simp [D.fit] at h1
  | .scr _, b, h1, h2 => by cases m <;> simp [D.fit] at h1
theorem toPL_eqv {m m' : Nat} : ∀ (a b : List D), D.fitL m a = true → D.fitL m' b = true → PyData.eqvAll (D.toPL a) (D.toPL b) = D.eqvL a b
  | [], [], _, _ => rfl
  | [], _ :: _, _, _ => rfl
  | _ :: _, [], _, _ => rfl
  | a :: as, b :: bs, h1, h2 => by
    simp only [D.fitL, D.fit.fitL, Bool.and_eq_true] at h1 h2
    have e1 := toP_eqv a b h1.1 h2.1
    have e2 := toPL_eqv as bs h1.2 h2.2
    simp only [D.toPL, D.toP.toPL, PyData.eqvAll, D.eqvL, D.eqv.eqvL]
    rw [e1]
    exact congrArg _ e2
end
theorem toPL_any {m m' : Nat} (a : D) (h : a.fit m = true) : ∀ (xs : List D), D.fitL m' xs = true → ((D.toPL xs).any fun z => PyData.eqv z a.toP) = xs.any fun z => z.eqv a
  | [], _ => rfl
  | x :: xs, h2 => by
    simp only [D.fitL, D.fit.fitL, Bool.and_eq_true] at h2
    simp only [D.toPL, D.toP.toPL, List.any_cons]
    rw [toP_eqv x a h2.1 h]
    exact congrArg _ (toPL_any a h xs h2.2)

theorem strLt_eq : ∀ (a b : List Nat), strLt a b = decide (a < b)
  | [], [] => by simp [strLt]
  | [], _ :: _ => by simp [strLt]
  | _ :: _, [] => by simp [strLt]
  | a :: as, b :: bs => by
    simp only [strLt]
    by_cases h : a = b
    · subst h
      rw [if_pos rfl, strLt_eq as bs]
      simp [List.cons_lt_cons_iff]
    · rw [if_neg h]
      rw [Bool.eq_iff_iff]
      simp [List.cons_lt_cons_iff, h]

section
variable {X : Cx}
/-- x in t, t a tuple of data -/
def rInTD (K : Fr) (neg : Bool) : R2 := fun x y H Q => ∃ d ds, Dp K H x d ∧ Dp K H y (.tuple ds) ∧ SeqAt.shaped d = true ∧ SeqAt.shaped (.tuple ds) = true ∧ Q (.bl (neg.xor (ds.any fun z => PyData.eqv z d))) H
theorem op_inTD (hu : X.A.units + 65 < cLine) : OpR X (compareOp .In) (rInTD X.K false) := by
  intro pins s σ H x y v u Q I rx ry h
  obtain ⟨d, ds, hd, he, sd, se, q⟩ := h
  obtain ⟨as, r1⟩ := Dp.reads I d x v hd rx
  obtain ⟨bs, r2⟩ := Dp.reads I (.tuple ds) y u he ry
  exact SeqAt.in_tuple_reads r2 r1 (SeqAt.canLay_of_shaped se) (SeqAt.canLay_of_shaped sd) (room_in_shaped sd hu) ⟨.bl _, H, I, rfl, by simpa using q⟩
theorem op_notInTD (hu : X.A.units + 65 < cLine) : OpR X (compareOp .NotIn) (rInTD X.K true) := by
  intro pins s σ H x y v u Q I rx ry h
  obtain ⟨d, ds, hd, he, sd, se, q⟩ := h
  obtain ⟨as, r1⟩ := Dp.reads I d x v hd rx
  obtain ⟨bs, r2⟩ := Dp.reads I (.tuple ds) y u he ry
  exact SeqAt.notIn_tuple_reads r2 r1 (SeqAt.canLay_of_shaped se) (SeqAt.canLay_of_shaped sd) (room_in_shaped sd hu) ⟨.bl _, H, I, rfl, by simpa using q⟩
end

/-- a rule for two data: the answer is the operation's -/
def rD2 (K : Fr) (f : D → D → Option D) : R2 := fun x y H Q => ∃ Ps ρ s dx dy d XQ, Good K Ps ρ none H s ∧ RelRd K ρ s.n H dx x ∧ RelRd K ρ s.n H dy y ∧ f dx dy = some d ∧ Post K Ps ρ H s (.ok d s) Q XQ
def Op2.py : Op2 → Operator
  | .add => .Add | .sub => .Sub | .mul => .Mult | .fdiv => .FloorDiv | .mod => .Mod | .pow => .Pow
theorem wide_of {i : Int} (h : wide i = true) : -(2 ^ 64) < i ∧ i < 2 ^ 64 := by
  unfold wide at h
  have := Nat.blt_eq.mp h
  omega
theorem op_bin {X : Cx} (op : Op2) : OpR X (binaryOp op.py) (rD2 X.K (bin2 op)) := by
  intro pins s σ H x y v u Q I rx ry h
  obtain ⟨Ps, ρ, st, dx, dy, d, XQ, g, hx, hy, e, p⟩ := h
  have num : ∀ {i j k : Int} {r : R2}, OpR X (binaryOp op.py) r → d = .int k → x = .int i → y = .int j → (Q (.int k) H → r (.int i) (.int j) H Q) → wpAny (model X.prog X.w) X.A (binaryOp op.py v u) (EP X pins σ Q) X.xe s := by
    intro i j k r o e1 e2 e3 q
    subst e1 e2 e3
    exact o pins s σ H _ _ v u Q I rx ry (q (p.val g (by simp) (.int _)))
  cases op with
  | add =>
    cases dx with
    | int i =>
      cases dy with
      | int j => cases hx; cases hy; exact num op_add (by simpa [bin2] using e.symm) rfl rfl fun q => ⟨i, j, rfl, rfl, q⟩
      | _ => simp [bin2] at e
    | str a =>
      cases dy with
      | str b =>
        cases hx; cases hy
        simp only [bin2] at e
        split at e
        · rename_i hz
          cases e
          refine op_add_str pins s σ H _ _ v u Q I rx ry ⟨_, _, rfl, rfl, ?_, ?_⟩
          · rw [toS_len, toS_len, ← big_eq]; exact hz
          · rw [toS_app]; exact p.val g (by simp) (.str _)
        · cases e
      | _ => simp [bin2] at e
    | tup a =>
      cases dy with
      | tup b =>
        obtain ⟨A, as, rfl, ha, la⟩ : ∃ A as, x = .ref A ∧ TpK X.K H A as ∧ RelL X.K ρ st.n none H a as := by cases hx; exact ⟨_, _, rfl, ‹_›, ‹_›⟩
        obtain ⟨B, bs, rfl, hb, lb⟩ : ∃ A as, y = .ref A ∧ TpK X.K H A as ∧ RelL X.K ρ st.n none H b as := by cases hy; exact ⟨_, _, rfl, ‹_›, ‹_›⟩
        simp only [bin2] at e
        split at e
        · rename_i hz
          cases e
          refine op_catA pins s σ H _ _ v u Q I rx ry ⟨A, B, as, bs, rfl, rfl, ha.sq, hb.sq, ?_, ?_, ?_, ?_⟩
          · rw [← la.length, ← lb.length, ← big_eq]; exact hz
          · intro h0
            subst h0
            have : a = [] := by cases la; rfl
            subst this
            exact p.val g (by simp) (.tup hb lb)
          · intro _ h0
            subst h0
            have : b = [] := by cases lb; rfl
            subst this
            refine p.val g (by simp) (.tup ha ?_)
            rw [List.append_nil]; exact la
          · intro _ _ q hq
            exact p.newT g hq (la.append lb)
        · cases e
      | _ => simp [bin2] at e
    | lv o a =>
      cases dy with
      | lv o' b =>
        obtain ⟨A, as, rfl, ha, la⟩ := hx
        obtain ⟨B, bs, rfl, hb, lb⟩ := hy
        simp only [bin2] at e
        split at e
        · rename_i hz
          cases e
          refine op_cat pins s σ H _ _ v u Q I rx ry ⟨A, B, as, bs, rfl, rfl, ha, hb, ?_, fun q hq => p.newL g hq (la.append lb)⟩
          rw [← la.length, ← lb.length, ← big_eq]; exact hz
        · cases e
      | _ => simp [bin2] at e
    | _ => simp [bin2] at e
  | sub =>
    cases dx with
    | int i =>
      cases dy with
      | int j => cases hx; cases hy; exact num op_sub (by simpa [bin2] using e.symm) rfl rfl fun q => ⟨i, j, rfl, rfl, q⟩
      | _ => simp [bin2] at e
    | _ => simp [bin2] at e
  | mul =>
    cases dx with
    | int i =>
      cases dy with
      | int j =>
        cases hx; cases hy
        simp only [bin2] at e
        split at e
        · rename_i hz
          refine num op_mul (by simpa using e.symm) rfl rfl fun q => ⟨i, j, rfl, rfl, ?_, q⟩
          rcases Bool.or_eq_true_iff.mp hz with h | h
          · exact .inl (wide_of h)
          · exact .inr (wide_of h)
        · cases e
      | _ => simp [bin2] at e
    | tup a =>
      cases dy with
      | int k =>
        obtain ⟨A, as, rfl, ha, la⟩ : ∃ A as, x = .ref A ∧ TpK X.K H A as ∧ RelL X.K ρ st.n none H a as := by cases hx; exact ⟨_, _, rfl, ‹_›, ‹_›⟩
        cases hy
        simp only [bin2] at e
        split at e
        · rename_i hz
          cases e
          refine op_repT pins s σ H _ _ v u Q I rx ry ⟨A, k, as, rfl, rfl, ha.sq, ?_, hz.2.2.1, hz.2.2.2, by rw [← la.length]; exact hz.1, fun q hq => p.newT g hq ?_⟩
          · intro h0
            subst h0
            cases la
            exact hz.2.1 rfl
          · generalize k.toNat = m
            induction m with
            | zero => exact .nil
            | succ m ih => rw [List.replicate_succ, List.replicate_succ, List.flatten_cons, List.flatten_cons]; exact la.append ih
        · cases e
      | _ => simp [bin2] at e
    | lv o a =>
      cases dy with
      | int k =>
        obtain ⟨A, as, rfl, ha, la⟩ := hx
        cases hy
        simp only [bin2] at e
        split at e
        · rename_i hz
          cases e
          refine op_rep pins s σ H _ _ v u Q I rx ry ⟨A, k, as, rfl, rfl, ha, by omega, by omega, ?_, fun q hq => p.newL g hq ?_⟩
          · rw [← la.length]
            have h1 : a.length * k.toNat ≤ 1000 * 1000 := Nat.mul_le_mul hz.1 (by omega)
            have := sizeLine_eq
            omega
          · generalize k.toNat = m
            induction m with
            | zero => exact .nil
            | succ m ih => rw [List.replicate_succ, List.replicate_succ, List.flatten_cons, List.flatten_cons]; exact la.append ih
        · cases e
      | _ => simp [bin2] at e
    | str a =>
      cases dy with
      | int k =>
        cases hx; cases hy
        simp only [bin2] at e
        split at e
        · rename_i hz
          cases e
          obtain ⟨t, rfl⟩ := rx
          obtain ⟨t', rfl⟩ := ry
          obtain ⟨h1, h2, h3⟩ := hz
          have hl : (toS a).length = a.length := toS_len a
          have hS : (⟨(List.replicate k.toNat (toS a).cps).foldl (· ++ ·) #[]⟩ : Str) = toS (List.replicate k.toNat a).flatten := by
            have key : ∀ (m : Nat) (acc : List Nat), (List.replicate m (toS a).cps).foldl (· ++ ·) acc.toArray = (acc ++ (List.replicate m a).flatten).toArray := by
              intro m
              induction m with
              | zero => intro acc; simp
              | succ m ih =>
                intro acc
                rw [List.replicate_succ, List.foldl_cons, List.replicate_succ, List.flatten_cons, ← List.append_assoc, ← ih]
                simp [toS]
            have := key k.toNat []
            simp only [List.nil_append] at this
            show (⟨_⟩ : Str) = ⟨_⟩
            rw [← this]
          have hfl : (List.replicate k.toNat a).flatten.length = k.toNat * a.length := by simp
          have hsz := sizeLine_eq
          have hm : a.length * k.toNat ≤ 100 * 100000 := Nat.mul_le_mul h3 (by omega)
          have hm2 : k.toNat * a.length ≤ 100 * 100000 := by rw [Nat.mul_comm]; exact hm
          refine PySem.P.mul_str (by rw [decide_eq_false (by omega), decide_eq_false (by omega)]; rfl) (fun q1 _ => ?_) (fun _ _ => ?_) ?_
          · rw [hl]
            have : (100 : Int) ≤ (2 ^ 63 - 1) / k := by rw [Int.le_ediv_iff_mul_le (by omega)]; omega
            show ¬ ((a.length : Nat) : Int) > (2 ^ 63 - 1) / k
            omega
          · rw [hl]
            show decide (_ > sizeLine) = false
            rw [decide_eq_false]
            omega
          · by_cases h4 : k < 1
            · rw [if_pos h4]
              have hk : k.toNat = 0 := by omega
              refine ⟨by decide, .str _, H, I.tok _, ⟨_, rfl⟩, ?_⟩
              have hz0 : (List.replicate k.toNat a).flatten = [] := by rw [hk]; rfl
              rw [hz0] at p
              exact p.val g (by simp) (.str [])
            · rw [if_neg h4]
              cases h5 : (k == 1 || (toS a).length == 0) with
              | true =>
                rw [if_pos rfl]
                have hz1 : (List.replicate k.toNat a).flatten = a := by
                  simp only [Bool.or_eq_true, beq_iff_eq] at h5
                  rcases h5 with h5 | h5
                  · subst h5; simp
                  · rw [hl] at h5
                    have : a = [] := List.eq_nil_of_length_eq_zero h5
                    subst this; simp
                rw [hz1] at p
                exact ⟨.str _, H, I, ⟨_, rfl⟩, p.val g (by simp) (.str _)⟩
              | false =>
                rw [if_neg (by simp), hS]
                refine ⟨?_, .str _, H, I.tok _, ⟨_, rfl⟩, p.val g (by simp) (.str _)⟩
                rw [toS_len, hfl]
                omega
        · cases e
      | _ => simp [bin2] at e
    | _ => simp [bin2] at e
  | fdiv =>
    cases dx with
    | int i =>
      cases dy with
      | int j =>
        cases hx; cases hy
        simp only [bin2] at e
        split at e
        · rename_i hz
          exact num op_fdiv (by simpa using e.symm) rfl rfl fun q => ⟨i, j, rfl, rfl, hz, q⟩
        · cases e
      | _ => simp [bin2] at e
    | _ => simp [bin2] at e
  | mod =>
    cases dx with
    | int i =>
      cases dy with
      | int j =>
        cases hx; cases hy
        simp only [bin2] at e
        split at e
        · rename_i hz
          exact num op_mod (by simpa using e.symm) rfl rfl fun q => ⟨i, j, rfl, rfl, hz, q⟩
        · cases e
      | _ => simp [bin2] at e
    | _ => simp [bin2] at e
  | pow =>
    cases dx with
    | int i =>
      cases dy with
      | int j =>
        cases hx; cases hy
        simp only [bin2] at e
        split at e
        · rename_i hz
          refine num op_pow (by simpa using e.symm) rfl rfl fun q => ⟨i, j, rfl, rfl, ⟨hz.1, by omega, ?_⟩, q⟩
          have := wide_of hz.2.2
          omega
        · cases e
      | _ => simp [bin2] at e
    | _ => simp [bin2] at e

def Cmp.py : Cmp → CmpOp
  | .eq => .Eq | .ne => .NotEq | .lt => .Lt | .le => .LtE | .gt => .Gt | .ge => .GtE | .is => .Is | .isnot => .IsNot | .inn => .In | .notin => .NotIn
def rDC (K : Fr) (op : Cmp) : R2 := fun x y H Q => ∃ Ps ρ s dx dy b, Good K Ps ρ none H s ∧ RelRd K ρ s.n H dx x ∧ RelRd K ρ s.n H dy y ∧ cmp2 op dx dy = some b ∧ Q (.bl b) H
theorem isNon_of {K : Fr} {ρ : Rh} {n : Nat} {H : Hp} {d : D} {x : V} (h : RelRd K ρ n H d x) : d.isNon = decide (x = .non) := by
  cases d with
  | lv o xs => obtain ⟨a, vs, rfl, _⟩ := h; simp [D.isNon]
  | _ => cases h <;> simp [D.isNon]
theorem eqAt_of {X : Cx} {pins : List (Addr × Obj)} {σ : L2.St} {H : Hp} {s : Shared} {ρ : Rh} {n m : Nat} {d e : D} {x y : V} {v u : Value} {A : Around} (I : Inv X pins σ H s) (hd : d.fit m = true) (he : e.fit m = true) (rd : Rel X.K ρ n none H d x) (re : Rel X.K ρ n none H e y) (rx : RelV x v) (ry : RelV y u)
    (hu : A.units + m < cLine) : SeqAt.EqAt A s v u (d.eqv e) := by
  obtain ⟨as, r1⟩ := Dp.reads I _ x v (rd.dp hd) rx
  obtain ⟨bs, r2⟩ := Dp.reads I _ y u (re.dp he) ry
  have := SeqAt.eqAt_reads d.toP e.toP A s v u as bs r1 r2 (toP_lay d m hd) (toP_lay e m he) (by have := toP_depth d m hd; omega)
  rw [← toP_eqv _ _ hd he]
  exact this
theorem rcLt_S (A : Around) (s : Shared) (x y : List Nat) (t u : Tok) : Ob.RcOp .Lt A s (.str (toS x) t) (.str (toS y) u) (strLt x y) := fun prog w E Q h => by
  have : strLt x y = decide ((toS x).cps.toList < (toS y).cps.toList) := by rw [toS_cps, toS_cps, strLt_eq]
  rw [this] at h
  exact (PyProof.Rows.lt_str h : wpAny (model prog w) A (compareOp .Lt (.str (toS x) t) (.str (toS y) u)) Q E s)
theorem ordL_lex {f : D → D → Option Bool} {z : D} : ∀ {xs ys : List D} {b : Bool}, ordL f xs ys = some b → ∀ (i : Nat) (as bs : List D), as.length = i → bs.length = i →
    b = Ob.lexAt (fun j => ((as ++ xs).getD j z).eqv ((bs ++ ys).getD j z)) (fun j => (f ((as ++ xs).getD j z) ((bs ++ ys).getD j z)).getD false) (decide (xs.length < ys.length)) i (min xs.length ys.length)
  | [], [], b, h, i, as, bs, h1, h2 => by cases h; rfl
  | [], y :: ys, b, h, i, as, bs, h1, h2 => by cases h; simp [Ob.lexAt_zero]
  | x :: xs, [], b, h, i, as, bs, h1, h2 => by cases h; simp [Ob.lexAt_zero]
  | x :: xs, y :: ys, b, h, i, as, bs, h1, h2 => by
    simp only [ordL, Option.bind_eq_some_iff] at h
    obtain ⟨r, hr, h⟩ := h
    have ih := ordL_lex (z := z) hr (i + 1) (as ++ [x]) (bs ++ [y]) (by simp [h1]) (by simp [h2])
    have e1 : min (x :: xs).length (y :: ys).length = min xs.length ys.length + 1 := by simp only [List.length_cons]; omega
    rw [e1, Ob.lexAt_succ]
    have gx : (as ++ x :: xs).getD i z = x := by simp [List.getD, h1]
    have gy : (bs ++ y :: ys).getD i z = y := by simp [List.getD, h2]
    rw [gx, gy]
    have e2 : decide ((x :: xs).length < (y :: ys).length) = decide (xs.length < ys.length) := by simp
    rw [e2]
    simp only [List.append_assoc, List.singleton_append] at ih
    split at h
    · rename_i hq
      rw [if_pos hq]
      cases h
      exact ih
    · rename_i hq
      rw [if_neg hq, h]
      rfl
theorem ordL_all {f : D → D → Option Bool} : ∀ {xs ys : List D} {b : Bool}, ordL f xs ys = some b → ∀ (j : Nat) (x y : D), xs[j]? = some x → ys[j]? = some y → x.eqv y = false → ∃ r, f x y = some r
  | [], _, b, h, j, x, y, h1, h2, h3 => by simp at h1
  | _ :: _, [], b, h, j, x, y, h1, h2, h3 => by simp at h2
  | x' :: xs, y' :: ys, b, h, j, x, y, h1, h2, h3 => by
    simp only [ordL, Option.bind_eq_some_iff] at h
    obtain ⟨r, hr, h⟩ := h
    cases j with
    | zero =>
      simp at h1 h2
      subst h1 h2
      rw [h3] at h
      exact ⟨b, h⟩
    | succ j => exact ordL_all hr j x y (by simpa using h1) (by simpa using h2) h3
theorem fitL_get {m : Nat} : ∀ {xs : List D} {j : Nat} {x : D}, D.fitL m xs = true → xs[j]? = some x → x.fit m = true
  | [], _, _, _, h => by simp at h
  | a :: r, 0, x, h, e => by
    simp at e; subst e
    simp only [D.fitL, D.fit.fitL, Bool.and_eq_true] at h
    exact h.1
  | a :: r, j + 1, x, h, e => by
    simp only [D.fitL, D.fit.fitL, Bool.and_eq_true] at h
    exact fitL_get h.2 (by simpa using e)
theorem ord_run {X : Cx} {pins : List (Addr × Obj)} {σ : L2.St} {H : Hp} {s : Shared} {ρ : Rh} {n : Nat} (I : Inv X pins σ H s) : ∀ (m : Nat) (A : Around), A.units + m + 1 < cLine → ∀ (d e : D) (b : Bool) (x y : V) (v u : Value), d.fit m = true → e.fit m = true → ordD m d e = some b →
    RelRd X.K ρ n H d x → RelRd X.K ρ n H e y → RelV x v → RelV y u → Ob.RcOp .Lt A s v u b := by
  intro m
  induction m with
  | zero =>
    intro A hu d e b x y v u hd he ho rd re rx ry
    cases d <;> cases e <;> simp [ordD] at ho
    · cases rd; cases re
      obtain ⟨t, rfl⟩ := rx
      obtain ⟨t', rfl⟩ := ry
      rw [← ho]
      exact Ob.RcOp.lt_int _ _ _ _
    · cases rd; cases re
      obtain ⟨t, rfl⟩ := rx
      obtain ⟨t', rfl⟩ := ry
      rw [← ho]
      exact rcLt_S _ _ _ _ _ _
  | succ m ih =>
    intro A hu d e b x y v u hd he ho rd re rx ry
    cases d <;> cases e <;> simp [ordD] at ho
    · cases rd; cases re
      obtain ⟨t, rfl⟩ := rx
      obtain ⟨t', rfl⟩ := ry
      rw [← ho]
      exact Ob.RcOp.lt_int _ _ _ _
    · cases rd; cases re
      obtain ⟨t, rfl⟩ := rx
      obtain ⟨t', rfl⟩ := ry
      rw [← ho]
      exact rcLt_S _ _ _ _ _ _
    · rename_i xs ys
      obtain ⟨a, vs, rfl, h1, l1⟩ : ∃ A as, x = .ref A ∧ TpK X.K H A as ∧ RelL X.K ρ n none H xs as := by cases rd; exact ⟨_, _, rfl, ‹_›, ‹_›⟩
      obtain ⟨c, ws, rfl, h2, l2⟩ : ∃ A as, y = .ref A ∧ TpK X.K H A as ∧ RelL X.K ρ n none H ys as := by cases re; exact ⟨_, _, rfl, ‹_›, ‹_›⟩
      cases rx
      cases ry
      obtain ⟨its, r1, p1, _⟩ := I.tuple h1.sq
      obtain ⟨its2, r2, p2, _⟩ := I.tuple h2.sq
      have e1 : its.toArray.size = xs.length := by rw [List.size_toArray, ← r1.length, l1.length]
      have e2 : its2.toArray.size = ys.length := by rw [List.size_toArray, ← r2.length, l2.length]
      have fx : D.fitL m xs = true := by simpa [D.fit] using hd
      have fy : D.fitL m ys = true := by simpa [D.fit] using he
      have lx := ordL_lex (z := .non) ho 0 [] [] rfl rfl
      simp only [List.nil_append] at lx
      rw [lx, ← e1, ← e2]
      have at_ : ∀ j (q1 : j < its.toArray.size) (q2 : j < its2.toArray.size), ∃ dx dy vx vy, xs[j]? = some dx ∧ ys[j]? = some dy ∧ Rel X.K ρ n none H dx vx ∧ Rel X.K ρ n none H dy vy ∧ RelV vx its.toArray[j] ∧ RelV vy its2.toArray[j] ∧ xs.getD j .non = dx ∧ ys.getD j .non = dy := by
        intro j q1 q2
        have hx : j < xs.length := by omega
        have hy : j < ys.length := by omega
        obtain ⟨vx, a1, a2⟩ := l1.get (List.getElem?_eq_getElem hx)
        obtain ⟨vy, b1, b2⟩ := l2.get (List.getElem?_eq_getElem hy)
        obtain ⟨ux, c1, c2⟩ := r1.get a1
        obtain ⟨uy, d1, d2⟩ := r2.get b1
        obtain ⟨hc, c3⟩ := List.getElem?_eq_some_iff.mp c1
        obtain ⟨hd', d3⟩ := List.getElem?_eq_some_iff.mp d1
        refine ⟨xs[j], ys[j], vx, vy, List.getElem?_eq_getElem hx, List.getElem?_eq_getElem hy, a2, b2, ?_, ?_, by simp [List.getD, hx], by simp [List.getD, hy]⟩
        · simpa [c3] using c2
        · simpa [d3] using d2
      refine Ob.RcOp.tuples_lt p1 p2 (by omega) (fun j q1 q2 => ?_) (fun j q1 q2 hne => ?_)
      · obtain ⟨dx, dy, vx, vy, g1, g2, g3, g4, g5, g6, g7, g8⟩ := at_ j q1 q2
        rw [g7, g8]
        exact eqAt_of I (fitL_get fx g1) (fitL_get fy g2) g3 g4 g5 g6 (by show A.units + 1 + m < cLine; omega)
      · obtain ⟨dx, dy, vx, vy, g1, g2, g3, g4, g5, g6, g7, g8⟩ := at_ j q1 q2
        rw [g7, g8] at hne ⊢
        obtain ⟨r, hr⟩ := ordL_all ho j dx dy g1 g2 hne
        rw [hr]
        exact ih A.in1 (by show A.units + 1 + m + 1 < cLine; omega) dx dy r vx vy _ _ (fitL_get fx g1) (fitL_get fy g2) hr (.of g3) (.of g4) g5 g6
theorem op_cmp {X : Cx} (hu : X.A.units + 65 < cLine) (op : Cmp) : OpR X (compareOp op.py) (rDC X.K op) := by
  intro pins s σ H x y v u Q I rx ry h
  obtain ⟨Ps, ρ, st, dx, dy, b, g, hx, hy, e, q⟩ := h
  cases op with
  | eq =>
    by_cases hs : ∃ a c, dx = .str a ∧ dy = .str c
    · obtain ⟨a, c, rfl, rfl⟩ := hs
      cases hx; cases hy; cases e
      refine op_eq pins s σ H _ _ v u Q I rx ry ⟨rfl, ?_⟩
      rw [show decide (V.str (toS a) = V.str (toS c)) = (a == c) by rw [Bool.eq_iff_iff]; simp; exact ⟨toS_inj, fun h => by rw [h]⟩]
      exact q
    have e1 : cmp2 .eq dx dy = if dx.fit 64 && dy.fit 64 then some (dx.eqv dy) else none := by
      cases dx <;> first | rfl | (cases dy <;> first | rfl | exact absurd ⟨_, _, rfl, rfl⟩ hs)
    rw [e1] at e
    split at e
    · rename_i hz
      cases e
      simp only [Bool.and_eq_true] at hz
      exact op_eqD (by omega) pins s σ H _ _ v u Q I rx ry ⟨_, _, hx.dp hz.1, hy.dp hz.2, toP_shaped hz.1, toP_shaped hz.2, by rw [toP_eqv _ _ hz.1 hz.2]; exact q⟩
    · cases e
  | ne =>
    by_cases hs : ∃ a c, dx = .str a ∧ dy = .str c
    · obtain ⟨a, c, rfl, rfl⟩ := hs
      cases hx; cases hy; cases e
      refine op_ne pins s σ H _ _ v u Q I rx ry ⟨rfl, ?_⟩
      rw [show decide (V.str (toS a) = V.str (toS c)) = (a == c) by rw [Bool.eq_iff_iff]; simp; exact ⟨toS_inj, fun h => by rw [h]⟩]
      exact q
    have e1 : cmp2 .ne dx dy = if dx.fit 64 && dy.fit 64 then some (!dx.eqv dy) else none := by
      cases dx <;> first | rfl | (cases dy <;> first | rfl | exact absurd ⟨_, _, rfl, rfl⟩ hs)
    rw [e1] at e
    split at e
    · rename_i hz
      cases e
      simp only [Bool.and_eq_true] at hz
      exact op_neD (by omega) pins s σ H _ _ v u Q I rx ry ⟨_, _, hx.dp hz.1, hy.dp hz.2, toP_shaped hz.1, toP_shaped hz.2, by rw [toP_eqv _ _ hz.1 hz.2]; exact q⟩
    · cases e
  | lt =>
    cases dx with
    | int i =>
      cases dy with
      | int j => cases hx; cases hy; cases e; exact op_lt pins s σ H _ _ v u Q I rx ry ⟨_, _, rfl, rfl, q⟩
      | _ => simp [cmp2] at e
    | str a =>
      cases dy with
      | str c => cases hx; cases hy; cases e; exact op_lt_str pins s σ H _ _ v u Q I rx ry ⟨_, _, rfl, rfl, by rw [toS_cps, toS_cps, ← strLt_eq]; exact q⟩
      | _ => simp [cmp2] at e
    | tup a =>
      cases dy with
      | tup c =>
        simp only [cmp2] at e
        split at e
        · rename_i hz
          simp only [Bool.and_eq_true] at hz
          exact ord_run I 64 X.A (by omega) (.tup a) (.tup c) b x y v u (by simpa [D.fit] using hz.1) (by simpa [D.fit] using hz.2) e hx hy rx ry X.prog X.w X.xe (EP X pins σ Q) ⟨.bl b, H, I, rfl, q⟩
        · cases e
      | _ => simp [cmp2] at e
    | _ => simp [cmp2] at e
  | le =>
    cases dx with
    | int i =>
      cases dy with
      | int j => cases hx; cases hy; cases e; exact op_le pins s σ H _ _ v u Q I rx ry ⟨_, _, rfl, rfl, q⟩
      | _ => simp [cmp2] at e
    | str a =>
      cases dy with
      | str c =>
        cases hx; cases hy; cases e
        refine op_le_str pins s σ H _ _ v u Q I rx ry ⟨_, _, rfl, rfl, ?_⟩
        rw [toS_cps, toS_cps]
        rw [strLt_eq] at q
        have e2 : decide (a ≤ c) = !decide (c < a) := by
          rw [Bool.eq_iff_iff]; simp [List.not_lt]
        first | (rw [e2]; exact q) | exact q
      | _ => simp [cmp2] at e
    | _ => simp [cmp2] at e
  | gt =>
    cases dx with
    | int i =>
      cases dy with
      | int j => cases hx; cases hy; cases e; exact op_gt pins s σ H _ _ v u Q I rx ry ⟨_, _, rfl, rfl, q⟩
      | _ => simp [cmp2] at e
    | _ => simp [cmp2] at e
  | ge =>
    cases dx with
    | int i =>
      cases dy with
      | int j => cases hx; cases hy; cases e; exact op_ge pins s σ H _ _ v u Q I rx ry ⟨_, _, rfl, rfl, q⟩
      | _ => simp [cmp2] at e
    | _ => simp [cmp2] at e
  | is =>
    cases dy with
    | non =>
      cases hy
      have e' : dx.isNon = b := by simpa [cmp2] using e
      subst e'
      rw [isNon_of hx] at q
      exact op_isN pins s σ H _ _ v u Q I rx ry ⟨rfl, q⟩
    | bl c =>
      cases dx with
      | bl a => cases hx; cases hy; cases e; exact op_isBl pins s σ H _ _ v u Q I rx ry ⟨_, _, rfl, rfl, by rw [show decide (a = c) = (a == c) by rw [Bool.eq_iff_iff]; simp]; exact q⟩
      | _ => simp [cmp2] at e
    | _ => cases dx <;> simp [cmp2] at e
  | isnot =>
    cases dy with
    | non =>
      cases hy
      have e' : (!dx.isNon) = b := by simpa [cmp2] using e
      subst e'
      rw [isNon_of hx] at q
      exact op_notN pins s σ H _ _ v u Q I rx ry ⟨rfl, q⟩
    | bl c =>
      cases dx with
      | bl a => cases hx; cases hy; cases e; exact op_notBl pins s σ H _ _ v u Q I rx ry ⟨_, _, rfl, rfl, by rw [show decide (a = c) = (a == c) by rw [Bool.eq_iff_iff]; simp]; exact q⟩
      | _ => simp [cmp2] at e
    | _ => cases dx <;> simp [cmp2] at e
  | inn =>
    cases dy with
    | str z =>
      cases dx with
      | str c =>
        match c, e with
        | [c], e =>
          cases hx; cases hy; cases e
          refine op_in_sign pins s σ H _ _ v u Q I rx ry ⟨c, _, rfl, rfl, ?_⟩
          rw [toS_cps, show decide (c ∈ z) = z.contains c by rw [Bool.eq_iff_iff]; simp]
          exact q
        | [], e => simp [cmp2] at e
        | _ :: _ :: _, e => simp [cmp2] at e
      | _ => simp [cmp2] at e
    | tup xs =>
      have e1 : cmp2 .inn dx (.tup xs) = if dx.fit 64 && D.fitL 63 xs then some (xs.any fun x => x.eqv dx) else none := by
        cases dx <;> first | rfl | (rename_i z; cases z <;> first | rfl | (rename_i z; cases z <;> rfl))
      rw [e1] at e
      split at e
      · rename_i hz
        cases e
        simp only [Bool.and_eq_true] at hz
        have hf : (D.tup xs).fit 64 = true := by simpa [D.fit] using hz.2
        refine op_inTD hu pins s σ H _ _ v u Q I rx ry ⟨_, _, hx.dp hz.1, hy.dp hf, toP_shaped hz.1, toP_shaped hf, ?_⟩
        rw [toPL_any dx hz.1 xs hz.2]; simpa using q
      · cases e
    | lv o xs =>
      have e1 : cmp2 .inn dx (.lv o xs) = if dx.fit 64 && D.fitL 63 xs then some (xs.any fun x => x.eqv dx) else none := by
        cases dx <;> first | rfl | (rename_i z; cases z <;> first | rfl | (rename_i z; cases z <;> rfl))
      rw [e1] at e
      split at e
      · rename_i hz
        cases e
        simp only [Bool.and_eq_true] at hz
        have hf : (D.lv o xs).fit 64 = true := by simpa [D.fit] using hz.2
        refine op_inD hu pins s σ H _ _ v u Q I rx ry ⟨_, _, hx.dp hz.1, hy.dp hf, toP_shaped hz.1, toP_shaped hf, ?_⟩
        rw [toPL_any dx hz.1 xs hz.2]; exact q
      · cases e
    | _ => cases dx <;> first | simp [cmp2] at e | (rename_i z; cases z <;> first | simp [cmp2] at e | (rename_i z; cases z <;> simp [cmp2] at e))
  | notin =>
    cases dy with
    | str z =>
      cases dx with
      | str c =>
        match c, e with
        | [c], e =>
          cases hx; cases hy; cases e
          refine op_notIn_sign pins s σ H _ _ v u Q I rx ry ⟨c, _, rfl, rfl, ?_⟩
          rw [toS_cps, show decide (c ∈ z) = z.contains c by rw [Bool.eq_iff_iff]; simp]
          exact q
        | [], e => simp [cmp2] at e
        | _ :: _ :: _, e => simp [cmp2] at e
      | _ => simp [cmp2] at e
    | tup xs =>
      have e1 : cmp2 .notin dx (.tup xs) = if dx.fit 64 && D.fitL 63 xs then some (!xs.any fun x => x.eqv dx) else none := by
        cases dx <;> first | rfl | (rename_i z; cases z <;> first | rfl | (rename_i z; cases z <;> rfl))
      rw [e1] at e
      split at e
      · rename_i hz
        cases e
        simp only [Bool.and_eq_true] at hz
        have hf : (D.tup xs).fit 64 = true := by simpa [D.fit] using hz.2
        refine op_notInTD hu pins s σ H _ _ v u Q I rx ry ⟨_, _, hx.dp hz.1, hy.dp hf, toP_shaped hz.1, toP_shaped hf, ?_⟩
        rw [toPL_any dx hz.1 xs hz.2]; simpa using q
      · cases e
    | lv o xs =>
      have e1 : cmp2 .notin dx (.lv o xs) = if dx.fit 64 && D.fitL 63 xs then some (!xs.any fun x => x.eqv dx) else none := by
        cases dx <;> first | rfl | (rename_i z; cases z <;> first | rfl | (rename_i z; cases z <;> rfl))
      rw [e1] at e
      split at e
      · rename_i hz
        cases e
        simp only [Bool.and_eq_true] at hz
        have hf : (D.lv o xs).fit 64 = true := by simpa [D.fit] using hz.2
        refine op_notInD hu pins s σ H _ _ v u Q I rx ry ⟨_, _, hx.dp hz.1, hy.dp hf, toP_shaped hz.1, toP_shaped hf, ?_⟩
        rw [toPL_any dx hz.1 xs hz.2]; exact q
      · cases e
    | _ => cases dx <;> first | simp [cmp2] at e | (rename_i z; cases z <;> first | simp [cmp2] at e | (rename_i z; cases z <;> simp [cmp2] at e))
end L3
end

section -- I4
set_option autoImplicit false
set_option linter.all false
set_option maxRecDepth 100000
set_option maxHeartbeats 1000000
namespace L3
open PySem PySem.Spec PyProof.Rows L2

mutual
theorem D.lt_mono {m n : Nat} (h : m ≤ n) : ∀ (d : D), d.lt m = true → d.lt n = true
  | .non, _ => rfl
  | .bl _, _ => rfl
  | .int _, _ => rfl
  | .str _, _ => rfl
  | .scr _, _ => rfl
  | .ref k, e => by simp [D.lt] at e ⊢; omega
  | .tup xs, e => by simp only [D.lt] at e ⊢; exact D.ltL_mono h xs e
  | .lv _ xs, e => by simp only [D.lt] at e ⊢; exact D.ltL_mono h xs e
theorem D.ltL_mono {m n : Nat} (h : m ≤ n) : ∀ (d : List D), D.ltL m d = true → D.ltL n d = true
  | [], _ => rfl
  | x :: xs, e => by
    simp only [D.ltL, D.lt.ltL, Bool.and_eq_true] at e ⊢
    exact ⟨D.lt_mono h x e.1, D.ltL_mono h xs e.2⟩
end
theorem MO.lt_mono {m n : Nat} (h : m ≤ n) : ∀ (o : MO), o.lt m = true → o.lt n = true
  | .lst xs, e => D.ltL_mono h xs e
  | .dct _ xs, e => D.ltL_mono h xs e
  | .dtp _ xs, e => D.ltL_mono h xs e
theorem joinU_l {a b : Option Nat} {l : Nat} (h : a = some l) : ∃ l', joinU a b = some l' ∧ l' ≤ l := by
  subst h
  cases b with
  | none => exact ⟨l, rfl, Nat.le_refl _⟩
  | some k => exact ⟨_, rfl, Nat.min_le_left _ _⟩
theorem joinU_r {a b : Option Nat} {l : Nat} (h : b = some l) : ∃ l', joinU a b = some l' ∧ l' ≤ l := by
  subst h
  cases a with
  | none => exact ⟨l, rfl, Nat.le_refl _⟩
  | some k => exact ⟨_, rfl, Nat.min_le_right _ _⟩

section
variable {K : Fr} {Ps : List Addr} {ρ ρ' ρ1 ρ2 : Rh} {x y : Option Addr} {H H' H1 H2 : Hp} {s s' t : S} {d : D} {v : V} {ds : List D} {vs us : List V} {a : Addr} {o : HO}

/-- a cell is written -/
theorem Ext.put (g : Good K Ps ρ x H s) {m : Nat} (hm : m < s.n) (o : MO) (u : HO) : Ext K ρ H s ρ (upd H (ρ m) u) (s.put m o) where
  base := rfl
  av := rfl
  le := by simp [S.put, S.n]
  same := fun _ _ => rfl
  keep := fun a w h hn _ => by rw [upd_ne (fun e => hn m hm e.symm)]; exact h
  fresh := fun i h1 h2 => by simp only [S.put, S.n, List.length_set] at h1 h2; exact absurd h2 (by omega)
  there := fun a h => by
    by_cases e : a = ρ m
    · rw [e, upd_same]; simp
    · rw [upd_ne e]; exact h
  upm := fun l h => by
    show ∃ l', (if o.lt 0 then s.up else joinU s.up (some m)) = some l' ∧ l' ≤ l
    by_cases q : o.lt 0 = true
    · rw [if_pos q]; exact ⟨l, h, Nat.le_refl _⟩
    · rw [if_neg q]; exact joinU_l h
  chg := fun i p p' h1 h2 => by
    by_cases e : i = m
    · subst e
      have e2 : p' = o := by
        have : (s.cells.set i o)[i]? = some p' := h2
        rw [List.getElem?_set_self hm] at this
        exact (Option.some.inj this).symm
      subst e2
      by_cases q : p'.lt 0 = true
      · exact .inr (.inl q)
      · refine .inr (.inr ?_)
        show ∃ l, (if p'.lt 0 then s.up else joinU s.up (some i)) = some l ∧ l ≤ i
        rw [if_neg q]; exact joinU_r rfl
    · have : (s.cells.set m o)[i]? = some p' := h2
      rw [List.getElem?_set_ne (Ne.symm e), h1] at this
      exact .inl (Option.some.inj this).symm
theorem Good.put (g : Good K Ps ρ none H s) {m : Nat} (hm : m < s.n) {xs : List D} (r : RelL K ρ s.n none H xs vs) : Good K Ps ρ none (upd H (ρ m) (.lst vs)) (s.put m (.lst xs)) := by
  have e := Ext.put g hm (.lst xs) (.lst vs)
  have hn : (s.put m (.lst xs)).n = s.n := by simp [S.put, S.n]
  refine ⟨fun i j hi hj => g.inj i j (by rw [hn] at hi; exact hi) (by rw [hn] at hj; exact hj), fun i o q => ?_, fun i o hi q hl => ?_, by rw [hn]; exact g.bl, fun P hP => ?_, fun a q => e.there a (g.xt a q)⟩
  · have q' : (s.cells.set m (.lst xs))[i]? = some o := q
    have hi : i < s.n := by
      have := (List.getElem?_eq_some_iff.mp q').1
      simpa using this
    by_cases z : i = m
    · subst z
      rw [List.getElem?_set_self hm] at q'
      cases q'
      exact ⟨vs, upd_same, r.ext g e⟩
    · rw [List.getElem?_set_ne (Ne.symm z)] at q'
      have w := g.cell i o q'
      cases o with
      | lst ys =>
        obtain ⟨us, h1, h2⟩ := w
        refine ⟨us, ?_, h2.ext g e⟩
        rw [upd_ne (fun w => z (g.inj i m hi hm w))]
        exact h1
      | dct ks ys =>
        obtain ⟨us, h1, h3, h2⟩ := w
        refine ⟨us, ?_, h3, h2.ext g e⟩
        rw [upd_ne (fun w => z (g.inj i m hi hm w))]
        exact h1
      | dtp ks ys =>
        obtain ⟨us, h1, h3, h2⟩ := w
        refine ⟨us, ?_, h3, h2.ext g e⟩
        rw [upd_ne (fun w => z (g.inj i m hi hm w))]
        exact h1
  · have q' : (s.cells.set m (.lst xs))[i]? = some o := q
    show o.lt s.base = true
    have hi' : i < s.base := hi
    have hl' : ∀ l, (if (MO.lst xs).lt 0 then s.up else joinU s.up (some m)) = some l → i < l := hl
    by_cases w : (MO.lst xs).lt 0 = true
    · rw [if_pos w] at hl'
      by_cases z : i = m
      · subst z
        rw [List.getElem?_set_self hm] at q'
        cases q'
        exact MO.lt_mono (Nat.zero_le _) _ w
      · rw [List.getElem?_set_ne (Ne.symm z)] at q'
        exact g.clean i o hi' q' hl'
    · rw [if_neg w] at hl'
      by_cases z : i = m
      · subst z
        obtain ⟨l, h1, h2⟩ := joinU_r (a := s.up) (b := some i) (l := i) rfl
        exact absurd (hl' l h1) (by omega)
      · rw [List.getElem?_set_ne (Ne.symm z)] at q'
        refine g.clean i o hi' q' fun l h => ?_
        obtain ⟨l', h1, h2⟩ := joinU_l (b := some m) h
        exact Nat.lt_of_lt_of_le (hl' l' h1) h2
  · obtain ⟨ps, q, t⟩ := g.tb P hP
    refine ⟨ps, ?_, t⟩
    rw [upd_ne]
    · exact q
    · intro z
      obtain ⟨us, w, hw⟩ := g.lst hm
      rw [← z, q] at w; cases w; exact hw.elim

/-- the list that is ours alone gets a number -/
theorem new_cell {o : MO} {s0 : S} (e0 : Ext K ρ H s0 ρ' H' s) (hH : H a = none) (hne : ∀ i, i < s.n → ρ' i ≠ a) (hav : a ∉ ρ'.av) (g : Good K Ps ρ' (some a) H' s) (hc : CellRel K ρ' s.n (some a) H' a o) :
    ∃ ρ2, Ext K ρ H s0 ρ2 H' ⟨s.cells ++ [o], s.base, s.up⟩ ∧ Good K Ps ρ2 none H' ⟨s.cells ++ [o], s.base, s.up⟩ ∧ Rel K ρ2 (s.n + 1) none H' (.ref s.n) (.ref a) := by
  let ρ2 : Rh := ⟨fun i => if i < s.n then ρ' i else a, ρ'.av⟩
  have l2 : ∀ i, i < s.n → ρ2 i = ρ' i := fun i hi => if_pos hi
  have r2 : ρ2 s.n = a := if_neg (Nat.lt_irrefl _)
  have hn : S.n ⟨s.cells ++ [o], s.base, s.up⟩ = s.n + 1 := by simp [S.n]
  have mv : ∀ {d : D} {v : V}, Rel K ρ' s.n (some a) H' d v → Rel K ρ2 (s.n + 1) none H' d v := fun {d v} r => r.map (fun i hi => ⟨Nat.lt_succ_of_lt hi, l2 i hi⟩) (fun _ _ h => h) (fun _ _ h => h) fun b us h1 h2 h3 h4 => ⟨h1, fun i hi q => by
    by_cases z : i < s.n
    · rw [l2 i z] at q; exact h2 i z q
    · have : i = s.n := by omega
      subst this
      rw [r2] at q
      exact h3 (by rw [q]), by simp, h4⟩
  have mvL : ∀ {d : List D} {v : List V}, RelL K ρ' s.n (some a) H' d v → RelL K ρ2 (s.n + 1) none H' d v := fun {d v} r => r.map (fun i hi => ⟨Nat.lt_succ_of_lt hi, l2 i hi⟩) (fun _ _ h => h) (fun _ _ h => h) fun b us h1 h2 h3 h4 => ⟨h1, fun i hi q => by
    by_cases z : i < s.n
    · rw [l2 i z] at q; exact h2 i z q
    · have : i = s.n := by omega
      subst this
      rw [r2] at q
      exact h3 (by rw [q]), by simp, h4⟩
  refine ⟨ρ2, ⟨e0.base, e0.av, by rw [hn]; have := e0.le; omega, fun i hi => (l2 i (Nat.lt_of_lt_of_le hi e0.le)).trans (e0.same i hi), e0.keep, fun i h1 h2 => ?_, e0.there, e0.upm, fun i p p' h1 h2 => ?_⟩, ⟨fun i j hi hj q => ?_, fun i p q => ?_, fun i p hi q hl => ?_, by rw [hn]; exact Nat.le_succ_of_le g.bl, g.tb, g.xt⟩, ?_⟩
  · rw [hn] at h2
    by_cases z : i < s.n
    · rw [l2 i z]; exact e0.fresh i h1 z
    · have : i = s.n := by omega
      subst this
      rw [r2]; exact hH
  · have hi : i < s.cells.length := Nat.lt_of_lt_of_le (List.getElem?_eq_some_iff.mp h1).1 e0.le
    have h2' : (s.cells ++ [o])[i]? = some p' := h2
    rw [List.getElem?_append_left hi] at h2'
    exact e0.chg i p p' h1 h2'
  · rw [hn] at hi hj
    by_cases z : i < s.n
    · by_cases z' : j < s.n
      · rw [l2 i z, l2 j z'] at q; exact g.inj i j z z' q
      · have : j = s.n := by omega
        subst this
        rw [l2 i z, r2] at q; exact absurd q (hne i z)
    · have : i = s.n := by omega
      subst this
      by_cases z' : j < s.n
      · rw [l2 j z', r2] at q; exact absurd q.symm (hne j z')
      · omega
  · have q' : (s.cells ++ [o])[i]? = some p := q
    rw [hn]
    by_cases z : i < s.n
    · rw [List.getElem?_append_left z] at q'
      have w := g.cell i p q'
      rw [l2 i z]
      cases p with
      | lst ys => obtain ⟨us, h1, h2⟩ := w; exact ⟨us, h1, mvL h2⟩
      | dct ks ys => obtain ⟨us, h1, h3, h2⟩ := w; exact ⟨us, h1, h3, mvL h2⟩
      | dtp ks ys => obtain ⟨us, h1, h3, h2⟩ := w; exact ⟨us, h1, h3, mvL h2⟩
    · have hi := (List.getElem?_eq_some_iff.mp q').1
      simp only [List.length_append, List.length_cons, List.length_nil] at hi
      have : i = s.n := by simp only [S.n] at z ⊢; omega
      subst this
      rw [List.getElem?_append_right (Nat.le_refl _)] at q'
      simp [S.n] at q'
      subst q'
      rw [r2]
      cases o with
      | lst ys => obtain ⟨us, h1, h2⟩ := hc; exact ⟨us, h1, mvL h2⟩
      | dct ks ys => obtain ⟨us, h1, h3, h2⟩ := hc; exact ⟨us, h1, h3, mvL h2⟩
      | dtp ks ys => obtain ⟨us, h1, h3, h2⟩ := hc; exact ⟨us, h1, h3, mvL h2⟩
  · have q' : (s.cells ++ [o])[i]? = some p := q
    have hi' : i < s.base := hi
    rw [List.getElem?_append_left (Nat.lt_of_lt_of_le hi' g.bl)] at q'
    exact g.clean i p hi' q' hl
  · have q : Rel K ρ2 (s.n + 1) none H' (.ref s.n) (.ref (ρ2 s.n)) := .ref (Nat.lt_succ_self _)
    rw [r2] at q
    exact q

theorem okR_cell {xs : List D} {s0 : S} (e0 : Ext K ρ H s0 ρ' H' s) (h : OkR K Ps H ρ' H' s (.lv true xs) v) :
    ∃ ρ2, Ext K ρ H s0 ρ2 H' ⟨s.cells ++ [.lst xs], s.base, s.up⟩ ∧ Good K Ps ρ2 none H' ⟨s.cells ++ [.lst xs], s.base, s.up⟩ ∧ Rel K ρ2 (s.n + 1) none H' (.ref s.n) v := by
  obtain ⟨a, vs, rfl, hH, ha, hne, hav, g, r⟩ := h
  exact new_cell e0 hH hne hav g ⟨vs, ha, r⟩

abbrev S.entry (s : S) : S := ⟨s.cells, s.cells.length, none⟩
theorem Good.entry (g : Good K Ps ρ none H s) : Good K Ps ρ none H s.entry :=
  ⟨g.inj, g.cell, fun i o hi q _ => by
    have w := g.cell i o q
    cases o with
    | lst xs => obtain ⟨us, _, r⟩ := w; exact r.ltn
    | dct ks xs => obtain ⟨us, _, _, r⟩ := w; exact r.ltn
    | dtp ks xs => obtain ⟨us, _, _, r⟩ := w; exact r.ltn, Nat.le_refl _, g.tb, g.xt⟩
theorem Ext.stay (e : Ext K ρ H s.entry ρ' H' t) : Ext K ρ H s ρ' H' (s.stay t) where
  base := rfl
  av := e.av
  le := e.le
  same := e.same
  keep := e.keep
  fresh := e.fresh
  there := e.there
  upm := fun l h => joinU_l h
  chg := fun i o o' h1 h2 => by
    rcases e.chg i o o' h1 h2 with q | q | ⟨l, q, z⟩
    · exact .inl q
    · exact .inr (.inl q)
    · obtain ⟨l', h3, h4⟩ := joinU_r (a := s.up) q
      exact .inr (.inr ⟨l', h3, Nat.le_trans h4 z⟩)
theorem Good.stay {x : Option Addr} (g0 : Good K Ps ρ none H s) (e : Ext K ρ H s.entry ρ' H' t) (g : Good K Ps ρ' x H' t) : Good K Ps ρ' x H' (s.stay t) := by
  refine ⟨g.inj, g.cell, fun i o hi q hl => ?_, Nat.le_trans g0.bl e.le, g.tb, g.xt⟩
  have hi' : i < s.base := hi
  have hs : i < s.n := Nat.lt_of_lt_of_le hi' g0.bl
  have q0 : s.cells[i]? = some s.cells[i] := List.getElem?_eq_getElem hs
  have hl' : ∀ l, joinU s.up t.up = some l → i < l := hl
  rcases e.chg i _ o q0 q with z | z | ⟨l, z, w⟩
  · subst z
    refine g0.clean i _ hi' q0 fun l h => ?_
    obtain ⟨l', h1, h2⟩ := joinU_l (b := t.up) h
    exact Nat.lt_of_lt_of_le (hl' l' h1) h2
  · exact MO.lt_mono (Nat.zero_le _) _ z
  · obtain ⟨l', h1, h2⟩ := joinU_r (a := s.up) z
    have := hl' l' h1
    omega
theorem gone_n (e : Ext K ρ H s.entry ρ' H' t) : (s.gone t).n = s.n := by
  have h1 := e.base
  have h2 := e.le
  simp only [S.gone, S.n, List.length_take, S.entry] at *
  omega
theorem gone_at (e : Ext K ρ H s.entry ρ' H' t) {i : Nat} {o : MO} (h : (s.gone t).cells[i]? = some o) : i < s.n ∧ t.cells[i]? = some o := by
  have hb : t.base = s.n := e.base
  have h' : (t.cells.take t.base)[i]? = some o := h
  rw [List.getElem?_take] at h'
  split at h'
  · exact ⟨by omega, h'⟩
  · cases h'
theorem Ext.gone (e : Ext K ρ H s.entry ρ' H' t) (hv : t.viol = false) : Ext K ρ H s ρ' H' (s.gone t) where
  base := rfl
  av := e.av
  le := by rw [gone_n e]; exact Nat.le_refl _
  same := e.same
  keep := e.keep
  fresh := fun i h1 h2 => by rw [gone_n e] at h2; exact absurd h2 (by omega)
  there := e.there
  upm := fun l h => ⟨l, h, Nat.le_refl _⟩
  chg := fun i o o' h1 h2 => by
    obtain ⟨hi, h3⟩ := gone_at e h2
    rcases e.chg i o o' h1 h3 with q | q | ⟨l, q, z⟩
    · exact .inl q
    · exact .inr (.inl q)
    · have hb : t.base = s.n := e.base
      simp only [S.viol, q, decide_eq_false_iff_not] at hv
      omega
/-- what is left, where lists at a are avoided too -/
theorem Good.gone {x : Option Addr} (g0 : Good K Ps ρ none H s) (e : Ext K ρ H s.entry ρ' H' t) (hv : t.viol = false) (g : Good K Ps ρ' x H' t) : Good K Ps ρ' x H' (s.gone t) := by
  have hb : t.base = s.n := e.base
  have hle : s.n ≤ t.n := e.le
  refine ⟨fun i j hi hj => g.inj i j ?_ ?_, fun i o q => ?_, fun i o hi q hl => ?_, by rw [gone_n e]; exact g0.bl, g.tb, g.xt⟩
  · rw [gone_n e] at hi; omega
  · rw [gone_n e] at hj; omega
  · obtain ⟨hi, h3⟩ := gone_at e q
    have w := g.cell i o h3
    have c := g.clean i o (by omega) h3 fun l h => by
      simp only [S.viol, h, decide_eq_false_iff_not] at hv
      omega
    rw [gone_n e]
    cases o with
    | lst xs =>
      obtain ⟨us, h1, h2⟩ := w
      exact ⟨us, h1, h2.shrink hle (by rw [hb] at c; exact c)⟩
    | dct ks xs =>
      obtain ⟨us, h1, h3, h2⟩ := w
      exact ⟨us, h1, h3, h2.shrink hle (by rw [hb] at c; exact c)⟩
    | dtp ks xs =>
      obtain ⟨us, h1, h3, h2⟩ := w
      exact ⟨us, h1, h3, h2.shrink hle (by rw [hb] at c; exact c)⟩
  · obtain ⟨hi', h3⟩ := gone_at e q
    have hb' : i < s.base := hi
    have q0 : s.cells[i]? = some s.cells[i] := List.getElem?_eq_getElem hi'
    rcases e.chg i _ o q0 h3 with z | z | ⟨l, z, w⟩
    · subst z
      exact g0.clean i _ hb' q0 hl
    · exact MO.lt_mono (Nat.zero_le _) _ z
    · simp only [S.viol, z, decide_eq_false_iff_not] at hv
      omega

/-- what a call's caller wants, told of the callee -/
theorem Post.callR {f : List D → S → R D} {Q : VK} {XQ : Nat → Hp → Prop} (g0 : Good K Ps ρ none H s) (p : Post K Ps ρ H s (callR f ds s) Q XQ) : Post K Ps ρ H s.entry (f ds s.entry) Q XQ := by
  unfold L3.callR at p
  cases q : f ds s.entry with
  | bad => rw [q] at p; exact p
  | exc c t =>
    rw [q] at p
    intro ρ' H' e g
    refine p ρ' H' ?_ ?_
    · cases hv : t.viol with
      | true => exact e.stay
      | false => exact e.gone hv
    · cases hv : t.viol with
      | true => exact Good.stay g0 e g
      | false => exact Good.gone g0 e hv g
  | ok d t =>
    rw [q] at p
    intro ρ' H' v e o
    have p' : Post K Ps ρ H s (norm s d t) Q XQ := p
    have stay : Post K Ps ρ H s (.ok d (s.stay t)) Q XQ → Q v H' := fun p => by
      refine p ρ' H' v e.stay ?_
      cases d with
      | lv o' xs =>
        cases o' with
        | true => obtain ⟨a, vs, h1, h2, h3, h4, h7, h5, h6⟩ := o; exact ⟨a, vs, h1, h2, h3, h4, h7, Good.stay g0 e h5, h6⟩
        | false => exact ⟨Good.stay g0 e o.1, o.2⟩
      | _ => exact ⟨Good.stay g0 e o.1, o.2⟩
    have hb : t.base = s.n := e.base
    have hle : s.n ≤ t.n := e.le
    unfold norm at p'
    cases hv : t.viol with
    | true => rw [if_pos hv] at p'; exact stay p'
    | false =>
      rw [if_neg (by rw [hv]; simp)] at p'
      have gone : d.lt t.base = true → (∀ xs, d ≠ .lv true xs) → Post K Ps ρ H s (.ok d (s.gone t)) Q XQ → Q v H' := fun hd hn p => by
        refine p ρ' H' v (e.gone hv) (.of hn (Good.gone g0 e hv o.good) ?_)
        rw [gone_n e]
        have o2 : Rel K ρ' t.n none H' d v := by
          cases d with
          | lv o' xs =>
            cases o' with
            | true => exact absurd rfl (hn xs)
            | false => exact o.2
          | _ => exact o.2
        exact o2.shrink hle (by rw [← hb]; exact hd)
      have other : Post K Ps ρ H s (if d.lt t.base then .ok d (s.gone t) else .ok d (s.stay t)) Q XQ → (∀ xs, d ≠ .lv true xs) → Q v H' := fun p hn => by
        split at p
        · rename_i hd; exact gone hd hn p
        · exact stay p
      cases d with
      | ref m =>
        dsimp only at p'
        split at p'
        · rename_i hm
          exact gone (by simpa [D.lt] using hm) (by simp) p'
        · rename_i hm
          split at p'
          · rename_i xs hx
            split at p'
            · rename_i hl
              have o' : Good K Ps ρ' none H' t ∧ Rel K ρ' t.n none H' (.ref m) v := o
              obtain ⟨g, r⟩ := o'
              cases r with
              | ref hmn =>
                obtain ⟨us, h1, h2⟩ := g.cell m _ hx
                have av : ∀ {d : D} {v : V}, Rel K ρ' t.n none H' d v → Rel K ρ' t.n (some (ρ' m)) H' d v := fun {d v} r => r.map (fun i hi => ⟨hi, rfl⟩) (fun _ _ h => h) (fun _ _ h => h) fun b us h1 h2 _ h4 => ⟨h1, h2, fun q => h2 m hmn (Option.some.inj q), h4⟩
                have avL : ∀ {d : List D} {v : List V}, RelL K ρ' t.n none H' d v → RelL K ρ' t.n (some (ρ' m)) H' d v := fun {d v} r => r.map (fun i hi => ⟨hi, rfl⟩) (fun _ _ h => h) (fun _ _ h => h) fun b us h1 h2 _ h4 => ⟨h1, h2, fun q => h2 m hmn (Option.some.inj q), h4⟩
                have ga : Good K Ps ρ' (some (ρ' m)) H' t := ⟨g.inj, fun i o q => by
                  have w := g.cell i o q
                  cases o with
                  | lst ys => obtain ⟨ws, w1, w2⟩ := w; exact ⟨ws, w1, avL w2⟩
                  | dct ks ys => obtain ⟨ws, w1, w3, w2⟩ := w; exact ⟨ws, w1, w3, avL w2⟩
                  | dtp ks ys => obtain ⟨ws, w1, w3, w2⟩ := w; exact ⟨ws, w1, w3, avL w2⟩, g.clean, g.bl, g.tb, g.xt⟩
                refine p' ρ' H' _ (e.gone hv) ⟨ρ' m, us, rfl, e.fresh m (by simp only [S.entry, S.n]; simp only [S.n] at hb; omega) hmn, h1, fun i hi q => ?_, fun q => ?_, Good.gone g0 e hv ga, ?_⟩
                · rw [gone_n e] at hi
                  have := g.inj i m (by omega) hmn q
                  omega
                · rw [e.av] at q
                  exact g0.xt _ q (e.fresh m (by simp only [S.entry, S.n]; simp only [S.n] at hb; omega) hmn)
                · rw [gone_n e]
                  exact (avL h2).shrink hle (by rw [← hb]; exact hl)
            · exact stay p'
          · exact stay p'
      | lv ow xs =>
        cases ow with
        | false => exact other p' (by simp)
        | true =>
          dsimp only at p'
          split at p'
          · rename_i hd
            obtain ⟨a, vs, h1, h2, h3, h4, h7, h5, h6⟩ := o
            refine p' ρ' H' v (e.gone hv) ⟨a, vs, h1, h2, h3, fun i hi => h4 i (by rw [gone_n e] at hi; omega), h7, Good.gone g0 e hv h5, ?_⟩
            rw [gone_n e]
            exact h6.shrink hle (by rw [← hb]; simpa [D.lt] using hd)
          · exact stay p'
      | non => exact other p' (by simp)
      | bl _ => exact other p' (by simp)
      | int _ => exact other p' (by simp)
      | str _ => exact other p' (by simp)
      | tup _ => exact other p' (by simp)
      | scr _ => exact other p' (by simp)
end
end L3
end

section -- I5
set_option autoImplicit false
set_option linter.all false
set_option maxRecDepth 100000
set_option maxHeartbeats 1000000
namespace L3
open PySem PySem.Spec PyProof.Rows L2

inductive RdL (K : Fr) (ρ : Rh) (n : Nat) (H : Hp) : List D → List V → Prop where
  | nil : RdL K ρ n H [] []
  | cons {d : D} {v : V} {ds : List D} {vs : List V} : RelRd K ρ n H d v → RdL K ρ n H ds vs → RdL K ρ n H (d :: ds) (v :: vs)
section
variable {K : Fr} {Ps : List Addr} {ρ : Rh} {n : Nat} {H : Hp} {s : S}
theorem RelL.rdL (g : Good K Ps ρ none H s) : ∀ {ds : List D} {vs : List V}, RelL K ρ s.n none H ds vs → RdL K ρ s.n H (ds.map (·.rd s)) vs
  | _, _, .nil => .nil
  | _, _, .cons r t => .cons (Rel.rd g (by
      cases r with
      | lv h1 h2 h3 h4 r => exact .lv h1 h2 h3 h4 r
      | non => exact .non
      | bl b => exact .bl b
      | int i => exact .int i
      | str s => exact .str s
      | tup h r => exact .tup h r
      | ref h => exact .ref h
      | scr h => exact .scr h)) (RelL.rdL g t)
theorem RelRd.tupE {xs : List D} {v : V} (h : RelRd K ρ n H (.tup xs) v) : ∃ a vs, v = .ref a ∧ TpK K H a vs ∧ RelL K ρ n none H xs vs := by
  cases h; exact ⟨_, _, rfl, ‹_›, ‹_›⟩
theorem RelRd.strE {s : List Nat} {v : V} (h : RelRd K ρ n H (.str s) v) : v = .str (toS s) := by cases h; rfl
theorem RelRd.intE {i : Int} {v : V} (h : RelRd K ρ n H (.int i) v) : v = .int i := by cases h; rfl
theorem RelRd.blE {i : Bool} {v : V} (h : RelRd K ρ n H (.bl i) v) : v = .bl i := by cases h; rfl
theorem RelRd.scrE {ns : List Int} {v : V} (h : RelRd K ρ n H (.scr ns) v) : ∃ a, v = .ref a ∧ ScrAt K H a (ns.map V.int) := by cases h; exact ⟨_, rfl, ‹_›⟩
theorem intsOf_map : ∀ {xs : List D} {ns : List Int} {vs : List V}, intsOf xs = some ns → RelL K ρ n none H xs vs → vs = ns.map V.int
  | [], ns, vs, h, r => by cases h; cases r; rfl
  | .int i :: xs, ns, vs, h, r => by
    simp only [intsOf, Option.map_eq_some_iff] at h
    obtain ⟨ms, h1, rfl⟩ := h
    cases r with
    | cons r t => cases r; rw [intsOf_map h1 t]; rfl
  | .non :: _, _, _, h, _ => by simp [intsOf] at h
  | .bl _ :: _, _, _, h, _ => by simp [intsOf] at h
  | .str _ :: _, _, _, h, _ => by simp [intsOf] at h
  | .tup _ :: _, _, _, h, _ => by simp [intsOf] at h
  | .lv _ _ :: _, _, _, h, _ => by simp [intsOf] at h
  | .ref _ :: _, _, _, h, _ => by simp [intsOf] at h
  | .scr _ :: _, _, _, h, _ => by simp [intsOf] at h
theorem strsOf_map : ∀ {xs : List D} {ns : List (List Nat)} {vs : List V}, strsOf xs = some ns → RelL K ρ n none H xs vs → vs = (ns.map toS).map V.str
  | [], ns, vs, h, r => by cases h; cases r; rfl
  | .str i :: xs, ns, vs, h, r => by
    simp only [strsOf, Option.map_eq_some_iff] at h
    obtain ⟨ms, h1, rfl⟩ := h
    cases r with
    | cons r t => cases r; rw [strsOf_map h1 t]; rfl
  | .non :: _, _, _, h, _ => by simp [strsOf] at h
  | .bl _ :: _, _, _, h, _ => by simp [strsOf] at h
  | .int _ :: _, _, _, h, _ => by simp [strsOf] at h
  | .tup _ :: _, _, _, h, _ => by simp [strsOf] at h
  | .lv _ _ :: _, _, _, h, _ => by simp [strsOf] at h
  | .ref _ :: _, _, _, h, _ => by simp [strsOf] at h
  | .scr _ :: _, _, _, h, _ => by simp [strsOf] at h
end

theorem maxI_of {ns : List Int} {m : Int} (h : maxI ns = some m) : 0 < ns.length ∧ ∀ k, k ∈ ns → (∀ y, y ∈ ns → y ≤ k) → k = m := by
  cases ns with
  | nil => simp [maxI] at h
  | cons a r =>
    refine ⟨by simp, fun k hk hy => ?_⟩
    simp only [maxI, Option.some.injEq] at h
    have gen : ∀ (r : List Int) (a : Int), (r.foldl (fun m x => if m < x then x else m) a) ∈ a :: r ∧ ∀ y ∈ a :: r, y ≤ r.foldl (fun m x => if m < x then x else m) a := by
      intro r
      induction r with
      | nil => intro a; simp
      | cons b r ih =>
        intro a
        simp only [List.foldl_cons]
        obtain ⟨h1, h2⟩ := ih (if a < b then b else a)
        refine ⟨?_, fun y hy => ?_⟩
        · rcases List.mem_cons.mp h1 with e | e
          · rw [e]; split <;> simp
          · exact List.mem_cons_of_mem _ (List.mem_cons_of_mem _ e)
        · have h3 := h2 _ List.mem_cons_self
          rcases List.mem_cons.mp hy with rfl | hy
          · refine Int.le_trans ?_ h3; split <;> omega
          · rcases List.mem_cons.mp hy with rfl | hy
            · refine Int.le_trans ?_ h3; split <;> omega
            · exact h2 y (List.mem_cons_of_mem _ hy)
    obtain ⟨h1, h2⟩ := gen r a
    rw [h] at h1 h2
    exact Int.le_antisymm (h2 k hk) (hy m h1)
theorem minI_of {ns : List Int} {m : Int} (h : minI ns = some m) : 0 < ns.length ∧ ∀ k, k ∈ ns → (∀ y, y ∈ ns → k ≤ y) → k = m := by
  cases ns with
  | nil => simp [minI] at h
  | cons a r =>
    refine ⟨by simp, fun k hk hy => ?_⟩
    simp only [minI, Option.some.injEq] at h
    have gen : ∀ (r : List Int) (a : Int), (r.foldl (fun m x => if x < m then x else m) a) ∈ a :: r ∧ ∀ y ∈ a :: r, r.foldl (fun m x => if x < m then x else m) a ≤ y := by
      intro r
      induction r with
      | nil => intro a; simp
      | cons b r ih =>
        intro a
        simp only [List.foldl_cons]
        obtain ⟨h1, h2⟩ := ih (if b < a then b else a)
        refine ⟨?_, fun y hy => ?_⟩
        · rcases List.mem_cons.mp h1 with e | e
          · rw [e]; split <;> simp
          · exact List.mem_cons_of_mem _ (List.mem_cons_of_mem _ e)
        · have h3 := h2 _ List.mem_cons_self
          rcases List.mem_cons.mp hy with rfl | hy
          · refine Int.le_trans h3 ?_; split <;> omega
          · rcases List.mem_cons.mp hy with rfl | hy
            · refine Int.le_trans h3 ?_; split <;> omega
            · exact h2 y (List.mem_cons_of_mem _ hy)
    obtain ⟨h1, h2⟩ := gen r a
    rw [h] at h1 h2
    exact Int.le_antisymm (hy m h1) (h2 k hk)

def BI.isTy : BI → Bool
  | .tuple => true | .list => true | .int => true | _ => false
def BI.name : BI → String
  | .len => "len" | .tuple => "tuple" | .list => "list" | .int => "int" | .abs => "abs" | .sum => "sum" | .max => "max" | .min => "min" | .revlist => "?" | .rev1 => "?"
def BI.val (b : BI) : Value := if b.isTy then .type b.name else .builtin b.name
def BI.sole : BI → Bool
  | .revlist => false | .rev1 => false | _ => true
def rBI (K : Fr) (b : BI) : List V → Hp → VK → Prop := fun vs H Q => ∃ Ps ρ s ds d XQ, Good K Ps ρ none H s ∧ RdL K ρ s.n H ds vs ∧ bi b ds = some d ∧ Post K Ps ρ H s (.ok d s) Q XQ
theorem RdL.one {K : Fr} {ρ : Rh} {n : Nat} {H : Hp} {d : D} {vs : List V} (h : RdL K ρ n H [d] vs) : ∃ v, vs = [v] ∧ RelRd K ρ n H d v := by
  cases h with
  | cons r t => cases t; exact ⟨_, rfl, r⟩
theorem RdL.two {K : Fr} {ρ : Rh} {n : Nat} {H : Hp} {d e : D} {vs : List V} (h : RdL K ρ n H [d, e] vs) : ∃ v w, vs = [v, w] ∧ RelRd K ρ n H d v ∧ RelRd K ρ n H e w := by
  cases h with
  | cons r t => obtain ⟨w, rfl, r2⟩ := t.one; exact ⟨_, _, rfl, r, r2⟩
theorem call_bi {X : Cx} (hc : X.calm = true) (b : BI) (hb : b.sole = true) : CallR X b.val (rBI X.K b) := by
  intro pins s σ H vs us Q I r h
  obtain ⟨Ps, ρ, st, ds, d, XQ, g, rd, e, p⟩ := h
  cases b with
  | len =>
    match ds, e, rd with
    | [.tup xs], e, rd =>
      cases e
      obtain ⟨v, rfl, r1⟩ := rd.one
      obtain ⟨a, ws, rfl, ht, rl⟩ := r1.tupE
      exact call_len pins s σ H _ us Q I r ⟨_, _, rfl, .inr ⟨ws, ht.sq, rfl⟩, by rw [← rl.length]; exact p.val g (by simp) (.int _)⟩
    | [.lv o xs], e, rd =>
      cases e
      obtain ⟨v, rfl, r1⟩ := rd.one
      obtain ⟨a, ws, rfl, ht, rl⟩ := r1
      exact call_len pins s σ H _ us Q I r ⟨_, _, rfl, .inl ⟨ws, .of ht, rfl⟩, by rw [← rl.length]; exact p.val g (by simp) (.int _)⟩
    | [.scr ns], e, rd =>
      cases e
      obtain ⟨v, rfl, r1⟩ := rd.one
      obtain ⟨a, rfl, ht⟩ := r1.scrE
      exact call_len pins s σ H _ us Q I r ⟨_, _, rfl, .inl ⟨_, ht.sq, rfl⟩, by rw [List.length_map]; exact p.val g (by simp) (.int _)⟩
    | [.str z], e, rd =>
      obtain ⟨v, rfl, r1⟩ := rd.one
      have := r1.strE
      subst this
      simp only [bi] at e
      split at e
      · rename_i hz
        cases e
        exact call_len pins s σ H _ us Q I r ⟨_, _, rfl, ⟨by rw [toS_len, ← big_eq]; exact hz, rfl⟩, by rw [toS_len]; exact p.val g (by simp) (.int _)⟩
      · cases e
    | [], e, _ => simp [bi] at e
    | [.non], e, _ => simp [bi] at e
    | [.bl _], e, _ => simp [bi] at e
    | [.int _], e, _ => simp [bi] at e
    | [.ref _], e, _ => simp [bi] at e
    | _ :: _ :: _, e, _ => simp [bi] at e
  | tuple =>
    match ds, e, rd with
    | [.tup xs], e, rd =>
      cases e
      obtain ⟨v, rfl, r1⟩ := rd.one
      obtain ⟨a, ws, rfl, ht, rl⟩ := r1.tupE
      exact call_tuple_of pins s σ H _ us Q I r ⟨_, _, rfl, .inr ⟨ht.sq, p.val g (by simp) (.tup ht rl)⟩⟩
    | [.lv o xs], e, rd =>
      cases e
      obtain ⟨v, rfl, r1⟩ := rd.one
      obtain ⟨a, ws, rfl, ht, rl⟩ := r1
      exact call_tuple_of pins s σ H _ us Q I r ⟨_, _, rfl, .inl ⟨.of ht, fun l hl => p.newT g hl rl⟩⟩
    | [], e, _ => simp [bi] at e
    | [.non], e, _ => simp [bi] at e
    | [.bl _], e, _ => simp [bi] at e
    | [.int _], e, _ => simp [bi] at e
    | [.str _], e, _ => simp [bi] at e
    | [.ref _], e, _ => simp [bi] at e
    | [.scr _], e, _ => simp [bi] at e
    | _ :: _ :: _, e, _ => simp [bi] at e
  | list =>
    match ds, e, rd with
    | [.tup xs], e, rd =>
      cases e
      obtain ⟨v, rfl, r1⟩ := rd.one
      obtain ⟨a, ws, rfl, ht, rl⟩ := r1.tupE
      exact call_list_of pins s σ H _ us Q I r ⟨_, _, rfl, .inr ht.sq, fun l hl => p.newL g hl rl⟩
    | [.lv o xs], e, rd =>
      cases e
      obtain ⟨v, rfl, r1⟩ := rd.one
      obtain ⟨a, ws, rfl, ht, rl⟩ := r1
      exact call_list_of pins s σ H _ us Q I r ⟨_, _, rfl, .inl (.of ht), fun l hl => p.newL g hl rl⟩
    | [], e, _ => simp [bi] at e
    | [.non], e, _ => simp [bi] at e
    | [.bl _], e, _ => simp [bi] at e
    | [.int _], e, _ => simp [bi] at e
    | [.str _], e, _ => simp [bi] at e
    | [.ref _], e, _ => simp [bi] at e
    | [.scr _], e, _ => simp [bi] at e
    | _ :: _ :: _, e, _ => simp [bi] at e
  | int =>
    match ds, e, rd with
    | [.int i], e, rd =>
      cases e
      obtain ⟨v, rfl, r1⟩ := rd.one
      have := r1.intE
      subst this
      exact call_int1 pins s σ H _ us Q I r (.inl ⟨_, rfl, p.val g (by simp) (.int _)⟩)
    | [.bl i], e, rd =>
      cases e
      obtain ⟨v, rfl, r1⟩ := rd.one
      have := r1.blE
      subst this
      exact call_int1 pins s σ H _ us Q I r (.inr ⟨_, rfl, p.val g (by simp) (.int _)⟩)
    | [], e, _ => simp [bi] at e
    | [.non], e, _ => simp [bi] at e
    | [.tup _], e, _ => simp [bi] at e
    | [.lv _ _], e, _ => simp [bi] at e
    | [.str _], e, _ => simp [bi] at e
    | [.ref _], e, _ => simp [bi] at e
    | [.scr _], e, _ => simp [bi] at e
    | _ :: _ :: _, e, _ => simp [bi] at e
  | abs =>
    match ds, e, rd with
    | [.int i], e, rd =>
      cases e
      obtain ⟨v, rfl, r1⟩ := rd.one
      have := r1.intE
      subst this
      exact call_abs pins s σ H _ us Q I r ⟨_, rfl, p.val g (by simp) (.int _)⟩
    | [], e, _ => simp [bi] at e
    | [.non], e, _ => simp [bi] at e
    | [.bl _], e, _ => simp [bi] at e
    | [.tup _], e, _ => simp [bi] at e
    | [.lv _ _], e, _ => simp [bi] at e
    | [.str _], e, _ => simp [bi] at e
    | [.ref _], e, _ => simp [bi] at e
    | [.scr _], e, _ => simp [bi] at e
    | _ :: _ :: _, e, _ => simp [bi] at e
  | sum =>
    match ds, e, rd with
    | [.lv o xs], e, rd =>
      simp only [bi, Option.map_eq_some_iff] at e
      obtain ⟨ns, hn, rfl⟩ := e
      obtain ⟨v, rfl, r1⟩ := rd.one
      obtain ⟨a, ws, rfl, ht, rl⟩ := r1
      have := intsOf_map hn rl
      subst this
      exact cr_sum hc pins s σ H _ us Q I r ⟨_, _, rfl, .of ht, p.val g (by simp) (.int _)⟩
    | [], e, _ => simp [bi] at e
    | [.non], e, _ => simp [bi] at e
    | [.bl _], e, _ => simp [bi] at e
    | [.int _], e, _ => simp [bi] at e
    | [.tup _], e, _ => simp [bi] at e
    | [.str _], e, _ => simp [bi] at e
    | [.ref _], e, _ => simp [bi] at e
    | [.scr _], e, _ => simp [bi] at e
    | _ :: _ :: _, e, _ => simp [bi] at e
  | max =>
    match ds, e, rd with
    | [.lv o xs], e, rd =>
      simp only [bi, Option.bind_eq_some_iff, Option.map_eq_some_iff] at e
      obtain ⟨ns, hn, m, hm, rfl⟩ := e
      obtain ⟨v, rfl, r1⟩ := rd.one
      obtain ⟨a, ws, rfl, ht, rl⟩ := r1
      have := intsOf_map hn rl
      subst this
      obtain ⟨h1, h2⟩ := maxI_of hm
      exact cr_max hc pins s σ H _ us Q I r ⟨_, _, rfl, .of ht, h1, fun k hk hy => by rw [h2 k hk hy]; exact p.val g (by simp) (.int _)⟩
    | [.int i, .int j], e, rd =>
      cases e
      obtain ⟨v, w, rfl, r1, r2⟩ := rd.two
      have := r1.intE
      subst this
      have := r2.intE
      subst this
      exact call_max2 hc pins s σ H _ us Q I r ⟨_, _, rfl, p.val g (by simp) (.int _)⟩
    | [], e, _ => simp [bi] at e
    | [.non], e, _ => simp [bi] at e
    | [.bl _], e, _ => simp [bi] at e
    | [.int _], e, _ => simp [bi] at e
    | [.tup _], e, _ => simp [bi] at e
    | [.str _], e, _ => simp [bi] at e
    | [.ref _], e, _ => simp [bi] at e
    | [.scr _], e, _ => simp [bi] at e
    | .non :: _ :: _, e, _ => simp [bi] at e
    | .bl _ :: _ :: _, e, _ => simp [bi] at e
    | .tup _ :: _ :: _, e, _ => simp [bi] at e
    | .str _ :: _ :: _, e, _ => simp [bi] at e
    | .ref _ :: _ :: _, e, _ => simp [bi] at e
    | .scr _ :: _ :: _, e, _ => simp [bi] at e
    | .lv _ _ :: _ :: _, e, _ => simp [bi] at e
    | .int _ :: .non :: _, e, _ => simp [bi] at e
    | .int _ :: .bl _ :: _, e, _ => simp [bi] at e
    | .int _ :: .tup _ :: _, e, _ => simp [bi] at e
    | .int _ :: .str _ :: _, e, _ => simp [bi] at e
    | .int _ :: .ref _ :: _, e, _ => simp [bi] at e
    | .int _ :: .scr _ :: _, e, _ => simp [bi] at e
    | .int _ :: .lv _ _ :: _, e, _ => simp [bi] at e
    | .int _ :: .int _ :: _ :: _, e, _ => simp [bi] at e
  | min =>
    match ds, e, rd with
    | [.lv o xs], e, rd =>
      simp only [bi, Option.bind_eq_some_iff, Option.map_eq_some_iff] at e
      obtain ⟨ns, hn, m, hm, rfl⟩ := e
      obtain ⟨v, rfl, r1⟩ := rd.one
      obtain ⟨a, ws, rfl, ht, rl⟩ := r1
      have := intsOf_map hn rl
      subst this
      obtain ⟨h1, h2⟩ := minI_of hm
      exact cr_min hc pins s σ H _ us Q I r ⟨_, _, rfl, .of ht, h1, fun k hk hy => by rw [h2 k hk hy]; exact p.val g (by simp) (.int _)⟩
    | [.int i, .int j], e, rd =>
      cases e
      obtain ⟨v, w, rfl, r1, r2⟩ := rd.two
      have := r1.intE
      subst this
      have := r2.intE
      subst this
      exact call_min2 hc pins s σ H _ us Q I r ⟨_, _, rfl, p.val g (by simp) (.int _)⟩
    | [], e, _ => simp [bi] at e
    | [.non], e, _ => simp [bi] at e
    | [.bl _], e, _ => simp [bi] at e
    | [.int _], e, _ => simp [bi] at e
    | [.tup _], e, _ => simp [bi] at e
    | [.str _], e, _ => simp [bi] at e
    | [.ref _], e, _ => simp [bi] at e
    | [.scr _], e, _ => simp [bi] at e
    | .non :: _ :: _, e, _ => simp [bi] at e
    | .bl _ :: _ :: _, e, _ => simp [bi] at e
    | .tup _ :: _ :: _, e, _ => simp [bi] at e
    | .str _ :: _ :: _, e, _ => simp [bi] at e
    | .ref _ :: _ :: _, e, _ => simp [bi] at e
    | .scr _ :: _ :: _, e, _ => simp [bi] at e
    | .lv _ _ :: _ :: _, e, _ => simp [bi] at e
    | .int _ :: .non :: _, e, _ => simp [bi] at e
    | .int _ :: .bl _ :: _, e, _ => simp [bi] at e
    | .int _ :: .tup _ :: _, e, _ => simp [bi] at e
    | .int _ :: .str _ :: _, e, _ => simp [bi] at e
    | .int _ :: .ref _ :: _, e, _ => simp [bi] at e
    | .int _ :: .scr _ :: _, e, _ => simp [bi] at e
    | .int _ :: .lv _ _ :: _, e, _ => simp [bi] at e
    | .int _ :: .int _ :: _ :: _, e, _ => simp [bi] at e
  | revlist => exact absurd hb (by simp [BI.sole])
  | rev1 => exact absurd hb (by simp [BI.sole])

def Ty.name : Ty → String
  | .int => "int" | .bool => "bool" | .str => "str" | .list => "list" | .tuple => "tuple"
theorem tyx_of {K : Fr} {ρ : Rh} {n : Nat} {H : Hp} {d : D} {v : V} {t : Ty} {b : Bool} (h : RelRd K ρ n H d v) (e : L3.isTy t d = some b) : ∃ T : String, TyX K H v (.type T) ∧ kitB T t.name = some b := by
  cases d with
  | non => cases h; refine ⟨_, .base .non, ?_⟩; cases t <;> (simp [L3.isTy] at e; subst e; decide +kernel)
  | bl c => cases h; refine ⟨_, .base (.bl _), ?_⟩; cases t <;> (simp [L3.isTy] at e; subst e; decide +kernel)
  | int i => cases h; refine ⟨_, .base (.int _), ?_⟩; cases t <;> (simp [L3.isTy] at e; subst e; decide +kernel)
  | str z => cases h; refine ⟨_, .base (.str _), ?_⟩; cases t <;> (simp [L3.isTy] at e; subst e; decide +kernel)
  | tup xs =>
    obtain ⟨a, ws, rfl, ht, _⟩ := h.tupE
    replace ht := ht.sq
    have : TyX K H (.ref a) (.type "tuple") := by
      rcases ht with (ht | ⟨o, ht⟩) | ⟨o, its, m, h1, h2, _⟩
      · exact .base (.tup ht)
      · exact .fTuple ht
      · exact .kTuple h1 h2
    refine ⟨_, this, ?_⟩
    cases t <;> (simp [L3.isTy] at e; subst e; decide +kernel)
  | lv o xs =>
    obtain ⟨a, ws, rfl, ht, _⟩ := h
    refine ⟨_, .base (.lst ht), ?_⟩
    cases t <;> (simp [L3.isTy] at e; subst e; decide +kernel)
  | ref m => cases t <;> simp [L3.isTy] at e
  | scr m => cases t <;> simp [L3.isTy] at e

theorem RelRd.ix_or {X : Cx} : IxR X (fun x y H Q => rIxT X.K x y H Q ∨ rIxL X.K x y H Q ∨ rIxS x y H Q) := ix_tup.or (ix_list.or ix_str)
theorem atI_eq {α : Type} (xs : List α) (i : Int) : L3.atI xs i = L2.atI xs i := rfl
theorem atI_rel {K : Fr} {ρ : Rh} {n : Nat} {H : Hp} {xs : List D} {vs : List V} {i : Int} {d : D} (r : RelL K ρ n none H xs vs) (h : L3.atI xs i = some d) : ∃ v, L2.atI vs i = some v ∧ Rel K ρ n none H d v := by
  have e : L2.atI xs i = some d := h
  unfold L2.atI at e ⊢
  rw [← r.length]
  cases q : L2.ixN xs.length i with
  | none => rw [q] at e; cases e
  | some j =>
    rw [q] at e
    exact r.get e
theorem rIx {X : Cx} : IxR X (rD2 X.K idx2) := by
  intro value slice pins s σ H x y v u Q I rx ry h hs
  obtain ⟨Ps, ρ, st, dx, dy, d, XQ, g, hx, hy, e, p⟩ := h
  have fin : ∀ {d : D} {w : V}, Post X.K Ps ρ H st (.ok d st) Q XQ → Rel X.K ρ st.n none H d w → Q w H := fun {d w} p r => by
    refine p ρ H w Ext.refl (.of (fun xs e => ?_) g r)
    subst e; cases r
  refine RelRd.ix_or value slice pins s σ H x y v u Q I rx ry ?_ hs
  cases dy with
  | int i =>
    have := hy.intE
    subst this
    cases dx with
    | tup xs =>
      obtain ⟨a, ws, rfl, ht, rl⟩ := hx.tupE
      obtain ⟨w, h1, h2⟩ := atI_rel rl (show L3.atI xs i = some d from e)
      exact .inl ⟨_, _, _, _, rfl, rfl, ht.sq, h1, fin p h2⟩
    | lv o xs =>
      obtain ⟨a, ws, rfl, ht, rl⟩ := hx
      obtain ⟨w, h1, h2⟩ := atI_rel rl (show L3.atI xs i = some d from e)
      exact .inr (.inl ⟨_, _, _, _, rfl, rfl, .of ht, h1, fin p h2⟩)
    | scr ns =>
      obtain ⟨a, rfl, ht⟩ := hx.scrE
      simp only [idx2, Option.map_eq_some_iff] at e
      obtain ⟨k, hk, rfl⟩ := e
      refine .inr (.inl ⟨_, _, _, .int k, rfl, rfl, ht.sq, ?_, fin p (.int _)⟩)
      have hk' : L2.atI ns i = some k := hk
      unfold L2.atI at hk' ⊢
      rw [List.length_map]
      cases q : L2.ixN ns.length i with
      | none => rw [q] at hk'; cases hk'
      | some j =>
        rw [q] at hk'
        have hk' : ns[j]? = some k := hk'
        show (ns.map V.int)[j]? = some (.int k)
        rw [List.getElem?_map, hk']; rfl
    | str z =>
      have := hx.strE
      subst this
      simp only [idx2] at e
      split at e
      · rename_i hz
        simp only [Option.map_eq_some_iff] at e
        obtain ⟨k, hk, rfl⟩ := e
        refine .inr (.inr ⟨_, _, k, rfl, rfl, by rw [toS_len, ← big_eq]; exact hz, by rw [toS_cps]; exact hk, ?_⟩)
        exact fin p (.str [k])
      · cases e
    | _ => simp [idx2] at e
  | _ => cases dx <;> simp [idx2] at e
theorem cut_rel {K : Fr} {ρ : Rh} {n : Nat} {H : Hp} {xs : List D} {vs : List V} (lo hi : Option Int) (r : RelL K ρ n none H xs vs) : RelL K ρ n none H (cut xs lo hi) (cutV vs lo hi) := by
  have e : cut xs lo hi = (xs.drop (HT.sIx xs.length 0 lo)).take (HT.sIx xs.length xs.length hi - HT.sIx xs.length 0 lo) := rfl
  rw [e]
  unfold cutV
  rw [← r.length]
  exact (r.drop _).take _
def rSl (K : Fr) : V → Option Int → Option Int → Hp → VK → Prop := fun x lo hi H Q => ∃ Ps ρ s dx d XQ, Good K Ps ρ none H s ∧ RelRd K ρ s.n H dx x ∧ slc2 lo hi dx = some d ∧ Post K Ps ρ H s (.ok d s) Q XQ
theorem sl_all {X : Cx} : SlR X (rSl X.K) := by
  intro pins s σ H x v vl vu lo hi sl Q I rx hs pl pu h
  obtain ⟨Ps, ρ, st, dx, d, XQ, g, hx, e, p⟩ := h
  cases dx with
  | tup xs =>
    cases e
    obtain ⟨a, ws, rfl, ht, rl⟩ := hx.tupE
    refine sl_tupA pins s σ H _ v vl vu lo hi sl Q I rx hs pl pu ⟨a, ws, rfl, ht.sq, fun hw => ?_, fun hw q hq => ?_⟩
    · refine p.val g (by simp) (.tup ht ?_)
      have e2 : cutV ws lo hi = ws := by
        unfold cutV
        rw [hw.1, hw.2]; simp
      have := cut_rel lo hi rl
      rw [e2] at this
      exact this
    · exact p.newT g hq (cut_rel lo hi rl)
  | lv o xs =>
    cases e
    obtain ⟨a, ws, rfl, ht, rl⟩ := hx
    exact sl_list pins s σ H _ v vl vu lo hi sl Q I rx hs pl pu ⟨a, ws, rfl, .of ht, fun q hq => p.newL g hq (cut_rel lo hi rl)⟩
  | str z =>
    have := hx.strE
    subst this
    simp only [slc2] at e
    split at e
    · rename_i hz
      cases e
      refine sl_str pins s σ H _ v vl vu lo hi sl Q I rx hs pl pu ⟨_, rfl, by rw [toS_len, ← big_eq]; exact hz, ?_⟩
      have e2 : cutS (toS z) lo hi = toS (cut z lo hi) := by
        first
        | (unfold cutS; rw [toS_cps, toS_len]; rfl)
        | (simp [cutS, toS, cut, Str.length]; rfl)
      rw [e2]
      exact p.val g (by simp) (.str _)
    · cases e
  | _ => simp [slc2] at e
end L3
end

section -- I6
set_option autoImplicit false
set_option linter.all false
set_option maxRecDepth 100000
set_option maxHeartbeats 1000000
namespace L3
open PySem PySem.Spec PyProof.Rows L2

theorem R.bind_assoc {α β γ : Type} (r : R α) (f : α → S → R β) (g : β → S → R γ) : (r.bind f).bind g = r.bind fun a s => (f a s).bind g := by
  cases r <;> rfl
section
variable {K : Fr} {Ps : List Addr} {ρ ρ' ρ1 ρ2 : Rh} {H H' H1 H2 : Hp} {s s' s1 s2 : S} {d : D} {v : V} {XQ : Nat → Hp → Prop} {α β : Type}
abbrev GQ (α : Type) := α → S → (Rh) → Hp → Prop
theorem PostG.shift {r : R α} {G : GQ α} (e : Ext K ρ H s ρ1 H1 s1) (p : PostG K Ps ρ H s r G XQ) : PostG K Ps ρ1 H1 s1 r G XQ := by
  cases r with
  | ok d s' => exact fun ρ' H' e' => p ρ' H' (e.trans e')
  | exc c s' => exact fun ρ' H' e' g => p ρ' H' (e.trans e') g
  | bad => exact p
theorem PostG.bind {r : R α} {f : α → S → R β} {G : GQ β} {G1 : GQ α} (p : PostG K Ps ρ H s (r.bind f) G XQ)
    (h : ∀ a s1 ρ1 H1, Ext K ρ H s ρ1 H1 s1 → PostG K Ps ρ1 H1 s1 (f a s1) G XQ → G1 a s1 ρ1 H1) : PostG K Ps ρ H s r G1 XQ := by
  cases r with
  | ok d s' => exact fun ρ' H' e => h d s' ρ' H' e (PostG.shift e p)
  | exc c s' => exact p
  | bad => exact p
/-- a value, then whatever -/
theorem PostG.bindD {r : R D} {f : D → S → R β} {G : GQ β} {Q : VK} (p : PostG K Ps ρ H s (r.bind f) G XQ)
    (h : ∀ d s1 ρ1 H1 v, Ext K ρ H s ρ1 H1 s1 → OkR K Ps H ρ1 H1 s1 d v → PostG K Ps ρ1 H1 s1 (f d s1) G XQ → Q v H1) : Post K Ps ρ H s r Q XQ := by
  cases r with
  | ok d s' => exact fun ρ' H' v e o => h d s' ρ' H' v e o (PostG.shift e p)
  | exc c s' => exact p
  | bad => exact p
/-- whatever, then a value -/
theorem Post.bindG {r : R α} {f : α → S → R D} {Q : VK} {G : GQ α} (p : Post K Ps ρ H s (r.bind f) Q XQ)
    (h : ∀ a s1 ρ1 H1, Ext K ρ H s ρ1 H1 s1 → Post K Ps ρ1 H1 s1 (f a s1) Q XQ → G a s1 ρ1 H1) : PostG K Ps ρ H s r G XQ := by
  cases r with
  | ok d s' => exact fun ρ' H' e => h d s' ρ' H' e (Post.shift e p)
  | exc c s' => exact p
  | bad => exact p
theorem PostG.optb {o : Option α} {f : α → S → R β} {G : GQ β} (p : PostG K Ps ρ H s ((R.opt o s1).bind f) G XQ) : ∃ d, o = some d ∧ PostG K Ps ρ H s (f d s1) G XQ := by
  cases o with
  | none => exact p.elim
  | some d => exact ⟨d, rfl, p⟩
theorem PostG.opt {o : Option α} {G : GQ α} (p : PostG K Ps ρ H s (R.opt o s1) G XQ) : ∃ d, o = some d ∧ PostG K Ps ρ H s (.ok d s1) G XQ := by
  cases o with
  | none => exact p.elim
  | some d => exact ⟨d, rfl, p⟩
end

/-- readings: lists of values, plain results -/
def GL (K : Fr) (Ps : List Addr) (Q : List V → Hp → Prop) : GQ (List D) := fun ds s' ρ' H' => ∀ vs, Good K Ps ρ' none H' s' → RelL K ρ' s'.n none H' ds vs → Q vs H'
def GV {α : Type} (K : Fr) (Ps : List Addr) (Q : α → Hp → Prop) : GQ α := fun a s' ρ' H' => Good K Ps ρ' none H' s' → Q a H'
def TXA (K : Fr) (Ps : List Addr) (cl : XC) (W : WX) (f : Env → S → R (List D)) : TA := fun σ H Q => ∃ ρ e s, Good K Ps ρ none H s ∧ EnvRel K ρ s.n H σ e ∧ PostG K Ps ρ H s (f e s) (GL K Ps Q) fun c H' => W (cl c) none σ H'
def TXO (K : Fr) (Ps : List Addr) (cl : XC) (W : WX) (f : Env → S → R (Option Int)) : TO := fun σ H Q => ∃ ρ e s, Good K Ps ρ none H s ∧ EnvRel K ρ s.n H σ e ∧ PostG K Ps ρ H s (f e s) (GV K Ps Q) fun c H' => W (cl c) none σ H'
def TXB (K : Fr) (Ps : List Addr) (cl : XC) (W : WX) (f : Env → S → R Bool) : TT := fun σ H Q => ∃ ρ e s, Good K Ps ρ none H s ∧ EnvRel K ρ s.n H σ e ∧ PostG K Ps ρ H s (f e s) (GV K Ps Q) fun c H' => W (cl c) none σ H'
/-- as a test -/
def bl (f : Env → S → R D) : Env → S → R Bool := fun e s => (f e s).bind fun x s => R.opt x.bool s

theorem boolE {K : Fr} {Ps : List Addr} {H : Hp} {ρ' : Rh} {H' : Hp} {s' : S} {d : D} {v : V} {b : Bool} (o : OkR K Ps H ρ' H' s' d v) (e : d.bool = some b) : v = .bl b ∧ Good K Ps ρ' none H' s' := by
  cases d with
  | bl c => cases e; obtain ⟨g, r⟩ := o; cases r; exact ⟨rfl, g⟩
  | _ => simp [D.bool] at e
theorem intE {K : Fr} {Ps : List Addr} {H : Hp} {ρ' : Rh} {H' : Hp} {s' : S} {d : D} {v : V} {i : Int} (o : OkR K Ps H ρ' H' s' d v) (e : d.toInt = some i) : v = .int i ∧ d = .int i ∧ Good K Ps ρ' none H' s' := by
  cases d with
  | int c => cases e; obtain ⟨g, r⟩ := o; cases r; exact ⟨rfl, rfl, g⟩
  | _ => simp [D.toInt] at e

section
variable {X : Cx} {Ps : List Addr} {cl : XC} {W : WX} {a b c : Expr} {fa fb fc : Env → S → R D} {pos : Pos}
abbrev E1 (X : Cx) (Ps : List Addr) (cl : XC) (W : WX) (e : Expr) (f : Env → S → R D) : Prop := PE X e (TX X.K Ps cl W f)
abbrev T1 (X : Cx) (Ps : List Addr) (cl : XC) (W : WX) (e : Expr) (f : Env → S → R D) : Prop := PT X e (TXB X.K Ps cl W (bl f))

theorem e_var {i : Nat} {x : Str} (hN : X.N[i]? = some x) (hv : Vis X.env.scope x) (hd : (x == ("__debug__" : Str)) = false) (hcd : (x == ("__classdict__" : Str)) = false) : E1 X Ps cl W (.Name x pos) fun e s => R.opt (getV e i) s := by
  refine PE.imp (pe_var hN hv hd hcd) fun σ H Q ⟨ρ, e, s, g, er, p⟩ => ?_
  obtain ⟨d, h1, p⟩ := p.opt
  obtain ⟨v, h2, r⟩ := er i d h1
  refine ⟨v, h2, p ρ H v Ext.refl (.of (fun xs e => ?_) g r)⟩
  subst e; cases r
theorem e_con {d : D} {v : V} {e : Expr} (h : PE X e (tC v)) (hd : ∀ xs, d ≠ .lv true xs) (hr : ∀ ρ n H, Rel X.K ρ n none H d v) : E1 X Ps cl W e fun _ s => .ok d s :=
  PE.imp h fun σ H Q ⟨ρ, e, s, g, er, p⟩ => p.val g hd (hr _ _ _)
theorem e_bin (op : Op2) (ha : E1 X Ps cl W a fa) (hb : E1 X Ps cl W b fb) : E1 X Ps cl W (.BinOp a op.py b pos) fun e s => (fa e s).bind fun x s => (fb e s).bind fun y s => R.opt (bin2 op (x.rd s) (y.rd s)) s := by
  refine PE.imp (pe_op (op_bin op) ha hb) fun σ H Q ⟨ρ, e, s, g, er, p⟩ => ?_
  refine ⟨ρ, e, s, g, er, p.bind fun d1 s1 ρ1 H1 v1 e1 o1 p => ⟨ρ1, e, s1, o1.good, er.ext g e1, p.bind fun d2 s2 ρ2 H2 v2 e2 o2 p => ?_⟩⟩
  obtain ⟨d, h, p⟩ := p.opt
  exact ⟨Ps, ρ2, s2, _, _, d, _, o2.good, Rel.rd o2.good (o1.frz.ext o1.good e2), o2.rd, h, p⟩
theorem e_cmp (hu : X.A.units + 65 < cLine) (op : Cmp) (ha : E1 X Ps cl W a fa) (hb : E1 X Ps cl W b fb) (hm : behindInMarks op.py b = false) :
    E1 X Ps cl W (.Compare a [op.py] [b] pos) fun e s => (fa e s).bind fun x s => (fb e s).bind fun y s => R.opt ((cmp2 op (x.rd s) (y.rd s)).map .bl) s := by
  refine PE.imp (pe_cmpR (op_cmp hu op) ha hb hm) fun σ H Q ⟨ρ, e, s, g, er, p⟩ => ?_
  refine ⟨ρ, e, s, g, er, p.bind fun d1 s1 ρ1 H1 v1 e1 o1 p => ⟨ρ1, e, s1, o1.good, er.ext g e1, p.bind fun d2 s2 ρ2 H2 v2 e2 o2 p => ?_⟩⟩
  obtain ⟨d, h, p⟩ := p.opt
  simp only [Option.map_eq_some_iff] at h
  obtain ⟨k, h, rfl⟩ := h
  exact ⟨Ps, ρ2, s2, _, _, k, o2.good, Rel.rd o2.good (o1.frz.ext o1.good e2), o2.rd, h, p.val o2.good (by simp) (.bl _)⟩
theorem t_cmp (hu : X.A.units + 65 < cLine) (op : Cmp) (ha : E1 X Ps cl W a fa) (hb : E1 X Ps cl W b fb) (hm : behindInMarks op.py b = false) :
    T1 X Ps cl W (.Compare a [op.py] [b] pos) fun e s => (fa e s).bind fun x s => (fb e s).bind fun y s => R.opt ((cmp2 op (x.rd s) (y.rd s)).map .bl) s := by
  refine PT.imp (pt_cmpR (op_cmp hu op) ha hb hm) fun σ H Q ⟨ρ, e, s, g, er, p⟩ => ?_
  simp only [bl, R.bind_assoc] at p
  refine ⟨ρ, e, s, g, er, p.bindD fun d1 s1 ρ1 H1 v1 e1 o1 p => ⟨ρ1, e, s1, o1.good, er.ext g e1, p.bindD fun d2 s2 ρ2 H2 v2 e2 o2 p => ?_⟩⟩
  obtain ⟨d, h, p⟩ := p.optb
  simp only [Option.map_eq_some_iff] at h
  obtain ⟨k, h, rfl⟩ := h
  exact ⟨Ps, ρ2, s2, _, _, k, o2.good, Rel.rd o2.good (o1.frz.ext o1.good e2), o2.rd, h, k, rfl, p ρ2 H2 Ext.refl o2.good⟩
/-- a value as a test -/
theorem t_val {e : Expr} {f : Env → S → R D} (h : E1 X Ps cl W e f) (he : ∀ whole, isTrue e X.env whole = (do let v ← whole; standAt e.pos; holding [v] (truthy v))) : T1 X Ps cl W e f := by
  refine PT.imp (pt_val h he) fun σ H Q ⟨ρ, e, s, g, er, p⟩ => ?_
  refine ⟨ρ, e, s, g, er, PostG.bindD (f := fun x s => R.opt x.bool s) p fun d s1 ρ1 H1 v e1 o p => ?_⟩
  obtain ⟨b, h, p⟩ := p.opt
  obtain ⟨rfl, g1⟩ := boolE o h
  exact ⟨b, rfl, p ρ1 H1 Ext.refl g1⟩
theorem e_neg (ha : E1 X Ps cl W a fa) : E1 X Ps cl W (.UnaryOp .USub a pos) fun e s => (fa e s).bind fun x s => R.opt (x.toInt.map fun i => .int (-i)) s := by
  refine PE.imp (pe_un un_neg ha) fun σ H Q ⟨ρ, e, s, g, er, p⟩ => ?_
  refine ⟨ρ, e, s, g, er, p.bind fun d1 s1 ρ1 H1 v1 e1 o1 p => ?_⟩
  obtain ⟨d, h, p⟩ := p.opt
  simp only [Option.map_eq_some_iff] at h
  obtain ⟨i, h, rfl⟩ := h
  obtain ⟨rfl, _, g1⟩ := intE o1 h
  exact ⟨i, rfl, p.val g1 (by simp) (.int _)⟩
theorem e_not (ha : E1 X Ps cl W a fa) : E1 X Ps cl W (.UnaryOp .Not a pos) fun e s => (fa e s).bind fun x s => R.opt (x.bool.map fun b => .bl (!b)) s := by
  refine PE.imp (pe_not ha) fun σ H Q ⟨ρ, e, s, g, er, p⟩ => ?_
  refine ⟨ρ, e, s, g, er, p.bind fun d1 s1 ρ1 H1 v1 e1 o1 p => ?_⟩
  obtain ⟨d, h, p⟩ := p.opt
  simp only [Option.map_eq_some_iff] at h
  obtain ⟨i, h, rfl⟩ := h
  obtain ⟨rfl, g1⟩ := boolE o1 h
  exact ⟨i, rfl, p.val g1 (by simp) (.bl _)⟩
theorem t_not (ha : T1 X Ps cl W a fa) : T1 X Ps cl W (.UnaryOp .Not a pos) fun e s => (fa e s).bind fun x s => R.opt (x.bool.map fun b => .bl (!b)) s := by
  refine PT.imp (pt_not ha) fun σ H Q ⟨ρ, e, s, g, er, p⟩ => ?_
  refine ⟨ρ, e, s, g, er, ?_⟩
  simp only [bl, R.bind_assoc] at p ⊢
  cases q : fa e s with
  | ok x s1 =>
    rw [q] at p
    simp only [R.bind_ok] at p ⊢
    cases hb : x.bool with
    | none => rw [hb] at p; exact p
    | some k => rw [hb] at p; exact p
  | exc c s1 => rw [q] at p; exact p
  | bad => rw [q] at p; exact p
abbrev fAnd (fa fb : Env → S → R D) : Env → S → R D := fun e s => (fa e s).bind fun x s => (R.opt x.bool s).bind fun t s => if t then fb e s else .ok (.bl false) s
abbrev fOr (fa fb : Env → S → R D) : Env → S → R D := fun e s => (fa e s).bind fun x s => (R.opt x.bool s).bind fun t s => if t then .ok (.bl true) s else fb e s
theorem e_and {rest : List Expr} (ha : E1 X Ps cl W a fa) (hb : E1 X Ps cl W (.BoolOp .And (b :: rest) pos) fb) : E1 X Ps cl W (.BoolOp .And (a :: b :: rest) pos) (fAnd fa fb) := by
  refine PE.imp (pe_and ha hb) fun σ H Q ⟨ρ, e, s, g, er, p⟩ => ?_
  refine ⟨ρ, e, s, g, er, p.bind fun d1 s1 ρ1 H1 v1 e1 o1 p => ?_⟩
  obtain ⟨t, h, p⟩ := p.optb
  obtain ⟨rfl, g1⟩ := boolE o1 h
  refine ⟨t, rfl, ?_⟩
  cases t with
  | true => exact ⟨ρ1, e, s1, g1, er.ext g e1, p⟩
  | false => exact p.val g1 (by simp) (.bl _)
theorem e_or {rest : List Expr} (ha : E1 X Ps cl W a fa) (hb : E1 X Ps cl W (.BoolOp .Or (b :: rest) pos) fb) : E1 X Ps cl W (.BoolOp .Or (a :: b :: rest) pos) (fOr fa fb) := by
  refine PE.imp (pe_or ha hb) fun σ H Q ⟨ρ, e, s, g, er, p⟩ => ?_
  refine ⟨ρ, e, s, g, er, p.bind fun d1 s1 ρ1 H1 v1 e1 o1 p => ?_⟩
  obtain ⟨t, h, p⟩ := p.optb
  obtain ⟨rfl, g1⟩ := boolE o1 h
  refine ⟨t, rfl, ?_⟩
  cases t with
  | true => exact p.val g1 (by simp) (.bl _)
  | false => exact ⟨ρ1, e, s1, g1, er.ext g e1, p⟩
abbrev W1 (X : Cx) (Ps : List Addr) (cl : XC) (W : WX) (e : Expr) (f : Env → S → R D) : Prop := PW X e (TXB X.K Ps cl W (bl f))
/-- the first one's test, then what follows -/
theorem bl_cut {K : Fr} {ρ : Rh} {H : Hp} {s : S} {e : Env} {fa : Env → S → R D} {k : Bool → S → R D} {G : GQ Bool} {XQ : Nat → Hp → Prop}
    (p : PostG K Ps ρ H s (((fa e s).bind fun x s => (R.opt x.bool s).bind k).bind fun x s => R.opt x.bool s) G XQ) :
    PostG K Ps ρ H s ((bl fa e s).bind fun t s => (k t s).bind fun x s => R.opt x.bool s) G XQ := by
  simp only [bl, R.bind_assoc] at p ⊢
  cases q : fa e s with
  | ok x s1 =>
    rw [q] at p
    simp only [R.bind_ok] at p ⊢
    cases hb : x.bool with
    | none => rw [hb] at p; exact p
    | some k => rw [hb] at p; exact p
  | exc c s1 => rw [q] at p; exact p
  | bad => rw [q] at p; exact p
theorem w_and {rest : List Expr} (ha : T1 X Ps cl W a fa) (hb : W1 X Ps cl W (.BoolOp .And (b :: rest) pos) fb) : W1 X Ps cl W (.BoolOp .And (a :: b :: rest) pos) (fAnd fa fb) := by
  refine PW.imp (pw_and ha hb) fun σ H Q ⟨ρ, e, s, g, er, p⟩ => ?_
  refine ⟨ρ, e, s, g, er, (bl_cut p).bind fun t s1 ρ1 H1 e1 p g1 => ?_⟩
  cases t with
  | true => exact ⟨ρ1, e, s1, g1, er.ext g e1, p⟩
  | false => exact p ρ1 H1 Ext.refl g1
theorem w_or {rest : List Expr} (ha : T1 X Ps cl W a fa) (hb : W1 X Ps cl W (.BoolOp .Or (b :: rest) pos) fb) : W1 X Ps cl W (.BoolOp .Or (a :: b :: rest) pos) (fOr fa fb) := by
  refine PW.imp (pw_or ha hb) fun σ H Q ⟨ρ, e, s, g, er, p⟩ => ?_
  refine ⟨ρ, e, s, g, er, (bl_cut p).bind fun t s1 ρ1 H1 e1 p g1 => ?_⟩
  cases t with
  | true => exact p ρ1 H1 Ext.refl g1
  | false => exact ⟨ρ1, e, s1, g1, er.ext g e1, p⟩
abbrev fIte (fc fa fb : Env → S → R D) : Env → S → R D := fun e s => (fc e s).bind fun x s => (R.opt x.bool s).bind fun t s => if t then fa e s else fb e s
theorem bl_cutD {K : Fr} {ρ : Rh} {H : Hp} {s : S} {e : Env} {fa : Env → S → R D} {k : Bool → S → R D} {Q : VK} {XQ : Nat → Hp → Prop}
    (p : Post K Ps ρ H s ((fa e s).bind fun x s => (R.opt x.bool s).bind k) Q XQ) : Post K Ps ρ H s ((bl fa e s).bind k) Q XQ := by
  simp only [bl, R.bind_assoc]
  cases q : fa e s with
  | ok x s1 => rw [q] at p; exact p
  | exc c s1 => rw [q] at p; exact p
  | bad => rw [q] at p; exact p
theorem e_ite (hc : T1 X Ps cl W c fc) (ha : E1 X Ps cl W a fa) (hb : E1 X Ps cl W b fb) : E1 X Ps cl W (.IfExp c a b pos) (fIte fc fa fb) := by
  refine PE.imp (pe_ifExp hc ha hb) fun σ H Q ⟨ρ, e, s, g, er, p⟩ => ?_
  refine ⟨ρ, e, s, g, er, (bl_cutD p).bindG fun t s1 ρ1 H1 e1 p g1 => ?_⟩
  cases t with
  | true => exact ⟨ρ1, e, s1, g1, er.ext g e1, p⟩
  | false => exact ⟨ρ1, e, s1, g1, er.ext g e1, p⟩
theorem pt_ifExp {tA tB' tC' : TT} (hc : PT X c tC') (ha : PT X a tA) (hb : PT X b tB') : PT X (.IfExp c a b pos) (fun σ H Q => tC' σ H fun k H1 => if k = true then tA σ H1 Q else tB' σ H1 Q) := by
  refine ⟨fun pins s σ H Q I h => ?_⟩
  show wpAny _ _ (PySem.isTrue (.IfExp c a b pos) X.env _) _ _ s
  unfold PySem.isTrue
  refine wpAny_bind (thn (hc.run pins s σ H _ I h) fun d s1 ⟨H1, I1, q1⟩ => ?_)
  cases d with
  | true => exact ha.run pins s1 σ H1 Q I1 q1
  | false => exact hb.run pins s1 σ H1 Q I1 q1
theorem t_ite (hc : T1 X Ps cl W c fc) (ha : T1 X Ps cl W a fa) (hb : T1 X Ps cl W b fb) : T1 X Ps cl W (.IfExp c a b pos) (fIte fc fa fb) := by
  refine PT.imp (pt_ifExp hc ha hb) fun σ H Q ⟨ρ, e, s, g, er, p⟩ => ?_
  refine ⟨ρ, e, s, g, er, (bl_cut p).bind fun t s1 ρ1 H1 e1 p g1 => ?_⟩
  cases t with
  | true => exact ⟨ρ1, e, s1, g1, er.ext g e1, p⟩
  | false => exact ⟨ρ1, e, s1, g1, er.ext g e1, p⟩
abbrev fChain (o1 o2 : Cmp) (fa fb fc : Env → S → R D) : Env → S → R D := fun e s => (fa e s).bind fun x s => (fb e s).bind fun y s => (R.opt (cmp2 o1 (x.rd s) (y.rd s)) s).bind fun t s =>
      if t then (fc e s).bind fun z s => R.opt ((cmp2 o2 (y.rd s) (z.rd s)).map .bl) s else .ok (.bl false) s
theorem chain_read (hu : X.A.units + 65 < cLine) (o1 o2 : Cmp) (ha : E1 X Ps cl W a fa) (hb : E1 X Ps cl W b fb) (hc : E1 X Ps cl W c fc) {σ : L2.St} {H : Hp} {Q : VK} (h : TX X.K Ps cl W (fChain o1 o2 fa fb fc) σ H Q) :
    tChain (rDC X.K o1) (rDC X.K o2) (TX X.K Ps cl W fa) (TX X.K Ps cl W fb) (TX X.K Ps cl W fc) σ H Q := by
  obtain ⟨ρ, e, s, g, er, p⟩ := h
  refine ⟨ρ, e, s, g, er, p.bind fun d1 s1 ρ1 H1 v1 e1 r1 p => ⟨ρ1, e, s1, r1.good, er.ext g e1, p.bind fun d2 s2 ρ2 H2 v2 e2 r2 p => ?_⟩⟩
  obtain ⟨t, h, p⟩ := p.optb
  refine ⟨Ps, ρ2, s2, _, _, t, r2.good, Rel.rd r2.good (r1.frz.ext r1.good e2), r2.rd, h, t, rfl, ?_⟩
  cases t with
  | false => exact p.val r2.good (by simp) (.bl _)
  | true =>
    refine ⟨ρ2, e, s2, r2.good, (er.ext g e1).ext r1.good e2, Post.bind (r := fc e s2) p fun d3 s3 ρ3 H3 v3 e3 r3 p => ?_⟩
    obtain ⟨k, h, p⟩ := p.opt
    simp only [Option.map_eq_some_iff] at h
    obtain ⟨k, h, rfl⟩ := h
    exact ⟨Ps, ρ3, s3, _, _, k, r3.good, Rel.rd r3.good (r2.frz.ext r2.good e3), r3.rd, h, p.val r3.good (by simp) (.bl _)⟩
theorem e_chain (hu : X.A.units + 65 < cLine) (o1 o2 : Cmp) (ha : E1 X Ps cl W a fa) (hb : E1 X Ps cl W b fb) (hc : E1 X Ps cl W c fc) (hm : lastMarks [o1.py, o2.py] [b, c] = false) :
    E1 X Ps cl W (.Compare a [o1.py, o2.py] [b, c] pos) (fChain o1 o2 fa fb fc) :=
  PE.imp (pe_chain (op_cmp hu o1) (op_cmp hu o2) ha hb hc hm) fun σ H Q h => chain_read hu o1 o2 ha hb hc h
theorem t_chain (hu : X.A.units + 65 < cLine) (o1 o2 : Cmp) (ha : E1 X Ps cl W a fa) (hb : E1 X Ps cl W b fb) (hc : E1 X Ps cl W c fc) (hm : lastMarks [o1.py, o2.py] [b, c] = false) :
    T1 X Ps cl W (.Compare a [o1.py, o2.py] [b, c] pos) (fChain o1 o2 fa fb fc) := by
  refine PT.imp (pt_chain (op_cmp hu o1) (op_cmp hu o2) ha hb hc hm) fun σ H Q ⟨ρ, e, s, g, er, p⟩ => ?_
  refine chain_read hu o1 o2 ha hb hc ⟨ρ, e, s, g, er, PostG.bindD (f := fun x s => R.opt x.bool s) p fun d s1 ρ1 H1 v e1 o p => ?_⟩
  obtain ⟨b, h, p⟩ := p.opt
  obtain ⟨rfl, g1⟩ := boolE o h
  exact ⟨b, rfl, p ρ1 H1 Ext.refl g1⟩

theorem a_nil : PA X [] (TXA X.K Ps cl W fun _ s => .ok [] s) := PA.imp pa_nil fun σ H Q ⟨ρ, e, s, g, er, p⟩ => p ρ H Ext.refl [] g .nil
theorem a_cons {es : List Expr} {fs : Env → S → R (List D)} (ha : E1 X Ps cl W a fa) (hs : PA X es (TXA X.K Ps cl W fs)) (hst : starEach (a :: es) X.env = (false, eval a X.env) :: starEach es X.env) :
    PA X (a :: es) (TXA X.K Ps cl W fun e s => (fa e s).bind fun x s => (fs e s).bind fun ys s => .ok (x.frz :: ys) s) := by
  refine PA.imp (pa_cons ha hs hst) fun σ H Q ⟨ρ, e, s, g, er, p⟩ => ?_
  refine ⟨ρ, e, s, g, er, p.bindD fun d1 s1 ρ1 H1 v1 e1 o1 p => ⟨ρ1, e, s1, o1.good, er.ext g e1, p.bind fun ds s2 ρ2 H2 e2 p vs g2 r2 => ?_⟩⟩
  exact p ρ2 H2 Ext.refl _ g2 (.cons (o1.frz.ext o1.good e2) r2)
def tStar (K : Fr) (ta : TE) (tr : TA) : TA := fun σ H Q => ta σ H fun x H1 => ∃ a xs, x = .ref a ∧ (SqT K H1 a xs ∨ SqL K H1 a xs) ∧ tr σ H1 fun ys H2 => Q (xs ++ ys) H2
theorem pa_star {es : List Expr} {ta : TE} {tr : TA} {p : Pos} (ha : PE X a ta) (hr : PA X es tr) : PA X (.Starred a p :: es) (tStar X.K ta tr) := by
  refine ⟨fun pos pins s σ H Q I h => ?_⟩
  refine PySem.W.items_star (thn (ha.run pins s σ H _ I h) fun u s1 ⟨x, H1, I1, r1, A, xs, ex, hq, q⟩ => ?_) rfl
  subst ex
  obtain rfl : u = Value.ref A := r1
  have fin : ∀ {T : String} {o : Obj} {its : List Value} {n : Nat}, (T = "list" ∨ T = "tuple") → s1.heap.get? A = some o → o.cls = .type T → o.data = .seq its.toArray n → its.length ≤ sizeLine → Vals xs its →
      PySem.W.StarOf (model X.prog X.w) X.A X.xe (.ref A) (fun here s₂ => wpAny (model X.prog X.w) X.A (spliced (backTo pos (starEach es X.env))) (fun vs s₃ => AP X pins σ Q (here ++ vs) s₃) X.xe s₂) s1 := by
    intro T o its n hT ho hc hd hz rv
    have hT' : s1.TypeIs (.ref A) T := ⟨o, ho, hc⟩
    have z : wpAny (model X.prog X.w) X.A (collect (.ref A)) (fun here s₂ => wpAny (model X.prog X.w) X.A (spliced (backTo pos (starEach es X.env))) (fun vs s₃ => AP X pins σ Q (here ++ vs) s₃) X.xe s₂) X.xe s1 := by
      refine wpAny_collect_seq A hT ho hc hd (fun h' hk => ?_) (by rw [List.size_toArray]; exact hz)
      have I2 : L2.Inv X pins σ H1 { s1 with heap := h' } := I1.kept (t' := s1.toks) hk
      refine thn (hr.run pos pins _ σ H1 _ I2 q) fun us s3 ⟨ys, H3, I3, r3, q3⟩ => ⟨xs ++ ys, H3, I3, ?_, q3⟩
      exact Vals.append rv r3
    unfold PySem.W.StarOf notIterableAtAll
    rcases hT with rfl | rfl
    · exact wpAny_bind (wpAny_specialOf hT' PySem.F.slot_list_iter.lookup (wpAny_pure ⟨rfl, z⟩))
    · exact wpAny_bind (wpAny_specialOf hT' PySem.F.slot_tuple_iter.lookup (wpAny_pure ⟨rfl, z⟩))
  rcases hq with hq | hq
  · obtain ⟨its, rv, ht, hz⟩ := I1.tuple hq
    obtain ⟨o, ho, hc, n, hd⟩ := id ht
    exact fin (.inr rfl) ho hc hd (by rw [← rv.length]; exact hz) rv
  · obtain ⟨its, rv, ⟨o, n, ho, hc, _, hd⟩, hz⟩ := I1.list hq
    exact fin (.inl rfl) ho hc hd (by rw [← rv.length]; exact hz) rv
theorem items_sq {K : Fr} {ρ : Rh} {n : Nat} {H : Hp} {d : D} {v : V} {xs : List D} (h : RelRd K ρ n H d v) (e : d.items = some xs) : ∃ a vs, v = .ref a ∧ (SqT K H a vs ∨ SqL K H a vs) ∧ RelL K ρ n none H xs vs := by
  cases d with
  | tup ys => cases e; obtain ⟨a, vs, h1, h2, h3⟩ := h.tupE; exact ⟨a, vs, h1, .inl h2.sq, h3⟩
  | lv o ys => cases e; obtain ⟨a, vs, h1, h2, h3⟩ := h; exact ⟨a, vs, h1, .inr (.of h2), h3⟩
  | _ => simp [D.items] at e
theorem a_star {es : List Expr} {fs : Env → S → R (List D)} {p : Pos} (ha : E1 X Ps cl W a fa) (hs : PA X es (TXA X.K Ps cl W fs)) :
    PA X (.Starred a p :: es) (TXA X.K Ps cl W fun e s => (fa e s).bind fun x s => (R.opt (x.rd s).items s).bind fun xs s => (fs e s).bind fun ys s => .ok (xs ++ ys) s) := by
  refine PA.imp (pa_star ha hs) fun σ H Q ⟨ρ, e, s, g, er, p⟩ => ?_
  refine ⟨ρ, e, s, g, er, p.bindD fun d1 s1 ρ1 H1 v1 e1 o1 p => ?_⟩
  obtain ⟨xs, h, p⟩ := p.optb
  obtain ⟨A, vs, rfl, hq, rl⟩ := items_sq o1.rd h
  refine ⟨A, vs, rfl, hq, ρ1, e, s1, o1.good, er.ext g e1, p.bind fun ds s2 ρ2 H2 e2 p ys g2 r2 => ?_⟩
  exact p ρ2 H2 Ext.refl _ g2 ((rl.ext o1.good e2).append r2)
theorem e_tup {es : List Expr} {fs : Env → S → R (List D)} {k : Nat} (hs : PA X es (TXA X.K Ps cl W fs)) : E1 X Ps cl W (.Tuple es k pos) fun e s => (fs e s).bind fun ds s => R.chk (decide (ds.length ≤ big)) (.ok (.tup ds) s) := by
  refine PE.imp (pe_tup hs) fun σ H Q ⟨ρ, e, s, g, er, p⟩ => ?_
  refine ⟨ρ, e, s, g, er, p.bindG fun ds s1 ρ1 H1 e1 p vs g1 r1 => ?_⟩
  unfold R.chk at p
  split at p
  · rename_i hz
    exact ⟨by rw [← r1.length, ← big_eq]; simpa using hz, fun q hq => p.newT g1 hq r1⟩
  · exact p.elim
theorem e_lst {es : List Expr} {fs : Env → S → R (List D)} (hs : PA X es (TXA X.K Ps cl W fs)) : E1 X Ps cl W (.List es pos) fun e s => (fs e s).bind fun ds s => R.chk (decide (ds.length ≤ big)) (.ok (.lv true ds) s) := by
  refine PE.imp (pe_lst hs) fun σ H Q ⟨ρ, e, s, g, er, p⟩ => ?_
  refine ⟨ρ, e, s, g, er, p.bindG fun ds s1 ρ1 H1 e1 p vs g1 r1 => ?_⟩
  unfold R.chk at p
  split at p
  · rename_i hz
    exact ⟨by rw [← r1.length, ← big_eq]; simpa using hz, fun q hq => p.newL g1 hq r1⟩
  · exact p.elim

theorem e_idx (ha : E1 X Ps cl W a fa) (hb : E1 X Ps cl W b fb) (hs : PlainIx b) : E1 X Ps cl W (.Subscript a b pos) fun e s => (fa e s).bind fun x s => (fb e s).bind fun y s => R.opt (idx2 (x.rd s) y) s := by
  refine PE.imp (pe_ix rIx ha hb hs) fun σ H Q ⟨ρ, e, s, g, er, p⟩ => ?_
  refine ⟨ρ, e, s, g, er, p.bind fun d1 s1 ρ1 H1 v1 e1 o1 p => ⟨ρ1, e, s1, o1.good, er.ext g e1, p.bind fun d2 s2 ρ2 H2 v2 e2 o2 p => ?_⟩⟩
  obtain ⟨d, h, p9⟩ := p.opt
  have hi : ∃ i, d2 = .int i := by
    clear p o2
    revert h
    cases d1.rd s2 <;> cases d2 <;> simp [idx2]
  obtain ⟨i, hi⟩ := hi
  subst hi
  obtain ⟨g2, r2⟩ := o2
  exact ⟨Ps, ρ2, s2, _, _, d, _, g2, Rel.rd g2 (o1.frz.ext o1.good e2), .of r2, h, p9⟩
theorem o_none : PO X none (TXO X.K Ps cl W fun _ s => .ok none s) := ⟨fun pins s σ H Q I ⟨ρ, e, st, g, er, p⟩ => po_none.run pins s σ H Q I (p ρ H Ext.refl g)⟩
theorem o_some (ha : E1 X Ps cl W a fa) : PO X (some a) (TXO X.K Ps cl W fun e s => (fa e s).bind fun x s => (R.opt x.toInt s).bind fun i s => .ok (some i) s) := by
  refine ⟨fun pins s σ H Q I ⟨ρ, e, st, g, er, p⟩ => (po_some ha).run pins s σ H Q I ⟨ρ, e, st, g, er, p.bindD fun d1 s1 ρ1 H1 v1 e1 o1 p => ?_⟩⟩
  obtain ⟨i, h, p⟩ := p.optb
  obtain ⟨rfl, _, g1⟩ := intE o1 h
  exact ⟨i, rfl, p ρ1 H1 Ext.refl g1⟩
theorem e_slc {lo hi : Option Expr} {fl fh : Env → S → R (Option Int)} {p2 : Pos} (ha : E1 X Ps cl W a fa) (hl : PO X lo (TXO X.K Ps cl W fl)) (hh : PO X hi (TXO X.K Ps cl W fh)) :
    E1 X Ps cl W (.Subscript a (.Slice lo hi none p2) pos) fun e s => (fa e s).bind fun x s => (fl e s).bind fun l s => (fh e s).bind fun h s => R.opt (slc2 l h (x.rd s)) s := by
  refine PE.imp (pe_slice sl_all ha hl hh) fun σ H Q ⟨ρ, e, s, g, er, p⟩ => ?_
  refine ⟨ρ, e, s, g, er, p.bind fun d1 s1 ρ1 H1 v1 e1 o1 p => ⟨ρ1, e, s1, o1.good, er.ext g e1, p.bindG fun l s2 ρ2 H2 e2 p g2 => ⟨ρ2, e, s2, g2, (er.ext g e1).ext o1.good e2, p.bindG fun h s3 ρ3 H3 e3 p g3 => ?_⟩⟩⟩
  obtain ⟨d, hd, p⟩ := p.opt
  exact ⟨Ps, ρ3, s3, _, d, _, g3, Rel.rd g3 ((o1.frz.ext o1.good e2).ext g2 e3), hd, p⟩

theorem e_bi {x : Str} {es : List Expr} {fs : Env → S → R (List D)} {p : Pos} (hc : X.calm = true) (k : BI) (hk : k.sole = true) (hg : Gl X x) (hm : X.mg x = none) (hv : bootBuiltins x = some k.val) (ha : PA X (a :: es) (TXA X.K Ps cl W fs))
    (hn : x ≠ "__name__") (hdb : (x == ("__debug__" : Str)) = false) (he : starEach (a :: es) X.env = (false, eval a X.env) :: starEach es X.env) (hpl : (backTo pos (starEach es X.env)).any (·.1) = false) :
    E1 X Ps cl W (.Call (.Name x p) (a :: es) [] pos) fun e s => (fs e s).bind fun ds s => R.opt (bi k (ds.map (·.rd s))) s := by
  have h : PE X (.Call (.Name x p) (a :: es) [] pos) (tCB (rBI X.K k) (TXA X.K Ps cl W fs)) := by
    cases hT : k.isTy with
    | true =>
      have e : k.val = .type k.name := by unfold BI.val; rw [hT]; rfl
      have hcr := call_bi hc k hk
      rw [e] at hv hcr
      exact pe_callTy hcr hg hm hv ha hn hdb he hpl
    | false =>
      have e : k.val = .builtin k.name := by unfold BI.val; rw [hT]; rfl
      have hcr := call_bi hc k hk
      rw [e] at hv hcr
      exact pe_callB hcr hg hm hv ha hn hdb he hpl
  refine PE.imp h fun σ H Q ⟨ρ, e, s, g, er, p⟩ => ?_
  refine ⟨ρ, e, s, g, er, p.bindG fun ds s1 ρ1 H1 e1 p vs g1 r1 => ?_⟩
  obtain ⟨d, hd, p⟩ := p.opt
  exact ⟨Ps, ρ1, s1, _, d, _, g1, r1.rdL g1, hd, p⟩
theorem e_isa {x y : Str} {p p2 : Pos} (t : Ty) (ha : E1 X Ps cl W a fa) (hg : Gl X x) (hm : X.mg x = none) (hv : bootBuiltins x = some (.builtin "isinstance")) (hg2 : Gl X y) (hm2 : X.mg y = none) (hv2 : bootBuiltins y = some (.type t.name))
    (hn : x ≠ "__name__") (hdb : (x == ("__debug__" : Str)) = false) (hn2 : y ≠ "__name__") (hdb2 : (y == ("__debug__" : Str)) = false) (he : starEach (a :: [.Name y p2]) X.env = (false, eval a X.env) :: starEach [.Name y p2] X.env) :
    E1 X Ps cl W (.Call (.Name x p) [a, .Name y p2] [] pos) fun e s => (fa e s).bind fun x s => R.opt ((L3.isTy t (x.rd s)).map .bl) s := by
  refine PE.imp (pe_callB call_isi hg hm hv (pa_cons ha (pa_cons (pe_bltn (v := .ty t.name) hg2 hm2 hv2 rfl hn2 hdb2) pa_nil rfl) he) hn hdb he rfl) fun σ H Q ⟨ρ, e, s, g, er, p⟩ => ?_
  refine ⟨ρ, e, s, g, er, p.bind fun d1 s1 ρ1 H1 v1 e1 o1 p => ?_⟩
  obtain ⟨d, h, p⟩ := p.opt
  simp only [Option.map_eq_some_iff] at h
  obtain ⟨k, h, rfl⟩ := h
  obtain ⟨T, h1, h2⟩ := tyx_of o1.rd h
  exact ⟨_, _, _, _, k, rfl, .ty _, h1, kit_ty h2, p.val o1.good (by simp) (.bl _)⟩
end
end L3
end

section -- I7
set_option autoImplicit false
set_option linter.all false
set_option maxRecDepth 100000
set_option maxHeartbeats 1000000
namespace L3
open PySem PySem.Spec PyProof.Rows L2

theorem joinS_eq (sep : List Nat) : ∀ (ss : List (List Nat)), Str.join (toS sep) (ss.map toS) = toS (joinS sep ss)
  | [] => rfl
  | [a] => rfl
  | a :: b :: r => by
    show Str.join (toS sep) (toS a :: toS b :: r.map toS) = _
    have ih := joinS_eq sep (b :: r)
    rw [List.map_cons] at ih
    simp only [Str.join, joinS]
    rw [ih]
    rw [← toS_app, ← toS_app]
    try first
      | rfl
      | simp [toS, Str.append]
theorem occ_full (s sub : Str) (hi : Nat) : ∀ (l : List Nat) (st : Array Nat × Nat), 1 ≤ st.fst.size → (forIn l st (StrLaws.occBody s sub hi 1)).run.fst = st.fst
  | [], st, h => rfl
  | a :: l, st, h => by
    rw [List.forIn_cons]
    have c : ¬ (((st.fst.size < 1 ∧ st.snd ≤ a) ∧ a + sub.length ≤ hi) ∧ Builtin.Str.subAt s sub a = true) := fun z => by omega
    unfold StrLaws.occBody
    rw [if_neg c]
    exact occ_full s sub hi l st h
theorem occ_first (s sub : Str) (hi : Nat) : ∀ (l : List Nat) (free : Nat), (∀ i ∈ l, free ≤ i) →
    (forIn l ((#[] : Array Nat), free) (StrLaws.occBody s sub hi 1)).run.fst.toList = (l.find? fun i => decide (i + sub.length ≤ hi ∧ Builtin.Str.subAt s sub i = true)).toList
  | [], free, _ => rfl
  | a :: l, free, hf => by
    rw [List.forIn_cons]
    have ha : free ≤ a := hf a List.mem_cons_self
    by_cases hc : a + sub.length ≤ hi ∧ Builtin.Str.subAt s sub a = true
    · have c1 : (((#[] : Array Nat), free).fst.size < 1 ∧ ((#[] : Array Nat), free).snd ≤ a) ∧ a + sub.length ≤ hi := ⟨⟨by simp, ha⟩, hc.1⟩
      unfold StrLaws.occBody
      rw [if_pos ⟨c1, hc.2⟩, List.find?_cons_of_pos (by simpa using hc)]
      have z := occ_full s sub hi l (#[].push a, a + sub.length) (by simp)
      have z2 := congrArg Array.toList z
      simp only [Array.toList_push, List.nil_append] at z2
      exact z2
    · have c2 : ¬ (((((#[] : Array Nat), free).fst.size < 1 ∧ ((#[] : Array Nat), free).snd ≤ a) ∧ a + sub.length ≤ hi) ∧ Builtin.Str.subAt s sub a = true) := fun h => hc ⟨h.1.2, h.2⟩
      unfold StrLaws.occBody
      rw [if_neg c2, List.find?_cons_of_neg (by simpa using hc)]
      exact occ_first s sub hi l free fun i hi' => hf i (List.mem_cons_of_mem _ hi')
theorem findFrom_eq (s : List Nat) (c : Nat) : ∀ (n k : Nat), k + n = s.length → (match ((List.range' k (n + 1)).find? fun i => decide (s[i]? = some c)).toList with | j :: _ => (j : Int) | [] => -1) = findFrom c (s.drop k) k
  | 0, k, h => by
    have e : s.drop k = [] := List.drop_of_length_le (by omega)
    have e2 : s[k]? = none := List.getElem?_eq_none (by omega)
    simp [e, findFrom, List.range', e2]
  | n + 1, k, h => by
    have hk : k < s.length := by omega
    rw [List.drop_eq_getElem_cons hk, List.range'_succ]
    simp only [findFrom]
    by_cases z : s[k] = c
    · rw [if_pos z, List.find?_cons_of_pos (by simp [hk, z])]
      rfl
    · rw [if_neg z, List.find?_cons_of_neg (by simp [hk, z])]
      exact findFrom_eq s c n (k + 1) (by omega)
theorem find3_eq (s : List Nat) (c : Nat) (i : Int) (h0 : 0 ≤ i) (h1 : i ≤ s.length) : Txt.find3 (toS s) (toS [c]) i = findFrom c (s.drop i.toNat) i.toNat := by
  have hl : (toS s).length = s.length := toS_len s
  have hf : fromIndex (toS s).length i = i.toNat := by
    unfold fromIndex
    rw [if_neg (by omega)]
    congr 1
    omega
  unfold Txt.find3
  rw [hf, StrLaws.occ_eq, occ_first _ _ _ _ _ (fun j hj => by simp [List.mem_range'] at hj; omega)]
  have e : (fun j => decide (j + (toS [c]).length ≤ (toS s).length ∧ Builtin.Str.subAt (toS s) (toS [c]) j = true)) = fun j => decide (s[j]? = some c) := by
    funext j
    have z := StrLaws.subAt_one (toS s) c j
    rw [toS_cps] at z
    exact decide_eq_decide.mpr z
  rw [e, hl]
  have e2 : s.length + 1 - i.toNat = (s.length - i.toNat) + 1 := by omega
  rw [e2]
  exact findFrom_eq s c (s.length - i.toNat) i.toNat (by omega)

def BM.name : BM → Str
  | .join => "join" | .find => "find"
def BM.id : BM → String
  | .join => "str.join" | .find => "str.find"
def rBM (K : Fr) (m : BM) : V → List V → Hp → VK → Prop := fun x vs H Q => ∃ Ps ρ s z ds d XQ, Good K Ps ρ none H s ∧ x = .str (toS z) ∧ RdL K ρ s.n H ds vs ∧ bm m (.str z) ds = some d ∧ Post K Ps ρ H s (.ok d s) Q XQ
theorem mt_bm {X : Cx} (m : BM) : MtR X m.id (rBM X.K m) := by
  intro pins s σ H x xs v us Q I rx rs h
  obtain ⟨Ps, ρ, st, z, ds, d, XQ, g, rfl, rd, e, p⟩ := h
  cases m with
  | join =>
    match ds, e, rd with
    | [.lv o ys], e, rd =>
      simp only [bm, Option.bind_eq_some_iff] at e
      obtain ⟨ss, hs, e⟩ := e
      split at e
      · rename_i hz
        cases e
        obtain ⟨w, rfl, r1⟩ := rd.one
        obtain ⟨a, ws, rfl, ht, rl⟩ := r1
        have := strsOf_map hs rl
        subst this
        refine mt_join pins s σ H _ _ v us Q I rx rs ⟨toS z, a, ss.map toS, rfl, rfl, .inl (.of ht), ?_, ?_⟩
        · have e1 : ((ss.map toS).map fun x => x.length) = ss.map (·.length) := by
            rw [List.map_map]
            exact List.map_congr_left fun q _ => toS_len q
          have e2 : ((ss.map toS).map Str.length) = ss.map (·.length) := e1
          first
            | (rw [e2, List.length_map, toS_len, Nat.mul_comm]; exact hz)
            | (rw [e1, List.length_map, toS_len, Nat.mul_comm]; exact hz)
        · have e3 : Txt.join (toS z) (ss.map toS) = toS (joinS z ss) := by
            show Builtin.Str.glued _ _ = _
            rw [StrLaws.glued_eq_join]
            exact joinS_eq z ss
          rw [e3]
          exact p.val g (by simp) (.str _)
      · cases e
    | [], e, _ => simp [bm] at e
    | [.non], e, _ => simp [bm] at e
    | [.bl _], e, _ => simp [bm] at e
    | [.int _], e, _ => simp [bm] at e
    | [.str _], e, _ => simp [bm] at e
    | [.tup _], e, _ => simp [bm] at e
    | [.ref _], e, _ => simp [bm] at e
    | [.scr _], e, _ => simp [bm] at e
    | _ :: _ :: _, e, _ => simp [bm] at e
  | find =>
    have shape : ∃ c i, ds = [.str [c], .int i] := by
      revert e
      match ds with
      | [.str [c], .int i] => exact fun _ => ⟨c, i, rfl⟩
      | [] => simp [bm]
      | [_] => simp [bm]
      | _ :: _ :: _ :: _ => simp [bm]
      | [.non, _] => simp [bm]
      | [.bl _, _] => simp [bm]
      | [.int _, _] => simp [bm]
      | [.tup _, _] => simp [bm]
      | [.lv _ _, _] => simp [bm]
      | [.ref _, _] => simp [bm]
      | [.scr _, _] => simp [bm]
      | [.str [], _] => simp [bm]
      | [.str (_ :: _ :: _), _] => simp [bm]
      | [.str [_], .non] => simp [bm]
      | [.str [_], .bl _] => simp [bm]
      | [.str [_], .str _] => simp [bm]
      | [.str [_], .tup _] => simp [bm]
      | [.str [_], .lv _ _] => simp [bm]
      | [.str [_], .ref _] => simp [bm]
      | [.str [_], .scr _] => simp [bm]
    obtain ⟨c, i, rfl⟩ := shape
    simp only [bm] at e
    split at e
    · rename_i hz
      cases e
      obtain ⟨w, w', rfl, r1, r2⟩ := rd.two
      have := r1.strE
      subst this
      have := r2.intE
      subst this
      refine mt_find3 pins s σ H _ _ v us Q I rx rs ⟨_, _, _, rfl, rfl, ?_⟩
      rw [find3_eq z c i hz.1 hz.2.1]
      exact p.val g (by simp) (.int _)
    · cases e

def MM.name : MM → Str
  | .append => "append" | .extend => "extend" | .pop => "pop"
def MM.id : MM → String
  | .append => "list.append" | .extend => "list.extend" | .pop => "list.pop"
def rMM (K : Fr) (m : MM) : V → List V → Hp → VK → Prop := fun x vs H Q => ∃ Ps ρ s n ds XQ, Good K Ps ρ none H s ∧ n < s.n ∧ x = .ref (ρ n) ∧ RelL K ρ s.n none H ds vs ∧ Post K Ps ρ H s (mmS m n ds s) Q XQ
theorem RelL.one {K : Fr} {ρ : Rh} {n : Nat} {x : Option Addr} {H : Hp} {d : D} {vs : List V} (h : RelL K ρ n x H [d] vs) : ∃ v, vs = [v] ∧ Rel K ρ n x H d v := by
  cases h with
  | cons r t => cases t; exact ⟨_, rfl, r⟩
theorem Rel.notown {K : Fr} {ρ : Rh} {n : Nat} {x : Option Addr} {H : Hp} {d : D} {v : V} (h : Rel K ρ n x H d v) : ∀ xs, d ≠ .lv true xs := fun xs e => by subst e; cases h
theorem Rel.rd' {K : Fr} {Ps : List Addr} {ρ : Rh} {H : Hp} {s : S} {d : D} {v : V} (g : Good K Ps ρ none H s) (h : Rel K ρ s.n none H d v) : RelRd K ρ s.n H (d.rd s) v := by
  obtain ⟨ws, e, r⟩ : ∃ ws, [v] = ws ∧ RelL K ρ s.n none H [d] ws := ⟨_, rfl, .cons h .nil⟩
  subst e
  obtain ⟨w, e, r⟩ := (r.rdL g).one
  cases e
  exact r
theorem mt_mm {X : Cx} (m : MM) : MtR X m.id (rMM X.K m) := by
  intro pins s σ H x xs v us Q I rx rs h
  obtain ⟨Ps, ρ, st, n, ds, XQ, g, hn, rfl, rl, p⟩ := h
  have e0 : st.cells[n]? = some st.cells[n] := List.getElem?_eq_getElem hn
  have c0 := g.cell n _ e0
  unfold mmS at p
  rw [e0] at p
  generalize st.cells[n] = o at p c0 e0
  cases o with
  | lst ys =>
    obtain ⟨ws, hw, rw_⟩ := c0
    dsimp only at p
    cases m with
    | append =>
      match ds, rl, p with
      | [d], rl, p =>
        obtain ⟨w, rfl, r1⟩ := rl.one
        simp only [mutI] at p
        split at p
        · rename_i hz
          refine mt_append pins s σ H _ _ v us Q I rx rs ⟨_, _, _, rfl, rfl, hw, by rw [← rw_.length, ← big_eq]; exact hz, ?_⟩
          exact p ρ _ _ (Ext.put g hn _ _) ⟨g.put hn (rw_.snoc r1), .non⟩
        · exact p.elim
      | [], _, p => simp only [mutI] at p; exact p.elim
      | _ :: _ :: _, _, p => simp only [mutI] at p; exact p.elim
    | extend =>
      match ds, rl, p with
      | [d], rl, p =>
        obtain ⟨w, rfl, r1⟩ := rl.one
        simp only [mutI] at p
        have rr := r1.rd' g
        split at p
        · rename_i o zs hd
          rw [hd] at rr
          obtain ⟨b, us', rfl, hb, rb⟩ := rr
          split at p
          · rename_i hz
            refine mt_extend pins s σ H _ _ v us Q I rx rs ⟨_, _, _, _, rfl, rfl, hw, hb, by rw [← rw_.length, ← rb.length, ← big_eq]; exact hz, ?_⟩
            exact p ρ _ _ (Ext.put g hn _ _) ⟨g.put hn (rw_.append rb), .non⟩
          · exact p.elim
        · exact p.elim
      | [], _, p => simp only [mutI] at p; exact p.elim
      | _ :: _ :: _, _, p => simp only [mutI] at p; exact p.elim
    | pop =>
      match ds, rl, p with
      | [], rl, p =>
        cases rl
        simp only [mutI] at p
        split at p
        · rename_i d hd
          rw [List.getLast?_eq_getElem?] at hd
          obtain ⟨w, h1, h2⟩ := rw_.get hd
          rw [rw_.length] at h1
          refine mt_pop pins s σ H _ _ v us Q I rx rs ⟨_, _, _, rfl, rfl, hw, h1, ?_⟩
          have rdl : RelL X.K ρ st.n none H ys.dropLast ws.dropLast := by
            rw [List.dropLast_eq_take, List.dropLast_eq_take, rw_.length]; exact rw_.take _
          have e1 := Ext.put g hn (.lst ys.dropLast) (.lst ws.dropLast)
          exact p ρ _ _ e1 (.of h2.notown (g.put hn rdl) (h2.ext g e1))
        · exact p.elim
      | [d], rl, p =>
        obtain ⟨w, rfl, r1⟩ := rl.one
        cases d with
        | int i =>
          cases r1
          simp only [mutI] at p
          split at p
          · rename_i k hk
            split at p
            · rename_i y hy
              obtain ⟨w, h1, h2⟩ := rw_.get hy
              have hk' : L2.ixN ws.length i = some k := by rw [← rw_.length]; exact hk
              obtain ⟨q1, q2, q3, q4⟩ := ixN_seq hk'
              have hlim := line63
              obtain ⟨z, _⟩ := I.lstM hw
              refine mt_popAt pins s σ H _ _ v us Q I rx rs ⟨_, _, i, k, _, rfl, rfl, hw, by omega, by omega, q1, h1, ?_⟩
              have rdl : RelL X.K ρ st.n none H (ys.eraseIdx k) (ws.eraseIdx k) := by
                rw [List.eraseIdx_eq_take_drop_succ, List.eraseIdx_eq_take_drop_succ]
                exact (rw_.take _).append (rw_.drop _)
              have e1 := Ext.put g hn (.lst (ys.eraseIdx k)) (.lst (ws.eraseIdx k))
              exact p ρ _ _ e1 (.of h2.notown (g.put hn rdl) (h2.ext g e1))
            · exact p.elim
          · exact p.elim
        | _ => simp only [mutI] at p; exact p.elim
      | _ :: _ :: _, _, p => simp only [mutI] at p; exact p.elim
  | dct ks ys => exact p.elim
  | dtp ks ys => exact p.elim

section
variable {X : Cx} {Ps : List Addr} {cl : XC} {W : WX} {a b c : Expr} {fa fb fc : Env → S → R D} {pos : Pos}
theorem strE' {K : Fr} {H : Hp} {ρ' : Rh} {H' : Hp} {s' : S} {d : D} {v : V} {z : List Nat} (o : OkR K Ps H ρ' H' s' d v) (e : strOf d = some z) : v = .str (toS z) ∧ Good K Ps ρ' none H' s' := by
  cases d with
  | str c => cases e; obtain ⟨g, r⟩ := o; cases r; exact ⟨rfl, g⟩
  | _ => simp [strOf] at e
theorem cellE {K : Fr} {H : Hp} {ρ' : Rh} {H' : Hp} {s' : S} {d : D} {v : V} {n : Nat} (o : OkR K Ps H ρ' H' s' d v) (e : cellOf d s' = some n) : v = .ref (ρ' n) ∧ n < s'.n ∧ Good K Ps ρ' none H' s' ∧ ∃ us, H' (ρ' n) = some (.lst us) := by
  cases d with
  | ref m =>
    simp only [cellOf] at e
    split at e
    · rename_i xs hx
      cases e; obtain ⟨g, r⟩ := o; cases r
      obtain ⟨us, h1, _⟩ := g.cell _ _ hx
      exact ⟨rfl, ‹_›, g, us, h1⟩
    · cases e
  | _ => simp [cellOf] at e
theorem e_bm {es : List Expr} {fs : Env → S → R (List D)} {apos : Pos} (m : BM) (ho : E1 X Ps cl W a fa) (ha : PA X (b :: es) (TXA X.K Ps cl W fs)) (hbase : attributeBase a m.name X.env (eval a X.env) = eval a X.env)
    (hfew : ((backTo pos (starEach (b :: es) X.env)).all (fun x => !x.1) && (backToKw pos (keywordEach [] X.env)).all (fun x => x.1.isSome)
      && decide ((b :: es).length + ([] : List Keyword).length + (if ([] : List Keyword).isEmpty then 0 else 1) < 30)) = true)
    (hline : (apos.endLine == pos.line) = true) (hs : starEach (b :: es) X.env = (false, eval b X.env) :: starEach es X.env) (hplain : (backTo pos (starEach es X.env)).any (·.1) = false) :
    E1 X Ps cl W (.Call (.Attribute a m.name apos) (b :: es) [] pos) fun e s => (fa e s).bind fun x s => (R.opt (strOf x) s).bind fun z s => (fs e s).bind fun ds s => R.opt (L3.bm m (.str z) (ds.map (·.rd s))) s := by
  have h : PE X (.Call (.Attribute a m.name apos) (b :: es) [] pos) (tBM X.K "str" (rBM X.K m) (TX X.K Ps cl W fa) (TXA X.K Ps cl W fs)) := by
    cases m with
    | join => exact pe_bm PySem.F.plainAttrs_str PySem.F.slot_str_join PySem.F.type_str_join (mt_bm .join) ho ha hbase hfew hline hs hplain
    | find => exact pe_bm PySem.F.plainAttrs_str PySem.F.slot_str_find PySem.F.type_str_find (mt_bm .find) ho ha hbase hfew hline hs hplain
  refine PE.imp h fun σ H Q ⟨ρ, e, s, g, er, p⟩ => ?_
  refine ⟨ρ, e, s, g, er, p.bind fun d1 s1 ρ1 H1 v1 e1 o1 p => ?_⟩
  obtain ⟨z, hz, p⟩ := p.optb
  obtain ⟨rfl, g1⟩ := strE' o1 hz
  refine ⟨rfl, ρ1, e, s1, g1, er.ext g e1, p.bindG fun ds s2 ρ2 H2 e2 p vs g2 r2 => ?_⟩
  obtain ⟨d, hd, p⟩ := p.opt
  exact ⟨Ps, ρ2, s2, z, _, d, _, g2, rfl, r2.rdL g2, hd, p⟩
theorem e_mm {es : List Expr} {fs : Env → S → R (List D)} {apos : Pos} (m : MM) (ho : E1 X Ps cl W a fa) (ha : PA X (b :: es) (TXA X.K Ps cl W fs)) (hbase : attributeBase a m.name X.env (eval a X.env) = eval a X.env)
    (hfew : ((backTo pos (starEach (b :: es) X.env)).all (fun x => !x.1) && (backToKw pos (keywordEach [] X.env)).all (fun x => x.1.isSome)
      && decide ((b :: es).length + ([] : List Keyword).length + (if ([] : List Keyword).isEmpty then 0 else 1) < 30)) = true)
    (hline : (apos.endLine == pos.line) = true) (hs : starEach (b :: es) X.env = (false, eval b X.env) :: starEach es X.env) (hplain : (backTo pos (starEach es X.env)).any (·.1) = false) :
    E1 X Ps cl W (.Call (.Attribute a m.name apos) (b :: es) [] pos) fun e s => (fa e s).bind fun x s => (R.opt (cellOf x s) s).bind fun n s => (fs e s).bind fun ds s => mmS m n ds s := by
  have h : PE X (.Call (.Attribute a m.name apos) (b :: es) [] pos) (tBM X.K "list" (rMM X.K m) (TX X.K Ps cl W fa) (TXA X.K Ps cl W fs)) := by
    cases m with
    | append => exact pe_bm PySem.F.plainAttrs_list PySem.F.slot_list_append PySem.F.type_list_append (mt_mm .append) ho ha hbase hfew hline hs hplain
    | extend => exact pe_bm PySem.F.plainAttrs_list PySem.F.slot_list_extend PySem.F.type_list_extend (mt_mm .extend) ho ha hbase hfew hline hs hplain
    | pop => exact pe_bm PySem.F.plainAttrs_list PySem.F.slot_list_pop PySem.F.type_list_pop (mt_mm .pop) ho ha hbase hfew hline hs hplain
  refine PE.imp h fun σ H Q ⟨ρ, e, s, g, er, p⟩ => ?_
  refine ⟨ρ, e, s, g, er, p.bind fun d1 s1 ρ1 H1 v1 e1 o1 p => ?_⟩
  obtain ⟨n, hn, p⟩ := p.optb
  obtain ⟨rfl, hlt, g1, us, hu⟩ := cellE o1 hn
  refine ⟨.inl ⟨rfl, us, .of hu⟩, ρ1, e, s1, g1, er.ext g e1, p.bindG fun ds s2 ρ2 H2 e2 p vs g2 r2 => ?_⟩
  exact ⟨Ps, ρ2, s2, n, ds, _, g2, Nat.lt_of_lt_of_le hlt e2.le, by rw [e2.same n hlt], r2, p⟩
theorem e_pop {apos : Pos} (ho : E1 X Ps cl W a fa) (hbase : attributeBase a "pop" X.env (eval a X.env) = eval a X.env) (hline : (apos.endLine == pos.line) = true) :
    E1 X Ps cl W (.Call (.Attribute a "pop" apos) [] [] pos) fun e s => (fa e s).bind fun x s => (R.opt (cellOf x s) s).bind fun n s => (R.ok [] s : R (List D)).bind fun ds s => mmS .pop n ds s := by
  refine PE.imp (pe_bm0 PySem.F.plainAttrs_list PySem.F.slot_list_pop PySem.F.type_list_pop (mt_mm .pop) ho hbase hline) fun σ H Q ⟨ρ, e, s, g, er, p⟩ => ?_
  refine ⟨ρ, e, s, g, er, p.bind fun d1 s1 ρ1 H1 v1 e1 o1 p => ?_⟩
  obtain ⟨n, hn, p⟩ := p.optb
  obtain ⟨rfl, hlt, g1, us, hu⟩ := cellE o1 hn
  exact ⟨.inl ⟨rfl, us, .of hu⟩, Ps, ρ1, s1, n, [], _, g1, hlt, rfl, .nil, p⟩
/-- a list gets a number -/
theorem e_cell (ha : E1 X Ps cl W a fa) : E1 X Ps cl W a fun e s => (fa e s).bind fun x s => newCell x s := by
  refine PE.imp ha fun σ H Q ⟨ρ, e, s, g, er, p⟩ => ?_
  refine ⟨ρ, e, s, g, er, ?_⟩
  have p : Post X.K Ps ρ H s ((fa e s).bind fun x s => newCell x s) Q fun c H' => W (cl c) none σ H' := p
  cases q : fa e s with
  | bad => rw [q] at p; exact p
  | exc c s' => rw [q] at p; exact p
  | ok d s' =>
    rw [q] at p
    intro ρ' H' v e' o
    have p : Post X.K Ps ρ H s (newCell d s') Q fun c H' => W (cl c) none σ H' := p
    unfold newCell at p
    split at p
    · obtain ⟨ρ2, e2, g2, r2⟩ := okR_cell e' o
      refine p ρ2 H' v e2 ⟨g2, ?_⟩
      have hn : S.n ⟨s'.cells ++ [.lst ‹_›], s'.base, s'.up⟩ = s'.n + 1 := by simp [S.n]
      rw [hn]; exact r2
    · exact p.elim

/-- what a def promises: what the small syntax says -/
def spI (K : Fr) (Ps : List Addr) (cl : XC) (m : Nat) (f : List D → S → R D) : Sp := fun vs H Q E => vs.length = m ∧ ∃ (ρ : Rh) (ds : List D) (s : S), Good K Ps ρ none H s.entry ∧ RelL K ρ s.n none H ds vs ∧ Post K Ps ρ H s.entry (f ds s.entry) Q fun c H' => E (cl c) none H'
structure FnF (X : Cx) (Ps : List Addr) (cl : XC) (k m : Nat) (f : List D → S → R D) (x : Str) : Prop where
  ex : ∃ a fd ps, X.mg x = some (.ref a) ∧ PySem.W.keepIn X.K (.ref a) = true ∧ Binds X.K fd ps [] ∧ FnOk X.prog X.w X.K X.mg X.base (L2N.CX X.prog X.w) k a fd ps (spI X.K Ps cl m f)
  ar : ∀ ds s, ds.length ≠ m → f ds s = .bad
theorem e_call {x : Str} {es : List Expr} {fs : Env → S → R (List D)} {p : Pos} {k m : Nat} {f : List D → S → R D} (F : FnF X Ps cl k m f x) (hr : Room k X.A) (tk : L2N.Takes X W) (hg : Gl X x) (ha : PA X (a :: es) (TXA X.K Ps cl W fs))
    (hdb : (x == ("__debug__" : Str)) = false) (he : starEach (a :: es) X.env = (false, eval a X.env) :: starEach es X.env) (hpl : (backTo pos (starEach es X.env)).any (·.1) = false) :
    E1 X Ps cl W (.Call (.Name x p) (a :: es) [] pos) fun e s => (fs e s).bind fun ds s => callR f ds s := by
  obtain ⟨⟨A, fd, ps, h1, h2, h3, h4⟩, ar⟩ := F
  refine PE.imp (pe_callS (E := WE W) h4 hr hg h1 h2 h3 (fun σ => L2N.passAt tk σ) ha hdb he hpl) fun σ H Q ⟨ρ, e, s, g, er, p⟩ => ?_
  refine ⟨ρ, e, s, g, er, p.bindG fun ds s1 ρ1 H1 e1 p vs g1 r1 => ?_⟩
  refine ⟨?_, ρ1, ds, s1, g1.entry, r1, Post.callR g1 p⟩
  rw [← r1.length]
  refine Classical.byContradiction fun q => ?_
  unfold callR at p
  rw [ar _ _ q] at p
  exact p
end
end L3
end

section -- I8
set_option autoImplicit false
set_option linter.all false
set_option maxRecDepth 100000
set_option maxHeartbeats 1000000
namespace L3
open PySem PySem.Spec PyProof.Rows L2

/-- the item at place i: none: no such list; some none: at the end -/
def nextI (it : L3.It) (i : Nat) (s : S) : Option (Option D) := match it with
  | .fix xs => some xs[i]?
  | .at n => match s.cells[n]? with
    | some (.lst xs) => some xs[i]?
    | _ => none
def lcG (f : D → S → R (Option D)) (it : L3.It) : Nat → Nat → List D → S → R D
  | 0, _, _, _ => .bad
  | k + 1, i, acc, s => match nextI it i s with
    | none => .bad
    | some none => .ok (.lv true acc) s
    | some (some x) => (f x s).bind fun o s => match o with
      | some d => if acc.length < big then lcG f it k (i + 1) (acc ++ [d.frz]) s else .bad
      | none => lcG f it k (i + 1) acc s
def geG (all : Bool) (f : D → S → R (Option Bool)) (it : L3.It) : Nat → Nat → S → R D
  | 0, _, _ => .bad
  | k + 1, i, s => match nextI it i s with
    | none => .bad
    | some none => .ok (.bl all) s
    | some (some x) => (f x s).bind fun o s => match o with
      | some b => if b == all then geG all f it k (i + 1) s else .ok (.bl (!all)) s
      | none => geG all f it k (i + 1) s
def foG (f : D → Env → S → F) (it : L3.It) : Nat → Nat → Env → S → F
  | 0, _, _, _ => .bad
  | k + 1, i, e, s => match nextI it i s with
    | none => .bad
    | some none => .nx e s
    | some (some x) => (f x e s).turn fun e s => foG f it k (i + 1) e s
def fuelI (it : L3.It) (s : S) : Nat := match it with
  | .fix xs => xs.length + 1
  | .at n => cellLen s n + 1
theorem bind_congr {α β : Type} {r : R α} {f g : α → S → R β} (h : ∀ a s, f a s = g a s) : r.bind f = r.bind g := by
  cases r with
  | ok a s => exact h a s
  | exc c s => rfl
  | bad => rfl
theorem turn_congr {r : F} {f g : Env → S → F} (h : ∀ a s, f a s = g a s) : r.turn f = r.turn g := by
  cases r with
  | nx e s => exact h e s
  | ct e s => exact h e s
  | _ => rfl
theorem lcC_eq (f : D → S → R (Option D)) (n : Nat) : ∀ k i acc s, lcC f n k i acc s = lcG f (.at n) k i acc s
  | 0, _, _, _ => rfl
  | k + 1, i, acc, s => by
    unfold lcC lcG
    cases q : s.cells[n]? with
    | none => simp only [nextI, q]
    | some o =>
      cases o with
      | lst xs =>
        cases h : xs[i]? with
        | none => simp only [nextI, q, h]
        | some x =>
          simp only [nextI, q, h]
          refine bind_congr fun o s => ?_
          cases o with
          | none => exact lcC_eq f n k (i + 1) acc s
          | some d => dsimp only; rw [lcC_eq f n k (i + 1) (acc ++ [d.frz]) s]
      | dct ks xs => simp only [nextI, q]
      | dtp ks xs => simp only [nextI, q]
theorem lcL_eq (f : D → S → R (Option D)) (xs : List D) : ∀ (r : List D) (i : Nat) (acc : List D) (s : S), xs.drop i = r → lcL f r acc s = lcG f (.fix xs) (r.length + 1) i acc s
  | [], i, acc, s, h => by
    have : xs[i]? = none := by rw [List.getElem?_eq_none_iff]; exact List.drop_eq_nil_iff.mp h
    simp [lcL, lcG, nextI, this]
  | x :: r, i, acc, s, h => by
    have e : xs[i]? = some x := by rw [← List.head?_drop, h]; rfl
    have e2 : xs.drop (i + 1) = r := by rw [← List.tail_drop, h]; rfl
    unfold lcL lcG nextI
    simp only [e, List.length_cons]
    refine bind_congr fun o s => ?_
    cases o with
    | none => exact lcL_eq f xs r (i + 1) acc s e2
    | some d => dsimp only; rw [lcL_eq f xs r (i + 1) (acc ++ [d.frz]) s e2]
theorem lcI_eq (f : D → S → R (Option D)) (it : L3.It) (s : S) : lcI f it s = lcG f it (fuelI it s) 0 [] s := by
  cases it with
  | fix xs => exact lcL_eq f xs xs 0 [] s rfl
  | «at» n => exact lcC_eq f n _ _ _ _
theorem geC_eq (all : Bool) (f : D → S → R (Option Bool)) (n : Nat) : ∀ k i s, geC all f n k i s = geG all f (.at n) k i s
  | 0, _, _ => rfl
  | k + 1, i, s => by
    unfold geC geG
    cases q : s.cells[n]? with
    | none => simp only [nextI, q]
    | some o =>
      cases o with
      | lst xs =>
        cases h : xs[i]? with
        | none => simp only [nextI, q, h]
        | some x =>
          simp only [nextI, q, h]
          refine bind_congr fun o s => ?_
          cases o with
          | none => exact geC_eq all f n k (i + 1) s
          | some d => dsimp only; rw [geC_eq all f n k (i + 1) s]
      | dct ks xs => simp only [nextI, q]
      | dtp ks xs => simp only [nextI, q]
theorem geL_eq (all : Bool) (f : D → S → R (Option Bool)) (xs : List D) : ∀ (r : List D) (i : Nat) (s : S), xs.drop i = r → geL all f r s = geG all f (.fix xs) (r.length + 1) i s
  | [], i, s, h => by
    have : xs[i]? = none := by rw [List.getElem?_eq_none_iff]; exact List.drop_eq_nil_iff.mp h
    simp [geL, geG, nextI, this]
  | x :: r, i, s, h => by
    have e : xs[i]? = some x := by rw [← List.head?_drop, h]; rfl
    have e2 : xs.drop (i + 1) = r := by rw [← List.tail_drop, h]; rfl
    unfold geL geG nextI
    simp only [e, List.length_cons]
    refine bind_congr fun o s => ?_
    cases o with
    | none => exact geL_eq all f xs r (i + 1) s e2
    | some d => dsimp only; rw [geL_eq all f xs r (i + 1) s e2]
theorem geI_eq (all : Bool) (f : D → S → R (Option Bool)) (it : L3.It) (s : S) : geI all f it s = geG all f it (fuelI it s) 0 s := by
  cases it with
  | fix xs => exact geL_eq all f xs xs 0 s rfl
  | «at» n => exact geC_eq all f n _ _ _
theorem foC_eq (f : D → Env → S → F) (n : Nat) : ∀ k i e s, foC f n k i e s = foG f (.at n) k i e s
  | 0, _, _, _ => rfl
  | k + 1, i, e, s => by
    unfold foC foG
    cases q : s.cells[n]? with
    | none => simp only [nextI, q]
    | some o =>
      cases o with
      | lst xs =>
        cases h : xs[i]? with
        | none => simp only [nextI, q, h]
        | some x =>
          simp only [nextI, q, h]
          exact turn_congr fun e s => foC_eq f n k (i + 1) e s
      | dct ks xs => simp only [nextI, q]
      | dtp ks xs => simp only [nextI, q]
theorem foL_eq (f : D → Env → S → F) (xs : List D) : ∀ (r : List D) (i : Nat) (e : Env) (s : S), xs.drop i = r → foL f r e s = foG f (.fix xs) (r.length + 1) i e s
  | [], i, e, s, h => by
    have : xs[i]? = none := by rw [List.getElem?_eq_none_iff]; exact List.drop_eq_nil_iff.mp h
    simp [foL, foG, nextI, this]
  | x :: r, i, e, s, h => by
    have e1 : xs[i]? = some x := by rw [← List.head?_drop, h]; rfl
    have e2 : xs.drop (i + 1) = r := by rw [← List.tail_drop, h]; rfl
    unfold foL foG nextI
    simp only [e1, List.length_cons]
    exact turn_congr fun e s => foL_eq f xs r (i + 1) e s e2
theorem foI_eq (f : D → Env → S → F) (it : L3.It) (e : Env) (s : S) : foI f it e s = foG f it (fuelI it s) 0 e s := by
  cases it with
  | fix xs => exact foL_eq f xs xs 0 e s rfl
  | «at» n => exact foC_eq f n _ _ _ _

/-- J goes over vs as the heap is (en: each in a pair with its place) -/
def JAt (J : L2.It) (H : Hp) (vs : List V) (en : Bool) : Prop := ∀ i, (vs[i]? = none → J.stop i H) ∧ ∀ v, vs[i]? = some v → J.go i H ∧ ∀ w H', J.yld i H w H' →
  if en = true then ∃ T, w = .ref T ∧ H T = none ∧ H' = upd H T (.tup [.int (i : Nat), v]) else w = v ∧ H' = H
theorem JAt.list {K : Fr} {H : Hp} {a : Addr} {vs : List V} (q : SqL K H a vs) : JAt (Itl K a) H vs false := fun i => by
  refine ⟨fun e => ⟨vs, q, List.getElem?_eq_none_iff.mp e⟩, fun v e => ⟨⟨vs, v, q, e⟩, fun w H2 ⟨e1, y⟩ => ?_⟩⟩
  have := y vs q
  rw [e] at this
  cases this
  exact ⟨rfl, e1⟩
theorem JAt.tup {K : Fr} {H : Hp} {a : Addr} {vs : List V} (q : SqT K H a vs) : JAt (Itt K a) H vs false := fun i => by
  refine ⟨fun e => ⟨vs, q, List.getElem?_eq_none_iff.mp e⟩, fun v e => ⟨⟨vs, v, q, e⟩, fun w H2 ⟨e1, y⟩ => ?_⟩⟩
  have := y vs q
  rw [e] at this
  cases this
  exact ⟨rfl, e1⟩
theorem JAt.enum {K : Fr} {H : Hp} {a : Addr} {vs : List V} (q : SqL K H a vs) : JAt (Ite K a) H vs true := fun i => by
  refine ⟨fun e => ⟨vs, q, List.getElem?_eq_none_iff.mp e⟩, fun v e => ⟨⟨vs, v, q, e⟩, fun w H2 ⟨T, x, e1, e2, e3, y⟩ => ?_⟩⟩
  have := y vs q
  rw [e] at this
  cases this
  exact ⟨T, e1, e2, e3⟩
theorem JAt.range (lo : Int) (n : Nat) (H : Hp) : JAt (Itr lo n) H ((List.range n).map fun (i : Nat) => V.int (lo + (i : Int))) false := fun i => by
  refine ⟨fun e => ?_, fun v e => ?_⟩
  · have e := List.getElem?_eq_none_iff.mp e
    show n ≤ i
    simpa using e
  · simp only [List.getElem?_map, Option.map_eq_some_iff] at e
    obtain ⟨j, e, rfl⟩ := e
    obtain ⟨hi, e⟩ := List.getElem?_eq_some_iff.mp e
    simp only [List.getElem_range] at e
    subst e
    refine ⟨show i < n by simpa using hi, fun w H2 ⟨e1, e2⟩ => ⟨e2, e1⟩⟩
theorem JAt.chars (z : List Nat) (H : Hp) : JAt (Its (toS z)) H (z.map fun c => V.str (toS [c])) false := fun i => by
  have hsz : (toS z).cps.size = z.length := by simp [toS]
  refine ⟨fun e => ?_, fun v e => ?_⟩
  · show (toS z).cps.size ≤ i
    rw [hsz]; simpa using e
  · simp only [List.getElem?_map, Option.map_eq_some_iff] at e
    obtain ⟨c, e, rfl⟩ := e
    refine ⟨?_, fun w H2 ⟨e1, c', h1, h2⟩ => ⟨?_, e1⟩⟩
    · show i < (toS z).cps.size
      rw [hsz]; exact (List.getElem?_eq_some_iff.mp e).1
    · have q : (toS z).cps[i]? = z[i]? := by simp [toS]
      rw [q, e] at h1
      cases h1
      exact h2
/-- enumerate over a tuple -/
def IteT (K : Fr) (a : Addr) : L2.It :=
  ⟨fun i H => ∃ (xs : List V) (x : V), SqT K H a xs ∧ xs[i]? = some x, fun i H v H' => ∃ T x, v = .ref T ∧ H T = none ∧ H' = upd H T (.tup [.int (i : Nat), x]) ∧ ∀ xs, SqT K H a xs → xs[i]? = some x, fun i H => ∃ xs : List V, SqT K H a xs ∧ xs.length ≤ i⟩
theorem JAt.enumT {K : Fr} {H : Hp} {a : Addr} {vs : List V} (q : SqT K H a vs) : JAt (IteT K a) H vs true := fun i => by
  refine ⟨fun e => ⟨vs, q, List.getElem?_eq_none_iff.mp e⟩, fun v e => ⟨⟨vs, v, q, e⟩, fun w H2 ⟨T, x, e1, e2, e3, y⟩ => ?_⟩⟩
  have := y vs q
  rw [e] at this
  cases this
  exact ⟨T, e1, e2, e3⟩
inductive Walk (K : Fr) (ρ : Rh) (H : Hp) (s : S) : L3.It → L2.It → Prop where
  | pure {xs : List D} {vs : List V} {J : L2.It} : RelL K ρ s.n none H xs vs → (∀ H, JAt J H vs false) → Walk K ρ H s (.fix xs) J
  | lst {xs : List D} {a : Addr} : Rel K ρ s.n none H (.lv false xs) (.ref a) → Walk K ρ H s (.fix xs) (Itl K a)
  | scr {ns : List Int} {a : Addr} : Rel K ρ s.n none H (.scr ns) (.ref a) → Walk K ρ H s (.fix (ns.map .int)) (Itl K a)
  | tup {xs : List D} {a : Addr} : Rel K ρ s.n none H (.tup xs) (.ref a) → Walk K ρ H s (.fix xs) (Itt K a)
  | at {n : Nat} {a : Addr} : Rel K ρ s.n none H (.ref n) (.ref a) → Walk K ρ H s (.at n) (Itl K a)
  | enL {xs : List D} {a : Addr} : Rel K ρ s.n none H (.lv false xs) (.ref a) → Walk K ρ H s (.fix (enumL xs)) (Ite K a)
  | enT {xs : List D} {a : Addr} : Rel K ρ s.n none H (.tup xs) (.ref a) → Walk K ρ H s (.fix (enumL xs)) (IteT K a)
section
variable {K : Fr} {Ps : List Addr} {ρ ρ' ρ1 ρ2 : Rh} {H H' H1 H2 : Hp} {s s' s1 s2 : S} {d : D} {v : V} {it : L3.It} {J : L2.It}
theorem Walk.mono (w : Walk K ρ H s it J) (h : ∀ d v, Rel K ρ s.n none H d v → Rel K ρ' s'.n none H' d v) (hL : ∀ d v, RelL K ρ s.n none H d v → RelL K ρ' s'.n none H' d v) : Walk K ρ' H' s' it J := by
  cases w with
  | pure r j => exact .pure (hL _ _ r) j
  | lst r => exact .lst (h _ _ r)
  | scr r => exact .scr (h _ _ r)
  | tup r => exact .tup (h _ _ r)
  | «at» r => exact .at (h _ _ r)
  | enL r => exact .enL (h _ _ r)
  | enT r => exact .enT (h _ _ r)
theorem Walk.ext (w : Walk K ρ H s it J) (g : Good K Ps ρ none H s) (e : Ext K ρ H s ρ' H' s') : Walk K ρ' H' s' it J := w.mono (fun _ _ r => r.ext g e) fun _ _ r => r.ext g e
theorem enumL_get (xs : List D) (i : Nat) : (enumL xs)[i]? = (xs[i]?).map fun x => .tup [.int (i : Nat), x] := by
  unfold enumL
  rw [List.getElem?_map, List.getElem?_zipIdx]
  cases xs[i]? <;> simp
theorem relL_intv (ns : List Int) : RelL K ρ s.n none H (ns.map .int) (ns.map V.int) := by
  induction ns with
  | nil => exact .nil
  | cons k ks ih => exact .cons (.int _) ih
/-- in one form -/
theorem Walk.cases (w : Walk K ρ H s it J) (g : Good K Ps ρ none H s) : (∃ xs vs, (∀ i, nextI it i s = some xs[i]?) ∧ RelL K ρ s.n none H xs vs ∧ JAt J H vs false) ∨ (∃ xs vs, it = .fix (enumL xs) ∧ RelL K ρ s.n none H xs vs ∧ JAt J H vs true) ∨ ∀ i, nextI it i s = none := by
  cases w with
  | pure r j => exact .inl ⟨_, _, fun _ => rfl, r, j H⟩
  | lst r => cases r with
    | lv h1 h2 h3 h4 r => exact .inl ⟨_, _, fun _ => rfl, r, .list (.of h1)⟩
  | scr r => cases r with
    | scr h => exact .inl ⟨_, _, fun _ => rfl, relL_intv _, .list h.sq⟩
  | tup r => cases r with
    | tup h r => exact .inl ⟨_, _, fun _ => rfl, r, .tup h.sq⟩
  | @«at» n a r => cases r with
    | ref hn =>
      have e0 : s.cells[n]? = some s.cells[n] := List.getElem?_eq_getElem hn
      have c0 := g.cell n _ e0
      generalize s.cells[n] = o at e0 c0
      cases o with
      | lst ys =>
        obtain ⟨ws, hw, rw_⟩ := c0
        refine .inl ⟨ys, ws, fun i => ?_, rw_, .list (.of hw)⟩
        simp only [nextI, e0]
      | dct ks ys => exact .inr (.inr fun i => by simp only [nextI, e0])
      | dtp ks ys => exact .inr (.inr fun i => by simp only [nextI, e0])
  | enL r => cases r with
    | lv h1 h2 h3 h4 r => exact .inr (.inl ⟨_, _, rfl, r, .enum (.of h1)⟩)
  | enT r => cases r with
    | tup h r => exact .inr (.inl ⟨_, _, rfl, r, .enumT h.sq⟩)
theorem Walk.stop (w : Walk K ρ H s it J) (g : Good K Ps ρ none H s) {i : Nat} (e : nextI it i s = some none) : J.stop i H := by
  rcases w.cases g with ⟨xs, vs, h, r, j⟩ | ⟨xs, vs, rfl, r, j⟩ | hno
  · rw [h] at e
    have e := Option.some.inj e
    refine (j i).1 ?_
    rw [List.getElem?_eq_none_iff] at e ⊢
    rw [← r.length]; exact e
  · have e : _ = none := Option.some.inj e
    refine (j i).1 ?_
    rw [enumL_get] at e
    rw [Option.map_eq_none_iff, List.getElem?_eq_none_iff] at e
    rw [List.getElem?_eq_none_iff, ← r.length]; exact e
  · rw [hno] at e; cases e
theorem Walk.go (w : Walk K ρ H s it J) (g : Good K Ps ρ none H s) {i : Nat} {x : D} (e : nextI it i s = some (some x)) : J.go i H ∧ ∀ v H', J.yld i H v H' → Ext K ρ H s ρ H' s ∧ Good K Ps ρ none H' s ∧ Rel K ρ s.n none H' x v ∧ (∀ a, H a ≠ none → H' a = H a) := by
  rcases w.cases g with ⟨xs, vs, h, r, j⟩ | ⟨xs, vs, rfl, r, j⟩ | hno
  · rw [h] at e
    have e := Option.some.inj e
    obtain ⟨v, h1, h2⟩ := r.get e
    obtain ⟨q1, q2⟩ := (j i).2 v h1
    refine ⟨q1, fun u H' y => ?_⟩
    obtain ⟨rfl, rfl⟩ := q2 u H' y
    exact ⟨Ext.refl, g, h2, fun _ _ => rfl⟩
  · have e : _ = some x := Option.some.inj e
    rw [enumL_get] at e
    simp only [Option.map_eq_some_iff] at e
    obtain ⟨z, e2, rfl⟩ := e
    obtain ⟨v, h1, h2⟩ := r.get e2
    obtain ⟨q1, q2⟩ := (j i).2 v h1
    refine ⟨q1, fun u H' y => ?_⟩
    obtain ⟨T, rfl, hT, rfl⟩ := q2 u H' y
    exact ⟨Ext.new hT, g.new hT, .tup (.of upd_same) (.cons (.int _) (.cons (h2.ext g (Ext.new hT)) .nil)), fun a ha => upd_ne fun q => ha (q ▸ hT)⟩
  · rw [hno] at e; cases e
end

def iSeq (K : Fr) (tl : TE) : TI := fun σ H R => tl σ H fun x H1 => (∃ a, x = .ref a ∧ (((∃ xs, SqL K H1 a xs) ∧ R (Itl K a) H1) ∨ ((∃ xs, SqT K H1 a xs) ∧ R (Itt K a) H1))) ∨ ∃ z, x = .str z ∧ R (Its z) H1
theorem pi_seq {X : Cx} {tg l : Expr} {tl : TE} (hl : PE X l tl) : PI X tg l (iSeq X.K tl) := by
  refine ⟨fun pins s σ H R I h => ?_⟩
  refine thn (hl.run pins s σ H _ I h) fun v s1 ⟨x, H1, I1, r1, q1⟩ => ?_
  rcases q1 with ⟨a, e, q1⟩ | ⟨z, e, q⟩
  · subst e
    cases r1
    rcases q1 with ⟨⟨xs, hq⟩, q⟩ | ⟨⟨xs, hq⟩, q⟩
    · obtain ⟨its, rv, p, hz⟩ := I1.list hq
      exact wpAny_pyIter_list p.isList (pi_one (tk := s1.toks) I1 _ (turn_list a _) ⟨_, Heap.get?_push_size _ rfl, rfl, rfl⟩ q)
    · obtain ⟨its, rv, p, hz⟩ := I1.tuple hq
      exact wpAny_pyIter_tuple (show s1.heap.IsTuple a its.toArray from p) (pi_one (tk := s1.toks) I1 _ (turn_tuple a _) ⟨_, Heap.get?_push_size _ rfl, rfl, rfl⟩ q)
  · subst e
    obtain ⟨t, rfl⟩ := r1
    by_cases ha : z.cps.all (· < 128) = true
    · exact wpAny_pyIter_ascii ha (pi_one (tk := s1.toks) I1 _ (turn_str _ z t "str_ascii_iterator" (.inl rfl)) ⟨_, Heap.get?_push_size _ rfl, rfl, rfl⟩ q)
    · have ha : z.cps.all (· < 128) = false := by simpa using ha
      exact wpAny_pyIter_wide ha (pi_one (tk := s1.toks) I1 _ (turn_str _ z t "str_iterator" (.inr rfl)) ⟨_, Heap.get?_push_size _ rfl, rfl, rfl⟩ q)
def TXI (K : Fr) (Ps : List Addr) (cl : XC) (W : WX) (f : Env → S → R L3.It) : TI := fun σ H R => ∃ ρ e s, Good K Ps ρ none H s ∧ EnvRel K ρ s.n H σ e ∧
  PostG K Ps ρ H s (f e s) (fun it s' ρ' H' => ∀ J, Good K Ps ρ' none H' s' → Walk K ρ' H' s' it J → R J H') fun c H' => W (cl c) none σ H'
section
variable {K : Fr} {Ps : List Addr} {ρ : Rh} {H : Hp} {s : S} {d : D} {v : V}
theorem relL_ints (lo : Int) (ks : List Nat) : RelL K ρ s.n none H (ks.map fun (i : Nat) => .int (lo + (i : Int))) (ks.map fun (i : Nat) => V.int (lo + (i : Int))) := by
  induction ks with
  | nil => exact .nil
  | cons k ks ih => exact .cons (.int _) ih
theorem relL_chars (z : List Nat) : RelL K ρ s.n none H (z.map fun c => .str [c]) (z.map fun c => V.str (toS [c])) := by
  induction z with
  | nil => exact .nil
  | cons k ks ih => exact .cons (.str _) ih
/-- a value walked -/
theorem seq_walk (g : Good K Ps ρ none H s) (r : Rel K ρ s.n none H d.frz v) {it : L3.It} (e : seqOf s d = some it) :
    (∃ a, v = .ref a ∧ (((∃ xs, SqL K H a xs) ∧ Walk K ρ H s it (Itl K a)) ∨ ((∃ xs, SqT K H a xs) ∧ Walk K ρ H s it (Itt K a)))) ∨ ∃ z, v = .str z ∧ Walk K ρ H s it (Its z) := by
  cases d with
  | str z =>
    cases e
    have r' : Rel K ρ s.n none H (.str z) v := r
    cases r' with
    | str _ => exact .inr ⟨_, rfl, .pure (relL_chars z) (.chars z)⟩
  | tup xs =>
    cases e
    have r' : Rel K ρ s.n none H (.tup xs) v := r
    cases id r' with
    | tup h _ => exact .inl ⟨_, rfl, .inr ⟨⟨_, h.sq⟩, .tup r'⟩⟩
  | lv o xs =>
    cases e
    have r' : Rel K ρ s.n none H (.lv false xs) v := r
    cases id r' with
    | lv h1 h2 h3 h4 _ => exact .inl ⟨_, rfl, .inl ⟨⟨_, .of h1⟩, .lst r'⟩⟩
  | ref n =>
    have e : (match s.cells[n]? with | some (.lst _) => some (L3.It.at n) | _ => none) = some it := e
    split at e
    · rename_i ys hy
      cases e
      have r' : Rel K ρ s.n none H (.ref n) v := r
      cases id r' with
      | ref hn =>
        obtain ⟨us, hu, _⟩ := g.cell _ _ hy
        exact .inl ⟨_, rfl, .inl ⟨⟨_, .of hu⟩, .at r'⟩⟩
    · cases e
  | scr ns =>
    cases e
    have r' : Rel K ρ s.n none H (.scr ns) v := r
    cases id r' with
    | scr h => exact .inl ⟨_, rfl, .inl ⟨⟨_, h.sq⟩, .scr r'⟩⟩
  | _ => simp [seqOf] at e
end
section
variable {X : Cx} {Ps : List Addr} {cl : XC} {W : WX} {a b c tg : Expr} {fa fb fc : Env → S → R D} {pos p : Pos}
abbrev I1 (X : Cx) (Ps : List Addr) (cl : XC) (W : WX) (tg iter : Expr) (f : Env → S → R L3.It) : Prop := PI X tg iter (TXI X.K Ps cl W f)
theorem i_seq (ha : E1 X Ps cl W a fa) : I1 X Ps cl W tg a fun e s => (fa e s).bind fun x s => R.opt (seqOf s x) s := by
  refine PI.imp (pi_seq ha) fun σ H Q ⟨ρ, e, s, g, er, p⟩ => ?_
  refine ⟨ρ, e, s, g, er, p.bindD fun d s1 ρ1 H1 v e1 o p => ?_⟩
  obtain ⟨it, h, p⟩ := p.opt
  rcases seq_walk o.good o.frz h with ⟨A, rfl, q⟩ | ⟨z, rfl, q2⟩
  · refine .inl ⟨A, rfl, ?_⟩
    rcases q with ⟨q1, q2⟩ | ⟨q1, q2⟩
    · exact .inl ⟨q1, p ρ1 H1 Ext.refl _ o.good q2⟩
    · exact .inr ⟨q1, p ρ1 H1 Ext.refl _ o.good q2⟩
  · exact .inr ⟨z, rfl, p ρ1 H1 Ext.refl _ o.good q2⟩
theorem rngE {i j : Int} {it : L3.It} (h : rng i j = some it) : (-(2 ^ 62) ≤ i ∧ i < 2 ^ 62 ∧ -(2 ^ 62) ≤ j ∧ j < 2 ^ 62) ∧ it = .fix ((List.range (j - i).toNat).map fun (k : Nat) => .int (i + (k : Int))) := by
  unfold rng at h
  split at h
  · rename_i q
    cases h; exact ⟨by omega, rfl⟩
  · cases h
theorem i_rng1 (hg : Gl X "range") (hm : X.mg "range" = none) (ha : E1 X Ps cl W a fa) (hs : starEach [a] X.env = [(false, eval a X.env)]) :
    I1 X Ps cl W tg (.Call (.Name "range" p) [a] [] pos) fun e s => (fa e s).bind fun x s => R.opt (x.toInt.bind fun i => rng 0 i) s := by
  refine PI.imp (pi_range1 hg hm (a_cons ha a_nil hs) hs) fun σ H Q ⟨ρ, e, s, g, er, p⟩ => ?_
  refine ⟨ρ, e, s, g, er, ?_⟩
  dsimp only at p ⊢
  cases q : fa e s with
  | bad => rw [q] at p; exact p
  | exc c s' => rw [q] at p; exact p
  | ok x s1 =>
    rw [q] at p
    simp only [R.bind_ok] at p ⊢
    obtain ⟨it, h, p9⟩ := p.opt
    replace p := p9
    rw [Option.bind_eq_some_iff] at h
    obtain ⟨i, hi, h⟩ := h
    obtain ⟨⟨h1, h2, h3, h4⟩, rfl⟩ := rngE h
    intro ρ' H' e1 vs g1 r1
    obtain ⟨v, rfl, r⟩ := r1.one
    cases x with
    | int k =>
      cases hi
      cases r
      refine ⟨i, rfl, h3, h4, ?_⟩
      have := p ρ' H' e1 (Itr 0 (i - 0).toNat) g1 (.pure (relL_ints 0 _) (.range 0 _))
      simpa using this
    | _ => simp [D.toInt] at hi
theorem i_rng2 (hg : Gl X "range") (hm : X.mg "range" = none) (ha : E1 X Ps cl W a fa) (hb : E1 X Ps cl W b fb) (hs : starEach [a, b] X.env = [(false, eval a X.env), (false, eval b X.env)]) (hs2 : starEach [b] X.env = [(false, eval b X.env)]) :
    I1 X Ps cl W tg (.Call (.Name "range" p) [a, b] [] pos) fun e s => (fa e s).bind fun x s => (fb e s).bind fun y s => R.opt (x.toInt.bind fun i => y.toInt.bind fun j => rng i j) s := by
  refine PI.imp (pi_range2 hg hm (a_cons ha (a_cons hb a_nil hs2) (by rw [hs, hs2])) hs hs2) fun σ H Q ⟨ρ, e, s, g, er, p⟩ => ?_
  refine ⟨ρ, e, s, g, er, ?_⟩
  dsimp only at p ⊢
  cases q : fa e s with
  | bad => rw [q] at p; exact p
  | exc c s' => rw [q] at p; exact p
  | ok x s1 =>
    rw [q] at p
    simp only [R.bind_ok] at p ⊢
    cases q2 : fb e s1 with
    | bad => rw [q2] at p; exact p
    | exc c s' => rw [q2] at p; exact p
    | ok y s2 =>
      rw [q2] at p
      simp only [R.bind_ok] at p ⊢
      obtain ⟨it, h, p9⟩ := p.opt
      replace p := p9
      rw [Option.bind_eq_some_iff] at h
      obtain ⟨i, hi, h⟩ := h
      rw [Option.bind_eq_some_iff] at h
      obtain ⟨j, hj, h⟩ := h
      obtain ⟨hz, rfl⟩ := rngE h
      intro ρ' H' e1 vs g1 r1
      cases x with
      | int k =>
        cases y with
        | int l =>
          cases hi
          cases hj
          cases r1 with
          | cons r r1 =>
            obtain ⟨v, rfl, r'⟩ := r1.one
            cases r
            cases r'
            exact ⟨i, j, rfl, hz, p ρ' H' e1 (Itr i (j - i).toNat) g1 (.pure (relL_ints i _) (.range i _))⟩
        | _ => simp [D.toInt] at hj
      | _ => simp [D.toInt] at hi
theorem i_chars (ha : E1 X Ps cl W a fa) : I1 X Ps cl W tg a fun e s => (fa e s).bind fun x s => R.opt (charsOf x) s := by
  refine PI.imp (pi_str ha) fun σ H Q ⟨ρ, e, s, g, er, p⟩ => ?_
  refine ⟨ρ, e, s, g, er, p.bindD fun d s1 ρ1 H1 v e1 o p => ?_⟩
  obtain ⟨it, h, p⟩ := p.opt
  cases d with
  | str z =>
    cases h
    obtain ⟨g1, r⟩ := o
    cases r
    exact ⟨toS z, rfl, p ρ1 H1 Ext.refl _ g1 (.pure (relL_chars z) (.chars z))⟩
  | _ => simp [charsOf] at h
end
end L3
end

section -- I9
set_option autoImplicit false
set_option linter.all false
set_option maxRecDepth 100000
set_option maxHeartbeats 1000000
namespace L3
open PySem PySem.Spec PyProof.Rows L2

mutual
def Tg.names : Tg → List Nat
  | .nm i => [i]
  | .tup ts => namesL ts
def namesL : List Tg → List Nat
  | [] => []
  | t :: ts => t.names ++ namesL ts
end
mutual
/-- the written target is this one -/
def tgC (N : List Str) (sc : Scope) (fnb : Str → Bool) : Tg → Expr → Bool
  | .nm i, .Name x _ => decide (N[i]? = some x) && (decide (sc.names.lookup x = some .local) || (decide (sc.names.lookup x = some .cell) && fnb x))
  | .tup ts, .Tuple es _ _ => tgsC N sc fnb ts es
  | _, _ => false
def tgsC (N : List Str) (sc : Scope) (fnb : Str → Bool) : List Tg → List Expr → Bool
  | [], [] => true
  | t :: ts, e :: es => tgC N sc fnb t e && tgsC N sc fnb ts es
  | _, _ => false
end
theorem tgC_nm {N : List Str} {sc : Scope} {fnb : Str → Bool} {i : Nat} {e : Expr} (h : tgC N sc fnb (.nm i) e = true) :
    ∃ x p, e = .Name x p ∧ N[i]? = some x ∧ (sc.names.lookup x = some .local ∨ (sc.names.lookup x = some .cell ∧ fnb x = true)) := by
  cases e <;> simp [tgC] at h
  exact ⟨_, _, rfl, h⟩
theorem tgC_tup {N : List Str} {sc : Scope} {fnb : Str → Bool} {ts : List Tg} {e : Expr} (h : tgC N sc fnb (.tup ts) e = true) :
    ∃ es k p, e = .Tuple es k p ∧ tgsC N sc fnb ts es = true := by
  cases e <;> simp [tgC] at h
  exact ⟨_, _, _, rfl, h⟩
theorem tgC_plain {N : List Str} {sc : Scope} {fnb : Str → Bool} {t : Tg} {e : Expr} {es : List Expr} {env : PySem.Env} (h : tgC N sc fnb t e = true) : assignEach (e :: es) env = (false, assign e env) :: assignEach es env := by
  cases t <;> cases e <;> simp [tgC] at h <;> rfl
theorem tgsC_plain {N : List Str} {sc : Scope} {fnb : Str → Bool} {env : PySem.Env} : ∀ {ts : List Tg} {es : List Expr}, tgsC N sc fnb ts es = true → (assignEach es env).length = ts.length ∧ (assignEach es env).findIdx? (·.1) = none
  | [], [], _ => ⟨rfl, rfl⟩
  | t :: ts, e :: es, h => by
    simp only [tgsC, Bool.and_eq_true] at h
    rw [tgC_plain h.1]
    obtain ⟨h1, h2⟩ := tgsC_plain (env := env) h.2
    refine ⟨by simp [h1], ?_⟩
    rw [List.findIdx?_cons]
    simp [h2]
  | [], _ :: _, h => by simp [tgsC] at h
  | _ :: _, [], h => by simp [tgsC] at h

section
variable {K : Fr} {ρ : Rh} {n : Nat} {H : Hp} {σ : L2.St} {e : Env} {d : D} {v : V}
theorem EnvRel.set {i : Nat} (h : EnvRel K ρ n H σ e) (hi : i < σ.length) (r : Rel K ρ n none H d v) : EnvRel K ρ n H (σ.set i (some v)) (e.set i (some d)) := fun j d' q => by
  by_cases hij : i = j
  · subst hij
    refine ⟨v, by rw [List.getElem?_set_self hi], ?_⟩
    unfold getV at q
    by_cases hl : i < e.length
    · rw [List.getElem?_set_self hl] at q
      cases q; exact r
    · rw [List.getElem?_eq_none (by simpa using hl)] at q
      cases q
  · rw [List.getElem?_set_ne hij]
    refine h j d' ?_
    unfold getV at q ⊢
    rw [List.getElem?_set_ne hij] at q
    exact q
theorem EnvRel.setN {i : Nat} (h : EnvRel K ρ n H σ e) (o : Option V) : EnvRel K ρ n H (σ.set i o) (e.set i none) := fun j d' q => by
  by_cases hij : i = j
  · subst hij
    unfold getV at q
    by_cases hl : i < e.length
    · rw [List.getElem?_set_self hl] at q
      cases q
    · rw [List.getElem?_eq_none (by simpa using hl)] at q
      cases q
  · rw [List.getElem?_set_ne hij]
    refine h j d' ?_
    unfold getV at q ⊢
    rw [List.getElem?_set_ne hij] at q
    exact q
theorem EnvRel.wipe (h : EnvRel K ρ n H σ e) : ∀ vs : List Nat, EnvRel K ρ n H (L2.wipe σ vs) (L3.wipe e vs)
  | [] => h
  | v :: vs => by
    unfold L2.wipe L3.wipe
    exact (EnvRel.wipe h vs).setN none
end
/-- the reading of a target -/
def TXG (K : Fr) (t : Tg) : TG := fun v σ H Q => ∃ ρ n d e e', Rel K ρ n none H (D.frz d) v ∧ EnvRel K ρ n H σ e ∧ asg t d e = some e' ∧ ∀ σ', σ'.length = σ.length → (∀ i, i ∉ t.names → σ'[i]? = σ[i]?) → EnvRel K ρ n H σ' e' → Q σ' H
def TXGs (K : Fr) (ts : List Tg) : TGs := fun vs σ H Q => ∃ ρ n ds e e', RelL K ρ n none H ds vs ∧ EnvRel K ρ n H σ e ∧ asgs ts ds e = some e' ∧ ∀ σ', σ'.length = σ.length → (∀ i, i ∉ namesL ts → σ'[i]? = σ[i]?) → EnvRel K ρ n H σ' e' → Q σ' H
section
variable {X : Cx}
theorem PG.len {e : Expr} {t t' : TG} (h : PG X e t) (i : ∀ v σ H Q, σ.length = X.N.length → t' v σ H Q → t v σ H Q) : PG X e t' := ⟨fun pins s σ H v u Q I r q => h.run pins s σ H v u Q I r (i v σ H Q I.len q)⟩
theorem PGs.imp {e : List Expr} {t t' : TGs} (h : PGs X e t) (i : ∀ v σ H Q, t' v σ H Q → t v σ H Q) : PGs X e t' := ⟨fun pins s σ H v u Q I r q => h.run pins s σ H v u Q I r (i v σ H Q q)⟩
theorem PG.or {e : Expr} {t u : TG} (h : PG X e t) (k : PG X e u) : PG X e fun v σ H Q => t v σ H Q ∨ u v σ H Q := ⟨fun pins s σ H v w Q I r q => q.elim (h.run pins s σ H v w Q I r) (k.run pins s σ H v w Q I r)⟩
theorem Rel.frzE {K : Fr} {ρ : Rh} {n : Nat} {H : Hp} {d : D} {v : V} (h : Rel K ρ n none H d v) : d.frz = d := by
  cases h <;> rfl
mutual
theorem g_of {fnb : Str → Bool} (hN : X.N.Nodup) (hc : X.calm = true) (hf : ∀ x, fnb x = true → X.fn x = true) : ∀ {t : Tg} {e : Expr}, tgC X.N X.env.scope fnb t e = true → PG X e (TXG X.K t)
  | .nm i, E, h => by
    obtain ⟨x, pos, rfl, h2⟩ := tgC_nm h
    replace h := h2
    have hx : Loc X.env.scope x := h.2.imp id (·.1)
    have hl : X.fn x = true ∨ X.env.scope.names.lookup x = some .local := by
      rcases h.2 with q | q
      · exact .inr q
      · exact .inl (hf x q.2)
    refine PG.len (pg_name (pos := pos) hN h.1 hx hl) fun v σ H Q hlen ⟨ρ, n, d, e, e', r, er, q, k⟩ => ?_
    have hi : i < σ.length := by rw [hlen]; exact (List.getElem?_eq_some_iff.mp h.1).1
    simp only [asg, Option.some.injEq] at q
    subst q
    refine k _ (by simp) (fun j hj => ?_) (er.set hi r)
    rw [List.getElem?_set_ne]
    exact fun q => hj (by simp [Tg.names, q])
  | .tup ts, E, h => by
    obtain ⟨es, kk, pos, rfl, h2⟩ := tgC_tup h
    replace h := h2
    have hs := gs_of hN hc hf h
    obtain ⟨p1, p2⟩ := tgsC_plain (env := X.env) h
    refine PG.imp (PG.or (pg_tup (k := kk) (pos := pos) (n := ts.length) hc hs p1 p2) (pg_lst (k := kk) (pos := pos) (n := ts.length) hc hs p1 p2)) fun v σ H Q ⟨ρ, n, d, e, e', r, er, q, k⟩ => ?_
    have hlen : ∀ {ts : List Tg} {xs : List D} {e e' : Env}, asgs ts xs e = some e' → xs.length = ts.length := by
      intro ts
      induction ts with
      | nil => intro xs e e' h; cases xs with
        | nil => rfl
        | cons x xs => simp [asgs] at h
      | cons t ts ih =>
        intro xs e e' h
        cases xs with
        | nil => simp [asgs] at h
        | cons x xs =>
          simp only [asgs, Option.bind_eq_some_iff] at h
          obtain ⟨e1, _, h⟩ := h
          simp [ih h]
    cases d with
    | tup xs =>
      cases r with
      | tup h1 h2 => exact .inl ⟨_, _, rfl, h1.sq, by rw [← h2.length]; exact hlen q, ρ, n, xs, e, e', h2, er, q, k⟩
    | lv o xs =>
      cases r with
      | lv h1 _ _ _ h2 => exact .inr ⟨_, _, rfl, .of h1, by rw [← h2.length]; exact hlen q, ρ, n, xs, e, e', h2, er, q, k⟩
    | _ => simp [asg] at q
theorem gs_of {fnb : Str → Bool} (hN : X.N.Nodup) (hc : X.calm = true) (hf : ∀ x, fnb x = true → X.fn x = true) : ∀ {ts : List Tg} {es : List Expr}, tgsC X.N X.env.scope fnb ts es = true → PGs X es (TXGs X.K ts)
  | [], [], _ => by
    refine PGs.imp pgs_nil fun vs σ H Q ⟨ρ, n, ds, e, e', r, er, q, k⟩ => ?_
    cases ds with
    | nil =>
      cases r
      simp only [asgs, Option.some.injEq] at q
      subst q
      exact ⟨rfl, k σ rfl (fun _ _ => rfl) er⟩
    | cons d ds => simp [asgs] at q
  | t :: ts, e :: es, h => by
    simp only [tgsC, Bool.and_eq_true] at h
    refine PGs.imp (pgs_cons (g_of hN hc hf h.1) (gs_of hN hc hf h.2) (by rw [tgC_plain h.1]; rfl)) fun vs σ H Q ⟨ρ, n, ds, en, e', r, er, q, k⟩ => ?_
    cases r with
    | nil => simp [asgs] at q
    | cons r rr =>
      simp only [asgs, Option.bind_eq_some_iff] at q
      obtain ⟨e1, q1, q2⟩ := q
      refine ⟨_, _, rfl, ρ, n, _, en, e1, by rw [r.frzE]; exact r, er, q1, fun σ1 l1 o1 er1 => ⟨ρ, n, _, e1, e', rr, er1, q2, fun σ2 l2 o2 er2 => k σ2 (l2.trans l1) (fun i hi => ?_) er2⟩⟩
      simp only [namesL, List.mem_append, not_or] at hi
      rw [o2 i hi.2, o1 i hi.1]
  | [], _ :: _, h => by simp [tgsC] at h
  | _ :: _, [], h => by simp [tgsC] at h
end
theorem wipe_same {σ σ' : L2.St} {t : List Nat} (hl : σ'.length = σ.length) (h : ∀ i, i ∉ t → σ'[i]? = σ[i]?) : ∀ {vs : List Nat}, (∀ i ∈ t, i ∈ vs) → L2.wipe σ' vs = L2.wipe σ vs := by
  intro vs hv
  apply List.ext_getElem?
  intro i
  by_cases hi : i ∈ vs
  · have key : ∀ (τ : L2.St) (vs : List Nat), i ∈ vs → (L2.wipe τ vs)[i]? = if i < τ.length then some none else none := by
      intro τ vs hi
      induction vs with
      | nil => cases hi
      | cons v vs ih =>
        unfold L2.wipe
        by_cases e : v = i
        · subst e
          by_cases hlt : v < τ.length
          · rw [List.getElem?_set_self (by rw [wipe_length]; exact hlt), if_pos hlt]
          · rw [List.getElem?_eq_none (by rw [List.length_set, wipe_length]; omega), if_neg hlt]
        · rw [List.getElem?_set_ne e]
          rcases List.mem_cons.mp hi with q | q
          · exact absurd q.symm e
          · exact ih q
    rw [key _ _ hi, key _ _ hi, hl]
  · rw [wipe_out hi, wipe_out hi]
    exact h i fun q => hi (hv i q)
end
end L3
end

section -- I10
set_option autoImplicit false
set_option linter.all false
set_option maxRecDepth 100000
set_option maxHeartbeats 1000000
namespace L3
open PySem PySem.Spec PyProof.Rows L2

/-- in a comprehension's block nothing may leave -/
def WF : WX := fun _ _ _ _ => False
section
variable {K : Fr} {Ps : List Addr} {ρ ρ' ρ1 ρ2 : Rh} {H H' H1 H2 : Hp} {s s' s1 s2 : S} {d : D} {v : V} {ds : List D} {vs : List V} {D' : Addr} {av : List Addr} {l : List V}
/-- the list at D' changes (or is laid); nothing else knows it -/
structure Swap (ρ : Rh) (H : Hp) (D' : Addr) (av : List Addr) : Prop where
  nt : ∀ a o, H a = some o → a = D' → ∃ l, o = .lst l
  av : ∀ a vs, H a = some (.lst vs) → a ∉ ρ.av → a ∉ av ∧ a ≠ D'
theorem Swap.rel (w : Swap ρ H D' av) {n : Nat} (h : Rel K ρ n none H d v) : Rel K ⟨ρ.f, av⟩ n none (upd H D' (.lst l)) d v := by
  refine h.map (ρ := ρ) (ρ' := ⟨ρ.f, av⟩) (y := none) (fun i hi => ⟨hi, rfl⟩) (fun a us q => ?_) (fun a us q => ?_) fun a us q q1 q2 q3 => ?_
  · rcases q with q | q
    · exact .of (by rw [upd_ne (fun e => by obtain ⟨l, z⟩ := w.nt a _ q e; cases z)]; exact q)
    · exact .inr q
  · rcases q with ⟨o, q⟩ | q
    · exact .inl ⟨o, by rw [upd_ne (fun e => by obtain ⟨l, z⟩ := w.nt a _ q e; cases z)]; exact q⟩
    · exact .inr q
  · obtain ⟨z1, z2⟩ := w.av a us q q3
    exact ⟨by rw [upd_ne z2]; exact q, q1, by simp, z1⟩
theorem Swap.relL (w : Swap ρ H D' av) {n : Nat} : ∀ {ds : List D} {vs : List V}, RelL K ρ n none H ds vs → RelL K ⟨ρ.f, av⟩ n none (upd H D' (.lst l)) ds vs
  | _, _, .nil => .nil
  | _, _, .cons r t => .cons (w.rel r) (w.relL t)
theorem Swap.good (w : Swap ρ H D' av) (g : Good K Ps ρ none H s) (hD : ∀ i, i < s.n → ρ i ≠ D') (hav : ∀ a ∈ av, a = D' ∨ H a ≠ none) : Good K Ps ⟨ρ.f, av⟩ none (upd H D' (.lst l)) s := by
  refine ⟨g.inj, fun i o e => ?_, g.clean, g.bl, fun P hP => ?_, fun a ha => ?_⟩
  · have q := g.cell i o e
    have hi : i < s.n := (List.getElem?_eq_some_iff.mp e).1
    cases o with
    | lst xs =>
      obtain ⟨us, q1, q2⟩ := q
      exact ⟨us, by show upd H D' _ (ρ i) = _; rw [upd_ne (hD i hi)]; exact q1, w.relL q2⟩
    | dct ks xs =>
      obtain ⟨us, q1, q3, q2⟩ := q
      exact ⟨us, by show upd H D' _ (ρ i) = _; rw [upd_ne (hD i hi)]; exact q1, q3, w.relL q2⟩
    | dtp ks xs =>
      obtain ⟨us, q1, q3, q2⟩ := q
      exact ⟨us, by show upd H D' _ (ρ i) = _; rw [upd_ne (hD i hi)]; exact q1, q3, w.relL q2⟩
  · obtain ⟨ps, q, t⟩ := g.tb P hP
    exact ⟨ps, by rw [upd_ne (fun e => by obtain ⟨l, z⟩ := w.nt P _ q e; cases z)]; exact q, t⟩
  · by_cases e : a = D'
    · subst e; rw [upd_same]; simp
    · rw [upd_ne e]
      rcases hav a ha with q | q
      · exact absurd q e
      · exact q
theorem Swap.env (w : Swap ρ H D' av) {n : Nat} {σ : L2.St} {e : Env} (h : EnvRel K ρ n H σ e) : EnvRel K ⟨ρ.f, av⟩ n (upd H D' (.lst l)) σ e := fun i d q => by
  obtain ⟨v, h1, h2⟩ := h i d q
  exact ⟨v, h1, w.rel h2⟩
theorem Ext.upd (e : Ext K ρ H s ρ' H' s') (hp : H D' = none) : Ext K ρ H s ρ' (upd H' D' (.lst l)) s' :=
  ⟨e.base, e.av, e.le, e.same, fun a o h hn ht => by rw [upd_ne (fun q => by subst q; rw [hp] at h; cases h)]; exact e.keep a o h hn ht, e.fresh, fun a h => by
    by_cases q : a = D'
    · subst q; rw [upd_same]; simp
    · rw [upd_ne q]; exact e.there a h, e.upm, e.chg⟩
theorem Ext.reav (e : Ext K ρ H s ρ' H' s') {av av' : List Addr} : Ext K ⟨ρ.f, av⟩ H s ⟨ρ'.f, av⟩ H' s' := ⟨e.base, rfl, e.le, e.same, e.keep, e.fresh, e.there, e.upm, e.chg⟩
/-- at the end: D' is our own list -/
theorem okR_own (g : Good K Ps ρ none H s) (h0 : H1 D' = none) (hD : H D' = some (.lst vs)) (hn : ∀ i, i < s.n → ρ i ≠ D') (ha : ρ.av = D' :: av) (hna : D' ∉ av) (r : RelL K ρ s.n none H ds vs) : OkR K Ps H1 ⟨ρ.f, av⟩ H s (.lv true ds) (.ref D') := by
  have mv : ∀ {ds : List D} {vs : List V}, RelL K ρ s.n none H ds vs → RelL K ⟨ρ.f, av⟩ s.n (some D') H ds vs := fun {ds vs} r => r.map (ρ := ρ) (ρ' := ⟨ρ.f, av⟩) (y := some D') (fun i hi => ⟨hi, rfl⟩) (fun _ _ h => h) (fun _ _ h => h) fun a us h1 h2 h3 h4 => by
    rw [ha] at h4
    simp only [List.mem_cons, not_or] at h4
    exact ⟨h1, h2, fun e => h4.1 (by cases e; rfl), h4.2⟩
  refine ⟨D', vs, rfl, h0, hD, hn, hna, ⟨g.inj, fun i o e => ?_, g.clean, g.bl, g.tb, fun a h => g.xt a (by rw [ha]; exact List.mem_cons_of_mem _ h)⟩, mv r⟩
  have q := g.cell i o e
  cases o with
  | lst xs =>
    obtain ⟨us, q1, q2⟩ := q
    exact ⟨us, q1, mv q2⟩
  | dct ks xs =>
    obtain ⟨us, q1, q3, q2⟩ := q
    exact ⟨us, q1, q3, mv q2⟩
  | dtp ks xs =>
    obtain ⟨us, q1, q3, q2⟩ := q
    exact ⟨us, q1, q3, mv q2⟩
end

section
variable {X : Cx} {Ps : List Addr} {cl : XC} {W : WX} {elt tg iter : Expr} {ifs : List Expr} {scope : Scope} {own : List (Str × Nat)} {pos : Pos} {t : Tg} {fi : Env → S → R L3.It} {ft : Env → S → R Bool} {fe : Env → S → R D}
/-- what a turn does -/
def lcF (t : Tg) (vs : List Nat) (ft : Env → S → R Bool) (fe : Env → S → R D) (e : Env) : D → S → R (Option D) := fun x s => match asg t x (wipe e vs) with
  | none => .bad
  | some e1 => ((ft e1 s).bind fun b s => if b then (fe e1 s).bind fun d s => .ok (some d) s else .ok none s).nox
theorem lc_read {K : Fr} {vs : List Nat} {σ : L2.St} {H : Hp} {Q : VK} (hown : ∀ i ∈ t.names, i ∈ vs) (h : TX K Ps cl W (fun e s => (fi e s).bind fun it s => lcI (lcF t vs ft fe e) it s) σ H Q) :
    tLc (TXI K Ps cl W fi) (TXG K t) (TXB K Ps cl WF ft) (TX K Ps cl WF fe) vs σ H Q := by
  obtain ⟨ρ, e, s, g, er, p⟩ := h
  refine ⟨ρ, e, s, g, er, Post.bindG (r := fi e s) p fun it s1 ρ1 H1 e1 p J g1 w D' hD => ?_⟩
  rw [lcI_eq] at p
  generalize fuelI it s1 = m0 at p
  have hnD : ∀ i, i < s1.n → ρ1 i ≠ D' := fun i hi => by
    obtain ⟨us, q, _⟩ := g1.lst hi
    exact ne_of_none q hD
  have sw : Swap ρ1 H1 D' (D' :: ρ1.av) := ⟨fun a o q z => (by subst z; rw [hD] at q; cases q), fun a us q z => by
    have : a ≠ D' := fun y => by subst y; rw [hD] at q; cases q
    exact ⟨by simp [this, z], this⟩⟩
  have hna : D' ∉ ρ1.av := fun q => g1.xt _ q hD
  refine ⟨fun i m H => ∃ ρ s acc accv, ρ.av = D' :: ρ1.av ∧ Good K Ps ρ none H s ∧ Ext K ρ1 H1 s1 ⟨ρ.f, ρ1.av⟩ H s ∧ H D' = some (.lst accv) ∧ (∀ i, i < s.n → ρ i ≠ D') ∧ RelL K ρ s.n none H acc accv ∧
    Walk K ρ H s it J ∧ EnvRel K ρ s.n H (L2.wipe σ vs) (L3.wipe e vs) ∧ Post K Ps ρ1 H1 s1 (lcG (lcF t vs ft fe e) it m i acc s) Q fun c H' => W (cl c) none σ H', ⟨m0, ?_⟩, ?_⟩
  · refine ⟨⟨ρ1.f, D' :: ρ1.av⟩, s1, [], [], rfl, sw.good g1 hnD (fun a ha => ?_), (Ext.refl (K := K)).upd hD, upd_same, hnD, .nil, w.mono (fun _ _ r => sw.rel r) (fun _ _ r => sw.relL r), sw.env ((er.ext g e1).wipe vs), p⟩
    rcases List.mem_cons.mp ha with q | q
    · exact .inl q
    · exact .inr (g1.xt a q)
  · rintro i m H2 ⟨ρ2, s2, acc, accv, av2, g2, e2, hD2, hn2, ra, w2, er2, p2⟩
    cases m with
    | zero => exact p2.elim
    | succ m =>
      unfold lcG at p2
      cases hx : nextI it i s2 with
      | none => rw [hx] at p2; exact p2.elim
      | some ox =>
        cases ox with
        | none =>
          rw [hx] at p2
          refine .inl ⟨w2.stop g2 hx, ?_⟩
          exact p2 ⟨ρ2.f, ρ1.av⟩ H2 _ e2 (okR_own g2 hD hD2 hn2 av2 hna ra)
        | some x =>
          rw [hx] at p2
          dsimp only at p2
          obtain ⟨go, yl⟩ := w2.go g2 hx
          refine .inr ⟨go, fun H' => ∃ ρ s acc accv, ρ.av = D' :: ρ1.av ∧ Good K Ps ρ none H' s ∧ Ext K ρ1 H1 s1 ⟨ρ.f, ρ1.av⟩ H' s ∧ H' D' = some (.lst accv) ∧ (∀ i, i < s.n → ρ i ≠ D') ∧ RelL K ρ s.n none H' acc accv ∧
            Walk K ρ H' s it J ∧ EnvRel K ρ s.n H' (L2.wipe σ vs) (L3.wipe e vs) ∧ Post K Ps ρ1 H1 s1 (lcG (lcF t vs ft fe e) it m (i + 1) acc s) Q fun c H' => W (cl c) none σ H', fun H' q => ⟨m, Nat.lt_succ_self m, q⟩, fun u H3 hy => ?_⟩
          obtain ⟨e3, g3, r3, k3⟩ := yl u H3 hy
          have hD3 : H3 D' = some (.lst accv) := by rw [k3 D' (by rw [hD2]; simp)]; exact hD2
          have e13 : Ext K ρ1 H1 s1 ⟨ρ2.f, ρ1.av⟩ H3 s2 := e2.trans (e3.reav (av' := []))
          have er3 := er2.ext g2 e3
          have ra3 := ra.ext g2 e3
          have w3 := w2.ext g2 e3
          unfold lcF at p2
          cases ha : asg t x (wipe e vs) with
          | none => rw [ha] at p2; exact p2.elim
          | some ea =>
            rw [ha] at p2
            dsimp only at p2
            refine ⟨ρ2, s2.n, x, _, ea, by rw [r3.frzE]; exact r3, er3, ha, fun σ4 l4 o4 er4 => ⟨(wipe_same l4 o4 hown).trans (wipe_same (t := vs) (wipe_length _ _) (fun i hi => wipe_out hi) fun _ h => h), ?_⟩⟩
            refine ⟨ρ2, ea, s2, g3, er4, ?_⟩
            cases hf : ft ea s2 with
            | bad => rw [hf] at p2; exact p2.elim
            | exc c s4 => rw [hf] at p2; exact p2.elim
            | ok b s4 =>
              rw [hf] at p2
              intro ρ4 H4 e4 g4
              have hav4 : ρ4.av = D' :: ρ1.av := e4.av.trans av2
              have key4 : H4 D' = some (.lst accv) ∧ ∀ i, i < s4.n → ρ4 i ≠ D' := lst_ext e4 hD3 hn2
              have e14 : Ext K ρ1 H1 s1 ⟨ρ4.f, ρ1.av⟩ H4 s4 := e13.trans (e4.reav (av' := []))
              cases b with
              | false =>
                simp only [R.bind_ok, Bool.false_eq_true, if_false, R.nox_ok] at p2 ⊢
                exact ⟨ρ4, s4, acc, accv, hav4, g4, e14, key4.1, key4.2, ra3.ext g3 e4, w3.ext g3 e4, er3.ext g3 e4, p2⟩
              | true =>
                simp only [R.bind_ok, if_true] at p2 ⊢
                refine ⟨ρ4, ea, s4, g4, er4.ext g3 e4, ?_⟩
                cases hf5 : fe ea s4 with
                | bad => rw [hf5] at p2; exact p2.elim
                | exc c s5 => rw [hf5] at p2; exact p2.elim
                | ok d s5 =>
                  rw [hf5] at p2
                  simp only [R.bind_ok, R.nox_ok] at p2
                  intro ρ5 H5 v5 e5 o5
                  split at p2
                  · rename_i hz
                    have g5 := o5.good
                    have key5 : H5 D' = some (.lst accv) ∧ ∀ i, i < s5.n → ρ5 i ≠ D' := lst_ext e5 key4.1 key4.2
                    have hav5 : ρ5.av = D' :: ρ1.av := e5.av.trans hav4
                    have sw5 : Swap ρ5 H5 D' ρ5.av := ⟨fun a o q z => (by subst z; rw [key5.1] at q; cases q; exact ⟨_, rfl⟩), fun a us q z => ⟨z, fun y => z (by rw [hav5, y]; exact List.mem_cons_self)⟩⟩
                    have ra5 := (ra3.ext g3 e4).ext g4 e5
                    refine ⟨accv, key5.1, by rw [← ra5.length, ← big_eq]; exact hz, ρ5, s5, acc ++ [d.frz], accv ++ [v5], hav5, sw5.good g5 key5.2 (fun a ha => .inr (g5.xt a ha)), (e14.trans (e5.reav (av' := []))).upd hD, upd_same, key5.2,
                      sw5.relL (ra5.snoc o5.frz), ((w3.ext g3 e4).ext g4 e5).mono (fun _ _ r => sw5.rel r) (fun _ _ r => sw5.relL r), sw5.env ((er3.ext g3 e4).ext g4 e5), p2⟩
                  · exact p2.elim
theorem e_lc (hc : X.calm = true) (hN : X.N.Nodup) (hi : I1 X Ps cl W tg iter fi) (ok : BlkOk X.N X.env.scope scope own) (hown : ∀ i ∈ t.names, i ∈ own.map (·.2))
    (hg : ∀ (s : Shared) (H : Hp) (C : Addr) (cl : List (Str × Addr)) (fp : List Addr), PG (X.blk s H scope (compEnvC scope cl C X.env) fp) tg (TXG X.K t))
    (ht : ∀ (s : Shared) (H : Hp) (C : Addr) (ce : List (Str × Addr)) (fp : List Addr), PTs (X.blk s H scope (compEnvC scope ce C X.env) fp) ifs (TXB X.K Ps cl WF ft))
    (he : ∀ (s : Shared) (H : Hp) (C : Addr) (ce : List (Str × Addr)) (fp : List Addr), E1 (X.blk s H scope (compEnvC scope ce C X.env) fp) Ps cl WF elt fe) (hs : ∀ x, foldedSetIterable iter X.env x = pure x) :
    E1 X Ps cl W (.ListComp elt [⟨tg, iter, ifs, 0⟩] scope pos) fun e s => (fi e s).bind fun it s => lcI (lcF t (own.map (·.2)) ft fe e) it s :=
  PE.imp (pe_lc (te := TX X.K Ps cl WF fe) hc hN hi ok hg ht he hs) fun σ H Q h => lc_read hown h
end
end L3
end

section -- I11
set_option autoImplicit false
set_option linter.all false
set_option maxRecDepth 100000
set_option maxHeartbeats 1000000
namespace L3
open PySem PySem.Spec PyProof.Rows L2

def PostF (K : Fr) (Ps : List Addr) (ρ : Rh) (H : Hp) (s : S) (f : F) (Dn : Ends) (XQ : Nat → L2.St → Hp → Prop) : Prop := match f with
  | .nx e s' => ∀ ρ' H' σ', Ext K ρ H s ρ' H' s' → Good K Ps ρ' none H' s' → EnvRel K ρ' s'.n H' σ' e → Dn.nx σ' H'
  | .bk e s' => ∀ ρ' H' σ', Ext K ρ H s ρ' H' s' → Good K Ps ρ' none H' s' → EnvRel K ρ' s'.n H' σ' e → Dn.bk σ' H'
  | .ct e s' => ∀ ρ' H' σ', Ext K ρ H s ρ' H' s' → Good K Ps ρ' none H' s' → EnvRel K ρ' s'.n H' σ' e → Dn.ct σ' H'
  | .rt d s' => ∀ ρ' H' v, Ext K ρ H s ρ' H' s' → OkR K Ps H ρ' H' s' d v → Dn.rt v H'
  | .ex c e s' => ∀ ρ' H' σ', Ext K ρ H s ρ' H' s' → Good K Ps ρ' none H' s' → EnvRel K ρ' s'.n H' σ' e → XQ c σ' H'
  | .bad => False
section
variable {K : Fr} {Ps : List Addr} {ρ ρ' ρ1 ρ2 : Rh} {H H' H1 H2 : Hp} {s s' s1 s2 : S} {d : D} {v : V} {Dn : Ends} {XQ : Nat → L2.St → Hp → Prop} {α : Type} {σ : L2.St} {e : Env}
theorem PostF.shift {f : F} (x : Ext K ρ H s ρ1 H1 s1) (p : PostF K Ps ρ H s f Dn XQ) : PostF K Ps ρ1 H1 s1 f Dn XQ := by
  cases f with
  | nx e s' => exact fun ρ' H' σ' x' => p ρ' H' σ' (x.trans x')
  | bk e s' => exact fun ρ' H' σ' x' => p ρ' H' σ' (x.trans x')
  | ct e s' => exact fun ρ' H' σ' x' => p ρ' H' σ' (x.trans x')
  | rt d s' => exact fun ρ' H' v x' o => p ρ' H' v (x.trans x') (o.weak fun a h => Classical.byContradiction fun q => x.there a q h)
  | ex c e s' => exact fun ρ' H' σ' x' => p ρ' H' σ' (x.trans x')
  | bad => exact p
/-- a value, then the rest -/
theorem PostF.of {r : R D} {k : D → S → F} {Q : VK} (p : PostF K Ps ρ H s (F.of r e k) Dn XQ) (g : Good K Ps ρ none H s) (er : EnvRel K ρ s.n H σ e)
    (h : ∀ d s1 ρ1 H1 v, Ext K ρ H s ρ1 H1 s1 → OkR K Ps H ρ1 H1 s1 d v → EnvRel K ρ1 s1.n H1 σ e → PostF K Ps ρ1 H1 s1 (k d s1) Dn XQ → Q v H1) : Post K Ps ρ H s r Q fun c H' => XQ c σ H' := by
  cases r with
  | ok d s' => exact fun ρ' H' v x o => h d s' ρ' H' v x o (er.ext g x) (PostF.shift x p)
  | exc c s' => exact fun ρ' H' x g' => p ρ' H' σ x g' (er.ext g x)
  | bad => exact p
theorem PostF.ofG {r : R α} {k : α → S → F} {G : GQ α} (p : PostF K Ps ρ H s (F.of r e k) Dn XQ) (g : Good K Ps ρ none H s) (er : EnvRel K ρ s.n H σ e)
    (h : ∀ d s1 ρ1 H1, Ext K ρ H s ρ1 H1 s1 → EnvRel K ρ1 s1.n H1 σ e → PostF K Ps ρ1 H1 s1 (k d s1) Dn XQ → G d s1 ρ1 H1) : PostG K Ps ρ H s r G fun c H' => XQ c σ H' := by
  cases r with
  | ok d s' => exact fun ρ' H' x => h d s' ρ' H' x (er.ext g x) (PostF.shift x p)
  | exc c s' => exact fun ρ' H' x g' => p ρ' H' σ x g' (er.ext g x)
  | bad => exact p
end
def TXS (K : Fr) (Ps : List Addr) (cl : XC) (W : WX) (f : Env → S → F) : TS := fun Dn σ H => ∃ ρ e s, Good K Ps ρ none H s ∧ EnvRel K ρ s.n H σ e ∧ PostF K Ps ρ H s (f e s) Dn fun c σ' H' => W (cl c) none σ' H'
abbrev S1 (X : Cx) (Ps : List Addr) (cl : XC) (W : WX) (st : Stmt) (f : Env → S → F) : Prop := PS X st (TXS X.K Ps cl W f)
abbrev SS1 (X : Cx) (Ps : List Addr) (cl : XC) (W : WX) (st : List Stmt) (f : Env → S → F) : Prop := PSs X st (TXS X.K Ps cl W f)
section
variable {X : Cx} {Ps : List Addr} {cl : XC} {W : WX} {st : Stmt} {sts body : List Stmt} {f fr fa fb : Env → S → F} {a b c : Expr} {va vb vc : Env → S → R D} {pos : Pos}
theorem s_nil : SS1 X Ps cl W [] fun e s => .nx e s := PSs.imp pss_nil fun Dn σ H ⟨ρ, e, s, g, er, p⟩ => p ρ H σ Ext.refl g er
theorem s_cons (h1 : S1 X Ps cl W st f) (h2 : SS1 X Ps cl W sts fr) : SS1 X Ps cl W (st :: sts) fun e s => (f e s).next fun e s => fr e s := by
  refine PSs.imp (pss_cons h1 h2) fun Dn σ H ⟨ρ, e, s, g, er, p⟩ => ⟨ρ, e, s, g, er, ?_⟩
  dsimp only at p
  cases q : f e s with
  | nx e' s' => rw [q] at p; exact fun ρ' H' σ' x g' er' => ⟨ρ', e', s', g', er', PostF.shift x p⟩
  | bk e' s' => rw [q] at p; exact p
  | ct e' s' => rw [q] at p; exact p
  | rt d s' => rw [q] at p; exact p
  | ex c e' s' => rw [q] at p; exact p
  | bad => rw [q] at p; exact p
theorem s_pass : S1 X Ps cl W (.Pass pos) fun e s => .nx e s := PS.imp ps_pass fun Dn σ H ⟨ρ, e, s, g, er, p⟩ => p ρ H σ Ext.refl g er
theorem s_brk : S1 X Ps cl W (.Break pos) fun e s => .bk e s := PS.imp ps_break fun Dn σ H ⟨ρ, e, s, g, er, p⟩ => p ρ H σ Ext.refl g er
theorem s_cont : S1 X Ps cl W (.Continue pos) fun e s => .ct e s := PS.imp ps_continue fun Dn σ H ⟨ρ, e, s, g, er, p⟩ => p ρ H σ Ext.refl g er
theorem s_expr (ha : E1 X Ps cl W a va) (hs : swapsWith a none pos.line X.env = pure false) : S1 X Ps cl W (.Expr a pos) fun e s => F.of (va e s) e fun _ s => .nx e s :=
  PS.imp (ps_expr ha hs) fun Dn σ H ⟨ρ, e, s, g, er, p⟩ => ⟨ρ, e, s, g, er, PostF.of (r := va e s) p g er fun d s1 ρ1 H1 v x o er1 p => p ρ1 H1 σ Ext.refl o.good er1⟩
theorem s_ret (ha : E1 X Ps cl W a va) : S1 X Ps cl W (.Return (some a) pos) fun e s => F.of (va e s) e fun d s => .rt d s := by
  refine PS.imp (ps_ret ha) fun Dn σ H ⟨ρ, e, s, g, er, p⟩ => ⟨ρ, e, s, g, er, ?_⟩
  dsimp only at p
  cases q : va e s with
  | ok d s' => rw [q] at p; exact fun ρ' H' v x o => p ρ' H' v x o
  | exc c s' => rw [q] at p; exact fun ρ' H' x g' => p ρ' H' σ x g' (er.ext g x)
  | bad => rw [q] at p; exact p
theorem s_retN : S1 X Ps cl W (.Return none pos) fun e s => .rt .non s := PS.imp ps_retN fun Dn σ H ⟨ρ, e, s, g, er, p⟩ => p ρ H .non Ext.refl ⟨g, .non⟩
theorem s_ite (hc : T1 X Ps cl W c vc) (ha : SS1 X Ps cl W sts fa) (hb : SS1 X Ps cl W body fb) : S1 X Ps cl W (.If c sts body pos) fun e s => F.of (vc e s) e fun d s => match d.bool with
      | some true => fa e s
      | some false => fb e s
      | none => .bad := by
  refine PS.imp (ps_if hc ha hb) fun Dn σ H ⟨ρ, e, s, g, er, p⟩ => ⟨ρ, e, s, g, er, ?_⟩
  dsimp only at p
  simp only [bl]
  cases q : vc e s with
  | ok d s' =>
    rw [q] at p
    simp only [F.of_ok, R.bind_ok] at p ⊢
    cases hb : d.bool with
    | none => rw [hb] at p; exact p
    | some t =>
      rw [hb] at p
      cases t with
      | true => exact fun ρ' H' x g' => ⟨ρ', e, s', g', er.ext g x, PostF.shift x p⟩
      | false => exact fun ρ' H' x g' => ⟨ρ', e, s', g', er.ext g x, PostF.shift x p⟩
  | exc c s' => rw [q] at p; exact fun ρ' H' x g' => p ρ' H' σ x g' (er.ext g x)
  | bad => rw [q] at p; exact p
theorem s_whl {w : Nat} (hp : PassesOwn (model X.prog X.w) X.A X.env X.xe) (hc : T1 X Ps cl W c vc) (hb : SS1 X Ps cl W body fb) : S1 X Ps cl W (.While c body [] pos) fun e s => whI (fun e s => (vc e s).bind fun d s => R.opt d.bool s) (fun e s => fb e s) w e s := by
  refine PS.imp (ps_while hp hc hb) fun Dn σ H ⟨ρ, e, s, g, er, p⟩ => ?_
  refine ⟨fun m σ' H' => ∃ ρ' e' s', Good X.K Ps ρ' none H' s' ∧ EnvRel X.K ρ' s'.n H' σ' e' ∧ PostF X.K Ps ρ' H' s' (whI (fun e s => (vc e s).bind fun d s => R.opt d.bool s) (fun e s => fb e s) m e' s') Dn fun c σ' H' => W (cl c) none σ' H', ⟨w, ρ, e, s, g, er, p⟩, ?_⟩
  rintro m σ1 H1 ⟨ρ1, e1, s1, g1, er1, p1⟩
  cases m with
  | zero => exact p1.elim
  | succ m =>
    refine ⟨ρ1, e1, s1, g1, er1, ?_⟩
    unfold whI at p1
    show PostG X.K Ps ρ1 H1 s1 ((vc e1 s1).bind fun d s => R.opt d.bool s) _ _
    cases q : (vc e1 s1).bind fun d s => R.opt d.bool s with
    | bad => rw [q] at p1; exact p1
    | exc c s' => rw [q] at p1; exact fun ρ' H' x g' => p1 ρ' H' σ1 x g' (er1.ext g1 x)
    | ok t s2 =>
      rw [q] at p1
      simp only [F.of_ok] at p1
      intro ρ2 H2 x2 g2
      cases t with
      | false => exact PostF.shift x2 p1 ρ2 H2 σ1 Ext.refl g2 (er1.ext g1 x2)
      | true =>
        simp only [if_true] at p1 ⊢
        refine ⟨fun σ' H' => ∃ ρ' e' s', Good X.K Ps ρ' none H' s' ∧ EnvRel X.K ρ' s'.n H' σ' e' ∧ PostF X.K Ps ρ' H' s' (whI (fun e s => (vc e s).bind fun d s => R.opt d.bool s) (fun e s => fb e s) m e' s') Dn fun c σ' H' => W (cl c) none σ' H',
          fun σ' H' q => ⟨m, Nat.lt_succ_self m, q⟩, ρ2, e1, s2, g2, er1.ext g1 x2, ?_⟩
        have p2 := PostF.shift x2 p1
        cases q : fb e1 s2 with
        | nx e3 s3 => rw [q] at p2; exact fun ρ3 H3 σ3 x3 g3 er3 => ⟨ρ3, e3, s3, g3, er3, PostF.shift x3 p2⟩
        | ct e3 s3 => rw [q] at p2; exact fun ρ3 H3 σ3 x3 g3 er3 => ⟨ρ3, e3, s3, g3, er3, PostF.shift x3 p2⟩
        | bk e3 s3 => rw [q] at p2; exact p2
        | rt d s3 => rw [q] at p2; exact p2
        | ex c e3 s3 => rw [q] at p2; exact p2
        | bad => rw [q] at p2; exact p2
def foF (t : Tg) (fb : Env → S → F) : D → Env → S → F := fun x e s => match asg t x e with
  | some e' => fb e' s
  | none => .bad
theorem s_for {tg iter : Expr} {t : Tg} {fi : Env → S → R L3.It} (hp : PassesOwn (model X.prog X.w) X.A X.env X.xe) (hc : X.calm = true) (hi : I1 X Ps cl W tg iter fi) (hg : PG X tg (TXG X.K t)) (hb : SS1 X Ps cl W body fb)
    (hs : ∀ x, foldedSetIterable iter X.env x = pure x) : S1 X Ps cl W (.For tg iter body [] pos) fun e s => F.of (fi e s) e fun it s => foI (foF t fb) it e s := by
  refine PS.imp (ps_for hp hc hi hg hb hs) fun Dn σ H ⟨ρ, e, s, g, er, p⟩ => ?_
  refine ⟨ρ, e, s, g, er, PostF.ofG (r := fi e s) p g er fun it s1 ρ1 H1 x1 er1 p J g1 w => ?_⟩
  rw [foI_eq] at p
  generalize fuelI it s1 = m0 at p
  refine ⟨fun i m σ' H' => ∃ ρ' e' s', Good X.K Ps ρ' none H' s' ∧ EnvRel X.K ρ' s'.n H' σ' e' ∧ Walk X.K ρ' H' s' it J ∧ PostF X.K Ps ρ' H' s' (foG (foF t fb) it m i e' s') Dn fun c σ' H' => W (cl c) none σ' H', ⟨m0, ρ1, e, s1, g1, er1, w, p⟩, ?_⟩
  rintro i m σ2 H2 ⟨ρ2, e2, s2, g2, er2, w2, p2⟩
  cases m with
  | zero => exact p2.elim
  | succ m =>
    unfold foG at p2
    cases hx : nextI it i s2 with
    | none => rw [hx] at p2; exact p2.elim
    | some ox =>
      cases ox with
      | none =>
        rw [hx] at p2
        exact .inl ⟨w2.stop g2 hx, p2 ρ2 H2 σ2 Ext.refl g2 er2⟩
      | some x =>
        rw [hx] at p2
        dsimp only at p2
        obtain ⟨go, yl⟩ := w2.go g2 hx
        refine .inr ⟨go, fun σ' H' => ∃ ρ' e' s', Good X.K Ps ρ' none H' s' ∧ EnvRel X.K ρ' s'.n H' σ' e' ∧ Walk X.K ρ' H' s' it J ∧ PostF X.K Ps ρ' H' s' (foG (foF t fb) it m (i + 1) e' s') Dn fun c σ' H' => W (cl c) none σ' H',
          fun σ' H' q => ⟨m, Nat.lt_succ_self m, q⟩, fun u H3 hy => ?_⟩
        obtain ⟨x3, g3, r3, _⟩ := yl u H3 hy
        have p3 := PostF.shift x3 p2
        unfold foF at p3
        cases ha : asg t x e2 with
        | none => rw [ha] at p3; exact p3.elim
        | some ea =>
          rw [ha] at p3
          dsimp only at p3
          refine ⟨ρ2, s2.n, x, e2, ea, by rw [r3.frzE]; exact r3, er2.ext g2 x3, ha, fun σ4 l4 o4 er4 => ⟨ρ2, ea, s2, g3, er4, ?_⟩⟩
          have w3 := w2.ext g2 x3
          cases q : fb ea s2 with
          | nx e5 s5 => rw [q] at p3; exact fun ρ5 H5 σ5 x5 g5 er5 => ⟨ρ5, e5, s5, g5, er5, w3.ext g3 x5, PostF.shift x5 p3⟩
          | ct e5 s5 => rw [q] at p3; exact fun ρ5 H5 σ5 x5 g5 er5 => ⟨ρ5, e5, s5, g5, er5, w3.ext g3 x5, PostF.shift x5 p3⟩
          | bk e5 s5 => rw [q] at p3; exact p3
          | rt d s5 => rw [q] at p3; exact p3
          | ex c e5 s5 => rw [q] at p3; exact p3
          | bad => rw [q] at p3; exact p3
/-- what an assignment does -/
abbrev fAsg (t : Tg) (va : Env → S → R D) : Env → S → F := fun e s => F.of (va e s) e fun d s => match asg t d e with
      | some e' => .nx e' s
      | none => .bad
theorem asg_read {t : Tg} {te : TE} {Dn : Ends} {σ : L2.St} {H : Hp} (h : TXS X.K Ps cl W (fAsg t va) Dn σ H) : tAsg (TX X.K Ps cl W va) (TXG X.K t) Dn σ H := by
  obtain ⟨ρ, e, s, g, er, p⟩ := h
  refine ⟨ρ, e, s, g, er, PostF.of (r := va e s) p g er fun d s1 ρ1 H1 v x1 o er1 p => ?_⟩
  cases ha : asg t d e with
  | none => rw [ha] at p; exact p.elim
  | some e' =>
    rw [ha] at p
    exact ⟨ρ1, s1.n, d, e, e', o.frz, er1, ha, fun σ' _ _ er' => p ρ1 H1 σ' Ext.refl o.good er'⟩
theorem s_asg {tg : Expr} {t : Tg} (ha : E1 X Ps cl W a va) (hg : PG X tg (TXG X.K t)) (hs : swapsWithSole [tg] a pos.line X.env = pure false) (hw : swappedStores [tg] a X.env = pure none)
    (h1 : (assignEach [tg] X.env).map (·.2) = [assign tg X.env]) : S1 X Ps cl W (.Assign [tg] a pos) (fAsg t va) :=
  PS.imp (ps_asg ha hg hs hw h1) fun Dn σ H h => asg_read (te := fun _ _ _ => True) h
/-- what the reading of a name's store says -/
theorem gName_read {i : Nat} {v : V} {σ : L2.St} {H : Hp} {Q : L2.St → Hp → Prop} (hl : i < σ.length) (h : TXG X.K (.nm i) v σ H Q) : gName i v σ H Q := by
  obtain ⟨ρ, n, d, e, e', r, er, q, k⟩ := h
  simp only [asg, Option.some.injEq] at q
  subst q
  refine k _ (by simp) (fun j hj => ?_) (er.set hl r)
  rw [List.getElem?_set_ne]
  exact fun q => hj (by simp [Tg.names, q])
theorem PS.len {t t' : TS} (h : PS X st t) (i : ∀ Dn σ H, σ.length = X.N.length → t' Dn σ H → t Dn σ H) : PS X st t' := ⟨fun pins s σ H Dn I q => h.run pins s σ H Dn I (i Dn σ H I.len q)⟩
theorem s_setLc {i : Nat} {y : Str} {py : Pos} {elt tg iter : Expr} {ifs : List Expr} {scope : Scope} {own : List (Str × Nat)} {spos : Pos} {t : Tg} {fi : Env → S → R L3.It} {ft : Env → S → R Bool} {fe : Env → S → R D} (hy : X.N[i]? = some y) (hyl : X.env.scope.names.lookup y = some .local)
    (hsw : swapsWith (.ListComp elt [⟨tg, iter, ifs, 0⟩] scope pos) (some (.Name y py)) spos.line X.env = pure true)
    (hc : X.calm = true) (hN : X.N.Nodup) (hi : I1 X Ps cl W tg iter fi) (ok : BlkOk X.N X.env.scope scope own) (hown : ∀ i ∈ t.names, i ∈ own.map (·.2))
    (hg : ∀ (s : Shared) (H : Hp) (C : Addr) (cl : List (Str × Addr)) (fp : List Addr), PG (X.blk s H scope (compEnvC scope cl C X.env) fp) tg (TXG X.K t))
    (ht : ∀ (s : Shared) (H : Hp) (C : Addr) (ce : List (Str × Addr)) (fp : List Addr), PTs (X.blk s H scope (compEnvC scope ce C X.env) fp) ifs (TXB X.K Ps cl WF ft))
    (he : ∀ (s : Shared) (H : Hp) (C : Addr) (ce : List (Str × Addr)) (fp : List Addr), E1 (X.blk s H scope (compEnvC scope ce C X.env) fp) Ps cl WF elt fe) (hs : ∀ x, foldedSetIterable iter X.env x = pure x) :
    S1 X Ps cl W (.Assign [.Name y py] (.ListComp elt [⟨tg, iter, ifs, 0⟩] scope pos) spos) (fAsg (.nm i) fun e s => (fi e s).bind fun it s => lcI (lcF t (own.map (·.2)) ft fe e) it s) := by
  refine PS.len (ps_setLc (te := TX X.K Ps cl WF fe) hc hN hy hyl hsw hi ok hg ht he hs) fun Dn σ H hl h => ?_
  have hlt : i < σ.length := by rw [hl]; exact (List.getElem?_eq_some_iff.mp hy).1
  obtain ⟨ρ, e, s, g, er, p⟩ := h
  refine lc_read hown ⟨ρ, e, s, g, er, PostF.of p g er fun d s1 ρ1 H1 v x1 o er1 p => ?_⟩
  exact gName_read hlt ⟨ρ1, s1.n, d, e, _, o.frz, er1, rfl, fun σ' _ _ er' => p ρ1 H1 σ' Ext.refl o.good er'⟩
/-- a pair of names, in one line -/
theorem s_par {i j : Nat} {x y : Str} {fs : Env → S → R (List D)} {px py pt : Pos} {kt k2 : Nat} {pt2 : Pos} (hc : X.calm = true) (hN : X.N.Nodup) (hi : X.N[i]? = some x) (hj : X.N[j]? = some y) (hij : i ≠ j)
    (hx : X.env.scope.names.lookup x = some .local) (hy : X.env.scope.names.lookup y = some .local) (ha : PA X [a, b] (TXA X.K Ps cl W fs))
    (hw : swappedStores [.Tuple [.Name x px, .Name y py] kt pt] (.Tuple [a, b] k2 pt2) X.env = pure (some [x, y]))
    (hs : swapsWithSole [.Tuple [.Name x px, .Name y py] kt pt] (.Tuple [a, b] k2 pt2) pos.line X.env = pure false) :
    S1 X Ps cl W (.Assign [.Tuple [.Name x px, .Name y py] kt pt] (.Tuple [a, b] k2 pt2) pos) (fAsg (.tup [.nm i, .nm j]) fun e s => (fs e s).bind fun ds s => R.chk (decide (ds.length ≤ big)) (.ok (.tup ds) s)) := by
  refine PS.len (ps_par hc hN hi hj hij hx hy ha hw hs) fun Dn σ H hl ⟨ρ, e, s, g, er, p⟩ => ?_
  have li : i < σ.length := by rw [hl]; exact (List.getElem?_eq_some_iff.mp hi).1
  have lj : j < σ.length := by rw [hl]; exact (List.getElem?_eq_some_iff.mp hj).1
  refine ⟨ρ, e, s, g, er, ?_⟩
  unfold fAsg at p
  dsimp only at p
  cases q : fs e s with
  | bad => rw [q] at p; exact p
  | exc c s' => rw [q] at p; exact fun ρ' H' x g' => p ρ' H' σ x g' (er.ext g x)
  | ok ds s' =>
    rw [q] at p
    simp only [R.bind_ok, R.chk] at p
    intro ρ1 H1 x1 vs g1 r1
    split at p
    · simp only [F.of_ok, asg] at p
      match ds, r1, p with
      | [d1, d2], .cons r1 (.cons r2 .nil), p =>
        simp only [asgs, asg, Option.bind_some] at p
        refine ⟨_, _, rfl, p ρ1 H1 _ x1 g1 ?_⟩
        have er1 := er.ext g x1
        exact (er1.set li (by rw [r1.frzE]; exact r1)).set (by simpa using lj) (by rw [r2.frzE]; exact r2)
      | [], _, p => simp only [asgs] at p; exact p.elim
      | [_], _, p => simp [asgs, asg] at p; exact p.elim
      | _ :: _ :: _ :: _, _, p => simp [asgs, asg] at p; exact p.elim
    · exact p.elim
theorem s_par3 {i j l : Nat} {x y z : Str} {fs : Env → S → R (List D)} {px py pz pt : Pos} {kt k2 : Nat} {pt2 : Pos} (hc : X.calm = true) (hN : X.N.Nodup) (hi : X.N[i]? = some x) (hj : X.N[j]? = some y) (hl : X.N[l]? = some z) (hij : i ≠ j) (hil : i ≠ l) (hjl : j ≠ l)
    (hx : X.env.scope.names.lookup x = some .local) (hy : X.env.scope.names.lookup y = some .local) (hz : X.env.scope.names.lookup z = some .local) (ha : PA X [a, b, c] (TXA X.K Ps cl W fs))
    (hw : swappedStores [.Tuple [.Name x px, .Name y py, .Name z pz] kt pt] (.Tuple [a, b, c] k2 pt2) X.env = pure (some [x, y, z]))
    (hs : swapsWithSole [.Tuple [.Name x px, .Name y py, .Name z pz] kt pt] (.Tuple [a, b, c] k2 pt2) pos.line X.env = pure false) :
    S1 X Ps cl W (.Assign [.Tuple [.Name x px, .Name y py, .Name z pz] kt pt] (.Tuple [a, b, c] k2 pt2) pos) (fAsg (.tup [.nm i, .nm j, .nm l]) fun e s => (fs e s).bind fun ds s => R.chk (decide (ds.length ≤ big)) (.ok (.tup ds) s)) := by
  refine PS.len (ps_par3 hc hN hi hj hl hij hil hjl hx hy hz ha hw hs) fun Dn σ H hl0 ⟨ρ, e, s, g, er, p⟩ => ?_
  have li : i < σ.length := by rw [hl0]; exact (List.getElem?_eq_some_iff.mp hi).1
  have lj : j < σ.length := by rw [hl0]; exact (List.getElem?_eq_some_iff.mp hj).1
  have ll : l < σ.length := by rw [hl0]; exact (List.getElem?_eq_some_iff.mp hl).1
  refine ⟨ρ, e, s, g, er, ?_⟩
  unfold fAsg at p
  dsimp only at p
  cases q : fs e s with
  | bad => rw [q] at p; exact p
  | exc c s' => rw [q] at p; exact fun ρ' H' x g' => p ρ' H' σ x g' (er.ext g x)
  | ok ds s' =>
    rw [q] at p
    simp only [R.bind_ok, R.chk] at p
    intro ρ1 H1 x1 vs g1 r1
    split at p
    · simp only [F.of_ok, asg] at p
      match ds, r1, p with
      | [d1, d2, d3], .cons r1 (.cons r2 (.cons r3 .nil)), p =>
        simp only [asgs, asg, Option.bind_some] at p
        refine ⟨_, _, _, rfl, p ρ1 H1 _ x1 g1 ?_⟩
        have er1 := er.ext g x1
        exact ((er1.set li (by rw [r1.frzE]; exact r1)).set (by simpa using lj) (by rw [r2.frzE]; exact r2)).set (by simpa using ll) (by rw [r3.frzE]; exact r3)
      | [], _, p => simp only [asgs] at p; exact p.elim
      | [_], _, p => simp [asgs, asg] at p; exact p.elim
      | [_, _], _, p => simp [asgs, asg] at p; exact p.elim
      | _ :: _ :: _ :: _ :: _, _, p => simp [asgs, asg] at p; exact p.elim
    · exact p.elim
theorem aug2E {op : Op2} {x y r : D} (h : aug2 op x y = some r) : ∃ i j, x = .int i ∧ y = .int j ∧ ((op = .add ∧ r = .int (i + j)) ∨ (op = .sub ∧ r = .int (i - j))) := by
  cases op <;> cases x <;> cases y <;> simp [aug2] at h <;> subst h <;> exact ⟨_, _, rfl, rfl, by simp⟩
theorem s_aug {i : Nat} {x : Str} {op : Op2} {p' : Pos} (hop : op = .add ∨ op = .sub) (hN : X.N.Nodup) (hi : X.N[i]? = some x) (hx : L2.Loc X.env.scope x) (hf : X.fn x = true ∨ X.env.scope.names.lookup x = some .local) (ha : E1 X Ps cl W a va) :
    S1 X Ps cl W (.AugAssign (.Name x p') op.py a pos) fun e s => match getV e i with
      | some d => F.of (va e s) e fun d' s => match aug2 op d d' with
        | some r => .nx (e.set i (some r)) s
        | none => .bad
      | none => .bad := by
  have hio : PIp X op.py (fun x y H Q => ∃ i j, x = .int i ∧ y = .int j ∧ ∀ k, ((op = .add ∧ k = i + j) ∨ (op = .sub ∧ k = i - j)) → Q (.int k) H) := by
    intro pins s σ H x y v u Q I r1 r2 ⟨i, j, h1, h2, h3⟩
    rcases hop with rfl | rfl
    · exact ip_add pins s σ H x y v u Q I r1 r2 ⟨i, j, h1, h2, h3 _ (.inl ⟨rfl, rfl⟩)⟩
    · exact ip_sub pins s σ H x y v u Q I r1 r2 ⟨i, j, h1, h2, h3 _ (.inr ⟨rfl, rfl⟩)⟩
  refine PS.len (ps_aug hN hi hx ha hio hf) fun Dn σ H hl ⟨ρ, e, s, g, er, p⟩ => ?_
  have li : i < σ.length := by rw [hl]; exact (List.getElem?_eq_some_iff.mp hi).1
  dsimp only at p
  cases hv : getV e i with
  | none => rw [hv] at p; exact p.elim
  | some d =>
    rw [hv] at p
    dsimp only at p
    obtain ⟨v, h1, r1⟩ := er i d hv
    refine ⟨v, h1, ρ, e, s, g, er, PostF.of (r := va e s) p g er fun d2 s1 ρ1 H1 v2 x1 o er1 p => ?_⟩
    cases h : aug2 op d d2 with
    | none => rw [h] at p; exact p.elim
    | some r =>
      rw [h] at p
      obtain ⟨i1, j1, rfl, rfl, hr⟩ := aug2E h
      cases r1
      obtain ⟨g1, r2⟩ := o
      cases r2
      refine ⟨i1, j1, rfl, rfl, fun k hk => ?_⟩
      have : r = .int k := by
        rcases hr with ⟨rfl, rfl⟩ | ⟨rfl, rfl⟩ <;> rcases hk with ⟨h, rfl⟩ | ⟨h, rfl⟩ <;> first | rfl | cases h
      subst this
      exact p ρ1 H1 _ Ext.refl g1 (er1.set li (.int _))
/-- o[i] = v -/
theorem s_put {tp : Pos} (ha : E1 X Ps cl W a va) (hb : E1 X Ps cl W b vb) (hc : E1 X Ps cl W c vc) (hs : swapsWithSole [.Subscript b c tp] a pos.line X.env = pure false) (hw : swappedStores [.Subscript b c tp] a X.env = pure none)
    (h1 : (assignEach [.Subscript b c tp] X.env).map (·.2) = [assign (.Subscript b c tp) X.env])
    (h2 : ∀ v, assign (.Subscript b c tp) X.env v = (do
      let x ← holding [v] (eval b X.env)
      let y ← holding [v, x] (eval c X.env)
      standAt tp
      holding [v, x, y] (setItem x y v)
      release [v, x, y] [])) :
    S1 X Ps cl W (.Assign [.Subscript b c tp] a pos) fun e s => F.of (va e s) e fun d s => F.of (vb e s) e fun x s => F.of (vc e s) e fun k s => match x, k with
      | .ref n, .int k => match s.cells[n]? with
        | some (.lst xs) => match ixN xs.length k with
          | some j => .nx e (s.put n (.lst (xs.set j d.frz)))
          | none => .bad
        | _ => .bad
      | _, _ => .bad := by
  refine PS.imp (ps_asg ha (pg_sub hb hc set_list h2) hs hw h1) fun Dn σ H ⟨ρ, e, s, g, er, p⟩ => ?_
  refine ⟨ρ, e, s, g, er, PostF.of (r := va e s) p g er fun d s1 ρ1 H1 v x1 o er1 p => ?_⟩
  refine ⟨ρ1, e, s1, o.good, er1, PostF.of (r := vb e s1) p o.good er1 fun x s2 ρ2 H2 v2 x2 o2 er2 p => ?_⟩
  refine ⟨ρ2, e, s2, o2.good, er2, PostF.of (r := vc e s2) p o2.good er2 fun k s3 ρ3 H3 v3 x3 o3 er3 p => ?_⟩
  cases x with
  | ref n =>
    cases k with
    | int k =>
      dsimp only at p
      obtain ⟨g2, r2⟩ := o2
      obtain ⟨g3, r3⟩ := o3
      cases r3
      have r2' := r2.ext g2 x3
      cases r2' with
      | ref hn =>
        have e0 : s3.cells[n]? = some s3.cells[n] := List.getElem?_eq_getElem hn
        have c0 := g3.cell n _ e0
        rw [e0] at p
        generalize s3.cells[n] = ob at p c0 e0
        cases ob with
        | lst ys =>
          obtain ⟨ws, hw, rw_⟩ := c0
          dsimp only at p
          cases hj : ixN ys.length k with
          | none => rw [hj] at p; exact p.elim
          | some j =>
            rw [hj] at p
            refine ⟨_, _, _, _, rfl, rfl, hw, by rw [← rw_.length]; exact hj, ?_⟩
            have rd : Rel X.K ρ3 s3.n none H3 d.frz v := (o.frz.ext o.good x2).ext g2 x3
            exact p ρ3 _ σ (Ext.put g3 hn _ _) (g3.put hn (rw_.set j rd)) (er3.ext g3 (Ext.put g3 hn _ _))
        | dct ks ys => exact p.elim
        | dtp ks ys => exact p.elim
    | _ => exact p.elim
  | _ => exact p.elim
end
end L3
end

section -- I12
set_option autoImplicit false
set_option linter.all false
set_option maxRecDepth 100000
set_option maxHeartbeats 2000000
namespace L3
open PySem PySem.Spec PyProof.Rows L2 GxR

/-- the context of a generator's frame, made in the state s -/
abbrev gCx (X : Cx) (A' : Around) (s : Shared) (H : Hp) (scope : Scope) (clo : List (Str × Addr)) (C : Addr) (code : Value) (fp : List Addr) (pn : List (Addr × Obj)) : Cx :=
  { X with A := A', s_0 := s, H_0 := H, env := genEnv scope clo C code builtinsNs X.env, outer := X.stack, stack := genEnv scope clo C code builtinsNs X.env :: X.stack, ex := fp,
           fn := fun x => scope.names.lookup x == some .cell, calm := true, pn := pn, xe := fun _ _ => False }
theorem gen_start {X : Cx} {pins : List (Addr × Obj)} {σ : L2.St} {H : Hp} {s s' : Shared} {scope : Scope} {own : List (Str × Nat)} {fp : List Addr} {A' : Around} {code : Value} {a : Addr} {go : Obj} {m : Str → Option Value}
    (I : Inv X pins σ H s) (ok : BlkOk X.N X.env.scope scope own) (hN : X.N.Nodup) (hcell : ∀ y ∈ scope.names, y.2 ≠ .cell) (hfp : ∀ b ∈ fp, FpOk X pins H b ∧ b < s.heap.objs.size) (hA : A'.handled = none)
    (hfr : A'.frames = some (genEnv scope (cloFrom X.env.cells scope.names []) s.heap.objs.size code builtinsNs X.env :: X.stack))
    (kp : ∀ b o, s.heap.get? b = some o → s'.heap.get? b = some o) (hos : s'.os = s.os) (hbare : AllBare s'.gens) (hns : s'.heap.Ns s.heap.objs.size m) (ha : s.heap.objs.size < a) (hgo : s'.heap.get? a = some go) (hgc : ∀ v, go.data ≠ .cell v) :
    Inv (gCx X A' s H scope (cloFrom X.env.cells scope.names []) s.heap.objs.size code fp [(a, go)]) [] (L2.wipe σ (own.map (·.2))) H s' := by
  have hfree : ∀ y ∈ scope.names, y.2 = .free → ∃ c, X.env.cells.lookup y.1 = some c := fun y hy e => by
    rcases ok.free y hy e with k | k
    · exact I.ok.has _ (.inl k)
    · exact I.ok.has _ (.inr k)
  have cm : ∀ {y c}, (y, c) ∈ cloFrom X.env.cells scope.names [] → X.env.cells.lookup y = some c ∧ c < s.heap.objs.size := fun {y c} hm => by
    rcases cloFrom_mem hm with hm | ⟨h1, rfl⟩
    · cases hm
    · obtain ⟨c, hc⟩ := hfree _ h1 rfl
      rw [hc]
      obtain ⟨w, z⟩ := I.cell _ _ hc
      exact ⟨rfl, z.lt⟩
  have look : ∀ {y}, scope.names.lookup y = some .free → ∃ c, (cloFrom X.env.cells scope.names []).lookup y = some c ∧ X.env.cells.lookup y = some c := fun {y} hl => by
    have hy : (y, NameKind.free) ∈ scope.names := PySem.mem_of_lookup hl
    obtain ⟨c', e'⟩ := mem_lookup (cloFrom_has (cells := X.env.cells) (acc := []) hy)
    exact ⟨c', e', (cm (PySem.mem_of_lookup e')).1⟩
  have nocell : ∀ {y}, scope.names.lookup y ≠ some NameKind.cell := fun {y} e => hcell _ (PySem.mem_of_lookup e) rfl
  have hlt : s.heap.objs.size < s'.heap.objs.size := hns.lt
  have okG : (gCx X A' s H scope (cloFrom X.env.cells scope.names []) s.heap.objs.size code fp [(a, go)]).Ok := by
    refine ⟨I.ok.mod, ok.kind, I.ok.glob, rfl, Nat.le_refl _, fun y z c e1 e2 => I.ok.inj y z c (cm (PySem.mem_of_lookup e1)).1 (cm (PySem.mem_of_lookup e2)).1, fun y hy => ?_, fun y c z e => ?_, fun _ => hA, hfr, .inr ⟨rfl, rfl⟩,
      fun b hb => ⟨Nat.ne_of_lt (hfp b hb).2, fun y c e z => ?_⟩, I.bs, Nat.le_trans I.ok.bsz I.sz, fun b o e hb => ?_, fun b hb z => ?_, I.stack, I.stkFree⟩
    · rcases hy with hy | hy
      · exact absurd hy nocell
      · obtain ⟨c, h1, _⟩ := look (y := y) hy
        exact ⟨c, h1⟩
    · have z : (scope.names.lookup y == some NameKind.cell) = true := z
      exact absurd (by simpa using z) (nocell (y := y))
    · exact (hfp b hb).1.2.2.2.2.1 y c (cm (PySem.mem_of_lookup e)).1 z
    · rcases (hfp b hb).1.2.2.2.1 with z | z
      · exact I.ok.noex b o e z
      · exact absurd (Nat.lt_of_lt_of_le (Heap.lt_size e) (Nat.le_trans I.ok.bsz z)) (Nat.lt_irrefl _)
    · rcases List.mem_cons.mp (I.stkSub b z) with z | z
      · exact (hfp b hb).1.2.1 z
      · exact (hfp b hb).1.2.2.1 z
  refine ⟨okG, hos, hbare, Un.kept kp, ⟨m, hns, fun i y av e1 e2 e3 => ?_⟩, fun y c e => ?_, I.hok.fresh (Nat.le_refl _), fun y c e => ?_, fun p hp => ?_, I.hok.kept kp, by rw [wipe_length]; exact I.len⟩
  · obtain ⟨e2, hne⟩ := wipe_some e2
    have hl : scope.names.lookup y = some .free := by
      have no : ∀ {k}, scope.names.lookup y = some k → ¬ (k = .local ∨ k = .cell) := fun {k} e hh => by
        rcases ok.own _ (PySem.mem_of_lookup e) hh with e' | e'
        · obtain ⟨p, hp, hpy⟩ := List.mem_map.mp e'
          have e3 := ok.ix p hp
          have : p.1 = y := hpy
          rw [this] at e3
          exact hne (List.mem_map.mpr ⟨p, hp, nodup_ix hN e3 e1⟩)
        · exact e' (List.mem_of_getElem? e1)
      rcases e3 with e3 | e3 | e3
      · exact absurd (.inl rfl) (no e3)
      · exact absurd (.inr rfl) (no e3)
      · exact e3
    obtain ⟨m', hn, hl'⟩ := I.loc
    have hvis : Vis X.env.scope y := (ok.free _ (PySem.mem_of_lookup hl) rfl).elim (fun k => .inr (.inl k)) (fun k => .inr (.inr k))
    obtain ⟨w, r, q⟩ := hl' i y av e1 e2 hvis
    obtain ⟨c, h1, h2⟩ := look hl
    refine ⟨w, r, .inr ⟨.inr hl, c, h1, ?_⟩⟩
    rcases q with ⟨k, _⟩ | ⟨_, c', e', z⟩
    · have k : X.env.scope.names.lookup y = some .local := k
      rcases ok.free _ (PySem.mem_of_lookup hl) rfl with k' | k' <;> rw [show X.env.scope.names.lookup y = _ from k'] at k <;> cases k
    · rw [h2] at e'
      cases e'
      exact z.keeps kp
  · obtain ⟨w, z⟩ := I.cell y c (cm (PySem.mem_of_lookup e)).1
    exact ⟨w, z.keeps kp⟩
  · exact I.freeC y c (cm (PySem.mem_of_lookup e)).1
  · have e : p = (a, go) := by simpa using hp
    subst e
    exact ⟨hgo, I.hok.fresh (Nat.le_of_lt ha), Nat.ne_of_gt ha, fun z => I.nofs (Nat.le_of_lt ha) (by
      rcases List.mem_cons.mp (I.stkSub _ z) with z | z
      · exact absurd z (Nat.ne_of_gt (Nat.lt_trans I.lt ha))
      · exact z), hgc⟩

/-- the room of a generator's frame -/
theorem over_gen {A : Around} {elt iter tg : Expr} {ifs : List Expr} {scope : Scope} {pos : Pos} {it : Value} {env : PySem.Env} :
    A.over (.compLoop (.GeneratorExp elt [⟨tg, iter, ifs, 0⟩] scope pos) 0 it .none env) [] = A.over (.compStart (.GeneratorExp elt [⟨tg, iter, ifs, 0⟩] scope pos) 0 it .none env) [] := by
  rfl
theorem over_room {A : Around} {elt iter tg : Expr} {ifs : List Expr} {scope : Scope} {pos : Pos} {it : Value} {env : PySem.Env} {k : Nat} (r : Room (k + 1) A) :
    Room k (A.in1.in1.over (.compStart (.GeneratorExp elt [⟨tg, iter, ifs, 0⟩] scope pos) 0 it .none env) []) := by
  have hw : (Code.compStart (.GeneratorExp elt [⟨tg, iter, ifs, 0⟩] scope pos) 0 it .none env).weight = 1 := by rfl
  have hu : (Code.compStart (.GeneratorExp elt [⟨tg, iter, ifs, 0⟩] scope pos) 0 it .none env).cUnits = 3 := by rfl
  have h1 : unitsOf (([] : List PySem.Frame).map Frame.where_) = 0 := rfl
  refine ⟨r.hd, ?_, ?_⟩
  · have := r.dp
    show A.depth + 0 + (Code.compStart (.GeneratorExp elt [⟨tg, iter, ifs, 0⟩] scope pos) 0 it .none env).weight + 3 * k + 5 < _
    rw [hw]; omega
  · have := r.un
    show A.units + 1 + 1 + unitsOf (([] : List PySem.Frame).map Frame.where_) + (Code.compStart (.GeneratorExp elt [⟨tg, iter, ifs, 0⟩] scope pos) 0 it .none env).cUnits + 16 * k + 200 < _
    rw [h1, hu]; omega
theorem over_frames {A : Around} {elt iter tg : Expr} {ifs : List Expr} {scope : Scope} {pos : Pos} {it : Value} {env : PySem.Env} {st : List PySem.Env} (h : A.frames = some st) :
    (A.in1.in1.over (.compStart (.GeneratorExp elt [⟨tg, iter, ifs, 0⟩] scope pos) 0 it .none env) []).frames = some (env :: st) := by
  unfold Around.over
  dsimp only [Around.in1]
  rw [h]
  rfl
end L3
end

section -- I13
set_option autoImplicit false
set_option linter.all false
set_option maxRecDepth 100000
set_option maxHeartbeats 2000000
namespace L3
open PySem PySem.Spec PyProof.Rows L2 GxR

/-- W by the turn and a measure; what a generator of tests is walked for -/
def geW (all : Bool) (J : L2.It) (g : TG) (tt : TT) (te : TE) (vs : List Nat) (σ : L2.St) (Q : VK) (W : Nat → Nat → Hp → Prop) : Prop := ∀ i m H, W i m H →
  (J.stop i H ∧ Q (.bl all) H) ∨ (J.go i H ∧ ∃ Nx : Hp → Prop, (∀ H', Nx H' → ∃ m', m' < m ∧ W (i + 1) m' H') ∧ ∀ x H', J.yld i H x H' → g x (L2.wipe σ vs) H' fun σ2 H2 => L2.wipe σ2 vs = L2.wipe σ vs ∧ tt σ2 H2 fun b H3 =>
    if b = true then te σ2 H3 fun y H4 => ∃ b, y = .bl b ∧ (b ≠ all → Q (.bl b) H4) ∧ (b = all → Nx H4) else Nx H3)
def tGe (P : Addr) (all : Bool) (wi : TI) (g : TG) (tt : TT) (te : TE) (vs : List Nat) : TE := fun σ H Q => wi σ H fun J H1 => TabG H1 P ∧ ∀ H2, Tabbed P H1 H2 → ∃ W : Nat → Nat → Hp → Prop, (∃ m, W 0 m H2) ∧ geW all J g tt te vs σ Q W

/-- the state of the running generator -/
def GR' (XG : Cx) (vs : List Nat) (σ : L2.St) (all : Bool) (Q : VK) : Nat → Shared → Shared → Prop := fun n s₀ s => ∃ H, Inv XG [] (L2.wipe σ vs) H s ∧ Q (.bl all) H
def GY' (XG : Cx) (σ : L2.St) (all : Bool) (Q : VK) : Protocol := fun n s₀ v s kap => ∃ b σ' H, v = Value.bool b ∧ Inv XG [] σ' H s ∧ (b ≠ all → Q (.bl b) H) ∧ (b = all → ∀ s'' : Shared, s''.heap = s.heap → s''.os = s.os → AllBare s''.gens → kap (.send .none) s'')
theorem inv_gens {X : Cx} {pins : List (Addr × Obj)} {σ : L2.St} {H : Hp} {s s' : Shared} (I : Inv X pins σ H s) (hh : s'.heap = s.heap) (ho : s'.os = s.os) (hb : AllBare s'.gens) : Inv X pins σ H s' := by
  refine I.call' (ch := []) ho ?_ (by rw [hh]; exact I.hok) hb fun b z => by simp at z
  rw [hh]; exact Un.refl

section
variable {X : Cx} {elt tg iter : Expr} {ifs : List Expr} {scope : Scope} {pos : Pos} {vs : List Nat} {σ : L2.St} {all : Bool} {Q : VK} {J : L2.It} {g : TG} {tt : TT} {te : TE} {W : Nat → Nat → Hp → Prop} {fp : List Addr} {it : Addr} {tn : Nat → Heap → Prop} {s4 : Shared} {H4 : Hp} {clo : List (Str × Addr)} {code : Value} {pn : List (Addr × Obj)} {A1 : Around}
theorem seg_ge (hco : scope.isCoroutine = false) (T : Turn X.prog X.w X.K tg J fp it tn) (hW : geW all J g tt te vs σ Q W)
    (pg : PG (gCx X (A1.over (.compStart (.GeneratorExp elt [⟨tg, iter, ifs, 0⟩] scope pos) 0 (.ref it) .none (genEnv scope clo s4.heap.objs.size code builtinsNs X.env)) []) s4 H4 scope clo s4.heap.objs.size code fp pn) tg g)
    (pt : PTs (gCx X (A1.over (.compStart (.GeneratorExp elt [⟨tg, iter, ifs, 0⟩] scope pos) 0 (.ref it) .none (genEnv scope clo s4.heap.objs.size code builtinsNs X.env)) []) s4 H4 scope clo s4.heap.objs.size code fp pn) ifs tt)
    (pe : PE (gCx X (A1.over (.compStart (.GeneratorExp elt [⟨tg, iter, ifs, 0⟩] scope pos) 0 (.ref it) .none (genEnv scope clo s4.heap.objs.size code builtinsNs X.env)) []) s4 H4 scope clo s4.heap.objs.size code fp pn) elt te)
    (hpn : ∀ p ∈ pn, ∀ b ∈ fp, p.1 ≠ b) :
    ∀ (m n i : Nat) (s₀ s : Shared) (H : Hp), m < n → Inv (gCx X (A1.over (.compStart (.GeneratorExp elt [⟨tg, iter, ifs, 0⟩] scope pos) 0 (.ref it) .none (genEnv scope clo s4.heap.objs.size code builtinsNs X.env)) []) s4 H4 scope clo s4.heap.objs.size code fp pn) [] (L2.wipe σ vs) H s → tn i s.heap → (∀ b ∈ fp, H b = none) → W i m H →
      Seg (model X.prog X.w) A1 (fun n s₀ r s₁ => r = .ok .next ∧ GR' (gCx X (A1.over (.compStart (.GeneratorExp elt [⟨tg, iter, ifs, 0⟩] scope pos) 0 (.ref it) .none (genEnv scope clo s4.heap.objs.size code builtinsNs X.env)) []) s4 H4 scope clo s4.heap.objs.size code fp pn) vs σ all Q n s₀ s₁)
        (GY' (gCx X (A1.over (.compStart (.GeneratorExp elt [⟨tg, iter, ifs, 0⟩] scope pos) 0 (.ref it) .none (genEnv scope clo s4.heap.objs.size code builtinsNs X.env)) []) s4 H4 scope clo s4.heap.objs.size code fp pn) σ all Q) n s₀
        (.compLoop (.GeneratorExp elt [⟨tg, iter, ifs, 0⟩] scope pos) 0 (.ref it) .none (genEnv scope clo s4.heap.objs.size code builtinsNs X.env))
        ((model X.prog X.w).den (.compLoop (.GeneratorExp elt [⟨tg, iter, ifs, 0⟩] scope pos) 0 (.ref it) .none (genEnv scope clo s4.heap.objs.size code builtinsNs X.env))) [] s := by
  generalize hce : genEnv scope clo s4.heap.objs.size code builtinsNs X.env = ce at *
  have hoc : A1.over (.compLoop (.GeneratorExp elt [⟨tg, iter, ifs, 0⟩] scope pos) 0 (.ref it) .none ce) [] = A1.over (.compStart (.GeneratorExp elt [⟨tg, iter, ifs, 0⟩] scope pos) 0 (.ref it) .none ce) [] := rfl
  have hY : ∀ v, yieldOut ce v = yieldValue v := fun v => by
    have : ce.scope.isCoroutine = false := by rw [← hce]; exact hco
    simp only [yieldOut, this, Bool.false_eq_true, if_false]
  generalize hA : A1.over (.compStart (.GeneratorExp elt [⟨tg, iter, ifs, 0⟩] scope pos) 0 (.ref it) .none ce) [] = A' at *
  have stat : ∀ {σ' : L2.St} {H' : Hp} {s' : Shared}, Inv (gCx X A' s4 H4 scope clo s4.heap.objs.size code fp pn) [] σ' H' s' → (∀ b ∈ fp, H' b = none) → ∀ b ∈ fp, FpOk (gCx X A' s4 H4 scope clo s4.heap.objs.size code fp pn) [] H' b := fun {σ' H' s'} I' hn b hb =>
    ⟨hn b hb, (I'.ok.exf b hb).1, I'.ok.exfs b hb, .inl hb, fun x c e => (I'.ok.exf b hb).2 x c e, fun p hp => hpn p (by simpa using hp) b hb⟩
  intro m
  induction m using Nat.strongRecOn with
  | ind m ih =>
    intro n i s₀ s H hmn I st hn w
    show Seg _ A1 _ _ _ s₀ _ ((compTurn (.GeneratorExp elt [⟨tg, iter, ifs, 0⟩] scope pos) 0 (.ref it) .none ce).onRaise (leaving ce)) [] s
    rw [compTurn_gen, Sem.onRaise_eq_wrap]
    refine seg_bind_wrap (wpAny_standAt ?_)
    rcases hW i m H w with ⟨stop, qq⟩ | ⟨go, Nx, hNx, step⟩
    · refine seg_bind_wrap ?_
      rw [hoc]
      refine thn (T.done (gCx X A' s4 H4 scope clo s4.heap.objs.size code fp pn) rfl rfl rfl rfl i [] s _ H _ I (stat I hn) st stop) fun r s6 ⟨hr, I6⟩ => ?_
      subst hr
      exact seg_end (.ok .next) ⟨rfl, H, I6, qq⟩
    · refine seg_bind_wrap ?_
      rw [hoc]
      refine thn (T.item (gCx X A' s4 H4 scope clo s4.heap.objs.size code fp pn) rfl rfl rfl rfl i [] s _ H _ I (stat I hn) st go) fun r s6 ⟨u, hr, h6⟩ => ?_
      subst hr
      refine seg_bind_wrap ?_
      rw [hoc]
      refine thn h6 fun _ s7 ⟨x, H7, I7, r7, y7, st7, n7⟩ => ?_
      have I7' := I7.pinned (stat I7 n7) (T.obj _ _ st7)
      refine seg_bind_wrap ?_
      rw [hoc]
      have q7 := pg.run _ s7 _ H7 x u _ I7' r7 (step x H7 y7)
      rw [← show (gCx X A' s4 H4 scope clo s4.heap.objs.size code fp pn).env = ce from hce]
      refine thnF q7 fun _ s8 ⟨σ8, H8, I8, hw8, q8⟩ => ?_
      refine seg_bind_wrap ?_
      rw [show (gCx X A' s4 H4 scope clo s4.heap.objs.size code fp pn).env = ce from hce, hoc]
      have q9 := pt.run _ s8 σ8 H8 _ I8 q8
      rw [← show (gCx X A' s4 H4 scope clo s4.heap.objs.size code fp pn).env = ce from hce]
      refine thnF q9 fun b s9 ⟨H9, I9, q9⟩ => ?_
      rw [show (gCx X A' s4 H4 scope clo s4.heap.objs.size code fp pn).env = ce from hce]
      -- the turn's end
      have fin : ∀ {s' : Shared} {H' : Hp} {n' : Nat} {s₀' : Shared}, m < n' + 1 → Inv (gCx X A' s4 H4 scope clo s4.heap.objs.size code fp pn) ([] ++ pinsAt fp s7.heap) σ8 H' s' → Nx H' → ∃ m', m' < m ∧ m' < n' ∧ Inv (gCx X A' s4 H4 scope clo s4.heap.objs.size code fp pn) [] (L2.wipe σ vs) H' s' ∧ tn (i + 1) s'.heap ∧ (∀ b ∈ fp, H' b = none) ∧ W (i + 1) m' H' := fun {s' H' n' s₀'} hle I' nx => by
        obtain ⟨m', hm, w'⟩ := hNx H' nx
        have pin' : ∀ b ∈ fp, ∀ o, s7.heap.get? b = some o → s'.heap.get? b = some o ∧ H' b = none := fun b hb o e =>
          let z := I'.pin (b, o) (List.mem_append_right _ (List.mem_append_right _ (mem_pinsAt hb e)))
          ⟨z.1, z.2.1⟩
        have hl : (L2.wipe σ vs).length = σ8.length := by rw [← hw8, wipe_length]
        refine ⟨m', hm, by omega, (I'.unpinned (pins := [])).weak hl (fun j v e => ?_), T.keep _ _ _ st7 fun b hb o e => (pin' b hb o e).1, fun b hb => ?_, w'⟩
        · rw [← hw8] at e
          exact (wipe_some e).1
        · obtain ⟨o, e, _⟩ := T.obj _ _ st7 b hb
          exact (pin' b hb o e).2
      cases b with
      | false =>
        simp only [Bool.false_eq_true, if_false] at q9 ⊢
        obtain ⟨m', h1, h2, h3, h4, h5, h6⟩ := fin (n' := n) (s₀' := s₀) (by omega) I9 q9
        exact seg_again rfl (ih m' h1 n (i + 1) s₀ s9 H9 h2 h3 h4 h5 h6)
      | true =>
        simp only [if_true] at q9 ⊢
        simp only [hY]
        obtain ⟨n, rfl⟩ : ∃ k, n = k + 1 := by
          exact ⟨n - 1, by omega⟩
        rw [Sem.bind_eq_wrap', Sem.bind_eq_wrap', Sem.wrap_wrap, Sem.wrap_wrap]
        refine seg_wrap ?_
        rw [hoc]
        have q10 := pe.run _ s9 σ8 H9 _ I9 q9
        rw [← show (gCx X A' s4 H4 scope clo s4.heap.objs.size code fp pn).env = ce from hce]
        refine thnF q10 fun z s10 ⟨yv, H10, I10, r10, b, hb, hne, heq⟩ => ?_
        rw [show (gCx X A' s4 H4 scope clo s4.heap.objs.size code fp pn).env = ce from hce]
        subst hb
        have r10 : z = Value.bool b := r10
        subst r10
        refine seg_at (seg_yield rfl rfl rfl ⟨b, σ8, H10, rfl, I10.pins_of fun p hp => I10.pin p (List.mem_append_left _ (by simpa using hp)), hne, fun e s'' hh ho hg => ?_⟩)
        obtain ⟨m', h1, h2, h3, h4, h5, h6⟩ := fin (n' := n) (s₀' := s₀) hmn (inv_gens I10 hh ho hg) (heq e)
        exact seg_again rfl (ih m' h1 n (i + 1) s'' s'' H10 h2 h3 h4 h5 h6)

theorem bare_set {s : Shared} {k : Nat} {gs : GenState} (h : AllBare s.gens) (hg : gs.bare = true) : AllBare (s.setGen k gs).gens := fun y hy => by
  have hy : y ∈ s.gens.setIfInBounds k gs := hy
  obtain ⟨i, hi, e⟩ := Array.mem_iff_getElem.mp hy
  have hi' : i < s.gens.size := by simpa using hi
  rw [Array.getElem_setIfInBounds hi'] at e
  split at e
  · rw [← e]; exact hg
  · rw [← e]; exact h _ (Array.getElem_mem _)
/-- the consumer's turns; the generator stands at a, its number k -/
theorem loop_ge {XG : Cx} {Q : VK} {A : Around} {a : Addr} {k : Nat} {R' : Result → Shared → Prop} (hd : A.handled = none) (hroom : A.depth < recursionLimit)
    (hgen : ∀ {σ' : L2.St} {H : Hp} {s : Shared}, Inv XG [] σ' H s → s.heap.IsGen a k) (hR : ∀ (b : Bool) (σ' : L2.St) (H : Hp) (s s'' : Shared), Inv XG [] σ' H s → Q (.bl b) H → s''.os = s.os → AllBare s''.gens → (∀ b o, s.heap.get? b = some o → s''.heap.get? b = some o) → R' (.ok (.ret (.bool b))) s'') :
    ∀ (n : Nat) (gs : GenState) (σ' : L2.St) (H : Hp) (s : Shared), Inv XG [] σ' H s → s.gens[k]? = some gs →
      (∀ s'' : Shared, s''.heap = s.heap → s''.os = s.os → AllBare s''.gens → gs.Goes (model X.prog X.w) A.in1.in1 (fun n s₀ r s₁ => r = .ok .next ∧ GR' XG vs σ all Q n s₀ s₁) (GY' XG σ all Q) n (.send .none) s'') →
      codeAny (model X.prog X.w) A (.builtin (if all = true then "all.loop" else "any.loop") ⟨[.ref a], []⟩) R' s := by
  intro n
  induction n using Nat.strongRecOn with
  | ind n ih =>
    intro gs σ' H s I hgs hgo
    have go := hgo (s.setGen k .running) rfl rfl (bare_set I.bare rfl)
    have next : ∀ {Q2 : Option Value → Shared → Prop} {E2 : Value → Shared → Prop},
        (∀ (b : Bool) (s2 : Shared), (b = all → ∃ (m : Nat) (gs' : GenState) (σ' : L2.St) (H : Hp), m < n ∧ Inv XG [] σ' H s2 ∧ s2.gens[k]? = some gs' ∧
          (∀ s'' : Shared, s''.heap = s2.heap → s''.os = s2.os → AllBare s''.gens → gs'.Goes (model X.prog X.w) A.in1.in1 (fun n s₀ r s₁ => r = .ok .next ∧ GR' XG vs σ all Q n s₀ s₁) (GY' XG σ all Q) m (.send .none) s'')) →
          (b ≠ all → R' (.ok (.ret (.bool b))) s2) → Q2 (some (.bool b)) s2) →
        (∀ s2 : Shared, R' (.ok (.ret (.bool all))) s2 → Q2 none s2) → wpAny (model X.prog X.w) A.in1 (pyNext (.ref a)) Q2 E2 s := by
      intro Q2 E2 h1 h2
      have hk0 : k + 1 ≤ s.gens.size := (Array.getElem?_eq_some_iff.mp hgs).1
      refine GenW.wpAny_gsz hk0 (wpAny_pyNext_genexpQ (A := A.in1) (P := GR' XG vs σ all Q) (Y := GY' XG σ all Q) hd I.nolimit hroom (hgen I) hgs go (fun v s₁ gs' hb hv hsz => ?_) (fun s₁ hp h' hk _ => ?_))
      · obtain ⟨b, σ1, H1, rfl, I1, hne, heq⟩ := hv
        have hg1 : (s₁.setGen k gs').gens[k]? = some gs' := by
          rw [GenW.setGen_size] at hsz
          show (s₁.gens.setIfInBounds k gs')[k]? = some gs'
          rw [Array.getElem?_setIfInBounds_self_of_lt hsz]
        refine h1 b _ (fun e => ?_) (fun e => hR b σ1 H1 s₁ _ I1 (hne e) rfl (bare_set I1.bare hb) fun _ _ q => q)
        cases n with
        | zero => exact (heq e s₁ rfl rfl I1.bare).elim
        | succ m => exact ⟨m, gs', σ1, H1, Nat.lt_succ_self m, inv_gens I1 rfl rfl (bare_set I1.bare hb), hg1, fun s'' q1 q2 q3 => heq e s'' q1 q2 q3⟩
      · obtain ⟨H1, I1, q⟩ := hp
        exact h2 _ (hR all _ H1 s₁ _ I1 q rfl (bare_set (gs := .finished) I1.bare rfl) hk)
    cases all with
    | true =>
      show codeAny _ A (.builtin "all.loop" ⟨[.ref a], []⟩) R' s
      refine codeAny_builtin F.entry_all_loop ?_
      rw [Around.under_plainId F.plain_all_loop _]
      show wpAny _ A.in1 (pyNext (.ref a) >>= _) _ _ s
      refine wpAny_bind (next (fun b s2 h1 h2 => ?_) fun s2 h => wpAny_bind (wpAny_rule (wpAny_pure h)))
      refine wpAny_bind (wpAny_holding (wpAny_truthy_bool (wpAny_bind (wpAny_letGo ?_))))
      cases b with
      | true =>
        obtain ⟨m, gs', σ1, H1, hm, I1, hg1, go1⟩ := h1 rfl
        exact wpAny_pure ⟨plainId_quiet F.plain_all_loop _, ih m hm gs' σ1 H1 s2 I1 hg1 go1⟩
      | false => exact wpAny_bind (wpAny_rule (wpAny_pure (h2 (by decide))))
    | false =>
      show codeAny _ A (.builtin "any.loop" ⟨[.ref a], []⟩) R' s
      refine codeAny_builtin F.entry_any_loop ?_
      rw [Around.under_plainId F.plain_any_loop _]
      show wpAny _ A.in1 (pyNext (.ref a) >>= _) _ _ s
      refine wpAny_bind (next (fun b s2 h1 h2 => ?_) fun s2 h => wpAny_bind (wpAny_rule (wpAny_pure h)))
      refine wpAny_bind (wpAny_holding (wpAny_truthy_bool (wpAny_bind (wpAny_letGo ?_))))
      cases b with
      | false =>
        obtain ⟨m, gs', σ1, H1, hm, I1, hg1, go1⟩ := h1 rfl
        exact wpAny_pure ⟨plainId_quiet F.plain_any_loop _, ih m hm gs' σ1 H1 s2 I1 hg1 go1⟩
      | true => exact wpAny_bind (wpAny_rule (wpAny_pure (h2 (by decide))))
end
end L3
end

section -- I14
set_option autoImplicit false
set_option linter.all false
set_option maxRecDepth 100000
set_option maxHeartbeats 2000000
namespace L3
open PySem PySem.Spec PyProof.Rows L2 GxR

section
variable {X : Cx} {elt tg iter : Expr} {ifs : List Expr} {scope : Scope} {own : List (Str × Nat)} {p pos gpos : Pos} {wi : TI} {g : TG} {tt : TT} {te : TE} {c P : Addr} {k : Nat}
/-- what the parts do in the generator's frame -/
structure GenParts (X : Cx) (k : Nat) (scope : Scope) (tg elt : Expr) (ifs : List Expr) (g : TG) (tt : TT) (te : TE) : Prop where
  tg : ∀ (A' : Around) (s : Shared) (H : Hp) (C : Addr) (clo : List (Str × Addr)) (code : Value) (fp : List Addr) (pn : List (Addr × Obj)), Room k A' → PG (gCx X A' s H scope clo C code fp pn) tg g
  ifs : ∀ (A' : Around) (s : Shared) (H : Hp) (C : Addr) (clo : List (Str × Addr)) (code : Value) (fp : List Addr) (pn : List (Addr × Obj)), Room k A' → PTs (gCx X A' s H scope clo C code fp pn) ifs tt
  elt : ∀ (A' : Around) (s : Shared) (H : Hp) (C : Addr) (clo : List (Str × Addr)) (code : Value) (fp : List Addr) (pn : List (Addr × Obj)), Room k A' → PE (gCx X A' s H scope clo C code fp pn) elt te
theorem pe_ge (all : Bool) (hr : Room (k + 1) X.A) (hN : X.N.Nodup) (hg : Gl X (if all then "all" else "any")) (hm : X.mg (if all then "all" else "any") = none) (TB : TabB X.base X.mg c P) (hcode : X.env.code = .ref c)
    (ok : BlkOk X.N X.env.scope scope own) (hco : scope.isCoroutine = false) (hcell : ∀ y ∈ scope.names, y.2 ≠ .cell) (hdot : scope.names.lookup (".0" : Str) = some NameKind.local)
    (hi : PI X tg iter wi) (gp : GenParts X k scope tg elt ifs g tt te) (hs : ∀ v, genFold iter X.env v = pure v)
    (he : starEach [.GeneratorExp elt [⟨tg, iter, ifs, 0⟩] scope gpos] X.env = (false, eval (.GeneratorExp elt [⟨tg, iter, ifs, 0⟩] scope gpos) X.env) :: starEach [] X.env) :
    PE X (.Call (.Name (if all then "all" else "any") p) [.GeneratorExp elt [⟨tg, iter, ifs, 0⟩] scope gpos] [] pos) (tGe P all wi g tt te (own.map (·.2))) := by
  refine ⟨fun pins s σ H Q I h => ?_⟩
  have hfree : ∀ y ∈ scope.names, y.2 = .free → ∃ c, X.env.cells.lookup y.1 = some c := fun y hy e => by
    rcases ok.free y hy e with k | k
    · exact I.ok.has _ (.inl k)
    · exact I.ok.has _ (.inr k)
  -- the generator's object, ready
  have mk : ∀ {Q2 : Value → Shared → Prop}, (∀ (a : Addr) (s5 : Shared), s5.heap.NoLimit → (∃ gk, s5.heap.IsGen a gk) → 
      codeAny (model X.prog X.w) X.A (.builtin (if all = true then "all.loop" else "any.loop") ⟨[.ref a], []⟩) (fun r s' => match r with | .ok (.ret v) => EP X pins σ Q v s' | .ok _ => False | .error e => X.xe e s') s5 → Q2 (.ref a) s5) →
      wpAny (model X.prog X.w) X.A (eval (.GeneratorExp elt [⟨tg, iter, ifs, 0⟩] scope gpos) X.env) Q2 X.xe s := by
    intro Q2 hQ2
    refine wpAny_GeneratorExp_make hco (closure_ok hfree) hcell hdot ok.kind hr.depth ?_ hs
    refine thn (hi.run pins s σ H _ I h) fun xv s1 hx => thn hx fun itv s2 h2 => ?_
    obtain ⟨it, fp, tn, J, H2, e, I2, T, st2, f2, ⟨ps, hP, ht⟩, q⟩ := h2
    subst e
    refine ⟨I2.nolimit, ?_⟩
    have hPs : s2.heap.get? P = some { cls := .none, data := .fields ps } := I2.hok P _ hP
    have cd : PySem.W.CodeHd s2.heap c P := TB.code.keeps fun b u e => I2.bk b u e
    have nP : ∀ b ∈ fp, b ≠ P := fun b hb z => by
      have := (f2 b hb).1
      rw [z, hP] at this; cases this
    obtain ⟨bm, ob, b1, b2, b3, b4, b5, b6, b7, b8⟩ := TB.bm
    -- from the state in which the frame is made
    have cont : ∀ (code : Value) (s4 : Shared) (H4 : Hp), Inv X pins σ H4 s4 → Tabbed P H2 H4 → tn 0 s4.heap → (∀ b ∈ fp, FpOk X pins H4 b ∧ b < s4.heap.objs.size) →
        wpAny (model X.prog X.w) X.A (builtinsFor X.env.globals X.env.builtins) (fun bi s₄ =>
          ∀ h', h'.Ns s₄.heap.objs.size (fun y => if y = ".0" then some (.ref it) else none) → Heap.SameBut s₄.heap.objs.size (s₄.heap.push { cls := .type "frame", data := .dict #[] }) h' →
          Q2 (.ref h'.objs.size) { s₄ with
            gens := s₄.gens.push (.fresh (.compStart (.GeneratorExp elt [⟨tg, iter, ifs, 0⟩] scope gpos) 0 (.ref it) .none (genEnv scope (cloFrom X.env.cells scope.names []) s₄.heap.objs.size code bi X.env))),
            toks := s₄.toks + 1 + 1 + 1,
            heap := h'.push { cls := .type "generator", data := .fields #[.int s₄.gens.size 0, .str "<genexpr>" (s₄.toks + 1), .str (X.env.qual ++ "<genexpr>") (s₄.toks + 1 + 1)] } }) X.xe s4 := by
      intro code s4 H4 I4 hT st4 f4
      refine wpAny_builtinsFor (m := X.mg) (by rw [I4.ok.glob]; exact (I4.mod.glob.keeps I4.bk)) b1 b2 (I4.bk _ _ b5) b6 b7 b8 ?_
      intro h' hn' hs'
      have hsz : h'.objs.size = s4.heap.objs.size + 1 := by rw [hs'.1, Heap.size_push]
      have keep' : ∀ b o, s4.heap.get? b = some o → h'.get? b = some o := fun b o e => hs'.extBut b o (Nat.ne_of_lt (Heap.lt_size e)) (Heap.get?_push_of_some _ e)
      obtain ⟨W, ⟨m0, w0⟩, hW⟩ := q H4 hT
      generalize hgo : ({ cls := .type "generator", data := .fields #[.int s4.gens.size 0, .str "<genexpr>" (s4.toks + 1), .str (X.env.qual ++ "<genexpr>") (s4.toks + 1 + 1)] } : Obj) = go
      have keep5 : ∀ b o, s4.heap.get? b = some o → (h'.push go).get? b = some o := fun b o e => Heap.get?_push_of_some _ (keep' b o e)
      have hgoat : (h'.push go).get? h'.objs.size = some go := Heap.get?_push_size _ (by rw [← hgo]; rfl)
      generalize hA' : X.A.in1.in1.over (.compStart (.GeneratorExp elt [⟨tg, iter, ifs, 0⟩] scope gpos) 0 (.ref it) .none (genEnv scope (cloFrom X.env.cells scope.names []) s4.heap.objs.size code builtinsNs X.env)) [] = A'
      have rA : Room k A' := by rw [← hA']; exact over_room hr
      have fA : A'.frames = some (genEnv scope (cloFrom X.env.cells scope.names []) s4.heap.objs.size code builtinsNs X.env :: X.stack) := by rw [← hA']; exact over_frames I4.ok.frames
      have I5 := gen_start (A' := A') (code := code) (a := h'.objs.size) (go := go) (s' := { s4 with
            gens := s4.gens.push (.fresh (.compStart (.GeneratorExp elt [⟨tg, iter, ifs, 0⟩] scope gpos) 0 (.ref it) .none (genEnv scope (cloFrom X.env.cells scope.names []) s4.heap.objs.size code builtinsNs X.env))),
            toks := s4.toks + 1 + 1 + 1, heap := h'.push go }) I4 ok hN hcell f4 rA.hd fA keep5 rfl (I4.bare.push rfl) (hn'.push _) (by omega) hgoat (fun v z => by rw [← hgo] at z; cases z)
      have st5 : tn 0 (h'.push go) := T.keep _ _ _ st4 fun b _ o e => keep5 b o e
      have n5 : ∀ b ∈ fp, H4 b = none := fun b hb => (f4 b hb).1.1
      have gen5 : ∀ {σ' : L2.St} {H' : Hp} {s' : Shared}, Inv (gCx X A' s4 H4 scope (cloFrom X.env.cells scope.names []) s4.heap.objs.size code fp [(h'.objs.size, go)]) [] σ' H' s' → s'.heap.IsGen h'.objs.size s4.gens.size := fun {σ' H' s'} J => by
        have z := (J.pin (h'.objs.size, go) (by simp)).1
        exact ⟨go, _, _, z, by rw [← hgo], by rw [← hgo], by rw [← hgo]⟩
      refine hQ2 _ _ I5.nolimit ⟨_, gen5 I5⟩ ?_
      have seg := fun n s₀ s (hs5 : s.heap = h'.push go) (ho : s.os = s4.os) (hb : AllBare s.gens) (hmn : m0 < n) => seg_ge (all := all) (Q := Q) (vs := own.map (·.2)) (σ := σ) (s4 := s4) (H4 := H4) (clo := cloFrom X.env.cells scope.names []) (code := code) (pos := gpos) (pn := [(h'.objs.size, go)]) (A1 := X.A.in1.in1) hco T hW
        (by rw [hA']; exact gp.tg _ _ _ _ _ _ _ _ rA) (by rw [hA']; exact gp.ifs _ _ _ _ _ _ _ _ rA) (by rw [hA']; exact gp.elt _ _ _ _ _ _ _ _ rA)
        (fun p hp b hb => by
          have e : p = (h'.objs.size, go) := by simpa using hp
          subst e
          have := (f4 b hb).2
          exact Nat.ne_of_gt (by show b < h'.objs.size; rw [hsz]; exact Nat.lt_succ_of_lt this)) m0 n 0 s₀ s H4 hmn (by rw [hA']; exact inv_gens I5 hs5 ho hb) (by rw [hs5]; exact st5) n5 w0
      refine loop_ge (X := X) (XG := gCx X A' s4 H4 scope (cloFrom X.env.cells scope.names []) s4.heap.objs.size code fp [(h'.objs.size, go)]) (vs := own.map (·.2)) (σ := σ) (all := all) (Q := Q) (k := s4.gens.size) hr.hd hr.depth gen5 ?_ (m0 + 1) _ _ H4 _ I5 (Array.getElem?_push_size ..) ?_
      · intro b σ' H' s6 s7 J q7 ho hb kp
        have J7 : Inv (gCx X A' s4 H4 scope (cloFrom X.env.cells scope.names []) s4.heap.objs.size code fp [(h'.objs.size, go)]) [] σ' H' s7 := J.call' (ch := []) ho (Un.kept kp) (J.hok.kept kp) hb fun b z => by simp at z
        refine ⟨.bl b, H', ?_, rfl, q7⟩
        exact I4.call' (ch := fp) J7.os J7.base J7.hok J7.bare fun b hb => ⟨(f4 b hb).1.2.2.2.1, (f4 b hb).1.2.1, (f4 b hb).1.2.2.2.2.1, (f4 b hb).1.2.2.2.2.2⟩
      · intro s'' hh ho hb
        refine ⟨rfl, ?_⟩
        have loop := seg (m0 + 1) s'' s'' hh ho hb (Nat.lt_succ_self _)
        rw [hA'] at loop
        show Seg _ X.A.in1.in1 _ _ _ s'' _ ((compStart (.GeneratorExp elt [⟨tg, iter, ifs, 0⟩] scope gpos) 0 (.ref it) .none (genEnv scope (cloFrom X.env.cells scope.names []) s4.heap.objs.size code builtinsNs X.env)).onRaise (leaving (genEnv scope (cloFrom X.env.cells scope.names []) s4.heap.objs.size code builtinsNs X.env))) [] s''
        unfold compStart
        rw [Sem.onRaise_eq_wrap]
        show Seg _ X.A.in1.in1 _ _ _ s'' _ ((ask >>= _).wrap _ _ _ _) [] s''
        refine seg_bind_wrap (wpAny_askSetting ?_)
        have st6 : tn 0 s''.heap := by rw [hh]; exact st5
        split
        · exact seg_again rfl loop
        · first
            | exact seg_bind_wrap (wpAny_rule (seg_bind_wrap (wpAny_standAt (seg_bind_wrap (T.self _ 0 s'' _ _ st6 (seg_again rfl loop))))))
            | (refine seg_bind_wrap (wpAny_rule ?_); show Seg _ X.A.in1.in1 _ _ _ s'' _ ((standAt iter.pos >>= _).wrap _ _ _ _) [] s''; exact seg_bind_wrap (wpAny_standAt (seg_bind_wrap (T.self _ 0 s'' _ _ st6 (seg_again rfl loop)))))
    have sz2 : ∀ b ∈ fp, b < s2.heap.objs.size := fun b hb => by
      obtain ⟨o, e, _⟩ := T.obj _ _ st2 b hb
      exact Heap.lt_size e
    cases hf : codeAmong gpos ps.toList with
    | none =>
      refine wpAny_genexprCodeX hcode (cd.code hPs ht) (cd.tab hPs) hf fun c' h' tk hx hge hlt hco' _ htab' _ => ?_
      obtain ⟨o1, vs, f1, tf, fl, tg', inF, tx, tt', op, _, _, _, _, _, _, _, _, _, htr, _⟩ := hco'
      have J := inv_tab (more := #[rawInt gpos.line, rawInt gpos.col, .ref c']) (h' := h') (g' := s2.gens) (d' := s2.drawn) (t' := tk) I2 hP (fun b u hb e => hx b u hb e) htab'.2 I2.bare
      refine cont (.ref c') { s2 with heap := h', toks := tk } _ J ⟨⟨_, upd_same, htr⟩, fun b hb => upd_ne hb⟩ (T.keep _ _ _ st2 fun b hb o e => hx b o (nP b hb) e) fun b hb => ⟨⟨by rw [upd_ne (nP b hb)]; exact (f2 b hb).1, (f2 b hb).2⟩, ?_⟩
      exact Nat.lt_of_lt_of_le (sz2 b hb) (Nat.le_trans hge (Nat.le_of_lt hlt))
    | some cv =>
      refine wpAny_genexprCode_hit hcode (cd.code hPs ht) hf ?_
      exact cont cv s2 H2 I2 ⟨⟨ps, hP, ht⟩, fun _ _ => rfl⟩ st2 fun b hb => ⟨f2 b hb, sz2 b hb⟩
  have fin : ∀ {a : Addr} {s5 : Shared}, s5.heap.NoLimit → (∃ gk, s5.heap.IsGen a gk) → codeAny (model X.prog X.w) X.A (.builtin (if all = true then "all.loop" else "any.loop") ⟨[.ref a], []⟩) (fun r s' => match r with | .ok (.ret v) => EP X pins σ Q v s' | .ok _ => False | .error e => X.xe e s') s5 →
      wpAny (model X.prog X.w) X.A (call (.builtin (if all then "all" else "any")) [.ref a]) (EP X pins σ Q) X.xe s5 := by
    intro a s5 hl ⟨gk, hgen⟩ hcd
    cases all with
    | true =>
      refine call_function_tree F.kind_all F.plain_all F.entry_all (F.args_all1 _) ?_
      unfold Builtin.«all»
      refine wpAny_bind (m := oneArg "all" _) (wpAny_pure ?_)
      exact wpAny_bind (wpAny_pyIter_gen hgen (wpAny_pure ⟨plainId_quiet F.plain_all_loop _, hcd⟩))
    | false =>
      refine call_function_tree F.kind_any F.plain_any F.entry_any (F.args_any1 _) ?_
      unfold Builtin.«any»
      refine wpAny_bind (m := oneArg "any" _) (wpAny_pure ?_)
      exact wpAny_bind (wpAny_pyIter_gen hgen (wpAny_pure ⟨plainId_quiet F.plain_any_loop _, hcd⟩))
  cases all with
  | true =>
    refine wpAny_Call_Name_kw (ld_blt (x := "all") (u := .builtin "all") I hg hm (by decide +kernel) ?_)
    refine PyProof.Rows.callWith_builtin1 ?_ he (by rfl)
    rw [he]
    show wpAny _ _ (spliced ((false, eval (.GeneratorExp elt [⟨tg, iter, ifs, 0⟩] scope gpos) X.env) :: backTo pos (starEach [] X.env))) _ _ s
    exact Calls.spliced_cons (mk fun a s5 hl hgen hcd => Calls.spliced_nil (fin hl hgen hcd))
  | false =>
    refine wpAny_Call_Name_kw (ld_blt (x := "any") (u := .builtin "any") I hg hm (by decide +kernel) ?_)
    refine PyProof.Rows.callWith_builtin1 ?_ he (by rfl)
    rw [he]
    show wpAny _ _ (spliced ((false, eval (.GeneratorExp elt [⟨tg, iter, ifs, 0⟩] scope gpos) X.env) :: backTo pos (starEach [] X.env))) _ _ s
    exact Calls.spliced_cons (mk fun a s5 hl hgen hcd => Calls.spliced_nil (fin hl hgen hcd))
end
end L3
end

section -- I15
set_option autoImplicit false
set_option linter.all false
set_option maxRecDepth 100000
set_option maxHeartbeats 1000000
namespace L3
open PySem PySem.Spec PyProof.Rows L2 GxR

section
variable {K : Fr} {Ps : List Addr} {ρ ρ' : Rh} {H H' : Hp} {s : S} {P : Addr}
theorem Ext.tab (hP : TabG H P) (h : Tabbed P H H') : Ext K ρ H s ρ H' s := by
  obtain ⟨ps, hp, _⟩ := hP
  obtain ⟨⟨ps', hp', _⟩, hk⟩ := h
  refine ⟨rfl, rfl, Nat.le_refl _, fun _ _ => rfl, fun a o q _ nt => ?_, fun i h1 h2 => absurd h2 (by omega), fun a q => ?_, fun l q => ⟨l, q, Nat.le_refl _⟩, fun i o o' h1 h2 => .inl (by rw [h1] at h2; cases h2; rfl)⟩
  · by_cases e : a = P
    · rw [e, hp] at q; cases q; exact nt.elim
    · rw [hk a e]; exact q
  · by_cases e : a = P
    · rw [e, hp']; simp
    · rw [hk a e]; exact q
theorem Good.tab (g : Good K Ps ρ none H s) (hP : TabG H P) (h : Tabbed P H H') : Good K Ps ρ none H' s := by
  refine g.over (Ext.tab hP h) (fun i hi => ?_) fun P' hP' => ?_
  · obtain ⟨us, q, hq⟩ := g.lst hi
    refine h.2 _ fun e => ?_
    obtain ⟨ps, hp, _⟩ := hP
    rw [e, hp] at q; cases q; exact hq.elim
  · by_cases e : P' = P
    · rw [e]; exact h.1
    · rw [h.2 _ e]; exact g.tb P' hP'
end
section
variable {t : Tg} {fi : Env → S → R L3.It} {ft : Env → S → R Bool} {fe : Env → S → R D} {cl : XC} {W : WX} {Ps : List Addr}
/-- what a turn does -/
def geF (t : Tg) (vs : List Nat) (ft : Env → S → R Bool) (fe : Env → S → R D) (e : Env) : D → S → R (Option Bool) := fun x s => match asg t x (wipe e vs) with
  | none => .bad
  | some e1 => ((ft e1 s).bind fun b s => if b then (fe e1 s).bind fun d s => (R.opt d.bool s).bind fun b s => .ok (some b) s else .ok none s).nox
theorem ge_read {K : Fr} {P : Addr} {all : Bool} {vs : List Nat} {σ : L2.St} {H : Hp} {Q : VK} (hP : P ∈ Ps) (hown : ∀ i ∈ t.names, i ∈ vs) (h : TX K Ps cl W (fun e s => (fi e s).bind fun it s => geI all (geF t vs ft fe e) it s) σ H Q) :
    tGe P all (TXI K Ps cl W fi) (TXG K t) (TXB K Ps cl WF ft) (TX K Ps cl WF fe) vs σ H Q := by
  obtain ⟨ρ, e, s, g, er, p⟩ := h
  refine ⟨ρ, e, s, g, er, Post.bindG (r := fi e s) p fun it s1 ρ1 H1 e1 p J g1 w => ⟨g1.tb P hP, fun H2 hT => ?_⟩⟩
  have x2 : Ext K ρ1 H1 s1 ρ1 H2 s1 := Ext.tab (g1.tb P hP) hT
  have g2 : Good K Ps ρ1 none H2 s1 := g1.tab (g1.tb P hP) hT
  have w2 := w.ext g1 x2
  have er2 := ((er.ext g e1).ext g1 x2).wipe vs
  replace p := Post.shift x2 p
  rw [geI_eq] at p
  generalize fuelI it s1 = m0 at p
  refine ⟨fun i m H' => ∃ ρ' s', Good K Ps ρ' none H' s' ∧ Walk K ρ' H' s' it J ∧ EnvRel K ρ' s'.n H' (L2.wipe σ vs) (L3.wipe e vs) ∧ Post K Ps ρ' H' s' (geG all (geF t vs ft fe e) it m i s') Q fun c H' => W (cl c) none σ H', ⟨m0, ρ1, s1, g2, w2, er2, p⟩, ?_⟩
  rintro i m H3 ⟨ρ3, s3, g3, w3, er3, p3⟩
  cases m with
  | zero => exact p3.elim
  | succ m =>
    unfold geG at p3
    cases hx : nextI it i s3 with
    | none => rw [hx] at p3; exact p3.elim
    | some ox =>
      cases ox with
      | none =>
        rw [hx] at p3
        exact .inl ⟨w3.stop g3 hx, p3.val g3 (by simp) (.bl _)⟩
      | some x =>
        rw [hx] at p3
        dsimp only at p3
        obtain ⟨go, yl⟩ := w3.go g3 hx
        refine .inr ⟨go, fun H' => ∃ ρ' s', Good K Ps ρ' none H' s' ∧ Walk K ρ' H' s' it J ∧ EnvRel K ρ' s'.n H' (L2.wipe σ vs) (L3.wipe e vs) ∧ Post K Ps ρ' H' s' (geG all (geF t vs ft fe e) it m (i + 1) s') Q fun c H' => W (cl c) none σ H',
          fun H' q => ⟨m, Nat.lt_succ_self m, q⟩, fun u H4 hy => ?_⟩
        obtain ⟨x4, g4, r4, _⟩ := yl u H4 hy
        have p4 := Post.shift x4 p3
        have er4 := er3.ext g3 x4
        have w4 := w3.ext g3 x4
        unfold geF at p4
        cases ha : asg t x (wipe e vs) with
        | none => rw [ha] at p4; exact p4.elim
        | some ea =>
          rw [ha] at p4
          dsimp only at p4
          refine ⟨ρ3, s3.n, x, _, ea, by rw [r4.frzE]; exact r4, er4, ha, fun σ5 l5 o5 er5 => ⟨(wipe_same l5 o5 hown).trans (wipe_same (t := vs) (wipe_length _ _) (fun i hi => wipe_out hi) fun _ h => h), ?_⟩⟩
          refine ⟨ρ3, ea, s3, g4, er5, ?_⟩
          cases hf : ft ea s3 with
          | bad => rw [hf] at p4; exact p4.elim
          | exc c s4 => rw [hf] at p4; exact p4.elim
          | ok b s4 =>
            rw [hf] at p4
            intro ρ6 H6 x6 g6
            have p6 := Post.shift x6 p4
            cases b with
            | false =>
              simp only [R.bind_ok, Bool.false_eq_true, if_false, R.nox_ok] at p6 ⊢
              exact ⟨ρ6, s4, g6, w4.ext g4 x6, er4.ext g4 x6, p6⟩
            | true =>
              simp only [R.bind_ok, if_true] at p6 ⊢
              refine ⟨ρ6, ea, s4, g6, er5.ext g4 x6, ?_⟩
              cases hf7 : fe ea s4 with
              | bad => rw [hf7] at p6; exact p6.elim
              | exc c s5 => rw [hf7] at p6; exact p6.elim
              | ok d s5 =>
                rw [hf7] at p6
                simp only [R.bind_ok] at p6
                intro ρ7 H7 v7 x7 o7
                have p7 := Post.shift x7 p6
                cases hb : d.bool with
                | none => rw [hb] at p7; exact p7.elim
                | some b =>
                  rw [hb] at p7
                  simp only [R.opt_some, R.bind_ok, R.nox_ok] at p7
                  obtain ⟨rfl, g7⟩ := boolE o7 hb
                  refine ⟨b, rfl, fun hne => ?_, fun he => ?_⟩
                  · have hbe : (b == all) = false := by cases b <;> cases all <;> simp_all
                    simp only [hbe, Bool.false_eq_true, if_false] at p7
                    have hba : (!all) = b := by cases b <;> cases all <;> simp_all
                    rw [hba] at p7
                    exact p7.val g7 (by simp) (.bl _)
                  · have hbe : (b == all) = true := by simp [he]
                    simp only [hbe, if_true] at p7
                    exact ⟨ρ7, s5, g7, (w4.ext g4 x6).ext g6 x7, (er4.ext g4 x6).ext g6 x7, p7⟩
end
section
variable {X : Cx} {Ps : List Addr} {cl : XC} {W : WX} {elt tg iter : Expr} {ifs : List Expr} {scope : Scope} {own : List (Str × Nat)} {p pos gpos : Pos} {t : Tg} {fi : Env → S → R L3.It} {ft : Env → S → R Bool} {fe : Env → S → R D} {c P : Addr} {k : Nat}
theorem e_gen (all : Bool) (hr : Room (k + 1) X.A) (hN : X.N.Nodup) (hg : Gl X (if all then "all" else "any")) (hm : X.mg (if all then "all" else "any") = none) (TB : TabB X.base X.mg c P) (hcode : X.env.code = .ref c) (hP : P ∈ Ps)
    (ok : BlkOk X.N X.env.scope scope own) (hown : ∀ i ∈ t.names, i ∈ own.map (·.2)) (hco : scope.isCoroutine = false) (hcell : ∀ y ∈ scope.names, y.2 ≠ .cell) (hdot : scope.names.lookup (".0" : Str) = some NameKind.local)
    (hi : I1 X Ps cl W tg iter fi) (gp : GenParts X k scope tg elt ifs (TXG X.K t) (TXB X.K Ps cl WF ft) (TX X.K Ps cl WF fe)) (hs : ∀ v, genFold iter X.env v = pure v)
    (he : starEach [.GeneratorExp elt [⟨tg, iter, ifs, 0⟩] scope gpos] X.env = (false, eval (.GeneratorExp elt [⟨tg, iter, ifs, 0⟩] scope gpos) X.env) :: starEach [] X.env) :
    E1 X Ps cl W (.Call (.Name (if all then "all" else "any") p) [.GeneratorExp elt [⟨tg, iter, ifs, 0⟩] scope gpos] [] pos) fun e s => (fi e s).bind fun it s => geI all (geF t (own.map (·.2)) ft fe e) it s :=
  PE.imp (pe_ge all hr hN hg hm TB hcode ok hco hcell hdot hi gp hs he) fun σ H Q h => ge_read hP hown h
end

/-- at a stands a dict of the module: these keys, these values -/
def KdK (K : Fr) (w : World) (a : Addr) (kvs : List (List Nat × D)) : Prop := ∃ es n, KDict K w a es n ∧ ∀ z : List Nat, ∃ r, PySem.W.nsIn K a (toS z) = some r ∧ match kvs.lookup z with
  | none => r = none
  | some d => ∃ u v, r = some u ∧ RelV v u ∧ (∀ xs, d ≠ .lv true xs) ∧ ∀ ρ n H, Rel K ρ n none H d v
def KdAt (X : Cx) (a : Addr) (kvs : List (List Nat × D)) : Prop := KdK X.K X.w a kvs
section
variable {X : Cx} {Ps : List Addr} {cl : XC} {W : WX} {a : Expr} {fa : Env → S → R D} {pos p : Pos} {x : Str} {A : Addr} {kvs : List (List Nat × D)}
theorem e_gin (neg : Bool) (hg : Gl X x) (hm : X.mg x = some (.ref A)) (hd : (x == ("__debug__" : Str)) = false) (k : KdAt X A kvs) (ha : E1 X Ps cl W a fa) :
    E1 X Ps cl W (.Compare a [if neg then .NotIn else .In] [.Name x p] pos) fun e s => (fa e s).bind fun x s => R.opt ((strOf x).map fun z => .bl (if neg then !(kvs.lookup z).isSome else (kvs.lookup z).isSome)) s := by
  obtain ⟨es, n, D, hk⟩ := k
  have key : ∀ z, ∃ r, PySem.W.nsIn X.K A (toS z) = some r ∧ r.isSome = (kvs.lookup z).isSome := fun z => by
    obtain ⟨r, h1, h2⟩ := hk z
    refine ⟨r, h1, ?_⟩
    cases q : kvs.lookup z with
    | none => rw [q] at h2; rw [h2]; rfl
    | some d => rw [q] at h2; obtain ⟨u, v, rfl, _⟩ := h2; rfl
  cases neg with
  | true =>
    refine PE.imp (pe_cmpR (op_notIn_kd D) ha (pe_glob (v := .ref A) hg hm rfl hd) rfl) fun σ H Q ⟨ρ, e, s, g, er, p⟩ => ⟨ρ, e, s, g, er, p.bind fun d1 s1 ρ1 H1 v1 e1 o1 p => ?_⟩
    obtain ⟨d, h, p⟩ := p.opt
    simp only [Option.map_eq_some_iff] at h
    obtain ⟨z, h, rfl⟩ := h
    obtain ⟨rfl, g1⟩ := strE' o1 h
    obtain ⟨r, h1, h2⟩ := key z
    exact ⟨_, r, rfl, rfl, h1, by rw [h2]; exact p.val g1 (by simp) (.bl _)⟩
  | false =>
    refine PE.imp (pe_cmpR (op_in_kd D) ha (pe_glob (v := .ref A) hg hm rfl hd) rfl) fun σ H Q ⟨ρ, e, s, g, er, p⟩ => ⟨ρ, e, s, g, er, p.bind fun d1 s1 ρ1 H1 v1 e1 o1 p => ?_⟩
    obtain ⟨d, h, p⟩ := p.opt
    simp only [Option.map_eq_some_iff] at h
    obtain ⟨z, h, rfl⟩ := h
    obtain ⟨rfl, g1⟩ := strE' o1 h
    obtain ⟨r, h1, h2⟩ := key z
    exact ⟨_, r, rfl, rfl, h1, by rw [h2]; exact p.val g1 (by simp) (.bl _)⟩
theorem e_gix (hg : Gl X x) (hm : X.mg x = some (.ref A)) (hd : (x == ("__debug__" : Str)) = false) (k : KdAt X A kvs) (ha : E1 X Ps cl W a fa) (hs : PlainIx a) :
    E1 X Ps cl W (.Subscript (.Name x p) a pos) fun e s => (fa e s).bind fun x s => R.opt ((strOf x).bind fun z => kvs.lookup z) s := by
  obtain ⟨es, n, D, hk⟩ := k
  refine PE.imp (pe_ix ix_kdict (pe_glob (v := .ref A) hg hm rfl hd) ha hs) fun σ H Q ⟨ρ, e, s, g, er, p⟩ => ⟨ρ, e, s, g, er, p.bind fun d1 s1 ρ1 H1 v1 e1 o1 p => ?_⟩
  obtain ⟨d, h, p⟩ := p.opt
  rw [Option.bind_eq_some_iff] at h
  obtain ⟨z, h, h'⟩ := h
  obtain ⟨rfl, g1⟩ := strE' o1 h
  obtain ⟨r, h1, h2⟩ := hk z
  rw [h'] at h2
  obtain ⟨u, v, rfl, h3, h4, h5⟩ := h2
  exact ⟨A, _, v, rfl, rfl, ⟨es, n, u, D.at_, D.lit, h1, h3⟩, p.val g1 h4 (h5 _ _ _)⟩
end

section
open PySem PySem.Spec PyProof.Rows RT
variable {prog : Program} {w : World} {A : Around} {E : Value → Shared → Prop} {s : Shared}
theorem list_init_rev {R : Result → Shared → Prop} (hh : A.handled = none) {it l : Addr} {items : Array Value} (hit : s.heap.IsRevIter it l ((items.size : Int) - 1)) (hl : s.heap.IsList l items) (hne : l ≠ it) (hn : items.size ≤ sizeLine) (S : Addr) (hSi : S ≠ it) (hSl : S ≠ l) (hS : s.heap.get? S = some { cls := .type "list", data := .seq #[] })
    (hR : ∀ h' tk acc' c', (∀ b o, b ≠ S → b ≠ it → s.heap.get? b = some o → h'.get? b = some o) → h'.get? S = some { cls := .type "list", dict := none, data := .seq acc' c', slots := #[] } →
      ItemsOf (fun i v => items[items.size - 1 - i]? = some v) acc' items.size → R (.ok (.ret .none)) { s with heap := h', toks := tk }) :
    wpAny (model prog w) A.in1 (Builtin.«list.__init__» ⟨[.ref S, .ref it], []⟩)
      (fun fin s' => match fin with | .done f => R (.ok f) s' | .again c' => c'.quiet = true ∧ codeAny (model prog w) A c' R s') (fun e s' => R (.error e) s') s := by
  have Wk := (Walks.listRev (prog := prog) (w := w) (A := A.in1) hh it l hne items).toS
  have hSf : S ∉ [it, l] := by simp only [List.mem_cons, List.not_mem_nil, or_false, not_or]; exact ⟨hSi, hSl⟩
  show wpAny _ _ (do let old ← Builtin.List.listItems (.ref S); Builtin.List.listUpdate (.ref S) (fun _ => #[]); letGo old.toList.reverse; Builtin.List.listExtendWith (.ref S) (.ref it) .none) _ _ s
  refine wpAny_bind ?_
  unfold Builtin.List.listItems
  refine wpAny_bind (wpAny_seqItems hS rfl (wpAny_pure ?_))
  show wpAny _ _ (updateSeq S (fun _ => #[]) >>= fun _ => letGo (#[] : Array Value).toList.reverse >>= fun _ => Builtin.List.listExtendWith (.ref S) (.ref it) .none) _ _ s
  refine wpAny_bind (wpAny_updateSeq hS rfl ?_)
  have hS₂ := Heap.get?_update_self (Obj.mapSeq (fun _ => (#[] : Array Value))) hS rfl
  have oth : ∀ b o, b ≠ S → s.heap.get? b = some o → (s.heap.update S (Obj.mapSeq (fun _ => (#[] : Array Value)))).get? b = some o :=
    fun b o hb e => (Heap.get?_update_other _ _ (Ne.symm hb)).trans e
  refine wpAny_bind (wpAny_letGo ?_)
  have hit1 : (s.heap.update S (Obj.mapSeq (fun _ => (#[] : Array Value)))).IsRevIter it l ((items.size : Int) - 1) := hit.at fun o e => oth _ _ (Ne.symm hSi) e
  have hl1 : (s.heap.update S (Obj.mapSeq (fun _ => (#[] : Array Value)))).IsList l items := by
    obtain ⟨o, ho, hc, hd⟩ := hl
    exact ⟨o, oth _ _ (Ne.symm hSl) ho, hc, hd⟩
  have hT : ({ s with heap := s.heap.update S (Obj.mapSeq (fun _ => (#[] : Array Value))) } : Shared).TypeIs (.ref it) "list_reverseiterator" := Heap.IsRevIter.typeIs (s := { s with heap := s.heap.update S (Obj.mapSeq (fun _ => (#[] : Array Value))) }) hit1
  have h1 : Builtin.List.listSameRef (.ref S) (.ref it) = false := by simp [Builtin.List.listSameRef, hSi]
  unfold Builtin.List.listExtendWith
  refine wpAny_bind (wpAny_typeOf hT ?_)
  rw [if_neg (by rw [h1]; decide)]
  refine wpAny_bind (wpAny_pyIter_revIter (s := { s with heap := s.heap.update S (Obj.mapSeq (fun _ => (#[] : Array Value))) }) hit1 ?_)
  refine wpAny_bind (wpAny_holding ?_)
  unfold Builtin.List.listLengthHint
  refine wpAny_bind (wpAny_specialOf hT nolen_lri ?_)
  show wpAny _ A.in1 (specialOf (Value.ref it) (Str.ofString "__length_hint__") >>= _) _ _ _
  refine wpAny_bind (wpAny_specialOf hT hint_lri ?_)
  generalize hid : ("list_reverseiterator.__length_hint__" : String) = id0
  wp_delta
  rw [show splitId id0 = some ("list_reverseiterator", "__length_hint__") from by subst hid; decide +kernel]
  subst hid
  refine wpAny_bind (wpAny_isInstance (b := true) hT (by rw [isSubtype_type]; kernel_rfl) ?_)
  refine wpAny_pure ?_
  rw [if_neg (by decide)]
  have e0 : ((items.size : Nat) : Int) - 1 - ((0 : Nat) : Int) = (items.size : Int) - 1 := by omega
  refine wpAny_pure ⟨plainId_quiet F.plain_extend_loop _, codeAny_extend_loopS Wk hn _ hSf _ items.size 0 _ _ _ rfl (Nat.zero_le _) ⟨Nat.zero_le _, by rw [e0]; exact hit1, hl1⟩ hS₂ (ItemsOf.nil _) fun s' acc' c' hm hS' hacc => ?_⟩
  rw [Moved.eq_with hm]
  refine hR s'.heap s'.toks acc' c' (fun b o hb hb2 e => hm.heap b o (fun hmem => ?_) (oth b o hb e)) hS' hacc
  rcases List.mem_cons.mp hmem with e' | hmem
  · exact hb e'
  · exact hb2 (List.mem_singleton.mp hmem)
theorem call_list_rev {Q : Value → Shared → Prop} (hh : A.handled = none) {it l : Addr} {items : Array Value} (hit : s.heap.IsRevIter it l ((items.size : Int) - 1)) (hl : s.heap.IsList l items) (hne : l ≠ it) (hn : items.size ≤ sizeLine)
    (hQ : ∀ h' tk acc' c', (∀ b o, b ≠ it → s.heap.get? b = some o → h'.get? b = some o) →
      h'.get? s.heap.objs.size = some { cls := .type "list", dict := none, data := .seq acc' c', slots := #[] } → ItemsOf (fun i v => items[items.size - 1 - i]? = some v) acc' items.size → Q (.ref s.heap.objs.size) { s with heap := h', toks := tk }) :
    wpAny (model prog w) A (call (.type "list") [.ref it]) Q E s := by
  obtain ⟨oi, hoi, _⟩ := id hit
  obtain ⟨ol, hol, _⟩ := id hl
  have hSi : s.heap.objs.size ≠ it := Nat.ne_of_gt (Heap.lt_size hoi)
  have hSl : s.heap.objs.size ≠ l := Nat.ne_of_gt (Heap.lt_size hol)
  refine callType_codes (Q₁ := fun obj s₁ => obj = .ref s.heap.objs.size ∧ s₁ = { s with heap := s.heap.push { cls := .type "list", data := .seq #[] } }) F.called_list (F.typeCall_list_1 _) F.entry_list_init
    (code_list_new _ ⟨rfl, rfl⟩) fun obj s₁ h₁ => ?_
  obtain ⟨rfl, rfl⟩ := h₁
  have hS : (s.heap.push { cls := .type "list", data := .seq #[] }).get? s.heap.objs.size = some { cls := .type "list", data := .seq #[] } := Heap.get?_push_size _ rfl
  refine ⟨⟨_, hS, rfl⟩, F.args_list_init_2 _ _, list_init_rev (A := A.in1) hh (hit.at fun o e => Heap.get?_push_of_some _ e) (hl.push _) hne hn _ hSi hSl hS fun h' tk acc' c' hk hS' hacc => ?_⟩
  exact ⟨rfl, hQ h' tk acc' c' (fun b o hb e => hk b o (Nat.ne_of_lt (Heap.lt_size e)) hb (Heap.get?_push_of_some _ e)) hS' hacc⟩
end
section
open PySem PySem.Spec PyProof.Rows RT
variable {X : Cx}
/-- list(reversed(x)), x a list: a new list -/
def tLstRev (K : PySem.W.Frag) (te : TE) : TE := fun σ H Q => te σ H fun v H1 => ∃ (a : Addr) (xs : List V), v = .ref a ∧ SqL K H1 a xs ∧ ∀ q, H1 q = none → Q (.ref q) (upd H1 q (.lst xs.reverse))
theorem pe_lstRev {e : Expr} {te : TE} {p p2 pos pos2 : Pos} (hc : X.calm = true) (hg : Gl X "list") (hm : X.mg "list" = none) (hg2 : Gl X "reversed") (hm2 : X.mg "reversed" = none) (he : PE X e te)
    (hs : starEach [e] X.env = (false, eval e X.env) :: starEach [] X.env := by rfl)
    (hs2 : starEach [.Call (.Name "reversed" p2) [e] [] pos2] X.env = (false, eval (.Call (.Name "reversed" p2) [e] [] pos2) X.env) :: starEach [] X.env := by rfl) :
    PE X (.Call (.Name "list" p) [.Call (.Name "reversed" p2) [e] [] pos2] [] pos) (tLstRev X.K te) := by
  refine ⟨fun pins s σ H Q I h => ?_⟩
  refine Call_ (ld_blt I hg hm boot_list (PyProof.Rows.callWith_type1 (args_cons (Call_ (ld_blt I hg2 hm2 PyProof.Rows.boot_reversed (PyProof.Rows.callWith_type1 (args_cons (thn (he.run pins s σ H _ I h) fun u s1 ⟨v, H1, I1, r1, q1⟩ => args_nil ?_) hs) hs rfl))) hs2) hs2 rfl))
  obtain ⟨a, xs, ev, hq, q⟩ := q1
  subst ev
  obtain rfl : u = Value.ref a := r1
  obtain ⟨its, rv, p', hz⟩ := I1.list hq
  refine call_reversed_list p'.isList (args_nil ?_)
  have k0 : ∀ b o, s1.heap.get? b = some o → (s1.heap.push (revObj a ((its.toArray.size : Int) - 1))).get? b = some o := fun b o e => Heap.get?_push_of_some _ e
  have I2 : Inv X pins σ H1 { s1 with heap := s1.heap.push (revObj a ((its.toArray.size : Int) - 1)) } := I1.kept (t' := s1.toks) k0
  have hf := I1.fpOk (H' := H1) (b := s1.heap.objs.size) (Nat.le_refl _) (I1.hok.fresh (Nat.le_refl _))
  have hl := p'.isList
  obtain ⟨ol, hol, _⟩ := id hl
  have hne : a ≠ s1.heap.objs.size := Nat.ne_of_lt (Heap.lt_size hol)
  have hn : its.toArray.size ≤ sizeLine := by rw [List.size_toArray, ← rv.length]; exact hz
  refine call_list_rev (s := { s1 with heap := s1.heap.push (revObj a ((its.toArray.size : Int) - 1)) }) (I1.ok.hd hc) ⟨_, Heap.get?_push_size _ rfl, rfl, rfl⟩ (hl.push _) hne hn fun h' tk acc c' hk hS hi => ?_
  refine ⟨.ref (s1.heap.push (revObj a ((its.toArray.size : Int) - 1))).objs.size, _, I2.turnedNew (ob := .lst xs.reverse) (t' := tk) (ch := [s1.heap.objs.size]) (fun b o hb e => hk b o (fun z => hb (by simp [z])) e) (fun b hb => by obtain rfl := List.mem_singleton.mp hb; exact hf) (Nat.le_refl _)
    (show ObjOk X.prog X.w _ _ _ (.lst xs.reverse) from ⟨by rw [List.length_reverse]; exact hz, acc.toList, c', vals_rev rv hi, by rw [Array.toArray_toList]; exact hS⟩), rfl, q _ (I2.hok.fresh (Nat.le_refl _))⟩
end
section
variable {X : Cx} {Ps : List Addr} {cl : XC} {W : WX} {a : Expr} {fa : Env → S → R D} {pos p p2 pos2 : Pos}
theorem e_rev (hc : X.calm = true) (hg : Gl X "list") (hm : X.mg "list" = none) (hg2 : Gl X "reversed") (hm2 : X.mg "reversed" = none) (ha : E1 X Ps cl W a fa)
    (hs : starEach [a] X.env = (false, eval a X.env) :: starEach [] X.env) :
    E1 X Ps cl W (.Call (.Name "list" p) [.Call (.Name "reversed" p2) [a] [] pos2] [] pos) fun e s => (fa e s).bind fun x s => R.opt (revOf (x.rd s)) s := by
  refine PE.imp (pe_lstRev hc hg hm hg2 hm2 ha hs) fun σ H Q ⟨ρ, e, s, g, er, p⟩ => ⟨ρ, e, s, g, er, p.bind fun d1 s1 ρ1 H1 v1 e1 o1 p => ?_⟩
  obtain ⟨d, h, p⟩ := p.opt
  have hx := Rel.rd o1.good o1.frz
  cases q : d1.rd s1 with
  | lv o xs =>
    rw [q] at h hx
    cases h
    obtain ⟨a, ws, rfl, ht, rl⟩ := hx
    exact ⟨a, ws, rfl, .of ht, fun q hq => p.newL o1.good hq rl.reverse⟩
  | _ => rw [q] at h; cases h
end
section
variable {X : Cx} {Ps : List Addr} {cl : XC} {W : WX} {a : Expr} {fa : Env → S → R D} {pos p : Pos} {x : Str} {A : Addr} {kvs : List (List Nat × D)}
theorem t_gin (neg : Bool) (hg : Gl X x) (hm : X.mg x = some (.ref A)) (hd : (x == ("__debug__" : Str)) = false) (k : KdAt X A kvs) (ha : E1 X Ps cl W a fa) :
    T1 X Ps cl W (.Compare a [if neg then .NotIn else .In] [.Name x p] pos) fun e s => (fa e s).bind fun x s => R.opt ((strOf x).map fun z => .bl (if neg then !(kvs.lookup z).isSome else (kvs.lookup z).isSome)) s := by
  obtain ⟨es, n, D, hk⟩ := k
  have key : ∀ z, ∃ r, PySem.W.nsIn X.K A (toS z) = some r ∧ r.isSome = (kvs.lookup z).isSome := fun z => by
    obtain ⟨r, h1, h2⟩ := hk z
    refine ⟨r, h1, ?_⟩
    cases q : kvs.lookup z with
    | none => rw [q] at h2; rw [h2]; rfl
    | some d => rw [q] at h2; obtain ⟨u, v, rfl, _⟩ := h2; rfl
  cases neg with
  | true =>
    refine PT.imp (pt_cmpR (op_notIn_kd D) ha (pe_glob (v := .ref A) hg hm rfl hd) rfl) fun σ H Q ⟨ρ, e, s, g, er, p⟩ => ?_
    simp only [bl, R.bind_assoc] at p
    refine ⟨ρ, e, s, g, er, p.bindD fun d1 s1 ρ1 H1 v1 e1 o1 p => ?_⟩
    obtain ⟨d, h, p⟩ := p.optb
    simp only [Option.map_eq_some_iff] at h
    obtain ⟨z, h, rfl⟩ := h
    obtain ⟨rfl, g1⟩ := strE' o1 h
    obtain ⟨r, h1, h2⟩ := key z
    exact ⟨_, r, rfl, rfl, h1, _, rfl, by rw [h2]; exact p ρ1 H1 Ext.refl g1⟩
  | false =>
    refine PT.imp (pt_cmpR (op_in_kd D) ha (pe_glob (v := .ref A) hg hm rfl hd) rfl) fun σ H Q ⟨ρ, e, s, g, er, p⟩ => ?_
    simp only [bl, R.bind_assoc] at p
    refine ⟨ρ, e, s, g, er, p.bindD fun d1 s1 ρ1 H1 v1 e1 o1 p => ?_⟩
    obtain ⟨d, h, p⟩ := p.optb
    simp only [Option.map_eq_some_iff] at h
    obtain ⟨z, h, rfl⟩ := h
    obtain ⟨rfl, g1⟩ := strE' o1 h
    obtain ⟨r, h1, h2⟩ := key z
    exact ⟨_, r, rfl, rfl, h1, _, rfl, by rw [h2]; exact p ρ1 H1 Ext.refl g1⟩
end
end L3
end

section -- IE
set_option autoImplicit false
set_option linter.all false
set_option maxRecDepth 100000
set_option maxHeartbeats 2000000
namespace L3
open PySem PySem.Spec PyProof.Rows L2
open AutoSeq1 (wpAny_loadPart')

theorem meets_enumT (l : Addr) (its : Array Value) (n : Nat) (dd : Option Addr) (sl : Array (Option Value)) :
    Meets (Builtin.«enumerate.__new__» ⟨[.type "enumerate", .ref l], []⟩) (fun _ R s => s.heap.get? l = some ⟨.type "tuple", dd, .seq its n, sl⟩ ∧
      R (.ok (.ret (.ref (s.heap.push { cls := .type "tuple_iterator", data := .fields #[.ref l, .int 0 0] }).objs.size)))
        { s with heap := (s.heap.push { cls := .type "tuple_iterator", data := .fields #[.ref l, .int 0 0] }).push { cls := .type "enumerate", data := .fields #[.none, .bool false, .ref s.heap.objs.size, rawInt 0, .none, .none] } }) :=
  .of_wp fun prog w A R s h => by
    obtain ⟨hp, g, d, tk, os⟩ := s
    obtain ⟨hl, h⟩ := h
    have hsub := sub_enumerate
    have hT : Heap.IsTuple (Shared.heap ⟨hp, g, d, tk, os⟩) l its := ⟨_, hl, rfl, n, rfl⟩
    wp_walk using wpAny_loadPart' hl
    refine wpAny_stack_any fun st => wpAny_pure ?_
    split
    · rename_i c _ _ _ _ _
      cases (c == Value.type "enumerate")
      · wp_walk using wpAny_loadPart' hl, wpAny_pyIter_tuple hT
        exact ⟨_, rfl, h⟩
      · wp_walk using wpAny_loadPart' hl, wpAny_pyIter_tuple hT
        exact ⟨_, rfl, h⟩
    · wp_walk using wpAny_loadPart' hl, wpAny_pyIter_tuple hT
      exact ⟨_, rfl, h⟩
section
variable {prog : Program} {w : World} {A : Around} {E : Value → Shared → Prop} {s : Shared}
theorem call_enumT {l : Addr} {its : Array Value} {Q : Value → Shared → Prop} (hT : s.heap.IsTuple l its)
    (h : ∀ h', IsEnum h' (s.heap.objs.size + 1) s.heap.objs.size 0 .none → h'.IsTupleIter s.heap.objs.size l 0 → (∀ b o, s.heap.get? b = some o → h'.get? b = some o) → Q (.ref (s.heap.objs.size + 1)) { s with heap := h' }) :
    wpAny (model prog w) A (call (.type "enumerate") [.ref l]) Q E s := by
  obtain ⟨⟨c, dd, dt, sl⟩, hl, hc, n, hd⟩ := hT
  have hc : c = .type "tuple" := hc
  have hd : dt = .seq its n := hd
  subst hc hd
  refine callType_new F.called_enumerate (by decide) (F.typeCall_enumerate_1 _) (F.newCall_enumerate_1 _) (fun obj => F.args_object_init_2 obj _) F.entry_enumerate_new (meets_enumT l its n dd sl) ⟨hl, ?_⟩
  have hz : (s.heap.push { cls := .type "tuple_iterator", data := .fields #[.ref l, .int 0 0] }).objs.size = s.heap.objs.size + 1 := Heap.size_push ..
  show _ ∧ _
  rw [hz]
  have he : IsEnum ((s.heap.push { cls := .type "tuple_iterator", data := .fields #[.ref l, .int 0 0] }).push { cls := .type "enumerate", data := .fields #[.none, .bool false, .ref s.heap.objs.size, rawInt 0, .none, .none] }) (s.heap.objs.size + 1) s.heap.objs.size 0 .none := by
    have := Heap.get?_push_size (s.heap.push { cls := .type "tuple_iterator", data := .fields #[.ref l, .int 0 0] }) (o := { cls := .type "enumerate", data := .fields #[.none, .bool false, .ref s.heap.objs.size, rawInt 0, .none, .none] }) rfl
    rw [hz] at this
    exact this
  exact ⟨⟨_, he, rfl⟩, h _ he ⟨_, Heap.get?_push_of_some _ (Heap.get?_push_size _ rfl), rfl, rfl⟩ fun b o x => Heap.get?_push_of_some _ (Heap.get?_push_of_some _ x)⟩
end
theorem enumT_end {A : Around} {prog : Program} {w : World} {E : Value → Shared → Prop} {s : Shared} {e it t : Addr} {i j : Int} {k : Nat} {its : Array Value} {old : Value} {Q : Option Value → Shared → Prop} (hh : A.in1.handled = none) (he : IsEnum s.heap e it j old) (hit : s.heap.IsTupleIter it t k)
    (ht : s.heap.IsTuple t its) (hx : its[k]? = none) (hQ : ∀ h', Heap.ExtBut it s.heap h' → Q none { s with heap := h' }) : wpAny (model prog w) A (pyNext (.ref e)) Q E s := by
  have ty : s.TypeIs (.ref e) "enumerate" := ⟨_, he, rfl⟩
  unfold pyNext
  refine wpAny_bind (wpAny_attempt (wpAny_callSpecial?_slot (name := Str.ofString "__next__") ty F.slot_enumerate_next (wpAny_call_entry F.slot_enumerate_next ty F.entry_enumerate_next ?_ (F.args_enumerate_next_1 _))))
  show wpAny _ _ (field (.ref e) 2 >>= _) _ _ _
  refine wpAny_bind (wpAny_field he rfl (x := .ref it) rfl ?_)
  refine wpAny_bind (wpAny_nextOf_tuple_end hh hit ht hx fun h' x eb ⟨o, ho, hc⟩ => ?_)
  exact wpAny_bind (wpAny_isInstance (T := "StopIteration") (b := true) ⟨o, ho, hc⟩ isSubtype_stop (wpAny_pure (hQ _ eb)))
theorem turn_enT {P : Program} {w : World} {K : Fr} {elts : List Expr} {kk : Nat} {tpos : Pos} (a e it : Addr) :
    Turn P w K (.Tuple elts kk tpos) (IteT K a) [e, it] e (fun i h => (∃ old, IsEnum h e it ((i : Nat) : Int) old) ∧ h.IsTupleIter it a i ∧ e ≠ it ∧ a ≠ it ∧ e ≠ a) where
  mem := by simp
  obj := fun i h st b hb => by
    obtain ⟨⟨old, he⟩, ⟨o, ho, hc, hd⟩, _⟩ := st
    rcases (show b = e ∨ b = it by simpa using hb) with rfl | rfl
    · exact ⟨_, he, fun v q => nomatch q⟩
    · exact ⟨o, ho, fun v q => by rw [hd] at q; cases q⟩
  keep := fun i h h' ⟨⟨old, he⟩, hi, hne⟩ k => ⟨⟨old, k e (by simp) _ he⟩, hi.at fun o q => k it (by simp) o q, hne⟩
  item := by
    intro X hP hw hK hc i pins s σ H E I hf ⟨⟨old, he⟩, hit, hne, hai, hea⟩ ⟨xs, x, hq, hx⟩
    subst hP hw hK
    obtain ⟨its, rv, p, hz⟩ := I.tuple hq
    obtain ⟨u, hu, ru⟩ := rv.get hx
    have hel : e < s.heap.objs.size := Heap.lt_size he
    have hil : it < s.heap.objs.size := by obtain ⟨_, q, _⟩ := id hit; exact Heap.lt_size q
    have pt : s.heap.IsTuple a its.toArray := p
    have hlt : i < its.toArray.size := by
      have := (List.getElem?_eq_some_iff.mp hu).1
      simpa using this
    refine wpAny_pyNext_enum_itemD (Draws.tuple (A := X.A.in1) (I.ok.hd hc) it a hai its.toArray) he ⟨hit, pt⟩ hlt hne (by simp; exact ⟨hne, hea⟩) fun v h' tk hv ho hst hT hsz hk => ?_
    have ev : v = u := by
      have : its.toArray[i]? = some u := by simpa using hu
      exact Option.some.inj (hv.symm.trans this)
    subst ev
    refine ⟨_, rfl, wpAny_letOwnedTupleGo_enum (s := { s with heap := h', toks := tk + 1 }) ho fun h'' he' sb => ?_⟩
    have hT2 : h''.get? s.heap.objs.size = some { cls := .type "tuple", data := .seq #[.int i tk, v] } := (sb.2 _ (Nat.ne_of_gt hel)).trans hT
    have new : ObjOk X.prog X.w (upd H s.heap.objs.size (.tup [.int (i : Nat), x])) h'' s.heap.objs.size (.tup [.int (i : Nat), x]) :=
      ⟨by show 2 ≤ sizeLine; decide, [.int i tk, v], .cons ⟨_, rfl⟩ (.cons ru .nil), ⟨_, hT2, rfl, _, rfl⟩⟩
    have I1 : Inv X pins σ (upd H s.heap.objs.size (.tup [.int (i : Nat), x])) { s with heap := h'', toks := tk + 1 } :=
      I.turnedNew (ch := [e, it]) (fun b ob hb q => (sb.2 b (fun z => hb (by simp [z]))).trans (hk b ob (fun z => hb (by simp [z])) (fun z => hb (by simp [z])) q)) hf (Nat.le_refl _) new
    refine ⟨.ref s.heap.objs.size, _, I1, rfl, ⟨_, x, rfl, I.hok.fresh (Nat.le_refl _), rfl, fun ys hy => by rw [I.tuple_inj hy hq]; exact hx⟩, ⟨⟨v, ?_⟩, hst.1.at fun o q => (sb.2 it (Ne.symm hne)).trans q, hne, hai, hea⟩, fun b hb => ?_⟩
    · rw [show ((i + 1 : Nat) : Int) = (i : Int) + 1 by omega]
      exact he'
    · have hb' : b < s.heap.objs.size := by rcases (show b = e ∨ b = it by simpa using hb) with rfl | rfl <;> assumption
      rw [upd_ne (Nat.ne_of_lt hb')]
      exact (hf b hb).1
  done := by
    intro X hP hw hK hc i pins s σ H E I hf ⟨⟨old, he⟩, hit, hne, hai, hea⟩ ⟨xs, hq, hx⟩
    subst hP hw hK
    obtain ⟨its, rv, p, hz⟩ := I.tuple hq
    have pt : s.heap.IsTuple a its.toArray := p
    obtain ⟨f0, f1, f2, f3, f4, f5⟩ := hf it (by simp)
    have hl := rv.length
    exact enumT_end (i := 0) (I.ok.hd hc) he hit pt (by simp; omega) fun h' eb => ⟨rfl, I.turned (t' := s.toks) (fun b o hb q => eb b o hb q) f0 f1 f3 f4 f5⟩
  self := fun A i s Q E st h => let ⟨⟨_, he⟩, _⟩ := st; wpAny_pyIter_enum he h
def iEnum2 (K : Fr) (ta : TA) : TI := fun σ H R => ta σ H fun vs H1 => ∃ a, vs = [.ref a] ∧ (((∃ xs, SqL K H1 a xs) ∧ R (Ite K a) H1) ∨ ((∃ xs, SqT K H1 a xs) ∧ R (IteT K a) H1))
theorem pi_enum2 {X : Cx} {e : Expr} {ta : TA} {p pos tpos : Pos} {elts : List Expr} {kk : Nat} (hg : Gl X "enumerate") (hm : X.mg "enumerate" = none) (ha : PA X [e] ta) (hs : starEach [e] X.env = [(false, eval e X.env)]) :
    PI X (.Tuple elts kk tpos) (.Call (.Name "enumerate" p) [e] [] pos) (iEnum2 X.K ta) := by
  refine ⟨fun pins s σ H R I h => ?_⟩
  refine Call_ (ld_blt I hg hm boot_enumerate (PyProof.Rows.callWith_type1 (thn (ha.run pos pins s σ H _ I h) fun us s1 ⟨vs, H1, I1, r1, a, ex, q⟩ => ?_) hs rfl))
  subst ex
  cases r1 with
  | cons r rr =>
    cases rr
    cases r
    have two : ∀ b, b = s1.heap.objs.size + 1 ∨ b = s1.heap.objs.size → s1.heap.objs.size ≤ b := fun b hb => by rcases hb with rfl | rfl <;> first | exact Nat.le_add_right _ _ | exact Nat.le_refl _
    rcases q with ⟨⟨xs, hq⟩, q⟩ | ⟨⟨xs, hq⟩, q⟩
    · obtain ⟨its, rv, pl, hz⟩ := I1.list hq
      refine call_enumerate_list pl.isList fun h' he hit hsz hk => wpAny_pyIter_enum he ?_
      exact ⟨_, [s1.heap.objs.size + 1, s1.heap.objs.size], _, _, H1, rfl, I1.kept (t' := s1.toks) hk, turn_enum a (s1.heap.objs.size + 1) s1.heap.objs.size, ⟨⟨.none, he⟩, hit, Nat.succ_ne_self _⟩, fun b hb => I1.fpOk (two b (by simpa using hb)) (I1.hok.fresh (two b (by simpa using hb))), q⟩
    · obtain ⟨its, rv, pt, hz⟩ := I1.tuple hq
      have hlt : a < s1.heap.objs.size := by obtain ⟨o, ho, _⟩ := (show s1.heap.IsTuple a its.toArray from pt); exact Heap.lt_size ho
      refine call_enumT (show s1.heap.IsTuple a its.toArray from pt) fun h' he hit hk => wpAny_pyIter_enum he ?_
      exact ⟨_, [s1.heap.objs.size + 1, s1.heap.objs.size], _, _, H1, rfl, I1.kept (t' := s1.toks) hk, turn_enT a (s1.heap.objs.size + 1) s1.heap.objs.size, ⟨⟨.none, he⟩, hit, Nat.succ_ne_self _, Nat.ne_of_lt hlt, Nat.ne_of_gt (Nat.lt_succ_of_lt hlt)⟩, fun b hb => I1.fpOk (two b (by simpa using hb)) (I1.hok.fresh (two b (by simpa using hb))), q⟩
section
variable {X : Cx} {Ps : List Addr} {cl : XC} {W : WX} {a : Expr} {fa : Env → S → R D} {pos p tpos : Pos} {elts : List Expr} {kk : Nat}
theorem i_enum (hg : Gl X "enumerate") (hm : X.mg "enumerate" = none) (ha : E1 X Ps cl W a fa) (hs : starEach [a] X.env = [(false, eval a X.env)]) :
    I1 X Ps cl W (.Tuple elts kk tpos) (.Call (.Name "enumerate" p) [a] [] pos) fun e s => (fa e s).bind fun x s => R.opt (enumOf x) s := by
  refine PI.imp (pi_enum2 hg hm (a_cons ha a_nil hs) hs) fun σ H Q ⟨ρ, e, s, g, er, p⟩ => ?_
  refine ⟨ρ, e, s, g, er, ?_⟩
  dsimp only at p ⊢
  cases q : fa e s with
  | bad => rw [q] at p; exact p
  | exc c s' => rw [q] at p; exact p
  | ok x s1 =>
    rw [q] at p
    simp only [R.bind_ok] at p ⊢
    obtain ⟨it, h, p⟩ := p.opt
    intro ρ' H' e1 vs g1 r1
    obtain ⟨v, rfl, r⟩ := r1.one
    cases x with
    | tup xs =>
      cases h
      cases id r with
      | tup h2 _ => exact ⟨_, rfl, .inr ⟨⟨_, h2.sq⟩, p ρ' H' e1 _ g1 (.enT r)⟩⟩
    | lv o xs =>
      cases h
      have r' : Rel X.K ρ' s1.n none H' (.lv false xs) v := r
      cases id r' with
      | lv h1 h2 h3 h4 _ => exact ⟨_, rfl, .inl ⟨⟨_, .of h1⟩, p ρ' H' e1 _ g1 (.enL r')⟩⟩
    | _ => simp [enumOf] at h
end
end L3
end

section -- IM
set_option autoImplicit false
set_option linter.all false
set_option maxRecDepth 100000
set_option maxHeartbeats 2000000
namespace L3
open PySem PySem.Spec PyProof.Rows L2

theorem args_maxD (a d : Value) : argsOk "max" ⟨[a], [("default", d)]⟩ := by unfold argsOk; kernel_rfl
section
variable {prog : Program} {w : World} {A : Around} {R : Result → Shared → Prop} {I : Addr} {fp wr : List Addr} {n : Nat} {P : Nat → Value → Prop} {St : Nat → Heap → Prop} {dv : Value}
theorem maxD_loop (W : Walks prog w A.in1 I fp wr n P St) (bt : Nat → Nat → Bool) (hc : CmpOf prog w A.in1 .Gt P bt) (B : Addr) (hB : B ∉ fp) :
    ∀ (k j : Nat) (s : Shared) (v0 : Value) (c : Nat), n - (j + 1) = k → j + 1 ≤ n → St (j + 1) s.heap → P (argBest bt j) v0 → s.heap.get? B = some ⟨.type "list", none, .seq #[v0, v0] c, #[]⟩ →
    (∀ v h' tk, P (argBest bt (n - 1)) v → (∀ b o, b ∉ wr → b ≠ B → s.heap.get? b = some o → h'.get? b = some o) → R (.ok (.ret v)) { s with heap := h', toks := tk }) →
    codeAny (model prog w) A (.builtin "max.loop" ⟨[.ref I, .none, .ref B], [("default", dv)]⟩) R s := by
  have nw : B ∉ wr := fun h => hB (W.sub _ h)
  have nm : (toString "max" ++ toString ".loop" : String) = "max.loop" := by decide
  intro k
  induction k with
  | zero =>
    intro j s v0 c hk hj st p0 e0 q
    have hn : j + 1 = n := by omega
    refine codeAny_builtin F.entry_max_loop ?_
    rw [Around.under_plainId F.plain_max_loop _]
    show wpAny _ A.in1 (seqItems? (.ref B) >>= _) _ _ s
    refine wpAny_bind (wpAny_seqItems e0 rfl ?_)
    show wpAny _ A.in1 (tryCatch (pyNext (.ref I)) _ >>= _) _ _ s
    refine wpAny_bind (wpAny_tryCatch (W.done s _ _ (hn ▸ st) fun h1 tk k1 => ?_))
    have e1 := k1 B _ nw e0
    show wpAny _ A.in1 (updateSeq B (fun _ => #[]) >>= _) _ _ _
    refine wpAny_bind (wpAny_updateSeq e1 rfl (wpAny_bind (wpAny_letGo (wpAny_pure ?_))))
    exact q v0 _ tk (by rw [← hn]; exact p0) fun b o hb1 hb2 e => (Heap.get?_update_other _ _ (Ne.symm hb2)).trans (k1 b o hb1 e)
  | succ k ih =>
    intro j s v0 c hk hj st p0 e0 q
    have hn : j + 1 < n := by omega
    refine codeAny_builtin F.entry_max_loop ?_
    rw [Around.under_plainId F.plain_max_loop _]
    show wpAny _ A.in1 (seqItems? (.ref B) >>= _) _ _ s
    refine wpAny_bind (wpAny_seqItems e0 rfl ?_)
    show wpAny _ A.in1 (tryCatch (pyNext (.ref I)) _ >>= _) _ _ s
    refine wpAny_bind (wpAny_tryCatch (W.item (j + 1) s _ _ hn st fun v h1 tk p1 st1 k1 => ?_))
    have e1 := k1 B _ nw e0
    show wpAny _ A.in1 (tryCatch (holding [v, v] (richCompare .Gt v v0 >>= _)) _ >>= _) _ _ _
    refine wpAny_bind (wpAny_tryCatch (wpAny_holding (wpAny_bind (hc (j + 1) (argBest bt j) v v0 _ _ _ p1 p0 (wpAny_bind (wpAny_holding (wpAny_truthy_bool (wpAny_bind (wpAny_letGo (wpAny_pure ?_))))))))))
    cases hb : bt (j + 1) (argBest bt j) with
    | true =>
      simp only [if_true]
      refine wpAny_bind (wpAny_updateSeq e1 rfl (wpAny_bind (wpAny_letGo ?_)))
      rw [nm]
      refine wpAny_pure ⟨plainId_quiet F.plain_max_loop _, ih (j + 1) _ v _ (by omega) hn (W.frame _ _ _ st1 fun b hbf o e => (Heap.get?_update_other _ _ (fun h : B = b => hB (h ▸ hbf))).trans e) (by simp only [argBest, hb, if_true]; exact p1) (Heap.get?_update_self _ e1 rfl) fun v' h2 tk2 p2 k2 => ?_⟩
      exact q v' h2 tk2 p2 fun b o hb1 hb2 e => k2 b o hb1 hb2 ((Heap.get?_update_other _ _ (Ne.symm hb2)).trans (k1 b o hb1 e))
    | false =>
      simp only [Bool.false_eq_true, if_false]
      refine wpAny_bind (wpAny_letGo ?_)
      rw [nm]
      refine wpAny_pure ⟨plainId_quiet F.plain_max_loop _, ih (j + 1) _ v0 c (by omega) hn st1 (by simp only [argBest, hb, Bool.false_eq_true, if_false]; exact p0) e1 fun v' h2 tk2 p2 k2 => ?_⟩
      exact q v' h2 tk2 p2 fun b o hb1 hb2 e => k2 b o hb1 hb2 (k1 b o hb1 e)
/-- the first turn; nothing to go over -/
theorem maxD_first (W : Walks prog w A.in1 I fp wr n P St) (bt : Nat → Nat → Bool) (hc : CmpOf prog w A.in1 .Gt P bt) (B : Addr) (hB : B ∉ fp) {s : Shared} {c : Nat} (st : St 0 s.heap) (e0 : s.heap.get? B = some ⟨.type "list", none, .seq #[] c, #[]⟩)
    (q : ∀ v h' tk, (0 < n → P (argBest bt (n - 1)) v) → (n = 0 → v = dv) → (∀ b o, b ∉ wr → b ≠ B → s.heap.get? b = some o → h'.get? b = some o) → R (.ok (.ret v)) { s with heap := h', toks := tk }) :
    codeAny (model prog w) A (.builtin "max.loop" ⟨[.ref I, .none, .ref B], [("default", dv)]⟩) R s := by
  have nw : B ∉ wr := fun h => hB (W.sub _ h)
  have nm : (toString "max" ++ toString ".loop" : String) = "max.loop" := by decide
  refine codeAny_builtin F.entry_max_loop ?_
  rw [Around.under_plainId F.plain_max_loop _]
  show wpAny _ A.in1 (seqItems? (.ref B) >>= _) _ _ s
  refine wpAny_bind (wpAny_seqItems e0 rfl ?_)
  show wpAny _ A.in1 (tryCatch (pyNext (.ref I)) _ >>= _) _ _ s
  rcases Nat.eq_zero_or_pos n with hn | hn
  · refine wpAny_bind (wpAny_tryCatch (W.done s _ _ (by rw [hn]; exact st) fun h1 tk k1 => ?_))
    refine wpAny_bind (wpAny_rule ?_)
    refine wpAny_pure ?_
    exact q dv _ tk (fun h => absurd h (by omega)) (fun _ => rfl) fun b o hb1 hb2 e => k1 b o hb1 e
  · refine wpAny_bind (wpAny_tryCatch (W.item 0 s _ _ hn st fun v h1 tk p1 st1 k1 => ?_))
    have e1 := k1 B _ nw e0
    show wpAny _ A.in1 (updateSeq B (fun _ => #[v, v]) >>= _) _ _ _
    refine wpAny_bind (wpAny_updateSeq e1 rfl ?_)
    rw [nm]
    refine wpAny_pure ⟨plainId_quiet F.plain_max_loop _, maxD_loop W bt hc B hB _ 0 _ v _ rfl hn (W.frame _ _ _ st1 fun b hbf o e => (Heap.get?_update_other _ _ (fun h : B = b => hB (h ▸ hbf))).trans e) p1 (Heap.get?_update_self _ e1 rfl) fun v' h2 tk2 p2 k2 => ?_⟩
    exact q v' h2 tk2 (fun _ => p2) (fun h => absurd h (by omega)) fun b o hb1 hb2 e => k2 b o hb1 hb2 ((Heap.get?_update_other _ _ (Ne.symm hb2)).trans (k1 b o hb1 e))
end
section
variable {prog : Program} {w : World} {A : Around} {E : Value → Shared → Prop} {s : Shared} {l : Addr} {its : List Value} {ns : List Int} {dv : Value}
theorem maxD_raw {Q : Value → Shared → Prop} (hh : A.handled = none) (hl : s.heap.IsList l its.toArray) (hi : IntsAre its ns)
    (h : ∀ h' tk v, (∀ b o, s.heap.get? b = some o → h'.get? b = some o) → (ns = [] ∧ v = dv ∨ ∃ M t', v = .int M t' ∧ M ∈ ns ∧ ∀ a, a ∈ ns → a ≤ M) → Q v { s with heap := h', toks := tk }) : wpAny (model prog w) A (call (.builtin "max") [.ref l] [("default", dv)]) Q E s := by
  obtain ⟨xs, e⟩ := hi.allInts.items
  have hn : numsOf (intItems xs).toList = ns := by rw [← e]; exact hi.numsOf
  rw [nums_intItems] at hn
  subst hn
  rw [e] at hl
  refine wpAny_call (codeAny_call_builtin F.plain_max F.entry_max ?_)
  have go : wpAny (model prog w) A.in1 (Builtin.«max» ⟨[.ref l], [("default", dv)]⟩) (fun fin s' => match fin with
      | .done f => (match (Except.ok f : Result) with | .ok (.ret v) => Q v s' | .ok _ => False | .error e => E e s')
      | .again c' => c'.quiet = true ∧ codeAny (model prog w) A c' (fun r s' => match r with | .ok (.ret v) => Q v s' | .ok _ => False | .error e => E e s') s') E s := by
    have nm : (toString "max" ++ toString ".loop" : String) = "max.loop" := by decide
    show wpAny _ A.in1 (Builtin.Builtins.bindParams "max" ["key", "default"] 0 ⟨[], [("default", dv)]⟩ >>= _) _ _ s
    refine wpAny_bind (wpAny_of_eq (show Builtin.Builtins.bindParams "max" ["key", "default"] 0 ⟨[], [("default", dv)]⟩ = pure [none, some dv] from rfl) ?_)
    refine wpAny_bind (wpAny_pure (wpAny_bind (iter_intList hl fun s2 e2 st hfp hlI => ?_)))
    subst e2
    refine wpAny_bind (wpAny_newObj_type ?_ (by size_fits))
    rw [nm]
    have hSf : (s.heap.push { cls := .type "list_iterator", data := .fields #[.ref l, .int 0 0] }).objs.size ∉ [s.heap.objs.size, l] := fun hm => Nat.lt_irrefl _ (hfp _ hm)
    have W := Walks.list (prog := prog) (w := w) (A := A.in1) hh s.heap.objs.size l hlI (intItems xs)
    refine wpAny_pure ⟨plainId_quiet F.plain_max_loop _, maxD_first W _ (CmpOf.ints_gt (numAt xs) (fun _ _ => intItems_at)) _ hSf (W.frame _ _ _ st fun b _ o e => Heap.get?_push_of_some _ e) (Heap.get?_push_size _ rfl) fun v h' tk hv hz hk => ?_⟩
    have hsz : (intItems xs).size = xs.size := by simp [intItems]
    rw [hsz] at hv hz
    refine h h' tk v (fun b o e => ?_) ?_
    · refine hk b o (fun hm => ?_) (fun hb => ?_) (Heap.get?_push_of_some _ (Heap.get?_push_of_some _ e))
      · rcases List.mem_cons.mp hm with e1 | hm
        · exact absurd (e1 ▸ Heap.lt_size e) (Nat.lt_irrefl _)
        · cases hm
      · exact Nat.ne_of_lt (Heap.lt_size (Heap.get?_push_of_some _ e)) hb
    · rcases Nat.eq_zero_or_pos xs.size with h0 | h0
      · refine .inl ⟨?_, hz h0⟩
        have : xs = #[] := Array.eq_empty_of_size_eq_zero h0
        rw [this]; rfl
      · obtain ⟨t, rfl⟩ := intItems_at (hv h0)
        obtain ⟨h1, h2⟩ := argBest_gt (numAt xs) (xs.size - 1)
        refine .inr ⟨_, t, rfl, ?_, fun a ha => ?_⟩
        · rw [numAt_eq]; exact PySem.getD_mem (by rw [List.length_map, Array.length_toList]; omega)
        · obtain ⟨j, hj, rfl⟩ := PySem.mem_getD ha
          rw [List.length_map, Array.length_toList] at hj
          rw [← numAt_eq]; exact h2 j (by omega)
  simp only [checkBuiltinCall, F.kind_max]
  cases hsig : Manifest.signature? "max" with
  | none => exact wpAny_pure go
  | some sig =>
    have ha := args_maxD (.ref l) dv
    simp only [argsOk, hsig] at ha
    show wpAny _ A.in1 (Bind.checkArgs "max" sig ⟨[.ref l], [("default", dv)]⟩) _ _ s
    rw [ha]
    exact wpAny_pure go
end
section
variable {X : Cx}
def rMaxD (K : Fr) : List V → List V → Hp → VK → Prop := fun xs zs H Q => ∃ (a : Addr) (ns : List Int) (d : V), xs = [V.ref a] ∧ zs = [d] ∧ SqL K H a (ns.map V.int) ∧ (ns = [] → Q d H) ∧ ∀ m, m ∈ ns → (∀ y, y ∈ ns → y ≤ m) → Q (.int m) H
theorem cr_maxD (hc : X.calm = true) : CallRK X (.builtin "max") [Str.ofString "default"] (rMaxD X.K) := by
  intro pins s σ H xs zs us ws Q I r1 r2 ⟨a, ns, d, e1, e2, hs, q0, q⟩
  subst e1 e2
  obtain ⟨its, rv, hl, _⟩ := I.list hs
  cases r2 with
  | cons rd rr =>
    cases rr
    rename_i dv
    rw [Vals.ref1 r1]
    refine maxD_raw (dv := dv) (I.ok.hd hc) hl.isList rv.ints fun h' tk v hk hv => ?_
    rcases hv with ⟨e, rfl⟩ | ⟨M, t', rfl, hM, hm⟩
    · exact ⟨d, H, I.kept hk, rd, q0 e⟩
    · exact ⟨.int _, H, I.kept hk, ⟨_, rfl⟩, q M hM hm⟩
variable {Ps : List Addr} {cl : XC} {W : WX} {a : Expr} {fa : Env → S → R D} {pos p kp cp : Pos} {k : Int} {j : Nat}
theorem e_maxd (hc : X.calm = true) (hg : Gl X "max") (hm : X.mg "max" = none) (ha : E1 X Ps cl W a fa) (hs : starEach [a] X.env = [(false, eval a X.env)]) :
    E1 X Ps cl W (.Call (.Name "max" p) [a] [⟨some "default", .Constant (.int k) j cp, kp⟩] pos) fun e s => (fa e s).bind fun x s => R.opt (maxdOf (x.rd s) k) s := by
  refine PE.imp (pe_callBK (cr_maxD hc) hg hm (show bootBuiltins ("max" : Str) = some (.builtin "max") by decide +kernel) (a_cons ha a_nil hs) (pk_cons (pe_int (i := k)) pk_nil) (by decide) (by decide) (by rw [hs]; rfl) (by rw [hs]; rfl) rfl rfl rfl) fun σ H Q ⟨ρ, e, s, g, er, p⟩ => ?_
  refine ⟨ρ, e, s, g, er, ?_⟩
  dsimp only at p ⊢
  cases q : fa e s with
  | bad => rw [q] at p; exact p
  | exc c s' => rw [q] at p; exact p
  | ok x s1 =>
    rw [q] at p
    simp only [R.bind_ok] at p ⊢
    obtain ⟨d, h, p⟩ := p.opt
    intro ρ' H' e1 vs g1 r1
    obtain ⟨v, rfl, r⟩ := r1.one
    have hx := Rel.rd g1 r
    cases q2 : x.rd s1 with
    | lv o xs =>
      rw [q2] at h hx
      simp only [maxdOf, Option.map_eq_some_iff] at h
      obtain ⟨ns, hn, rfl⟩ := h
      obtain ⟨a, ws, rfl, ht, rl⟩ := hx
      have := intsOf_map hn rl
      subst this
      refine ⟨a, ns, .int k, rfl, rfl, .of ht, fun e0 => ?_, fun m hm hy => ?_⟩
      · subst e0
        exact p ρ' H' _ e1 (.of (by simp) g1 (.int _))
      · cases q3 : maxI ns with
        | none => cases ns with
          | nil => cases hm
          | cons x r => simp [maxI] at q3
        | some M =>
          obtain ⟨_, h2⟩ := maxI_of q3
          rw [q3] at p
          rw [h2 m hm hy]
          exact p ρ' H' _ e1 (.of (by simp) g1 (.int _))
    | _ => rw [q2] at h; simp [maxdOf] at h
end
end L3
end

section -- ID
set_option autoImplicit false
set_option linter.all false
set_option maxRecDepth 100000
set_option maxHeartbeats 2000000
namespace L3
open PySem PySem.Spec PyProof.Rows L2
section
variable {X : Cx} {o e : Expr} {apos cpos : Pos} {ty : TE} {d : Addr} {es : Array DictEntry} {n : Nat}
theorem pe_kget (D : KDict X.K X.w d es n) (ho : PE X o (tC (.ref d))) (he : PE X e ty) (m : M1 X o "get" apos e cpos) : PE X (.Call (.Attribute o "get" apos) [e] [] cpos)
    (fun σ H Q => ty σ H fun y H2 => ∃ z r, y = .str z ∧ PySem.W.nsIn X.K d z = some r ∧ ∃ v, RelV v (r.getD .none) ∧ Q v H2) := by
  refine ⟨fun pins s σ H Q I h => ?_⟩
  refine wpAny_Call_method m.base m.few m.line PySem.F.plainAttrs_dict PySem.F.slot_dict_get PySem.F.type_dict_get (thn (ho.run pins s σ H (fun x H1 => x = .ref d ∧ H1 = H) I ⟨rfl, rfl⟩) fun u s1 ⟨x, H1, I1, rx, ex, eh⟩ => ?_)
  subst ex eh
  obtain rfl : u = Value.ref d := rx
  have hm := PySem.W.mapOf_K (prog := X.prog) (w := X.w) I1.kIn D.at_ D.lit
  refine ⟨hm.typeIs, fun b q => ?_, ?_⟩
  · cases q
    exact ⟨_, I1.kIn _ _ D.at_, rfl⟩
  rw [m.trees]
  refine Calls.callWith_builtin rfl (Calls.evalArgs_plain (Calls.spliced_cons (thn (he.run pins s1 σ H1 _ I1 h) fun iv s2 ⟨y, H2, I2, ry, z, r, ey, hr, v, rv, q2⟩ => Calls.spliced_nil ?_)))
  subst ey
  obtain ⟨t, rfl⟩ := ry
  have hm2 := PySem.W.mapOf_K (prog := X.prog) (w := X.w) I2.kIn D.at_ D.lit
  refine call_meetsIn PySem.F.slot_dict_get hm2.typeIs PySem.F.entry_dict_get (PySem.F.args_dict_get_2 _ _) (meets_dict_get (strKind X.prog X.w) d (strKind_is X.prog X.w z t) D.low) ⟨_, hm2, ?_⟩
  rw [PySem.W.find_K D.at_ hr]
  exact ⟨v, H2, I2.tok _, rv, q2⟩
end
section
variable {X : Cx} {Ps : List Addr} {cl : XC} {W : WX} {a b : Expr} {fa fb : Env → S → R D} {pos p apos : Pos} {x : Str} {A : Addr} {kvs : List (List Nat × D)}
theorem e_kget (hg : Gl X x) (hm : X.mg x = some (.ref A)) (hd : (x == ("__debug__" : Str)) = false) (k : KdAt X A kvs) (ha : E1 X Ps cl W a fa) (m : M1 X (.Name x p) "get" apos a pos) :
    E1 X Ps cl W (.Call (.Attribute (.Name x p) "get" apos) [a] [] pos) fun e s => (fa e s).bind fun x s => R.opt ((strOf x).map fun z => (kvs.lookup z).getD .non) s := by
  obtain ⟨es, n, D, hk⟩ := k
  refine PE.imp (pe_kget D (pe_glob (v := .ref A) hg hm rfl hd) ha m) fun σ H Q ⟨ρ, e, s, g, er, p⟩ => ⟨ρ, e, s, g, er, p.bind fun d1 s1 ρ1 H1 v1 e1 o1 p => ?_⟩
  obtain ⟨d, h, p⟩ := p.opt
  simp only [Option.map_eq_some_iff] at h
  obtain ⟨z, h, rfl⟩ := h
  obtain ⟨rfl, g1⟩ := strE' o1 h
  obtain ⟨r, h1, h2⟩ := hk z
  refine ⟨_, r, rfl, h1, ?_⟩
  cases q : kvs.lookup z with
  | none =>
    rw [q] at h2 p
    subst h2
    exact ⟨.non, rfl, p.val g1 (by simp) .non⟩
  | some d =>
    rw [q] at h2 p
    obtain ⟨u, v, rfl, h3, h4, h5⟩ := h2
    exact ⟨v, h3, p.val g1 h4 (h5 _ _ _)⟩

/-- constants that may stand in a display -/
def conKV (k : Ky) (d : D) (ke : Option Expr) (ve : Expr) : Prop := ∃ kx, ke = some kx ∧ PE X kx (tC (kV (toK k))) ∧ ∃ v, PE X ve (tC v) ∧ (∀ xs, d ≠ .lv true xs) ∧ ∀ ρ n y H, Rel X.K ρ n y H d v
inductive DConst (X : Cx) : List Ky → List D → List (Option Expr) → List Expr → Prop where
  | nil : DConst X [] [] [] []
  | cons {k : Ky} {d : D} {ke : Option Expr} {ve : Expr} {ks : List Ky} {ds : List D} {kes : List (Option Expr)} {ves : List Expr} : conKV (X := X) k d ke ve → DConst X ks ds kes ves → DConst X (k :: ks) (d :: ds) (ke :: kes) (ve :: ves)
theorem DConst.run {pos : Pos} : ∀ {ks : List Ky} {ds : List D} {kes : List (Option Expr)} {ves : List Expr}, DConst X ks ds kes ves → ks.length = ds.length ∧ kes.length = ks.length ∧ ves.length = ks.length ∧ kes.all (·.isSome) = true ∧
    ∃ (trs : List (TE × TE)) (vs : List V), PPs X pos kes ves trs ∧ (∀ ρ n y H, RelL X.K ρ n y H ds vs) ∧ vs.length = ks.length ∧ ∀ σ H (Q : List (V × V) → Hp → Prop), Q (((ks.map toK).zip vs).map fun kv => (kV kv.1, kv.2)) H → tPairs trs σ H Q
  | _, _, _, _, .nil => ⟨rfl, rfl, rfl, rfl, [], [], pps_nil, fun _ _ _ _ => .nil, rfl, fun _ _ _ h => h⟩
  | _, _, _, _, .cons (k := k) (d := d) ⟨kx, rfl, hk, v, hv, hd, hr⟩ t => by
    obtain ⟨h1, h2, h3, h4, trs, vs, h5, h6, h7, h8⟩ := DConst.run (pos := pos) t
    refine ⟨by simp [h1], by simp [h2], by simp [h3], by simpa using h4, (tC _, tC _) :: trs, v :: vs, pps_cons hk hv h5, fun ρ n y H => .cons (hr _ _ _ _) (h6 _ _ _ _), by simp [h7], fun σ H Q q => ?_⟩
    exact h8 σ H _ q
theorem mergeK_nodup : ∀ (more kvs : List (L2.Key × V)), ((kvs ++ more).map (·.1)).Nodup → mergeK kvs more = kvs ++ more
  | [], kvs, _ => by simp [mergeK]
  | q :: r, kvs, h => by
    show mergeK (putK kvs q.1 q.2) r = _
    have hn : (kvs.any fun kv => decide (kv.1 = q.1)) = false := by
      rw [List.any_eq_false]
      intro x hx
      simp only [decide_eq_true_eq]
      intro e
      rw [List.map_append, List.nodup_append] at h
      exact h.2.2 _ (List.mem_map_of_mem hx) _ (by simp) e
    have hp : putK kvs q.1 q.2 = kvs ++ [q] := by
      unfold putK
      rw [if_neg (by rw [hn]; simp)]
    rw [hp, mergeK_nodup r (kvs ++ [q]) (by simpa using h)]
    simp
theorem toK_inj {a b : Ky} (h : toK a = toK b) : a = b := by
  cases a <;> cases b <;> simp_all [toK, toS]
theorem nodup_toK {ks : List Ky} (h : ks.Nodup) : (ks.map toK).Nodup := by
  rw [List.nodup_iff_pairwise_ne] at *
  rw [List.pairwise_map]
  exact h.imp fun hab e => hab (toK_inj e)
theorem map_fst_zip {α β : Type} : ∀ {as : List α} {bs : List β}, as.length = bs.length → (as.zip bs).map (·.1) = as
  | [], [], _ => rfl
  | a :: as, b :: bs, h => by simp at h; simp [map_fst_zip h]
theorem e_dct {ks : List Ky} {ds : List D} {kes : List (Option Expr)} {ves : List Expr} (h : DConst X ks ds kes ves) (hnd : ks.Nodup) (h0 : kes ≠ []) (h15 : kes.length ≤ 15) :
    E1 X Ps cl W (.Dict kes ves pos) fun _ s => .ok (.ref s.cells.length) ⟨s.cells ++ [.dct ks ds], s.base, s.up⟩ := by
  obtain ⟨h1, h2, h3, h4, trs, vs, h5, h6, h7, h8⟩ := DConst.run (pos := pos) h
  refine PE.imp (pe_disp h5 h4 (by omega) h0 h15) fun σ H Q ⟨ρ, e, s, g, er, p⟩ => ?_
  intro a ha
  refine h8 _ _ _ ⟨upd_same, (ks.map toK).zip vs, rfl, by simp; omega, ?_⟩
  have hl : (ks.map toK).length = vs.length := by simp [h7]
  rw [mergeK_nodup _ [] (by rw [List.nil_append, map_fst_zip hl]; exact nodup_toK hnd), List.nil_append, upd_upd]
  have hne : ∀ i, i < s.n → ρ i ≠ a := fun i hi => by
    obtain ⟨us, q, _⟩ := g.lst hi
    exact ne_of_none q ha
  have hx : Ext X.K ρ H s ρ (upd H a (.dK ((ks.map toK).zip vs))) s := Ext.new ha
  have g1 : Good X.K Ps ρ none (upd H a (.dK ((ks.map toK).zip vs))) s := g.new ha
  have hy : ∀ b, some a = some b → H b = none := fun b e => by cases e; exact ha
  have avL : ∀ {d : List D} {v : List V}, RelL X.K ρ s.n none H d v → RelL X.K ρ s.n (some a) (upd H a (.dK ((ks.map toK).zip vs))) d v := fun {d v} r => (r.avoid hy).map (fun i hi => ⟨hi, rfl⟩) (fun _ _ h => TpK.ext g hx h) (fun _ _ h => ScrAt.ext g hx h) fun b us q1 q2 q3 q4 => ⟨by rw [upd_ne (ne_of_none q1 ha)]; exact q1, q2, q3, q4⟩
  have g2 : Good X.K Ps ρ (some a) (upd H a (.dK ((ks.map toK).zip vs))) s := by
    refine ⟨g1.inj, fun i o e => ?_, g1.clean, g1.bl, g1.tb, g1.xt⟩
    have q := g.cell i o e
    have hi : i < s.n := (List.getElem?_eq_some_iff.mp e).1
    cases o with
    | lst xs =>
      obtain ⟨us, q1, q2⟩ := q
      exact ⟨us, by rw [upd_ne (hne i hi)]; exact q1, avL q2⟩
    | dct ks xs =>
      obtain ⟨us, q1, q3, q2⟩ := q
      exact ⟨us, by rw [upd_ne (hne i hi)]; exact q1, q3, avL q2⟩
    | dtp ks xs =>
      obtain ⟨us, q1, q3, q2⟩ := q
      exact ⟨us, by rw [upd_ne (hne i hi)]; exact q1, q3, avL q2⟩
  obtain ⟨ρ2, e2, g3, r3⟩ := new_cell (o := .dct ks ds) hx ha hne (fun q => g.xt a q ha) g2 ⟨vs, upd_same, h1, h6 _ _ _ _⟩
  have p : ∀ ρ' H' v, Ext X.K ρ H s ρ' H' ⟨s.cells ++ [.dct ks ds], s.base, s.up⟩ → OkR X.K Ps H ρ' H' ⟨s.cells ++ [.dct ks ds], s.base, s.up⟩ (.ref s.cells.length) v → Q v H' := p
  refine p ρ2 _ _ e2 ⟨g3, ?_⟩
  have hn : S.n ⟨s.cells ++ [.dct ks ds], s.base, s.up⟩ = s.n + 1 := by simp [S.n]
  rw [hn]; exact r3
theorem lkD_val {K : Fr} {ρ : Rh} {n : Nat} {y : Option Addr} {H : Hp} {k : Ky} {d : D} : ∀ {ks : List Ky} {ds : List D} {vs : List V}, RelL K ρ n y H ds vs → lkD ks ds k = some d → ∃ v, valV ((ks.map toK).zip vs) (toK k) = some v ∧ Rel K ρ n y H d v
  | [], _, _, _, h => by simp [lkD] at h
  | _ :: _, [], _, _, h => by simp [lkD] at h
  | k' :: ks, d' :: ds, _, .cons (v := v) r t, h => by
    unfold lkD at h
    unfold valV
    simp only [List.map_cons, List.zip_cons_cons, List.find?_cons]
    split at h
    · rename_i e
      cases h; subst e
      exact ⟨v, by simp, r⟩
    · rename_i e
      obtain ⟨u, h1, h2⟩ := lkD_val t h
      refine ⟨u, ?_, h2⟩
      have : decide (toK k' = toK k) = false := by simpa using fun q => e (toK_inj q)
      rw [this]
      exact h1
theorem keyD_rel {K : Fr} {ρ : Rh} {n : Nat} {H : Hp} {d : D} {v : V} {k : Ky} (r : Rel K ρ n none H d.frz v) (h : keyD d = some k) : v = kV (toK k) := by
  cases d with
  | int i => cases h; cases r; rfl
  | str z => cases h; cases r; rfl
  | _ => simp [keyD] at h
end
section
variable {K : Fr} {ρ : Rh} {n : Nat} {y : Option Addr} {H : Hp}
theorem keysD_rel : ∀ {xs : List D} {vs : List V} {k : List Ky}, keysD xs = some k → RelL K ρ n y H xs vs → vs = (k.map toK).map kV
  | [], _, _, h, r => by cases h; cases r; rfl
  | d :: xs, _, _, h, .cons r t => by
    simp only [keysD, Option.bind_eq_some_iff, Option.map_eq_some_iff] at h
    obtain ⟨k0, h0, ks, h1, rfl⟩ := h
    rw [keysD_rel h1 t, List.map_cons, List.map_cons]
    congr 1
    cases d with
    | int i => cases h0; cases r; rfl
    | str z => cases h0; cases r; rfl
    | _ => simp [keyD] at h0
theorem keyT_rel {d : D} {v : V} {k : List Ky} (h : keyT d = some k) (r : Rel K ρ n y H d v) : ∃ b, v = .ref b ∧ H b = some (.tup ((k.map toK).map kV)) := by
  cases d with
  | tup xs =>
    cases r with
    | tup h1 h2 =>
      have hh : keysD xs = some k := by
        unfold keyT at h
        split at h
        · cases h
        · cases h
        · rename_i q; cases q; exact h
        · rename_i q; exact (q _ rfl).elim
      refine ⟨_, rfl, ?_⟩
      rw [← keysD_rel hh h2]
      rcases h1 with h1 | ⟨_, hd⟩
      · exact h1
      · exfalso
        unfold HdT at hd
        split at hd
        · cases h2 with
          | cons r1 _ => cases r1; simp [keyT] at h
        · cases h2 with
          | cons r1 r2 =>
            cases r1
            cases r2 with
            | cons r3 _ => cases r3; simp [keyT] at h
        · exact hd
  | _ => simp [keyT] at h
theorem pairsP_rel : ∀ {xs : List D} {vs : List V} {ks : List (List Ky)} {ds : List D}, pairsP xs = some (ks, ds) → RelL K ρ n y H xs vs →
    ∃ (ps : List Addr) (us : List V), vs = ps.map V.ref ∧ ks.length = ds.length ∧ RelL K ρ n y H ds us ∧ Paired (fun p kv => ∃ b, H p = some (.tup [.ref b, kv.2]) ∧ H b = some (.tup (kv.1.map kV))) ps ((ks.map (List.map toK)).zip us)
  | [], _, _, _, h, r => by cases h; cases r; exact ⟨[], [], rfl, rfl, .nil, .nil⟩
  | d :: xs, _, ks, ds, h, .cons r t => by
    cases d with
    | tup ys =>
      match ys, h, r with
      | [k, v], h, r =>
        simp only [pairsP, Option.bind_eq_some_iff, Option.map_eq_some_iff] at h
        obtain ⟨k0, h0, ⟨ks', ds'⟩, h1, h2⟩ := h
        cases h2
        obtain ⟨ps, us, e1, e2, e3, e4⟩ := pairsP_rel h1 t
        cases r with
        | tup g1 g2 =>
          cases g2 with
          | cons rk t2 =>
            cases t2 with
            | cons rv t3 =>
              cases t3
              obtain ⟨b, rfl, hb⟩ := keyT_rel h0 rk
              exact ⟨_ :: ps, _ :: us, by rw [List.map_cons, e1], by simp [e2], .cons rv e3, .cons ⟨b, g1.elim id (fun ⟨_, e⟩ => e.elim), hb⟩ e4⟩
      | [], h, r => simp [pairsP] at h
      | [_], h, r => simp [pairsP] at h
      | _ :: _ :: _ :: _, h, r => simp [pairsP] at h
    | _ => simp [pairsP] at h
theorem map_toK_inj : ∀ {a b : List Ky}, a.map toK = b.map toK → a = b
  | [], [], _ => rfl
  | [], _ :: _, h => by simp at h
  | _ :: _, [], h => by simp at h
  | a :: as, b :: bs, h => by
    simp only [List.map_cons, List.cons.injEq] at h
    rw [toK_inj h.1, map_toK_inj h.2]
theorem nodup_toKs {ks : List (List Ky)} (h : ks.Nodup) : (ks.map (List.map toK)).Nodup := by
  rw [List.nodup_iff_pairwise_ne] at *
  rw [List.pairwise_map]
  exact h.imp fun hab e => hab (map_toK_inj e)
theorem lkP_val {k : List Ky} {d : D} : ∀ {ks : List (List Ky)} {ds : List D} {vs : List V}, RelL K ρ n y H ds vs → lkP ks ds k = some d → ∃ v, valV ((ks.map (List.map toK)).zip vs) (k.map toK) = some v ∧ Rel K ρ n y H d v
  | [], _, _, _, h => by simp [lkP] at h
  | _ :: _, [], _, _, h => by simp [lkP] at h
  | k' :: ks, d' :: ds, _, .cons (v := v) r t, h => by
    unfold lkP at h
    unfold valV
    simp only [List.map_cons, List.zip_cons_cons, List.find?_cons]
    split at h
    · rename_i e
      cases h; subst e
      exact ⟨v, by simp, r⟩
    · rename_i e
      obtain ⟨u, h1, h2⟩ := lkP_val t h
      refine ⟨u, ?_, h2⟩
      have : decide (k'.map toK = k.map toK) = false := by simpa using fun q => e (map_toK_inj q)
      rw [this]
      exact h1
end
section
variable {X : Cx} {Ps : List Addr} {cl : XC} {W : WX} {a b : Expr} {fa fb : Env → S → R D} {pos p apos : Pos}
theorem e_dix (hu : X.A.units + 1 < cLine) (ha : E1 X Ps cl W a fa) (hb : E1 X Ps cl W b fb) (hs : PlainIx b) : E1 X Ps cl W (.Subscript a b pos) fun e s => (fa e s).bind fun x s => (fb e s).bind fun y s => R.opt (dixOf x y s) s := by
  refine PE.imp (pe_dget hu ha hb hs) fun σ H Q ⟨ρ, e, s, g, er, p⟩ => ?_
  refine ⟨ρ, e, s, g, er, p.bind fun d1 s1 ρ1 H1 v1 e1 o1 p => ⟨ρ1, e, s1, o1.good, er.ext g e1, p.bind fun d2 s2 ρ2 H2 v2 e2 o2 p => ?_⟩⟩
  obtain ⟨d, h, pz⟩ := p.opt
  cases d1 with
  | ref m =>
    have h : (match s2.cells[m]? with | some (.dct ks vs) => (keyD d2).bind fun k => lkD ks vs k | some (.dtp ks vs) => (keyT d2).bind fun k => lkP ks vs k | _ => none) = some d := h
    have r1 : Rel X.K ρ2 s2.n none H2 (.ref m) v1 := (o1.frz.ext o1.good e2)
    split at h
    · rename_i ks ds hc
      rw [Option.bind_eq_some_iff] at h
      obtain ⟨k, hk, hl⟩ := h
      cases r1 with
      | ref hm =>
        obtain ⟨us, q1, q3, q2⟩ := o2.good.cell _ _ hc
        obtain ⟨v, w1, w2⟩ := lkD_val q2 hl
        refine ⟨_, v, rfl, .inl ⟨_, toK k, .of q1, keyD_rel o2.frz hk, w1.symm⟩, pz.val o2.good w2.notown w2⟩
    · rename_i ks ds hc
      rw [Option.bind_eq_some_iff] at h
      obtain ⟨k, hk, hl⟩ := h
      cases r1 with
      | ref hm =>
        obtain ⟨us, q1, q3, q2⟩ := o2.good.cell _ _ hc
        obtain ⟨v, w1, w2⟩ := lkP_val q2 hl
        have hk2 : keyT d2.frz = some k := by cases d2 <;> first | exact hk | simp [keyT] at hk
        obtain ⟨b, eb, hb⟩ := keyT_rel hk2 o2.frz
        refine ⟨_, v, rfl, .inr ⟨_, k.map toK, b, .of q1, eb, hb, w1.symm⟩, pz.val o2.good w2.notown w2⟩
    · cases h
  | _ => simp [dixOf] at h
end
end L3
end

section -- IR
set_option autoImplicit false
set_option linter.all false
set_option maxRecDepth 100000
set_option maxHeartbeats 2000000
namespace L3
open PySem PySem.Spec PyProof.Rows L2

section
variable {prog : Program} {w : World} {A : Around} {E : Value → Shared → Prop} {s : Shared}
theorem adjust_back (n : Nat) : Builtin.Slice.sliceAdjust none none (-1) (n : Int) = ((n : Int) - 1, -1) := rfl
theorem places_back (n : Nat) : Builtin.Slice.slicePlaces ((n : Int) - 1) (-1) (-1) = n := by
  unfold Builtin.Slice.slicePlaces
  have h1 : ¬ ((-1 : Int) > 0) := by decide
  simp only [h1, if_false]
  by_cases h : (n : Int) - 1 > -1
  · have e : ((n : Int) - 1 - -1 - 1) / (- -1) + 1 = (n : Int) := by
      rw [show (- -1 : Int) = 1 by decide, Int.ediv_one]
      omega
    simp only [h, if_true, e, Int.toNat_natCast]
  · have e : n = 0 := by omega
    subst e
    simp
theorem sliceApplied_back {sl : Addr} {vl vu vs : Value} {n : Nat} {Q : Int × Int × Nat → Shared → Prop} (hs : s.heap.IsSliceOf sl vl vu vs) (pl : IsPart vl none) (pu : IsPart vu none) (ps : IsPart vs (some (-1)))
    (h : Q ((n : Int) - 1, -1, n) s) : wpAny (model prog w) A (Builtin.Slice.sliceApplied (.ref sl) (pure (n : Int))) Q E s := by
  obtain ⟨os, hos, hcs, hds⟩ := id hs
  unfold Builtin.Slice.sliceApplied Builtin.Slice.sliceFields
  refine wpAny_bind (wpAny_bind (wpAny_field hos hds (x := vl) rfl (wpAny_bind (wpAny_field hos hds (x := vu) rfl (wpAny_bind (wpAny_field hos hds (x := vs) rfl (wpAny_pure ?_)))))))
  refine wpAny_bind (HT.slicePart_ ps ?_)
  show wpAny _ _ (if ((-1 : Int) == 0) = true then _ else _) _ _ s
  rw [if_neg (by decide)]
  refine wpAny_bind (HT.slicePart_ pl (wpAny_bind (HT.slicePart_ pu (wpAny_bind (wpAny_pure ?_)))))
  show wpAny _ _ (match Builtin.Slice.sliceAdjust none none (-1) (n : Int) with | (lo, hi) => pure (lo, (-1 : Int), Builtin.Slice.slicePlaces lo hi (-1))) _ _ s
  rw [adjust_back n]
  show wpAny _ _ (pure ((n : Int) - 1, (-1 : Int), Builtin.Slice.slicePlaces ((n : Int) - 1) (-1) (-1))) _ _ s
  rw [places_back]
  exact wpAny_pure h
theorem fm_congr {α β : Type} {f g : α → Option β} : ∀ {l : List α}, (∀ x ∈ l, f x = g x) → l.filterMap f = l.filterMap g
  | [], _ => rfl
  | x :: l, h => by
    rw [List.filterMap_cons, List.filterMap_cons, h x (by simp), fm_congr (l := l) fun y hy => h y (by simp [hy])]
theorem pick_back (xs : Array Value) : ((List.range xs.size).filterMap fun (m : Nat) => xs[(((xs.size : Int) - 1) + (m : Int) * (-1)).toNat]?).toArray = xs.toList.reverse.toArray := by
  have e : (List.range xs.size).filterMap (fun (m : Nat) => xs[(((xs.size : Int) - 1) + (m : Int) * (-1)).toNat]?) = ((List.range xs.size).map fun k => xs.size - 1 - k).filterMap (xs[·]?) := by
    rw [List.filterMap_map]
    refine fm_congr fun m hm => ?_
    have := List.mem_range.mp hm
    show xs[_]? = xs[xs.size - 1 - m]?
    have e : (((xs.size : Int) - 1) + (m : Int) * (-1)).toNat = xs.size - 1 - m := by omega
    rw [e]
  rw [e, PySem.W.krv_range, List.filterMap_reverse, PySem.W.krv_all]
theorem getItem_tuple_back {t sl : Addr} {items : Array Value} {vl vu vs : Value} {Q : Value → Shared → Prop} (ht : IsTup s.heap t items) (hs : s.heap.IsSliceOf sl vl vu vs) (pl : IsPart vl none) (pu : IsPart vu none) (ps : IsPart vs (some (-1)))
    (h : Q (.ref s.heap.objs.size) { s with heap := s.heap.push { cls := .type "tuple", data := .seq items.toList.reverse.toArray } })
    (hsz : items.size ≤ sizeLine) : wpAny (model prog w) A (getItem (.ref t) (.ref sl)) Q E s := by
  have htake : sizeOk (.seq items.toList.reverse.toArray) := by
    show items.toList.reverse.toArray.size ≤ sizeLine
    rw [List.size_toArray, List.length_reverse, Array.length_toList]
    omega
  obtain ⟨os, hos, hcs, hds⟩ := id hs
  have hTs : s.TypeIs (.ref sl) "slice" := ⟨os, hos, hcs⟩
  unfold getItem
  try with_reducible refine wpAny_holding ?_
  first | refine wpAny_bind (wpAny_pure ?_) | skip
  refine wpAny_bind (wpAny_sequenceKey ht.typeIs (by decide) ?_)
  refine wpAny_bind (wpAny_callSpecial?_slot (name := Str.ofString "__getitem__") ht.typeIs PyProof.Rows.slot_tuple_getitem
    (wpAny_call_entry PyProof.Rows.slot_tuple_getitem ht.typeIs entry_tuple_getitem ?_ (args_tuple_getitem _ _)))
  show wpAny _ _ (Builtin.Tuple.tupleItemsOf (.ref t) >>= _) _ _ s
  refine wpAny_bind (tupleItemsOf_ ht ?_)
  refine wpAny_bind (wpAny_typeOf hTs ?_)
  rw [if_pos (by decide)]
  refine wpAny_bind (sliceApplied_back hs pl pu ps ?_)
  have hno : ¬ ((((items.size : Int) - 1) == 0 && (-1 : Int) == 1 && items.size == items.size) = true) := by
    intro q
    rw [Bool.and_eq_true, Bool.and_eq_true] at q
    exact absurd q.1.2 (by decide)
  show wpAny _ _ (if (((items.size : Int) - 1) == 0 && (-1 : Int) == 1 && items.size == items.size) = true then _ else _) _ _ s
  rw [if_neg hno, pick_back]
  first
    | exact wpAny_bind (m := Builtin.Tuple.tupleExact _) (wpAny_newObj_type (wpAny_pure ⟨_, rfl, wpAny_pure h⟩) htake)
    | exact wpAny_bind (m := Builtin.Tuple.tupleExact _) (wpAny_newObj_type (wpAny_bind (wpAny_pure (wpAny_pure ⟨_, rfl, wpAny_pure h⟩))) htake)
    | exact wpAny_bind (wpAny_bind (m := Builtin.Tuple.tupleExact _) (wpAny_newObj_type (wpAny_pure (wpAny_pure ⟨_, rfl, wpAny_pure h⟩)) htake))
    | exact wpAny_bind (wpAny_bind (m := Builtin.Tuple.tupleExact _) (wpAny_newObj_type (wpAny_pure ⟨_, rfl, wpAny_pure h⟩) htake))
end
section
variable {X : Cx}
def tRevT (K : PySem.W.Frag) (te : TE) : TE := fun σ H Q => te σ H fun x H1 => ∃ a xs, x = .ref a ∧ SqT K H1 a xs ∧ ∀ p, H1 p = none → Q (.ref p) (upd H1 p (.tup xs.reverse))
theorem pe_revT {e : Expr} {te : TE} {k : Nat} {p1 p2 p3 pos : Pos} (he : PE X e te) : PE X (.Subscript e (.Slice none none (some (.UnaryOp .USub (.Constant (.int 1) k p1) p2)) p3) pos) (tRevT X.K te) := by
  refine ⟨fun pins s σ H Q I h => ?_⟩
  refine Subscript_ (thn (he.run pins s σ H _ I h) fun v s1 ⟨x, H1, I1, r1, q1⟩ => ?_)
  obtain ⟨a, xs, ex, hx, q⟩ := q1
  subst ex
  cases r1
  have hst : PO X (some (.UnaryOp .USub (.Constant (.int 1) k p1) p2)) (tPart (tUn (rU fun i => .int (-i)) (tC (.int 1)))) := po_some (pe_un un_neg pe_int)
  refine wpAny_Slice (thn (po_none.run pins s1 σ H1 (fun o H2 => o = none ∧ H2 = H1) I1 ⟨rfl, rfl⟩) fun vl s2 ⟨l, H2, I2, pl, el, e2⟩ => ?_)
  subst el e2
  refine thn (po_none.run pins s2 σ H2 (fun o H3 => o = none ∧ H3 = H2) I2 ⟨rfl, rfl⟩) fun vu s3 ⟨u, H3, I3, pu, eu, e3⟩ => ?_
  subst eu e3
  refine thn (hst.run pins s3 σ H3 (fun o H4 => o = some (-1) ∧ H4 = H3) I3 ⟨1, rfl, -1, rfl, rfl, rfl⟩) fun vs s4 ⟨o, H4, I4, ps, eo, e4⟩ => ?_
  subst eo e4
  have I5 : Inv X pins σ H4 { s4 with heap := s4.heap.push { cls := .type "slice", data := .fields #[vl, vu, vs] } } := I4.kept (t' := s4.toks) fun b ob q => Heap.get?_push_of_some _ q
  obtain ⟨its, r, ht, hz⟩ := I5.tuple hx
  have hlen := r.length
  show wpAny (model X.prog X.w) X.A (subscriptTail e (.Slice none none (some (.UnaryOp .USub (.Constant (.int 1) k p1) p2)) p3) (.ref a) (.ref s4.heap.objs.size)) (EP X pins σ Q) X.xe { s4 with heap := s4.heap.push { cls := .type "slice", data := .fields #[vl, vu, vs] } }
  refine tail_any (ops := [.ref a, .ref s4.heap.objs.size]) ht.typeIs (PyProof.Rows.slot_tuple_getitem.lookup) ?_ (by with_unfolding_all rfl)
  refine getItem_tuple_back ht (Heap.IsSliceOf.new _ vl vu vs) pl pu ps ?_ (by rw [List.size_toArray]; omega)
  refine ⟨.ref _, _, I5.laid (t' := s4.toks) (o := .tup xs.reverse) (fun b ob q => Heap.get?_push_of_some _ q) (Nat.le_refl _) ?_, rfl, q _ (I5.hok.fresh (Nat.le_refl _))⟩
  exact ⟨by rw [List.length_reverse]; exact hz, its.reverse, r.reverse, IsTup.new _ _⟩
end
section
variable {X : Cx} {Ps : List Addr} {cl : XC} {W : WX} {a b : Expr} {fa fb : Env → S → R D} {pos p p2 p3 apos : Pos} {k : Nat}
theorem e_srev (ha : E1 X Ps cl W a fa) : E1 X Ps cl W (.Subscript a (.Slice none none (some (.UnaryOp .USub (.Constant (.int 1) k p) p2)) p3) pos) fun e s => (fa e s).bind fun x s => R.opt (srevOf x) s := by
  refine PE.imp (pe_revT ha) fun σ H Q ⟨ρ, e, s, g, er, p⟩ => ⟨ρ, e, s, g, er, p.bind fun d1 s1 ρ1 H1 v1 e1 o1 p => ?_⟩
  obtain ⟨d, h, p⟩ := p.opt
  cases d1 with
  | tup xs =>
    cases h
    have r1 := o1.frz
    cases r1 with
    | tup h1 h2 => exact ⟨_, _, rfl, h1.sq, fun q hq => p.newT o1.good hq h2.reverse⟩
  | _ => simp [srevOf] at h

theorem storedAllH_fresh {K : Type} [DecidableEq K] : ∀ (ps xs : List (K × Addr × Value)), ((xs ++ ps).map (·.1)).Nodup → storedAllH xs ps = xs ++ ps
  | [], xs, _ => by simp [storedAllH]
  | q :: r, xs, h => by
    show storedAllH (storedH xs q.1 q.2.1 q.2.2) r = _
    have hn : atKey xs q.1 = none := by
      unfold atKey
      rw [Option.map_eq_none_iff, List.find?_eq_none]
      intro x hx
      simp only [decide_eq_true_eq]
      intro e
      rw [List.map_append, List.nodup_append] at h
      exact h.2.2 _ (List.mem_map_of_mem hx) _ (by simp) e
    have hp : storedH xs q.1 q.2.1 q.2.2 = xs ++ [q] := by
      unfold storedH
      rw [hn]
      rfl
    rw [hp, storedAllH_fresh r (xs ++ [q]) (by simpa using h)]
    simp
theorem pairsT_of {pins : List (Addr × Obj)} {σ : L2.St} {H : Hp} {s : Shared} (I : Inv X pins σ H s) : ∀ {ps : List Addr} {kvs : List (List L2.Key × V)}, Paired (fun p kv => ∃ b, H p = some (.tup [.ref b, kv.2]) ∧ H b = some (.tup (kv.1.map kV))) ps kvs →
    ∃ prs : List (List L2.Key × Addr × Value), KT H kvs prs ∧ prs.length = ps.length ∧ ∀ (j : Nat) (q : List L2.Key × Addr × Value), prs[j]? = some q → ∃ b : Addr, ps[j]? = some b ∧ s.heap.IsTuple b #[.ref q.2.1, q.2.2] ∧ H q.2.1 = some (.tup (q.1.map kV))
  | _, _, .nil => ⟨[], .nil, rfl, fun j q e => by simp at e⟩
  | _, _, .cons (a := p) (b := kv) h t => by
    obtain ⟨prs, r, hl, hp⟩ := pairsT_of I t
    obtain ⟨b, h1, h2⟩ := h
    obtain ⟨its, rv, ht, _⟩ := I.tuple (a := p) (xs := [.ref b, kv.2]) (.inl (.inl h1))
    obtain ⟨u, y, ei, ru, ry⟩ := vals2 rv
    subst ei
    cases (show u = Value.ref b from ru)
    refine ⟨(kv.1, b, y) :: prs, .cons ⟨rfl, h2, ry⟩ r, by rw [List.length_cons, List.length_cons, hl], fun j q e => ?_⟩
    cases j with
    | zero =>
      have e' : (kv.1, b, y) = q := Option.some.inj e
      subst e'
      exact ⟨p, rfl, ht, h2⟩
    | succ j =>
      obtain ⟨b, e1, e2, e3⟩ := hp j q (by simpa using e)
      exact ⟨b, by simpa using e1, e2, e3⟩
theorem call_dictT (hcalm : X.calm = true) (hu : X.A.units + 3 < cLine) : CallR X (.type "dict") (fun xs H Q => ∃ (a : Addr) (ps : List Addr) (kvs : List (List L2.Key × V)), xs = [.ref a] ∧ SqL X.K H a (ps.map V.ref) ∧
    Paired (fun p kv => ∃ b, H p = some (.tup [.ref b, kv.2]) ∧ H b = some (.tup (kv.1.map kV))) ps kvs ∧ (kvs.map (·.1)).Nodup ∧ ∀ p, H p = none → Q (.ref p) (upd H p (.dT kvs))) := by
  intro pins s σ H xs us Q I r q
  obtain ⟨a, ps, kvs, ex, hq, hp, hnd, q⟩ := q
  subst ex
  obtain ⟨u, eu, rx⟩ := vals1 r
  subst eu
  cases rx
  obtain ⟨its, rv, pl, hz⟩ := I.list hq
  have ei := refs_at rv
  subst ei
  rw [List.length_map] at hz
  obtain ⟨prs, rel, hl, hpr⟩ := pairsT_of I hp
  obtain ⟨o, n, ho, hc, hd, hdat⟩ := pl
  have hkeys : ∀ x ∈ prs, H x.2.1 = some (.tup (x.1.map kV)) := fun x hx => by
    obtain ⟨j, hj⟩ := List.mem_iff_getElem?.mp hx
    obtain ⟨b, _, _, h3⟩ := hpr j x hj
    exact h3
  have hfst : prs.map (·.1) = kvs.map (·.1) := by
    have : ∀ {kvs : List (List L2.Key × V)} {xs : List (List L2.Key × Addr × Value)}, KT H kvs xs → xs.map (·.1) = kvs.map (·.1) := by
      intro kvs xs r
      induction r with
      | nil => rfl
      | cons h t ih => rw [List.map_cons, List.map_cons, ih, h.1]
    exact this rel
  have hfresh : H s.heap.objs.size = none := I.hok.fresh (Nat.le_refl _)
  refine PySem.call_dict_pairsH (knd := tupleKind (mixKind X.prog X.w)) (ps := prs) (PairArg.list a (ps.map Value.ref).toArray (fun j => ps.getD j 0) (prs.map fun q => (Value.ref q.2.1, q.2.2)))
    (I.ok.hd hcalm) (show X.A.in1.in1.units < cLine by simp; omega) ⟨⟨o, n, ho, hc, hd, hdat⟩, ?_⟩ ⟨by simp, ?_⟩ ?_ (by rw [List.length_map, hl]; exact hz) fun h' tk hd' k => ?_
  · refine ⟨by simp [hl], fun j k v e => ?_⟩
    rw [List.getElem?_map, Option.map_eq_some_iff] at e
    obtain ⟨x, hx, e⟩ := e
    cases e
    obtain ⟨b, e1, e2, e3⟩ := hpr j x hx
    have eg : ps.getD j 0 = b := by rw [List.getD_eq_getElem?_getD, e1]; rfl
    dsimp only
    rw [eg]
    exact ⟨by simp [e1], .inl e2⟩
  · intro i key v e
    have e : (prs.map fun q => (Value.ref q.2.1, q.2.2))[i]? = some (key, v) := e
    rw [List.getElem?_map, Option.map_eq_some_iff] at e
    obtain ⟨x, hx, e⟩ := e
    cases e
    exact ⟨x.1, x.2.1, hx, rfl⟩
  · intro h' hk x hx
    have hx' := hkeys x hx
    obtain ⟨o, its, n, h1, h2, h3, h4⟩ := key_of (P := X.prog) (w := X.w) I.hok hx'
    exact ⟨o, its, n, hk _ _ (Nat.ne_of_lt (Heap.lt_size h1)) (by simp) h1, h2, h3, h4⟩
  · rw [storedAllH_fresh prs [] (by simpa [hfst] using hnd), List.nil_append] at hd'
    have hm : (s.heap.objs.size == sysModules) = false := beq_eq_false_iff_ne.mpr (Nat.ne_of_gt I.big)
    have hlen : kvs.length ≤ sizeLine := by rw [rel.length, hl]; exact hz
    obtain ⟨od, es, ep, g1, g2, g3, g4, _, g5⟩ := hd'
    refine ⟨.ref s.heap.objs.size, upd H s.heap.objs.size (.dT kvs), I.laid (t' := tk) (fun b o e => k b o (by simp) e) (Nat.le_refl _) (show ObjOk X.prog X.w _ _ _ (.dT kvs) from ⟨hlen, hm, prs, rel.keeps fun b ys e => ?_, od, es, ep, g1, g2, g3, g4, g5⟩), rfl, q _ hfresh⟩
    rw [upd_ne (ne_of_none e hfresh)]
    exact e
end
section
variable {X : Cx} {Ps : List Addr} {cl : XC} {W : WX} {a b : Expr} {fa fb : Env → S → R D} {pos p p2 p3 apos : Pos} {k : Nat}
theorem e_dofp {x : Str} (hc : X.calm = true) (hu : X.A.units + 3 < cLine) (hg : Gl X x) (hm : X.mg x = none) (hv : bootBuiltins x = some (.type "dict")) (ha : E1 X Ps cl W a fa)
    (hn : x ≠ "__name__") (hdb : (x == ("__debug__" : Str)) = false) (hs : starEach [a] X.env = (false, eval a X.env) :: starEach [] X.env) :
    E1 X Ps cl W (.Call (.Name x p) [a] [] pos) fun e s => (fa e s).bind fun x s => dofpOf (x.rd s) s := by
  refine PE.imp (pe_callTy (call_dictT hc hu) hg hm hv (pa_cons ha pa_nil hs) hn hdb hs rfl) fun σ H Q ⟨ρ, e, s, g, er, p⟩ => ⟨ρ, e, s, g, er, p.bind fun d1 s1 ρ1 H1 v1 e1 o1 p => ?_⟩
  have hx := Rel.rd o1.good o1.frz
  generalize d1.rd s1 = dx at hx p
  cases dx with
  | lv o xs =>
    cases hq : pairsP xs with
    | none => simp only [dofpOf, hq] at p; exact p.elim
    | some q =>
      obtain ⟨ks, ds⟩ := q
      simp only [dofpOf, hq] at p
      by_cases hnd : ks.Nodup
      · rw [if_pos hnd] at p
        obtain ⟨A, ws, rfl, ht, rl⟩ := hx
        obtain ⟨ps, us, rfl, e2, e3, e4⟩ := pairsP_rel hq rl
        have hl : ks.length = us.length := e2.trans e3.length
        refine ⟨A, ps, (ks.map (List.map toK)).zip us, rfl, .of ht, e4, ?_, fun a ha => ?_⟩
        · rw [map_fst_zip (by simpa using hl)]; exact nodup_toKs hnd
        have g := o1.good
        have hne : ∀ i, i < s1.n → ρ1 i ≠ a := fun i hi => by
          obtain ⟨us, q, _⟩ := g.lst hi
          exact ne_of_none q ha
        have hx : Ext X.K ρ1 H1 s1 ρ1 (upd H1 a (.dT ((ks.map (List.map toK)).zip us))) s1 := Ext.new ha
        have g1 : Good X.K Ps ρ1 none (upd H1 a (.dT ((ks.map (List.map toK)).zip us))) s1 := g.new ha
        have hy : ∀ b, some a = some b → H1 b = none := fun b e => by cases e; exact ha
        have avL : ∀ {d : List D} {v : List V}, RelL X.K ρ1 s1.n none H1 d v → RelL X.K ρ1 s1.n (some a) (upd H1 a (.dT ((ks.map (List.map toK)).zip us))) d v := fun {d v} r => (r.avoid hy).map (fun i hi => ⟨hi, rfl⟩) (fun _ _ h => TpK.ext g hx h) (fun _ _ h => ScrAt.ext g hx h) fun b us q1 q2 q3 q4 => ⟨by rw [upd_ne (ne_of_none q1 ha)]; exact q1, q2, q3, q4⟩
        have g2 : Good X.K Ps ρ1 (some a) (upd H1 a (.dT ((ks.map (List.map toK)).zip us))) s1 := by
          refine ⟨g1.inj, fun i o e => ?_, g1.clean, g1.bl, g1.tb, g1.xt⟩
          have q := g.cell i o e
          have hi : i < s1.n := (List.getElem?_eq_some_iff.mp e).1
          cases o with
          | lst xs =>
            obtain ⟨us, q1, q2⟩ := q
            exact ⟨us, by rw [upd_ne (hne i hi)]; exact q1, avL q2⟩
          | dct ks xs =>
            obtain ⟨us, q1, q3, q2⟩ := q
            exact ⟨us, by rw [upd_ne (hne i hi)]; exact q1, q3, avL q2⟩
          | dtp ks xs =>
            obtain ⟨us, q1, q3, q2⟩ := q
            exact ⟨us, by rw [upd_ne (hne i hi)]; exact q1, q3, avL q2⟩
        obtain ⟨ρ2, e2, g3, r3⟩ := new_cell (o := .dtp ks ds) hx ha hne (fun q => g.xt a q ha) g2 ⟨us, upd_same, e2, avL e3⟩
        have p : ∀ ρ' H' v, Ext X.K ρ1 H1 s1 ρ' H' ⟨s1.cells ++ [.dtp ks ds], s1.base, s1.up⟩ → OkR X.K Ps H1 ρ' H' ⟨s1.cells ++ [.dtp ks ds], s1.base, s1.up⟩ (.ref s1.cells.length) v → Q v H' := p
        refine p ρ2 _ _ e2 ⟨g3, ?_⟩
        have hn : S.n ⟨s1.cells ++ [.dtp ks ds], s1.base, s1.up⟩ = s1.n + 1 := by simp [S.n]
        rw [hn]; exact r3
      · rw [if_neg hnd] at p; exact p.elim
  | _ => exact p.elim
end
end L3
end

section -- IT
set_option autoImplicit false
set_option linter.all false
set_option maxRecDepth 100000
set_option maxHeartbeats 2000000
namespace L3
open PySem PySem.Spec PyProof.Rows L2
section
variable {P : Program} {w : World} {κ : Type} [DecidableEq κ] {knd : KeyKind P w κ} {A : Around} {E : Value → Shared → Prop} {s : Shared}

theorem noClass_val (n : Nat) {v : Value} (h : carriedByValue v = true) : ofAClassStatement n v = pure false := by
  cases v with
  | ref a => simp [carriedByValue] at h
  | _ => cases n <;> rfl
theorem byVal_val (n : Nat) {v : Value} (h : carriedByValue v = true) : ∃ b, hashByValue n v = pure b := by
  cases v with
  | ref a => simp [carriedByValue] at h
  | _ => cases n <;> exact ⟨_, rfl⟩
theorem noClass_tup {ks : List κ} {b : Addr} {Q : Bool → Shared → Prop} (hk : IsTupleKey knd s.heap ks b) (h : Q false s) : wpAny (model P w) A (ofAClassStatement 8 (.ref b)) Q E s := by
  have hT := hk.typeIs
  obtain ⟨o, its, n, ho, _, hd, hi⟩ := hk
  unfold ofAClassStatement
  refine wpAny_bind (wpAny_typeOf hT ?_)
  dsimp only
  have e : (("tuple" : String) == "tuple") = true := by decide
  simp only [e, if_true, Bool.not_true, Bool.false_eq_true, if_false]
  try refine wpAny_bind (wpAny_pure ?_)
  try simp only [Bool.not_true, Bool.false_eq_true, if_false]
  show wpAny _ _ (seqItems? (.ref b) >>= _) _ _ s
  refine wpAny_bind (wpAny_seqItems ho hd ?_)
  dsimp only
  refine wpAny_bind ?_
  show wpAny _ _ (forIn its _ _) _ _ s
  rw [← Array.forIn_toList]
  refine wpAny_forIn_list _ (fun rest r s1 => r.1 = none ∧ s1 = s ∧ ∀ v ∈ rest, carriedByValue v = true) _ ?_ ?_ _ _ ⟨rfl, rfl, hi.byValue⟩
  · rintro v rest r s1 ⟨hr, rfl, hall⟩
    rw [noClass_val _ (hall v (by simp))]
    refine wpAny_bind (wpAny_pure ?_)
    simp only [Bool.false_eq_true, if_false]
    exact wpAny_pure ⟨rfl, rfl, fun u hu => hall u (by simp [hu])⟩
  · rintro ⟨r1, r2⟩ s1 ⟨hr, rfl, _⟩
    simp only at hr
    subst hr
    exact wpAny_pure h
theorem byVal_tup {ks : List κ} {b : Addr} {Q : Bool → Shared → Prop} (hk : IsTupleKey knd s.heap ks b) (h : ∀ t, Q t s) : wpAny (model P w) A (hashByValue 8 (.ref b)) Q E s := by
  have hT := hk.typeIs
  obtain ⟨o, its, n, ho, _, hd, hi⟩ := hk
  unfold hashByValue
  refine wpAny_bind (wpAny_specialOf hT F.slot_tuple_hash.lookup ?_)
  show wpAny _ _ (seqItems? (.ref b) >>= _) _ _ s
  refine wpAny_bind (wpAny_seqItems ho hd ?_)
  refine wpAny_bind ?_
  show wpAny _ _ (forIn its _ _) _ _ s
  rw [← Array.forIn_toList]
  refine wpAny_forIn_list _ (fun rest r s1 => r.1 = none ∧ s1 = s ∧ ∀ v ∈ rest, carriedByValue v = true) _ ?_ ?_ _ _ ⟨rfl, rfl, hi.byValue⟩
  · rintro v rest r s1 ⟨hr, rfl, hall⟩
    obtain ⟨t, et⟩ := byVal_val 7 (hall v (by simp))
    rw [et]
    refine wpAny_bind (wpAny_pure ?_)
    cases t
    · simp only [Bool.not_false, if_true]
      exact wpAny_pure (wpAny_pure (h false))
    · simp only [Bool.not_true, Bool.false_eq_true, if_false]
      exact wpAny_pure ⟨rfl, rfl, fun u hu => hall u (by simp [hu])⟩
  · rintro ⟨r1, r2⟩ s1 ⟨hr, rfl, _⟩
    simp only at hr
    subst hr
    exact wpAny_pure (h true)
/-- nothing is seen of a search among tuples -/
theorem unseen_tup {ks : List κ} {b : Addr} {Q : Bool → Shared → Prop} (hk : IsTupleKey knd s.heap ks b) {ys : List Value} (hy : ∀ y ∈ ys, ∃ k c, y = Value.ref c ∧ IsTupleKey knd s.heap k c) (h : Q false s) :
    wpAny (model P w) A (searchCouldBeSeen (.ref b) ys) Q E s := by
  unfold searchCouldBeSeen
  refine wpAny_bind ?_
  refine wpAny_forIn_list _ (fun rest r s1 => r.1 = none ∧ s1 = s ∧ ∀ y ∈ rest, ∃ k c, y = Value.ref c ∧ IsTupleKey knd s.heap k c) _ ?_ ?_ _ _ ⟨rfl, rfl, hy⟩
  · rintro v rest r s1 ⟨hr, rfl, hall⟩
    obtain ⟨k, c, rfl, hc⟩ := hall v (by simp)
    have hall' : ∀ y ∈ rest, ∃ k c, y = Value.ref c ∧ IsTupleKey knd s1.heap k c := fun u hu => hall u (by simp [hu])
    dsimp only
    by_cases hv : (b == c || (carriedByValue (.ref b) && carriedByValue (.ref c))) = true
    · exact wp_if_pos hv (wpAny_pure ⟨rfl, rfl, hall'⟩)
    · refine wp_if_neg hv (wpAny_bind (wpAny_eqIsQuiet_tuple hk ?_))
      simp only [Bool.not_true, Bool.false_eq_true, if_false]
      refine wpAny_bind (wpAny_eqIsQuiet_tuple hc ?_)
      simp only [Bool.not_true, Bool.false_eq_true, if_false]
      refine wpAny_bind (noClass_tup hk ?_)
      simp only [Bool.false_eq_true, if_false]
      refine wpAny_bind (noClass_tup hc ?_)
      simp only [Bool.false_eq_true, if_false]
      exact wpAny_pure ⟨rfl, rfl, hall'⟩
  · rintro ⟨r1, r2⟩ s1 ⟨hr, rfl, _⟩
    simp only at hr
    subst hr
    exact wpAny_pure h

def hsh (knd : KeyKind P w κ) (p : Addr × List κ) : Int := tupleKeyHash knd p.2
def ent (knd : KeyKind P w κ) (p : Addr × List κ) : Int × Value := (hsh knd p, .ref p.1)
structure TSet (knd : KeyKind P w κ) (h : Heap) (a : Addr) (L : List (Addr × List κ)) (ep : Nat) (t : SetTable) : Prop where
  cell : ∃ o, h.get? a = some o ∧ o.ExactSet ∧ o.data = .set (L.map (ent knd)).toArray ep t
  tab : TabOk t (L.map (hsh knd))
  diff : (L.map (·.2)).Nodup
  keys : ∀ p ∈ L, IsTupleKey knd h p.2 p.1
  room : L.length * 5 < t.mask * 3
  few : L.length < 64
variable {a : Addr} {L : List (Addr × List κ)} {ep : Nat} {t : SetTable}
theorem TabOk.fits' {hs : List Int} (T : TabOk t hs) {n : Nat} (hn : n = hs.length) (hm : n ≤ t.mask) : t.fits n = true := by
  have h := T.sz
  unfold SetTable.fits SetTable.fill
  rw [T.dm, Bool.and_eq_true, beq_iff_eq, decide_eq_true_eq]
  exact ⟨by rw [h, hn], by show t.place.size + 0 ≤ t.mask; omega⟩
theorem TSet.fits (R : TSet knd s.heap a L ep t) : t.fits ((L.map (ent knd)).toArray).size = true :=
  TabOk.fits' R.tab (by simp) (by have := R.room; simp; omega)
theorem entAt {i : Nat} {p : Addr × List κ} (h : L[i]? = some p) : (L.map (ent knd)).toArray[i]? = some (ent knd p) := by simp [h]
theorem posOf (T : TabOk t (L.map (hsh knd))) {i j : Nat} (h : t.place.toList[i]? = some j) : ∃ p, L[i]? = some p := by
  have h1 := (List.getElem?_eq_some_iff.mp h).1
  have h2 := T.sz
  rw [List.length_map] at h2
  rw [Array.length_toList] at h1
  exact ⟨L[i]'(by omega), List.getElem?_eq_getElem _⟩
theorem nth_clean (m : Nat) : ∀ (n : Nat) (p : SetTable.Probe), p.dummy = none → (nth m p n).dummy = none
  | 0, _, h => h
  | n + 1, p, h => nth_clean m n (adv m p) (by unfold adv; split <;> exact h)

/-- the search, from the c-th step of its way on -/
theorem find_from (R : TSet knd s.heap a L ep t) {x : Addr} {k : List κ} (hx : IsTupleKey knd s.heap k x) (hu : A.units < cLine) {N : Nat} (hN : N < 10 * SetTable.turns t.mask)
    (hfree : way t.mask (hsh knd (x, k)) N ∉ t.place.toList) (hbusy : ∀ c, c < N → way t.mask (hsh knd (x, k)) c ∈ t.place.toList) {Q : SetFound → Shared → Prop}
    (yes : k ∈ L.map (·.2) → Q (.there none) s) (no : k ∉ L.map (·.2) → Q (.free (way t.mask (hsh knd (x, k)) N) false) s) :
    ∀ (f c : Nat) (st : Option SetTable.Probe), st.getD (t.probeStart (hsh knd (x, k))) = nth t.mask (t.probeStart (hsh knd (x, k))) c → c ≤ N → N < f + c →
      (∀ (i : Nat) (p : Addr × List κ), L[i]? = some p → p.2 = k → ∃ d, c ≤ d ∧ d < N ∧ t.place.toList[i]? = some (way t.mask (hsh knd (x, k)) d)) →
      wpAny (model P w) A (setSearchFrom a (.ref x) (hsh knd (x, k)) true f st) Q E s := by
  generalize hH : hsh knd (x, k) = H at *
  intro f
  induction f with
  | zero => intro c st _ h1 h2; omega
  | succ f ih =>
    intro c st hst hc hf left
    obtain ⟨o, ho, hex, hd⟩ := R.cell
    rw [setSearchFrom_succ]
    refine wpAny_bind (wpAny_setState_of ho hd R.fits ?_)
    dsimp only
    refine wp_if_neg (by unfold SetTable.gaveWay; rw [mask_odd R.tab.mok]; decide) ?_
    try refine wpAny_bind (wpAny_pure ?_)
    have stp : ∀ q, nth t.mask (nth t.mask (t.probeStart H) c) q = nth t.mask (t.probeStart H) (c + q) := fun q => (nth_add t.mask c _ q).symm
    have wy : ∀ q, (nth t.mask (nth t.mask (t.probeStart H) c) q).j = way t.mask H (c + q) := fun q => by rw [stp]; rfl
    have hh : ∀ (i : Nat) (p : Addr × List κ), L[i]? = some p → (fun i => (((L.map (ent knd)).toArray)[i]?.map (·.1)).getD 0) i = hsh knd p := fun i p hp => by
      show ((((L.map (ent knd)).toArray)[i]?).map (·.1)).getD 0 = _
      rw [entAt hp]; rfl
    have eN : c + (N - c) = N := by omega
    rcases go_spec t R.tab.ris R.tab.dm (fun i => (((L.map (ent knd)).toArray)[i]?.map (·.1)).getD 0) H (10 * SetTable.turns t.mask) (N - c) (nth t.mask (t.probeStart H) c) (nth_clean _ _ _ rfl) (by omega)
      (fun q hq => by rw [wy]; exact hbusy _ (by omega)) (by rw [wy, eN]; exact hfree) with ⟨q, i, hq, hi, hhi, hfirst, hgo⟩ | ⟨hnone, hgo⟩
    · have hgo' : t.probe (fun i => (((L.map (ent knd)).toArray)[i]?.map (·.1)).getD 0) H (st.getD (t.probeStart H)) = some (.candidate (way t.mask H (c + q)) i (nth t.mask (t.probeStart H) (c + (q + 1)))) := by
        rw [hst, ← wy, ← stp]; exact hgo
      rw [hgo']
      dsimp only
      rw [wy] at hi
      obtain ⟨p, hp⟩ := posOf R.tab hi
      have hm := List.mem_of_getElem? hp
      have live : t.slot (way t.mask H (c + q)) = .live i := slot_live R.tab.ris hi
      have rest : wpAny (model P w) A (searchRest a (.ref x) H true f (L.map (ent knd)).toArray t (way t.mask H (c + q)) i (nth t.mask (t.probeStart H) (c + (q + 1)))) Q E s := by
        unfold searchRest
        rw [entAt hp]
        dsimp only [ent]
        refine wpAny_bind (wpAny_holding (wpAny_eqBool_tuple hu (R.keys p hm) hx ?_))
        refine wpAny_bind (wpAny_setState_of ho hd R.fits ?_)
        dsimp only
        by_cases e : p.2 = k
        · exact wp_if_pos (by simp [e]) (wpAny_pure (yes (List.mem_map.mpr ⟨p, hm, e⟩)))
        · refine wp_if_neg (by simp [e]) ?_
          try refine wpAny_bind (wpAny_pure ?_)
          rw [sameMem]
          dsimp only
          simp only [if_true, live, entAt hp, ent]
          refine wpAny_bind (wpAny_isSame_ref_self (wpAny_bind (wpAny_pure ?_)))
          simp only [if_true]
          refine wp_if_neg (by simp [e]) (ih (c + (q + 1)) _ rfl (by omega) (by omega) fun i0 p0 h0 e0 => ?_)
          obtain ⟨d, d1, d2, d3⟩ := left i0 p0 h0 e0
          refine ⟨d, ?_, d2, d3⟩
          have hH0 : (fun i => (((L.map (ent knd)).toArray)[i]?.map (·.1)).getD 0) i0 = H := by
            rw [hh i0 p0 h0, ← hH]; unfold hsh; rw [e0]
          rcases Nat.lt_trichotomy d (c + q) with z | z | z
          · exact (hfirst (d - c) i0 (by omega) (by rw [wy, show c + (d - c) = d by omega]; exact d3) hH0).elim
          · rw [z] at d3
            have l2 := slot_live R.tab.ris d3
            rw [live] at l2
            injection l2 with l2
            rw [← l2, hp] at h0
            cases h0
            exact (e e0).elim
          · omega
      by_cases hl : t.led = true
      · refine wp_if_neg (by simp [hl]) ?_
        try refine wpAny_bind (wpAny_pure ?_)
        exact rest
      · refine wp_if_pos (by simp [hl]) (wpAny_bind (unseen_tup hx (fun y hy => ?_) ?_))
        · simp only [List.mem_map, Array.mem_toList_iff, Array.mem_filter, List.mem_toArray] at hy
          obtain ⟨e, ⟨⟨p2, hp2, rfl⟩, _⟩, rfl⟩ := hy
          exact ⟨p2.2, p2.1, rfl, R.keys p2 hp2⟩
        · refine wp_if_neg (by decide) ?_
          try refine wpAny_bind (wpAny_pure ?_)
          exact rest
    · have hgo' : t.probe (fun i => (((L.map (ent knd)).toArray)[i]?.map (·.1)).getD 0) H (st.getD (t.probeStart H)) = some (.empty (way t.mask H N) none) := by
        have e2 : way t.mask H N = (nth t.mask (nth t.mask (t.probeStart H) c) (N - c)).j := by rw [wy, eN]
        rw [hst, e2]; exact hgo
      rw [hgo']
      dsimp only
      refine wpAny_pure (no fun hm => ?_)
      obtain ⟨p0, m0, e0⟩ := List.mem_map.mp hm
      obtain ⟨i0, h0⟩ := List.mem_iff_getElem?.mp m0
      obtain ⟨d, d1, d2, d3⟩ := left i0 p0 h0 e0
      exact hnone (d - c) i0 (by omega) (by rw [wy, show c + (d - c) = d by omega]; exact d3) ((hh i0 p0 h0).trans (by rw [← hH]; unfold hsh; rw [e0]))

theorem find_tup (R : TSet knd s.heap a L ep t) {x : Addr} {k : List κ} (hx : IsTupleKey knd s.heap k x) (hu : A.units < cLine) {Q : SetFound → Shared → Prop} (yes : k ∈ L.map (·.2) → Q (.there none) s)
    (no : ∀ N, k ∉ L.map (·.2) → way t.mask (hsh knd (x, k)) N ∉ t.place.toList → (∀ c, c < N → way t.mask (hsh knd (x, k)) c ∈ t.place.toList) → Q (.free (way t.mask (hsh knd (x, k)) N) false) s) :
    wpAny (model P w) A (setSearch a (.ref x) (hsh knd (x, k)) true) Q E s := by
  have hroom := R.room
  obtain ⟨N, h1, h2, h3⟩ := R.tab.first (by rw [List.length_map]; omega) (hsh knd (x, k))
  have hN : N < 100000 := by
    have : 10 * SetTable.turns t.mask ≤ 1420 := by
      unfold SetTable.turns
      rcases R.tab.mok with e | e | e <;> omega
    omega
  refine find_from R hx hu h1 h2 h3 yes (fun hn => no N hn h2 h3) 100000 0 none rfl (Nat.zero_le _) (by omega) fun i p hp e => ?_
  have hi : (L.map (hsh knd))[i]? = some (hsh knd (x, k)) := by rw [List.getElem?_map, hp, ← e]; rfl
  have hil : i < t.place.toList.length := by
    have q1 := (List.getElem?_eq_some_iff.mp hp).1
    have q2 := R.tab.sz
    rw [List.length_map] at q2
    rw [Array.length_toList]
    omega
  have hj := List.getElem?_eq_getElem hil
  obtain ⟨d, d1, d2⟩ := R.tab.before h2 hi hj
  exact ⟨d, Nat.zero_le _, d1, by rw [hj, d2]⟩

theorem pick_map {α β : Type} (g : α → β) (L : List α) (l : List Nat) : l.filterMap (fun i => ((L.map g).toArray)[i]?) = (l.filterMap fun i => L[i]?).map g := by
  rw [List.map_filterMap]
  congr 1
  funext i
  simp
theorem pick_hash {α : Type} (g : α → Int) (L : List α) : ∀ l : List Nat, (∀ i ∈ l, i < L.length) → (l.filterMap fun i => L[i]?).map g = l.map fun i => ((L.map g).toArray).getD i 0
  | [], _ => rfl
  | i :: l, h => by
    have hi := h i (by simp)
    rw [List.filterMap_cons_some (List.getElem?_eq_getElem hi), List.map_cons, List.map_cons, pick_hash g L l fun j hj => h j (by simp [hj])]
    simp [Array.getD_eq_getD_getElem?, hi]
theorem pick_perm' {α : Type} (L : List α) {l : List Nat} (h : l.Perm (List.range L.length)) : (l.filterMap fun i => L[i]?).Perm L := by
  have e := PySem.W.krv_all L.toArray
  simp only [List.size_toArray, List.getElem?_toArray] at e
  have h2 := h.filterMap (fun i => L[i]?)
  rw [e] at h2
  exact h2
theorem key_same {h h' : Heap} {k : List κ} {b : Addr} {o : Obj} {es : Array (Int × Value)} (hb : IsTupleKey knd h k b) (ho : h.get? a = some o) (hd : o.data = .set es ep t) (hs : Heap.SameBut a h h') : IsTupleKey knd h' k b := by
  obtain ⟨o1, its, n, ho1, hc, hd1, hi⟩ := hb
  refine ⟨o1, its, n, (hs.2 b fun e => ?_).trans ho1, hc, hd1, hi⟩
  subst e
  cases ho1.symm.trans ho
  rw [hd] at hd1
  cases hd1
theorem relay_tup {o : Obj} (ho : s.heap.get? a = some o) (hex : o.ExactSet) (hd : o.data = .set (L.map (ent knd)).toArray ep t) (T : TabOk t (L.map (hsh knd))) (hfl : L.length ≤ t.mask) (diff : (L.map (·.2)).Nodup)
    (keys : ∀ p ∈ L, IsTupleKey knd s.heap p.2 p.1) (few : L.length < 64) {wanted M : Nat} (hw : SetTable.sizeAbove wanted - 1 = M) (hM : MaskOk M) (h128 : SetTable.sizeAbove wanted ≤ 128) (hroom : L.length * 5 < M * 3) {Q : Unit → Shared → Prop}
    (hQ : ∀ h' L' ep' t', Heap.SameBut a s.heap h' → TSet knd h' a L' ep' t' → L'.Perm L → Q () { s with heap := h' }) : wpAny (model P w) A (setRelay a wanted) Q E s := by
  have eh : (L.map (ent knd)).toArray.map (·.1) = (L.map (hsh knd)).toArray := by simp [ent, Function.comp_def]
  obtain ⟨t', order, e, hp, T', em, _, _, _⟩ := relaid_ok t (hs := (L.map (hsh knd)).toArray) (wanted := wanted) hw hM (by simp; omega)
  rw [List.size_toArray, List.length_map] at hp
  have pm := pick_perm' L hp
  have eo : order.filterMap (fun i => ((L.map (ent knd)).toArray)[i]?) = ((order.toList.filterMap fun i => L[i]?).map (ent knd)).toArray := by
    apply Array.toList_inj.mp
    rw [Array.toList_filterMap, pick_map]
  rw [← pick_hash (hsh knd) L order.toList fun i hi => List.mem_range.mp (hp.mem_iff.mp hi)] at T'
  rw [setRelay_eq]
  refine wpAny_bind (wpAny_setState_of ho hd (TabOk.fits' T (by simp) (by simp; omega)) ?_)
  dsimp only
  refine wp_if_neg (by rw [sizeLine_eq]; omega) ?_
  try refine wpAny_bind (wpAny_pure ?_)
  rw [eh, e]
  dsimp only
  rw [eo]
  refine wpAny_bind ?_
  refine wp_if_neg (by simp [pm.length_eq]) ?_
  try refine wpAny_bind (wpAny_pure ?_)
  refine wpAny_pure ?_
  dsimp only
  refine wpAny_storeSet_of ho hd ?_ (by simp [pm.length_eq, sizeLine_eq]; omega)
  have sb : Heap.SameBut a s.heap (s.heap.update a (Obj.putSet ((order.toList.filterMap fun i => L[i]?).map (ent knd)).toArray t')) := Heap.SameBut.update ..
  refine hQ _ _ (ep + 1) t' sb ⟨⟨_, store_at ho hd, ⟨hex.1, hex.2.1, hex.2.2⟩, rfl⟩, T', (pm.map (·.2)).nodup_iff.mpr diff, fun p hpm => key_same (keys p (pm.mem_iff.mp hpm)) ho hd sb, ?_, ?_⟩ pm
  · rw [pm.length_eq, em]; exact hroom
  · rw [pm.length_eq]; exact few

theorem add_tup (R : TSet knd s.heap a L ep t) {x : Addr} {k : List κ} (hx : IsTupleKey knd s.heap k x) (hu : A.units < cLine) (hfew : L.length + 1 < 64) {Q : Bool → Shared → Prop}
    (hQ : ∀ b h' L' ep' t', Heap.SameBut a s.heap h' → TSet knd h' a L' ep' t' → (k ∈ L.map (·.2) → L' = L) → (k ∉ L.map (·.2) → L'.Perm ((x, k) :: L)) → Q b { s with heap := h' }) :
    wpAny (model P w) A (setAddHashed a (.ref x) (hsh knd (x, k))) Q E s := by
  obtain ⟨o, ho, hex, hd⟩ := R.cell
  have hroom := R.room
  unfold setAddHashed
  refine wpAny_holding ?_
  rw [show (100000 : Nat) = 99999 + 1 from rfl, setAddHashedIn_succ]
  refine wpAny_bind (wpAny_setState_of ho hd R.fits ?_)
  dsimp only
  refine wp_if_neg (by simp [byScan, Value.scannable]) ?_
  try refine wpAny_bind (wpAny_pure ?_)
  refine wpAny_bind (find_tup R hx hu (fun hm => ?_) fun N hm hN hb => ?_)
  · exact wpAny_pure (hQ false s.heap L ep t (Heap.SameBut.refl a s.heap) R (fun _ => rfl) fun z => absurd hm z)
  · dsimp only
    refine wpAny_bind (wpAny_setState_of ho hd R.fits ?_)
    dsimp only
    obtain ⟨q1, q2, q3, q4, _, _, _, _, q9⟩ := R.tab.put hN hb
    rw [List.length_map] at q2 q9
    have els : SetTable.insertAt (L.map (ent knd)).toArray (SetTable.below t.place (way t.mask (hsh knd (x, k)) N)) (hsh knd (x, k), Value.ref x) =
        ((L.take (SetTable.below t.place (way t.mask (hsh knd (x, k)) N)) ++ (x, k) :: L.drop (SetTable.below t.place (way t.mask (hsh knd (x, k)) N))).map (ent knd)).toArray := by
      apply Array.toList_inj.mp
      rw [SetTable.toList_insertAt]
      simp [ent]
    have hhs : (L.take (SetTable.below t.place (way t.mask (hsh knd (x, k)) N)) ++ (x, k) :: L.drop (SetTable.below t.place (way t.mask (hsh knd (x, k)) N))).map (hsh knd) =
        (L.map (hsh knd)).take (SetTable.below t.place (way t.mask (hsh knd (x, k)) N)) ++ hsh knd (x, k) :: (L.map (hsh knd)).drop (SetTable.below t.place (way t.mask (hsh knd (x, k)) N)) := by
      simp
    rw [← hhs] at q3
    generalize t.put (way t.mask (hsh knd (x, k)) N) = pt at q1 q3 q4 q9 ⊢
    obtain ⟨t1, p⟩ := pt
    dsimp only at q1 q3 q4 q9 ⊢
    subst q1
    rw [els]
    generalize SetTable.below t.place (way t.mask (hsh knd (x, k)) N) = p at q2 q3 ⊢
    have pm : (L.take p ++ (x, k) :: L.drop p).Perm ((x, k) :: L) := by
      have h : (L.take p ++ (x, k) :: L.drop p).Perm ((x, k) :: (L.take p ++ L.drop p)) := List.perm_middle
      rwa [List.take_append_drop] at h
    generalize L.take p ++ (x, k) :: L.drop p = L1 at pm q3 ⊢
    have hlen : L1.length = L.length + 1 := pm.length_eq
    have diff1 : (L1.map (·.2)).Nodup := by
      refine (pm.map (·.2)).nodup_iff.mpr ?_
      rw [List.map_cons]
      exact List.nodup_cons.mpr ⟨hm, R.diff⟩
    -- whatever mark the table gets
    have fin : ∀ tb : Bool, wpAny (model P w) A (do
        storeSet a (L1.map (ent knd)).toArray (if tb then t1 else { t1 with plain := false })
        if !false && (if tb then t1 else { t1 with plain := false } : SetTable).tooFull then setRelay a (SetTable.grown ((L.map (ent knd)).toArray.size + 1))
        return true) Q E s := fun tb => by
      have ht : ∃ t2 : SetTable, (if tb then t1 else { t1 with plain := false } : SetTable) = t2 ∧ TabOk t2 (L1.map (hsh knd)) ∧ t2.mask = t.mask ∧ t2.fill = L.length + 1 := by
        cases tb
        · exact ⟨_, rfl, ⟨q3.ris, q3.dm, q3.sz, q3.mok, q3.bd, q3.reach⟩, q4, q9⟩
        · exact ⟨_, rfl, q3, q4, q9⟩
      obtain ⟨t2, e2, T2, m2, f2⟩ := ht
      rw [e2]
      refine wpAny_bind (wpAny_storeSet_of ho hd ?_ (by simp [hlen, sizeLine_eq]; omega))
      have sb : Heap.SameBut a s.heap (s.heap.update a (Obj.putSet (L1.map (ent knd)).toArray t2)) := Heap.SameBut.update ..
      have ho1 := store_at (es' := (L1.map (ent knd)).toArray) (t' := t2) ho hd
      generalize s.heap.update a (Obj.putSet (L1.map (ent knd)).toArray t2) = h1 at sb ho1 ⊢
      have keys1 : ∀ p ∈ L1, IsTupleKey knd h1 p.2 p.1 := fun p hp => by
        rcases List.mem_cons.mp (pm.mem_iff.mp hp) with e | hp
        · rw [e]; exact key_same hx ho hd sb
        · exact key_same (R.keys p hp) ho hd sb
      have htf : t2.tooFull = decide ((L.length + 1) * 5 ≥ t2.mask * 3) := by unfold SetTable.tooFull; rw [f2]
      by_cases hf : t2.tooFull = true
      · first
          | (refine wpAny_bind ?_; refine wp_if_pos (by simp [hf]) ?_)
          | (refine wp_if_pos (by simp [hf]) ?_; refine wpAny_bind ?_)
        rw [htf, decide_eq_true_eq, m2] at hf
        have hsz : (L.map (ent knd)).toArray.size = L.length := by simp
        rw [hsz]
        have go : ∀ M, SetTable.sizeAbove (SetTable.grown (L.length + 1)) - 1 = M → MaskOk M → SetTable.sizeAbove (SetTable.grown (L.length + 1)) ≤ 128 → (L.length + 1) * 5 < M * 3 → L.length + 1 ≤ t.mask →
            wpAny (model P w) A (setRelay a (SetTable.grown (L.length + 1))) (fun _ s' => wpAny (model P w) A (pure true) Q E s') E { s with heap := h1 } := fun M g1 g2 g3 g4 g5 =>
          relay_tup (s := { s with heap := h1 }) ho1 ⟨hex.1, hex.2.1, hex.2.2⟩ rfl T2 (by rw [hlen, m2]; exact g5) diff1 keys1 (by rw [hlen]; exact hfew) g1 g2 g3 (by rw [hlen]; exact g4) fun h2 L2 ep2 t3 sb2 R2 pm2 =>
            wpAny_pure (hQ true h2 L2 ep2 t3 (sb.trans sb2) R2 (fun z => absurd z hm) fun _ => pm2.trans pm)
        rcases R.tab.mok with e | e | e <;> rw [e] at hf hroom
        · have e4 : L.length = 4 := by omega
          exact go 31 (by rw [e4, size_20]) (.inr (.inl rfl)) (by rw [e4, size_20]; decide) (by omega) (by omega)
        · have e4 : L.length = 18 := by omega
          exact go 127 (by rw [e4, size_76]) (.inr (.inr rfl)) (by rw [e4, size_76]; decide) (by omega) (by omega)
        · omega
      · first
          | refine wp_if_neg (by simp [hf]) ?_
          | (refine wpAny_bind ?_; refine wp_if_neg (by simp [hf]) ?_; refine wpAny_pure ?_)
        rw [htf, decide_eq_true_eq] at hf
        exact wpAny_pure (hQ true h1 L1 (ep + 1) t2 sb ⟨⟨_, ho1, ⟨hex.1, hex.2.1, hex.2.2⟩, rfl⟩, T2, diff1, keys1, by rw [hlen]; omega, by rw [hlen]; exact hfew⟩ (fun z => absurd z hm) fun _ => pm)
    by_cases hpl : t1.plain = true
    · first
        | (refine wpAny_bind ?_; refine wp_if_pos hpl ?_; refine byVal_tup hx fun tb => ?_)
        | refine wp_if_pos hpl (wpAny_bind (byVal_tup hx fun tb => ?_))
      exact fin tb
    · first
        | (refine wpAny_bind ?_; refine wp_if_neg hpl ?_; refine wpAny_pure ?_)
        | refine wp_if_neg hpl ?_
      exact fin true

theorem ndis_of {α : Type} [DecidableEq α] : ∀ (m l : List α), l.Nodup → (∀ x, x ∈ l ↔ x ∈ m) → l.length = ndis m
  | [], l, _, h => by
    cases l with
    | nil => rfl
    | cons x l => exact absurd ((h x).mp (by simp)) (by simp)
  | y :: m, l, hn, h => by
    by_cases hy : y ∈ m
    · rw [ndis, if_pos hy, Nat.zero_add]
      exact ndis_of m l hn fun x => (h x).trans ⟨fun e => (List.mem_cons.mp e).elim (fun e => e ▸ hy) id, fun e => List.mem_cons_of_mem _ e⟩
    · rw [ndis, if_neg hy]
      have hl : y ∈ l := (h y).mpr (by simp)
      have e := ndis_of m (l.erase y) (hn.erase y) fun x => by
        rw [hn.mem_erase_iff, h x, List.mem_cons]
        exact ⟨fun ⟨a, b⟩ => b.resolve_left a, fun b => ⟨fun e => hy (e ▸ b), .inr b⟩⟩
      rw [← e, List.length_erase_of_mem hl]
      have := List.length_pos_of_mem hl
      omega

/-- the set holds the keys of the first i -/
def Has (L : List (Addr × List κ)) (ks : List (Addr × List κ)) (i : Nat) : Prop := L.length ≤ i ∧ (∀ p ∈ L, p ∈ ks) ∧ ∀ k, k ∈ L.map (·.2) ↔ k ∈ (ks.take i).map (·.2)

theorem upd_tups {I S : Addr} {fp wr : List Addr} {n : Nat} {Pv : Nat → Value → Prop} {St : Nat → Heap → Prop} {R : Result → Shared → Prop} (W : Walks P w A.in1 I fp wr n Pv St) (hS : S ∉ fp) (ks : List (Addr × List κ)) (hn : n = ks.length)
    (few : ks.length < 64) (hv : ∀ i v, Pv i v → ∃ p, ks[i]? = some p ∧ v = .ref p.1) (h0 : Heap) (hk : ∀ p ∈ ks, IsTupleKey knd h0 p.2 p.1) (hS0 : h0.get? S = none) (hw0 : ∀ b ∈ wr, h0.get? b = none) (hu : A.in1.units < cLine) :
    ∀ (k i : Nat) (s : Shared), n = k + i → St i s.heap → (∀ b o, h0.get? b = some o → s.heap.get? b = some o) → (∃ L ep t, TSet knd s.heap S L ep t ∧ Has L ks i) →
      (∀ h' tk L ep t, TSet knd h' S L ep t → Has L ks n → (∀ b o, h0.get? b = some o → h'.get? b = some o) → R (.ok (.ret .none)) { s with heap := h', toks := tk }) →
      codeAny (model P w) A (.builtin "set.update.loop" ⟨[.ref S, .ref I], []⟩) R s := by
  have hSw : S ∉ wr := fun h => hS (W.sub _ h)
  have kp : ∀ {h h' : Heap}, (∀ b o, b ∉ wr → h.get? b = some o → h'.get? b = some o) → (∀ b o, h0.get? b = some o → h.get? b = some o) → ∀ b o, h0.get? b = some o → h'.get? b = some o := fun h1 h2 b o e =>
    h1 b o (fun hb => by rw [hw0 b hb] at e; cases e) (h2 b o e)
  have at_ : ∀ {h h' : Heap} {L : List (Addr × List κ)} {ep t}, TSet knd h S L ep t → (∀ o, h.get? S = some o → h'.get? S = some o) → (∀ p ∈ L, p ∈ ks) → (∀ b o, h0.get? b = some o → h'.get? b = some o) → TSet knd h' S L ep t := fun R e sub q => by
    obtain ⟨o, ho, r⟩ := R.cell
    refine ⟨⟨o, e o ho, r⟩, R.tab, R.diff, fun p hp => ?_, R.room, R.few⟩
    obtain ⟨o1, its, n, ho1, r1⟩ := hk p (sub p hp)
    exact ⟨o1, its, n, q _ _ ho1, r1⟩
  intro k
  induction k with
  | zero =>
    intro i s hi hst hkp ⟨L, ep, t, hT, g⟩ hR
    have hi : i = n := by omega
    subst hi
    refine codeAny_builtin F.entry_set_update_loop ?_
    rw [Around.under_plainId F.plain_set_update_loop _]
    show wpAny _ A.in1 (pyNext (.ref I) >>= _) _ _ s
    refine wpAny_bind (W.done s _ _ hst fun h' tk hm => ?_)
    show wpAny _ A.in1 (ret Value.none) _ _ _
    exact wpAny_pure (hR h' tk L ep t (at_ hT (fun o e => hm S o hSw e) g.2.1 (kp hm hkp)) g (kp hm hkp))
  | succ k ih =>
    intro i s hi hst hkp ⟨L, ep, t, hT, g⟩ hR
    refine codeAny_builtin F.entry_set_update_loop ?_
    rw [Around.under_plainId F.plain_set_update_loop _]
    show wpAny _ A.in1 (pyNext (.ref I) >>= _) _ _ s
    refine wpAny_bind (W.item i s _ _ (by omega) hst fun v h1 tk hP hst1 hm => ?_)
    obtain ⟨p, hp, rfl⟩ := hv i v hP
    have hpk := List.mem_of_getElem? hp
    have hkp1 := kp hm hkp
    have hT1 : TSet knd h1 S L ep t := at_ hT (fun o e => hm S o hSw e) g.2.1 hkp1
    have hx : IsTupleKey knd h1 p.2 p.1 := by
      obtain ⟨o1, its, n, ho1, r1⟩ := hk p hpk
      exact ⟨o1, its, n, hkp1 _ _ ho1, r1⟩
    show wpAny _ A.in1 (holding [Value.ref p.1] (setAdd S (.ref p.1)) >>= _) _ _ _
    refine wpAny_bind (wpAny_holding ?_)
    unfold setAdd
    refine wpAny_holding ?_
    refine wpAny_bind (wpAny_pyHash_tuple hu hx ?_)
    refine add_tup (k := p.2) (s := { s with heap := h1, toks := tk + (p.2.length + 1) }) hT1 hx hu (by have := g.1; omega) fun b h2 L2 ep2 t2 sb hT2 c1 c2 => ?_
    have htk : ∀ k, k ∈ (ks.take (i + 1)).map (·.2) ↔ k ∈ (ks.take i).map (·.2) ∨ k = p.2 := fun k => by
      rw [List.take_succ, hp]
      simp
    have g2 : Has L2 ks (i + 1) := by
      by_cases c : p.2 ∈ L.map (·.2)
      · rw [c1 c]
        refine ⟨Nat.le_succ_of_le g.1, g.2.1, fun k => ?_⟩
        rw [htk, g.2.2 k]
        exact ⟨.inl, fun e => e.elim id fun e => by rw [e]; exact (g.2.2 _).mp c⟩
      · have pm := c2 c
        refine ⟨by rw [pm.length_eq, List.length_cons]; have := g.1; omega, fun q hq => ?_, fun k => ?_⟩
        · rcases List.mem_cons.mp (pm.mem_iff.mp hq) with e | e
          · rw [e]; exact hpk
          · exact g.2.1 q e
        · rw [(pm.map (·.2)).mem_iff, List.map_cons, List.mem_cons, htk, g.2.2 k, or_comm]
    have hkp2 : ∀ b o, h0.get? b = some o → h2.get? b = some o := fun b o e => (sb.2 b fun z => by rw [z, hS0] at e; cases e).trans (hkp1 b o e)
    refine wpAny_pure ⟨plainId_quiet F.plain_set_update_loop _, ih (i + 1) { s with heap := h2, toks := tk + (p.2.length + 1) } (by omega) (W.frame _ h1 h2 hst1 fun b hb o e => ?_) hkp2 ⟨L2, ep2, t2, hT2, g2⟩ fun h3 tk3 L3 ep3 t3 a1 a2 a3 => hR h3 tk3 L3 ep3 t3 a1 a2 a3⟩
    rw [sb.2 b fun h : b = S => hS (by rw [← h]; exact hb)]
    exact e

def newSetO (led : Bool) : Obj := { cls := .type "set", dict := none, data := .set #[] 0 (.fresh 0 0 led) }
theorem TSet.new {h : Heap} {led : Bool} (ho : h.get? a = some (newSetO led)) : TSet knd h a [] 0 (.fresh 0 0 led) where
  cell := ⟨_, ho, ⟨rfl, rfl, rfl⟩, rfl⟩
  tab := ⟨List.Pairwise.nil, rfl, rfl, .inl rfl, fun x hx => (by cases hx), fun i h j hi => (by simp at hi)⟩
  diff := List.nodup_nil
  keys := fun p hp => (by cases hp)
  room := by show 0 * 5 < 7 * 3; decide
  few := by show 0 < 64; decide
set_option maxHeartbeats 4000000 in
theorem call_set_keys {l : Addr} {items : Array Value} (ks : List (Addr × List κ)) {Q : Value → Shared → Prop} (hh : A.handled = none) (hl : s.heap.IsList l items) (hit : items.toList = ks.map fun p => Value.ref p.1)
    (hk : ∀ p ∈ ks, IsTupleKey knd s.heap p.2 p.1) (few : ks.length < 64) (hu : A.units + 3 < cLine)
    (h : ∀ (h' : Heap) (tk : Nat) L ep t, TSet knd h' s.heap.objs.size L ep t → Has L ks ks.length → (∀ b o, s.heap.get? b = some o → h'.get? b = some o) → Q (.ref s.heap.objs.size) { s with heap := h', toks := tk }) :
    wpAny (model P w) A (call (.type "set") [.ref l]) Q E s := by
  have hsz : items.size = ks.length := by
    have q := congrArg List.length hit
    rwa [Array.length_toList, List.length_map] at q
  have fresh : ∀ b, s.heap.objs.size ≤ b → s.heap.get? b = none := fun b hb => by
    cases q : s.heap.get? b with
    | none => rfl
    | some o => exact absurd (Heap.lt_size q) (Nat.not_lt.mpr hb)
  obtain ⟨c, tl, hmro⟩ := F.called_set.mro
  have hmade := F.called_set.made
  have hsub := F.called_set.sub
  refine wpAny_call (codeAny_of_tree ?_)
  show wpAny _ _ (callAny (.type "set") _) _ _ _
  refine wpAny_pure ⟨Code.quiet_builtin _ (by decide +kernel), codeAny_builtin F.entry_type_call ?_⟩
  rw [Around.under_plain (weight_type_call_type "set" [.ref l] []) rfl]
  have h1 := F.called_set.notType
  have h2 := F.called_set.canCreate
  have hct := F.typeCall_set_1 (.ref l)
  repeat (any_goals (first | assumption | wp_step))
  refine codeAny_mono (code_set_new_1 (.ref l) (E := E) (Q₁ := fun v s1 => ∃ led, v = .ref s.heap.objs.size ∧ s1 = { s with heap := s.heap.push (newSetO led) }) fun led => ⟨led, rfl, rfl⟩) fun r s1 hr => ?_
  cases r with
  | error e => exact hr
  | ok fl =>
    cases fl with
    | ret obj =>
      obtain ⟨led, rfl, rfl⟩ := hr
      have hS : (s.heap.push (newSetO led)).get? s.heap.objs.size = some (newSetO led) := Heap.get?_push_size _ rfl
      have hT : Shared.TypeIs { s with heap := s.heap.push (newSetO led) } (.ref s.heap.objs.size) "set" := ⟨_, hS, rfl⟩
      have hli := F.called_set.init.lookup
      have hbi := F.called_set.init.bind (.ref s.heap.objs.size)
      repeat (any_goals (first | assumption | wp_step))
      refine codeAny_mono (codeAny_call_builtin (R := wants (fun r s2 => r = .none ∧ ∃ h' tk L ep t, s2 = { s with heap := h', toks := tk } ∧ TSet knd h' s.heap.objs.size L ep t ∧ Has L ks ks.length ∧ (∀ b o, s.heap.get? b = some o → h'.get? b = some o)) E)
        F.called_set.init.plain F.entry_set_init (check_set_init_1 hT ?_)) fun r2 s2 hr2 => ?_
      · obtain ⟨⟨oc, od, odt, osl⟩, hol, hcl, nl, hdl⟩ := hl
        simp only at hcl hdl
        subst hcl; subst hdl
        have hol' : (s.heap.push (newSetO led)).get? l = some { cls := .type "list", dict := od, data := .seq items nl, slots := osl } := Heap.get?_push_of_some _ hol
        have hsls := F.sub_list_set
        have hslf := F.sub_list_frozenset
        have hne : (Value.type "list" == Value.type "dict") = false := by decide
        have hl1 : (s.heap.push (newSetO led)).IsList l items := ⟨_, hol', rfl, nl, rfl⟩
        unfold Builtin.«set.__init__» noKeywords Builtin.Frozenset.updateFrom
        generalize hPI : pyIter = PI
        wp_walk
        subst hPI
        refine wpAny_pyIter_list hl1 (wpAny_bind (wpAny_runValue ?_))
        have hlS : l < s.heap.objs.size := Heap.lt_size hol
        have hps : (s.heap.push (newSetO led)).objs.size = s.heap.objs.size + 1 := Heap.size_push ..
        have hh3 : A.in1.in1.in1.handled = none := by simp [hh]
        have hval : ∀ (i : Nat) (v : Value), items[i]? = some v → ∃ p, ks[i]? = some p ∧ v = .ref p.1 := fun i v hv => by
          have q : items.toList[i]? = some v := by rw [Array.getElem?_toList]; exact hv
          rw [hit, List.getElem?_map, Option.map_eq_some_iff] at q
          obtain ⟨p, q1, q2⟩ := q
          exact ⟨p, q1, q2.symm⟩
        refine upd_tups (Walks.list hh3 _ l (by rw [hps]; exact Nat.ne_of_lt (Nat.lt_succ_of_lt hlS)) items) (by rw [hps]; simp only [List.mem_cons, List.not_mem_nil, or_false, not_or]; exact ⟨Nat.ne_of_lt (Nat.lt_succ_self _), Nat.ne_of_gt hlS⟩) ks hsz few hval s.heap hk (fresh _ (Nat.le_refl _)) (fun b hb => fresh b (by rw [List.mem_singleton.mp hb, hps]; omega)) hu items.size 0 _ rfl
          ⟨⟨_, Heap.get?_push_size _ rfl, rfl, rfl⟩, hl1.push _⟩ (fun b o e => Heap.get?_push_of_some _ (Heap.get?_push_of_some _ e))
          ⟨[], 0, _, TSet.new (led := led) (Heap.get?_push_of_some _ hS), Nat.zero_le _, fun p hp => (by cases hp), fun k => (by simp)⟩ fun h' tk L ep t a1 a2 a3 => ?_
        show wpAny _ _ _ _ _ _
        refine wpAny_pure ?_
        show wpAny _ _ (ret Value.none) _ _ _
        rw [hsz] at a2
        exact wpAny_pure ⟨rfl, h', tk, L, ep, t, rfl, a1, a2, a3⟩
      · cases r2 with
        | error e => exact hr2
        | ok fl2 =>
          cases fl2 with
          | ret r =>
            obtain ⟨rfl, h', tk, L, ep, t, rfl, a1, a2, a3⟩ := hr2
            repeat (any_goals (first | assumption | wp_step))
            exact h _ _ _ _ _ a1 a2 a3
          | _ => exact hr2.elim
    | _ => exact hr.elim
end
end L3
end

section -- IU
set_option autoImplicit false
set_option linter.all false
set_option maxRecDepth 100000
set_option maxHeartbeats 2000000
namespace L3
open PySem PySem.Spec PyProof.Rows L2

section
variable {X : Cx}
def rGetL : V → V → Hp → VK → Prop := fun o i H Q => ∃ p xs k j x, o = .ref p ∧ i = .int k ∧ H p = some (.lst xs) ∧ L2.ixN xs.length k = some j ∧ xs[j]? = some x ∧ Q x H
theorem get_list : PGet X rGetL := by
  intro pins s σ H o i ov iv Q I ro ri h
  obtain ⟨p, xs, k, j, x, rfl, rfl, hp, hj, hx, q⟩ := h
  cases ro
  obtain ⟨t, rfl⟩ := ri
  obtain ⟨its, n, r, ho, hz⟩ := I.lst hp
  obtain ⟨h1, h2, h3, h4⟩ := ixN_seq hj
  obtain ⟨w, ew, rw'⟩ := r.get hx
  have hl := r.length
  have hn := line63
  have fin : EP X pins σ Q w s := ⟨x, H, I, rw', q⟩
  have pl : s.heap.IsList p its.toArray := ⟨_, ho, rfl, n, rfl⟩
  by_cases h0 : 0 ≤ k
  · have hk : k.toNat = j := by
      rw [seqIndex_of h0 h4] at h1
      exact Option.some.inj h1
    exact wpAny_getItem_list pl h0 (by omega) (by rw [hk]; simpa using ew) fin
  · have hk : (k + (its.toArray.size : Int)).toNat = j := by
      rw [seqIndex_neg (by omega) h3] at h1
      rw [List.size_toArray, ← hl]
      exact Option.some.inj h1
    exact wpAny_getItem_list_neg pl (by omega) (by rw [List.size_toArray]; omega) (by omega) (by rw [hk]; simpa using ew) fin
end
section
variable {X : Cx} {Ps : List Addr} {cl : XC} {W : WX} {a b c : Expr} {va vb vc : Env → S → R D} {pos tp : Pos}
theorem getC_at {s : S} {d k x : D} (h : getC s d k = some x) : ∃ n i xs j, d = .ref n ∧ k = .int i ∧ s.cells[n]? = some (.lst xs) ∧ ixN xs.length i = some j ∧ xs[j]? = some x := by
  unfold getC at h
  split at h
  · split at h
    · rename_i hc
      simp only [Option.bind_eq_some_iff] at h
      obtain ⟨j, h1, h2⟩ := h
      exact ⟨_, _, _, j, rfl, rfl, hc, h1, h2⟩
    · cases h
  · cases h
theorem putC_at {s s' : S} {d k r : D} (h : putC s r d k = some s') : ∃ n i xs j, d = .ref n ∧ k = .int i ∧ s.cells[n]? = some (.lst xs) ∧ ixN xs.length i = some j ∧ s' = s.put n (.lst (xs.set j r)) := by
  unfold putC at h
  split at h
  · split at h
    · rename_i hc
      simp only [Option.map_eq_some_iff] at h
      obtain ⟨j, h1, h2⟩ := h
      exact ⟨_, _, _, j, rfl, rfl, hc, h1, h2.symm⟩
    · cases h
  · cases h
theorem s_augp {op : Op2} (hop : op = .add ∨ op = .sub) (ha : E1 X Ps cl W a va) (hb : E1 X Ps cl W b vb) (hc : E1 X Ps cl W c vc)
    (hs : ∀ ov iv new, augStore b ov iv new = (do holding [new, ov, iv] (setItem ov iv new); release [new, ov, iv] []; pure .next)) :
    S1 X Ps cl W (.AugAssign (.Subscript a b tp) op.py c pos) fun e s => F.of (va e s) e fun x s => F.of (vb e s) e fun k s => match getC s x k with
      | some old => F.of (vc e s) e fun d s => match (aug2 op old d).bind fun r => putC s r x k with
        | some s => .nx e s
        | none => .bad
      | none => .bad := by
  have hio : PIp X op.py (fun x y H Q => ∃ i j, x = .int i ∧ y = .int j ∧ ∀ k, ((op = .add ∧ k = i + j) ∨ (op = .sub ∧ k = i - j)) → Q (.int k) H) := by
    intro pins s σ H x y v u Q I r1 r2 ⟨i, j, h1, h2, h3⟩
    rcases hop with rfl | rfl
    · exact ip_add pins s σ H x y v u Q I r1 r2 ⟨i, j, h1, h2, h3 _ (.inl ⟨rfl, rfl⟩)⟩
    · exact ip_sub pins s σ H x y v u Q I r1 r2 ⟨i, j, h1, h2, h3 _ (.inr ⟨rfl, rfl⟩)⟩
  refine PS.imp (ps_augS ha hb get_list hc hio set_list hs) fun Dn σ H ⟨ρ, e, s, g, er, p⟩ => ?_
  refine ⟨ρ, e, s, g, er, PostF.of (r := va e s) p g er fun x s1 ρ1 H1 v x1 o er1 p => ?_⟩
  refine ⟨ρ1, e, s1, o.good, er1, PostF.of (r := vb e s1) p o.good er1 fun k s2 ρ2 H2 v2 x2 o2 er2 p => ?_⟩
  cases hg : getC s2 x k with
  | none => rw [hg] at p; exact p.elim
  | some old =>
    rw [hg] at p
    dsimp only at p
    obtain ⟨n, i, xs, j, rfl, rfl, hcell, hj, hold⟩ := getC_at hg
    obtain ⟨g1, r1⟩ := o
    obtain ⟨g2, r2⟩ := o2
    cases r2
    have r1' := r1.ext g1 x2
    cases r1' with
    | ref hn =>
      obtain ⟨ws, hw, rw_⟩ := g2.cell n _ hcell
      obtain ⟨wv, hwv, rwv⟩ := rw_.get hold
      refine ⟨_, ws, i, j, wv, rfl, rfl, hw, by rw [← rw_.length]; exact hj, hwv, ?_⟩
      refine ⟨ρ2, e, s2, g2, er2, PostF.of (r := vc e s2) p g2 er2 fun d s3 ρ3 H3 v3 x3 o3 er3 p => ?_⟩
      cases hp : (aug2 op old d).bind fun r => putC s3 r (.ref n) (.int i) with
      | none => rw [hp] at p; exact p.elim
      | some s4 =>
        rw [hp] at p
        dsimp only at p
        simp only [Option.bind_eq_some_iff] at hp
        obtain ⟨r, h1, h2⟩ := hp
        obtain ⟨n', i', ys, j', en, ei, hcell3, hj3, rfl⟩ := putC_at h2
        cases en
        cases ei
        obtain ⟨i1, j1, rfl, rfl, hr⟩ := aug2E h1
        cases rwv
        obtain ⟨g3, r3⟩ := o3
        cases r3
        refine ⟨i1, j1, rfl, rfl, fun z hz => ?_⟩
        have hz : r = .int z := by
          rcases hr with ⟨rfl, rfl⟩ | ⟨rfl, rfl⟩ <;> rcases hz with ⟨h, rfl⟩ | ⟨h, rfl⟩ <;> first | rfl | cases h
        subst hz
        obtain ⟨us, hu, ru⟩ := g3.cell n _ hcell3
        have hn3 : n < s3.n := (List.getElem?_eq_some_iff.mp hcell3).1
        refine ⟨_, us, i, j', by rw [x3.same n hn], rfl, hu, by rw [← ru.length]; exact hj3, ?_⟩
        exact p ρ3 _ σ (Ext.put g3 hn3 _ _) (g3.put hn3 (ru.set j' (.int _))) (er3.ext g3 (Ext.put g3 hn3 _ _))
end

theorem items_keys {P : Program} {w : World} : ∀ {ks : List L2.Key} {us : List Value}, Vals (ks.map kV) us → ItemsAre (mixKind P w) ks us
  | [], _, r => by cases r; exact .nil
  | k :: ks, us, r => by
    obtain ⟨u, us', rfl, r1, r2⟩ : ∃ u us', us = u :: us' ∧ RelV (kV k) u ∧ Vals (ks.map kV) us' := by
      cases us with
      | nil => cases r
      | cons u us' => exact ⟨u, us', rfl, by cases r; assumption, by cases r; assumption⟩
    exact .cons (kV_is r1) (items_keys r2)
section
variable {X : Cx} {Ps : List Addr} {cl : XC} {W : WX} {a b : Expr} {fa fb : Env → S → R D} {pos p p2 p3 q : Pos} {k : Nat} {K : Fr} {ρ : Rh} {n : Nat} {y : Option Addr} {H : Hp}
theorem keysT_rel : ∀ {xs : List D} {vs : List V} {ks : List (List Ky)}, keysT xs = some ks → RelL K ρ n y H xs vs → ∃ ps : List (Addr × List L2.Key), vs = ps.map (fun p => V.ref p.1) ∧ ps.map (·.2) = ks.map (List.map toK) ∧ ∀ p ∈ ps, SqT K H p.1 (p.2.map kV)
  | [], _, ks, h, r => by cases h; cases r; exact ⟨[], rfl, rfl, by simp⟩
  | d :: xs, _, ks, h, .cons r t => by
    cases d with
    | tup ys =>
      simp only [keysT, Option.bind_eq_some_iff, Option.map_eq_some_iff] at h
      obtain ⟨k, h0, ks', h1, rfl⟩ := h
      obtain ⟨ps, e1, e2, e3⟩ := keysT_rel h1 t
      cases r with
      | tup g1 g2 =>
        rename_i a0 us
        refine ⟨(a0, k.map toK) :: ps, by rw [e1]; rfl, by rw [List.map_cons, e2]; rfl, fun p hp => ?_⟩
        rcases List.mem_cons.mp hp with rfl | hp
        · show SqT K H a0 ((k.map toK).map kV)
          rw [← keysD_rel h0 g2]
          exact g1.sq
        · exact e3 p hp
    | _ => simp [keysT] at h
theorem ndis_map {α β : Type} [DecidableEq α] [DecidableEq β] (f : α → β) (hf : ∀ x y, f x = f y → x = y) : ∀ l : List α, ndis (l.map f) = ndis l
  | [] => rfl
  | x :: l => by
    have e : f x ∈ l.map f ↔ x ∈ l := by
      rw [List.mem_map]
      exact ⟨fun ⟨y, hy, e⟩ => hf _ _ e ▸ hy, fun h => ⟨x, h, rfl⟩⟩
    rw [List.map_cons, ndis, ndis, ndis_map f hf l]
    simp only [e]
theorem ndis_len {α : Type} [DecidableEq α] : ∀ l : List α, ndis l ≤ l.length
  | [] => Nat.le_refl _
  | x :: l => by
    have := ndis_len l
    rw [ndis, List.length_cons]
    split <;> omega
theorem e_lset (hc : X.calm = true) (hu : X.A.units + 5 < cLine) (hg : Gl X "len") (hm : X.mg "len" = none) (hg2 : Gl X "set") (hm2 : X.mg "set" = none) (ha : E1 X Ps cl W a fa)
    (na : starEach [a] X.env = (false, eval a X.env) :: starEach [] X.env) : E1 X Ps cl W (.Call (.Name "len" p) [.Call (.Name "set" p2) [a] [] q] [] pos) fun e s => (fa e s).bind fun x s => R.opt (lsetOf (x.rd s)) s := by
  refine ⟨fun pins s σ H Q I h => ?_⟩
  refine Call_ (ld_blt I hg hm PySem.boot_len ?_)
  refine PyProof.Rows.callWith_builtin1 (PyProof.Rows.args_cons ?_ rfl) rfl rfl
  refine Call_ (ld_blt I hg2 hm2 PyProof.Rows.boot_set ?_)
  obtain ⟨ρ, e, st, g, er, p⟩ := h
  refine PyProof.Rows.callWith_type1 (PyProof.Rows.args_cons (thn (ha.run pins s σ H (fun x H1 => ∃ (l : Addr) (ps : List (Addr × List L2.Key)), x = .ref l ∧ SqL X.K H1 l (ps.map fun p => V.ref p.1) ∧ (∀ p ∈ ps, SqT X.K H1 p.1 (p.2.map kV)) ∧ ps.length < 64 ∧ Q (.int (ndis (ps.map (·.2)))) H1) I ?_) fun v s1 ⟨x, H1, I1, r1, q1⟩ => PyProof.Rows.args_nil ?_) na) na rfl
  · refine ⟨ρ, e, st, g, er, p.bind fun d1 s1 ρ1 H1 v1 e1 o1 p => ?_⟩
    have hx := Rel.rd o1.good o1.frz
    generalize d1.rd s1 = dx at hx p
    obtain ⟨d, h, p⟩ := p.opt
    cases dx with
    | lv o xs =>
      obtain ⟨A, ws, rfl, ht, rl⟩ := hx
      simp only [lsetOf, Option.bind_eq_some_iff] at h
      obtain ⟨ks, h1, h2⟩ := h
      split at h2
      · rename_i h64
        cases h2
        obtain ⟨ps, rfl, e2, e3⟩ := keysT_rel h1 rl
        have hl : ps.length = ks.length := by simpa using congrArg List.length e2
        refine ⟨A, ps, rfl, .of ht, e3, by omega, ?_⟩
        rw [e2, ndis_map _ (fun x y e => map_toK_inj e)]
        exact p.val o1.good (by simp) (.int _)
      · cases h2
    | _ => simp [lsetOf] at h
  obtain ⟨l, ps, rfl, hq, h1, h64, q1⟩ := q1
  cases r1
  obtain ⟨its, r, pl, hz⟩ := I1.list hq
  have ei : its = ps.map fun p => Value.ref p.1 := by
    have : ∀ {ps : List (Addr × List L2.Key)} {us : List Value}, Vals (ps.map fun p => V.ref p.1) us → us = ps.map fun p => Value.ref p.1 := by
      intro ps
      induction ps with
      | nil => intro us r; cases r; rfl
      | cons p ps ih =>
        intro us r
        cases us with
        | nil => cases r
        | cons u us' =>
          obtain ⟨r1, r2⟩ : RelV (.ref p.1) u ∧ Vals (ps.map fun p => V.ref p.1) us' := by cases r; exact ⟨‹_›, ‹_›⟩
          rw [ih r2, List.map_cons]
          congr 1
    exact this r
  refine call_set_keys (knd := mixKind X.prog X.w) ps (I1.ok.hd hc) pl.isList (by simpa using ei) (fun p hp => ?_) h64 (by first | omega | (simp; omega)) fun h' tk L ep t R g k => ?_
  · obtain ⟨its, r, ht, _⟩ := I1.tuple (h1 p hp)
    obtain ⟨o, ho, hc, n, hd⟩ := ht
    exact ⟨o, _, n, ho, hc, hd, by simpa using items_keys r⟩
  refine PyProof.Rows.args_nil ?_
  obtain ⟨o, ho, hex, hd⟩ := R.cell
  have I2 : Inv X pins σ H1 { s1 with heap := h', toks := tk } := I1.kept fun b o e => k b o e
  have hn : L.length = ndis (ps.map (·.2)) := by
    rw [← List.length_map (f := (·.2))]
    refine ndis_of _ _ R.diff fun x => ?_
    rw [g.2.2 x, List.take_length]
  refine call_len_set (s := { s1 with heap := h', toks := tk }) ho hex hd (TSet.fits (s := { s1 with heap := h', toks := tk }) R) (by have h1 := g.1; rw [List.size_toArray, List.length_map]; omega) ⟨.int (ndis (ps.map (·.2))), H1, I2.tok _, ⟨tk + 1, by rw [List.size_toArray, List.length_map, hn]⟩, q1⟩
end
end L3
end

section -- I16
set_option autoImplicit false
set_option linter.all false
set_option maxRecDepth 100000
set_option maxHeartbeats 2000000
namespace L3
open PySem PySem.Spec PyProof.Rows L2 GxR

/-- what a global name is -/
inductive GE where
  | fn (i m : Nat) | con (d : D) | blt | cls (c : Nat) | dic (kvs : List (List Nat × D)) | word (i : Nat)
abbrev GT := List (Str × GE)
def GE.isBlt : Option GE → Bool | some .blt => true | _ => false
def kvB : List (List Nat × D) → List (List Nat × D) → Bool
  | [], [] => true
  | (a, x) :: r, (b, y) :: q => (a == b && x.same y) && kvB r q
  | _, _ => false
theorem kvB_eq : ∀ {a b : List (List Nat × D)}, kvB a b = true → a = b
  | [], [], _ => rfl
  | (a, x) :: r, (b, y) :: q, h => by
    simp only [kvB, Bool.and_eq_true, beq_iff_eq] at h
    rw [h.1.1, D.same_eq _ _ h.1.2, kvB_eq h.2]
  | [], _ :: _, h => by cases h
  | _ :: _, [], h => by cases h
def glb (G : GT) (sc : Scope) (x : Str) : Option GE := if sc.names.lookup x = some .globalImplicit ∧ x ≠ ("__debug__" : Str) ∧ x ≠ ("__name__" : Str) then G.lookup x else none
def visC (sc : Scope) (x : Str) : Bool := decide (sc.names.lookup x = some .local) || (decide (sc.names.lookup x = some .cell) || decide (sc.names.lookup x = some .free))
def conC : Const → D → Bool
  | .none, .non => true
  | .bool a, .bl b => a == b
  | .int a, .int b => decide (a = b)
  | .str s, .str l => s.cps.toList == l
  | _, _ => false
def notStar : Expr → Bool | .Starred .. => false | _ => true
def plainL (es : List Expr) : Bool := es.all notStar
def noSuper : Expr → Bool | .Call (.Name ..) [] [] _ => false | _ => true
def plainIx : Expr → Bool | .Slice .. => false | .Tuple .. => false | _ => true
def notSet : Expr → Bool | .Set .. => false | _ => true
def notSL : Expr → Bool | .Set .. => false | .List .. => false | _ => true

def vName : Expr → Option Str | .Name x _ => some x | _ => none
def vCon : Expr → Option Const | .Constant c _ _ => some c | _ => none
def vBin : Expr → Option (Expr × Operator × Expr) | .BinOp a o b _ => some (a, o, b) | _ => none
def vNeg : Expr → Option Expr | .UnaryOp .USub a _ => some a | _ => none
def vNot : Expr → Option Expr | .UnaryOp .Not a _ => some a | _ => none
def vBool : Expr → Option (BoolOp × Expr × Expr × List Expr × Pos) | .BoolOp o (a :: b :: r) p => some (o, a, b, r, p) | _ => none
def vCmp : Expr → Option (Expr × CmpOp × Expr) | .Compare a [o] [b] _ => some (a, o, b) | _ => none
def vChain : Expr → Option (Expr × CmpOp × CmpOp × Expr × Expr) | .Compare a [o, q] [b, c] _ => some (a, o, q, b, c) | _ => none
def vIte : Expr → Option (Expr × Expr × Expr) | .IfExp c a b _ => some (c, a, b) | _ => none
def vTup : Expr → Option (List Expr) | .Tuple es _ _ => some es | _ => none
def vLst : Expr → Option (List Expr) | .List es _ => some es | _ => none
def vStar : Expr → Option Expr | .Starred e _ => some e | _ => none
def vIdx : Expr → Option (Expr × Expr) | .Subscript a i _ => some (a, i) | _ => none
def vSlc : Expr → Option (Expr × Option Expr × Option Expr) | .Subscript a (.Slice l h none _) _ => some (a, l, h) | _ => none
def vCall : Expr → Option (Str × List Expr) | .Call (.Name x _) es [] _ => some (x, es) | _ => none
def vMeth : Expr → Option (Expr × Str × List Expr × Bool) | .Call (.Attribute o f ap) es [] p => some (o, f, es, ap.endLine == p.line) | _ => none
def vLc : Expr → Option (Expr × Expr × Expr × List Expr × Scope) | .ListComp elt [⟨tg, iter, ifs, 0⟩] sc _ => some (elt, tg, iter, ifs, sc) | _ => none
def vGen : Expr → Option (Str × Expr × Expr × Expr × List Expr × Scope) | .Call (.Name x _) [.GeneratorExp elt [⟨tg, iter, ifs, 0⟩] sc _] [] _ => some (x, elt, tg, iter, ifs, sc) | _ => none
def vMaxd : Expr → Option (Str × Expr × Int) | .Call (.Name x _) [a] [⟨some n, .Constant (.int k) _ _, _⟩] _ => if n = ("default" : Str) then some (x, a, k) else none | _ => none
def vSrev : Expr → Option Expr | .Subscript a (.Slice none none (some (.UnaryOp .USub (.Constant (.int 1) _ _) _)) _) _ => some a | _ => none
def vDict : Expr → Option (List (Option Expr) × List Expr) | .Dict ks vs _ => some (ks, vs) | _ => none
def kyD : Ky → D
  | .inl i => .int i
  | .inr z => .str z
def dctC : List Ky → List D → List (Option Expr) → List Expr → Bool
  | [], [], [], [] => true
  | k :: ks, d :: ds, some ke :: kes, ve :: ves => match vCon ke, vCon ve with
    | some c1, some c2 => conC c1 (kyD k) && (conC c2 d && dctC ks ds kes ves)
    | _, _ => false
  | _, _, _, _ => false
section
variable {e : Expr}
theorem vSrev_eq {a : Expr} (h : vSrev e = some a) : ∃ k p1 p2 p3 p, e = .Subscript a (.Slice none none (some (.UnaryOp .USub (.Constant (.int 1) k p1) p2)) p3) p := by
  unfold vSrev at h; split at h <;> cases h; exact ⟨_, _, _, _, _, rfl⟩
theorem vDict_eq {ks : List (Option Expr)} {vs : List Expr} (h : vDict e = some (ks, vs)) : ∃ p, e = .Dict ks vs p := by
  unfold vDict at h; split at h <;> cases h; exact ⟨_, rfl⟩
theorem vMaxd_eq {x : Str} {a : Expr} {k : Int} (h : vMaxd e = some (x, a, k)) : ∃ p p2 p3 j p4, e = .Call (.Name x p) [a] [⟨some "default", .Constant (.int k) j p3, p4⟩] p2 := by
  unfold vMaxd at h
  split at h
  · split at h
    · rename_i q; subst q; cases h; exact ⟨_, _, _, _, _, rfl⟩
    · cases h
  · cases h
theorem vName_eq {x : Str} (h : vName e = some x) : ∃ p, e = .Name x p := by
  cases e <;> simp [vName] at h; subst h; exact ⟨_, rfl⟩
theorem vCon_eq {c : Const} (h : vCon e = some c) : ∃ k p, e = .Constant c k p := by
  cases e <;> simp [vCon] at h; subst h; exact ⟨_, _, rfl⟩
theorem vBin_eq {a b : Expr} {o : Operator} (h : vBin e = some (a, o, b)) : ∃ p, e = .BinOp a o b p := by
  cases e <;> simp [vBin] at h; obtain ⟨rfl, rfl, rfl⟩ := h; exact ⟨_, rfl⟩
theorem vNeg_eq {a : Expr} (h : vNeg e = some a) : ∃ p, e = .UnaryOp .USub a p := by
  unfold vNeg at h; split at h <;> cases h; exact ⟨_, rfl⟩
theorem vNot_eq {a : Expr} (h : vNot e = some a) : ∃ p, e = .UnaryOp .Not a p := by
  unfold vNot at h; split at h <;> cases h; exact ⟨_, rfl⟩
theorem vBool_eq {o : BoolOp} {a b : Expr} {r : List Expr} {p : Pos} (h : vBool e = some (o, a, b, r, p)) : e = .BoolOp o (a :: b :: r) p := by
  unfold vBool at h; split at h <;> cases h; rfl
theorem vCmp_eq {a b : Expr} {o : CmpOp} (h : vCmp e = some (a, o, b)) : ∃ p, e = .Compare a [o] [b] p := by
  unfold vCmp at h; split at h <;> cases h; exact ⟨_, rfl⟩
theorem vChain_eq {a b c : Expr} {o q : CmpOp} (h : vChain e = some (a, o, q, b, c)) : ∃ p, e = .Compare a [o, q] [b, c] p := by
  unfold vChain at h; split at h <;> cases h; exact ⟨_, rfl⟩
theorem vIte_eq {a b c : Expr} (h : vIte e = some (c, a, b)) : ∃ p, e = .IfExp c a b p := by
  unfold vIte at h; split at h <;> cases h; exact ⟨_, rfl⟩
theorem vTup_eq {es : List Expr} (h : vTup e = some es) : ∃ k p, e = .Tuple es k p := by
  unfold vTup at h; split at h <;> cases h; exact ⟨_, _, rfl⟩
theorem vLst_eq {es : List Expr} (h : vLst e = some es) : ∃ p, e = .List es p := by
  unfold vLst at h; split at h <;> cases h; exact ⟨_, rfl⟩
theorem vStar_eq {a : Expr} (h : vStar e = some a) : ∃ p, e = .Starred a p := by
  unfold vStar at h; split at h <;> cases h; exact ⟨_, rfl⟩
theorem vIdx_eq {a i : Expr} (h : vIdx e = some (a, i)) : ∃ p, e = .Subscript a i p := by
  unfold vIdx at h; split at h <;> cases h; exact ⟨_, rfl⟩
theorem vSlc_eq {a : Expr} {l u : Option Expr} (h : vSlc e = some (a, l, u)) : ∃ p p2, e = .Subscript a (.Slice l u none p2) p := by
  unfold vSlc at h; split at h <;> cases h; exact ⟨_, _, rfl⟩
theorem vCall_eq {x : Str} {es : List Expr} (h : vCall e = some (x, es)) : ∃ p p2, e = .Call (.Name x p) es [] p2 := by
  unfold vCall at h; split at h <;> cases h; exact ⟨_, _, rfl⟩
theorem vMeth_eq {o : Expr} {f : Str} {es : List Expr} {b : Bool} (h : vMeth e = some (o, f, es, b)) : ∃ ap p, e = .Call (.Attribute o f ap) es [] p ∧ (ap.endLine == p.line) = b := by
  unfold vMeth at h; split at h <;> cases h; exact ⟨_, _, rfl, rfl⟩
theorem vLc_eq {elt tg iter : Expr} {ifs : List Expr} {sc : Scope} (h : vLc e = some (elt, tg, iter, ifs, sc)) : ∃ p, e = .ListComp elt [⟨tg, iter, ifs, 0⟩] sc p := by
  unfold vLc at h; split at h <;> cases h; exact ⟨_, rfl⟩
theorem vGen_eq {x : Str} {elt tg iter : Expr} {ifs : List Expr} {sc : Scope} (h : vGen e = some (x, elt, tg, iter, ifs, sc)) : ∃ p p2 p3, e = .Call (.Name x p) [.GeneratorExp elt [⟨tg, iter, ifs, 0⟩] sc p3] [] p2 := by
  unfold vGen at h; split at h <;> cases h; exact ⟨_, _, _, rfl⟩
end

def ownL (N : List Str) (own : List Nat) : List (Str × Nat) := own.map fun i => ((N[i]?).getD "", i)
theorem ownL_snd (N : List Str) (own : List Nat) : (ownL N own).map (·.2) = own := by
  induction own with
  | nil => rfl
  | cons a r ih => simp only [ownL, List.map_cons] at ih ⊢; rw [ih]
def genC (scope : Scope) : Bool := !scope.isCoroutine && (scope.names.all fun y => y.2 != .cell) && decide (scope.names.lookup (".0" : Str) = some NameKind.local)
def subN (t : Tg) (own : List Nat) : Bool := t.names.all fun i => own.contains i
mutual
def okE (G : GT) (N : List Str) : Nat → Scope → CE → Expr → Bool
  | g, sc, .var i, e => match vName e with
    | some x => decide (N[i]? = some x) && (visC sc x && (decide (x ≠ ("__debug__" : Str)) && decide (x ≠ ("__classdict__" : Str))))
    | none => false
  | g, sc, .con d, e => match vCon e with
    | some c => conC c d
    | none => false
  | g, sc, .glob d, e => match vName e with
    | some x => match glb G sc x with
      | some (.con d') => d'.same d
      | _ => false
    | none => false
  | g, sc, .bin op a b, e => match vBin e with
    | some (a', o, b') => decide (o = op.py) && (okE G N g sc a a' && okE G N g sc b b')
    | none => false
  | g, sc, .neg a, e => match vNeg e with
    | some a' => okE G N g sc a a'
    | none => false
  | g, sc, .not a, e => match vNot e with
    | some a' => okE G N g sc a a'
    | none => false
  | g, sc, .and a b, e => match vBool e with
    | some (.And, a', b', r, p) => okE G N g sc a a' && okE G N g sc b (if r.isEmpty then b' else .BoolOp .And (b' :: r) p)
    | _ => false
  | g, sc, .or a b, e => match vBool e with
    | some (.Or, a', b', r, p) => okE G N g sc a a' && okE G N g sc b (if r.isEmpty then b' else .BoolOp .Or (b' :: r) p)
    | _ => false
  | g, sc, .cmp op a b, e => match vCmp e with
    | some (a', o, b') => decide (o = op.py) && (notSet b' && (okE G N g sc a a' && okE G N g sc b b'))
    | none => false
  | g, sc, .chain o1 o2 a b c, e => match vChain e with
    | some (a', p1, p2, b', c') => (decide (p1 = o1.py) && decide (p2 = o2.py)) && (notSet c' && (okE G N g sc a a' && (okE G N g sc b b' && okE G N g sc c c')))
    | none => false
  | g, sc, .ite c a b, e => match vIte e with
    | some (c', a', b') => okE G N g sc c c' && (okE G N g sc a a' && okE G N g sc b b')
    | none => false
  | g, sc, .tup xs, e => match vTup e with
    | some es => okA G N g sc xs es
    | none => false
  | g, sc, .lst xs, e => match vLst e with
    | some es => okA G N g sc xs es
    | none => false
  | _, _, .star _, _ => false
  | g, sc, .idx a i, e => match vIdx e with
    | some (a', i') => plainIx i' && (okE G N g sc a a' && okE G N g sc i i')
    | none => false
  | g, sc, .slc a lo hi, e => match vSlc e with
    | some (a', l', h') => okE G N g sc a a' && (okO G N g sc lo l' && okO G N g sc hi h')
    | none => false
  | g, sc, .isa a t, e => match vCall e with
    | some (x, [a', y]) => match vName y with
      | some y => (GE.isBlt (glb G sc x) && decide (x = ("isinstance" : Str))) && ((GE.isBlt (glb G sc y) && decide (y = Str.ofString t.name)) && (notStar a' && okE G N g sc a a'))
      | none => false
    | _ => false
  | g, sc, .call f xs, e => match vCall e with
    | some (x, a :: es) => match glb G sc x with
      | some (.fn i m) => decide (i = f) && (plainL (a :: es) && okA G N g sc xs (a :: es))
      | _ => false
    | _ => false
  | g, sc, .bi b xs, e => match vCall e with
    | some (x, a :: es) => (b.sole && (GE.isBlt (glb G sc x) && decide (x = Str.ofString b.name))) && (plainL (a :: es) && okA G N g sc xs (a :: es))
    | _ => false
  | g, sc, .bm m o xs, e => match vMeth e with
    | some (o', f, a :: es, true) => (decide (f = m.name) && (noSuper o' && decide (es.length < 20))) && (plainL (a :: es) && (okE G N g sc o o' && okA G N g sc xs (a :: es)))
    | _ => false
  | g, sc, .mm m o xs, e => match vMeth e with
    | some (o', f, a :: es, true) => (decide (f = m.name) && (noSuper o' && decide (es.length < 20))) && (plainL (a :: es) && (okE G N g sc o o' && okA G N g sc xs (a :: es)))
    | some (o', f, [], true) => (decide (f = m.name) && noSuper o') && ((match m with | .pop => true | _ => false) && (xs.isEmpty && okE G N g sc o o'))
    | _ => false
  | g, sc, .lc elt t src ifs own, e => match vLc e with
    | some (elt', tg, iter, ifs', scope) => (blkC N sc scope (ownL N own) && subN t own) && ((tgC N (relS scope sc) (fun x => scope.names.lookup x == some .cell) t tg && notSet iter) &&
        (okI G N g sc src tg iter && (okT G N g (relS scope sc) ifs ifs' && okE G N g (relS scope sc) elt elt')))
    | none => false
  | g, sc, .gen all elt t src ifs own, e => match vGen e with
    | some (x, elt', tg, iter, ifs', scope) => match g with
      | 0 => false
      | g + 1 => (GE.isBlt (glb G sc x) && decide (x = (if all then ("all" : Str) else ("any" : Str)))) && ((blkC N sc scope (ownL N own) && (subN t own && genC scope)) && ((tgC N scope (fun x => scope.names.lookup x == some .cell) t tg && notSL iter) &&
        (okI G N (g + 1) sc src tg iter && (okT G N 0 scope ifs ifs' && okE G N 0 scope elt elt'))))
    | none => false
  | g, sc, .cell a, e => okE G N g sc a e
  | g, sc, .gin neg a kvs, e => match vCmp e with
    | some (a', o, b') => match vName b' with
      | some x => match glb G sc x with
        | some (.dic kvs') => decide (o = if neg then .NotIn else .In) && (kvB kvs' kvs && okE G N g sc a a')
        | _ => false
      | none => false
    | none => false
  | g, sc, .gix kvs a, e => match vIdx e with
    | some (b', a') => match vName b' with
      | some x => match glb G sc x with
        | some (.dic kvs') => plainIx a' && (kvB kvs' kvs && okE G N g sc a a')
        | _ => false
      | none => false
    | none => false
  | g, sc, .kget kvs a, e => match vMeth e with
    | some (o', f, [a'], true) => match vName o' with
      | some x => match glb G sc x with
        | some (.dic kvs') => decide (f = ("get" : Str)) && (notStar a' && (kvB kvs' kvs && okE G N g sc a a'))
        | _ => false
      | none => false
    | _ => false
  | _, _, .dct ks ds, e => match vDict e with
    | some (kes, ves) => decide ks.Nodup && ((!kes.isEmpty) && (decide (kes.length ≤ 15) && dctC ks ds kes ves))
    | none => false
  | g, sc, .srev a, e => match vSrev e with
    | some a' => okE G N g sc a a'
    | none => false
  | g, sc, .dofp a, e => match vCall e with
    | some (x, [a']) => (GE.isBlt (glb G sc x) && decide (x = ("dict" : Str))) && (notStar a' && okE G N g sc a a')
    | _ => false
  | g, sc, .lset a, e => match vCall e with
    | some (x, [y]) => match vCall y with
      | some (z, [a']) => (GE.isBlt (glb G sc x) && decide (x = ("len" : Str))) && ((GE.isBlt (glb G sc z) && decide (z = ("set" : Str))) && (notStar a' && okE G N g sc a a'))
      | _ => false
    | _ => false
  | g, sc, .dix a i, e => match vIdx e with
    | some (a', i') => plainIx i' && (okE G N g sc a a' && okE G N g sc i i')
    | none => false
  | g, sc, .rev a, e => match vCall e with
    | some (x, [y]) => match vCall y with
      | some (z, [a']) => (GE.isBlt (glb G sc x) && decide (x = ("list" : Str))) && ((GE.isBlt (glb G sc z) && decide (z = ("reversed" : Str))) && (notStar a' && okE G N g sc a a'))
      | _ => false
    | _ => false
  | g, sc, .maxd a k, e => match vMaxd e with
    | some (x, a', k') => (GE.isBlt (glb G sc x) && decide (x = ("max" : Str))) && (decide (k' = k) && (notStar a' && okE G N g sc a a'))
    | none => false
def okA (G : GT) (N : List Str) : Nat → Scope → List CE → List Expr → Bool
  | _, _, [], [] => true
  | g, sc, .star a :: r, e :: es => match vStar e with
    | some a' => okE G N g sc a a' && okA G N g sc r es
    | none => false
  | g, sc, a :: r, e :: es => notStar e && (okE G N g sc a e && okA G N g sc r es)
  | _, _, _, _ => false
def okO (G : GT) (N : List Str) : Nat → Scope → Option CE → Option Expr → Bool
  | _, _, none, none => true
  | g, sc, some a, some e => okE G N g sc a e
  | _, _, _, _ => false
def okT (G : GT) (N : List Str) : Nat → Scope → List CE → List Expr → Bool
  | _, _, [], [] => true
  | g, sc, [a], [e] => okE G N g sc a e
  | _, _, _, _ => false
def okI (G : GT) (N : List Str) : Nat → Scope → Src → Expr → Expr → Bool
  | g, sc, .seq a, _, e => okE G N g sc a e
  | g, sc, .chars a, _, e => okE G N g sc a e
  | g, sc, .rng1 a, _, e => match vCall e with
    | some (x, [a']) => (GE.isBlt (glb G sc x) && decide (x = ("range" : Str))) && (notStar a' && okE G N g sc a a')
    | _ => false
  | g, sc, .rng2 a b, _, e => match vCall e with
    | some (x, [a', b']) => (GE.isBlt (glb G sc x) && decide (x = ("range" : Str))) && ((notStar a' && notStar b') && (okE G N g sc a a' && okE G N g sc b b'))
    | _ => false
  | g, sc, .enum a, tg, e => match tg with
    | .Tuple _ _ _ => (match vCall e with
      | some (x, [a']) => (GE.isBlt (glb G sc x) && decide (x = ("enumerate" : Str))) && (notStar a' && okE G N g sc a a')
      | _ => false)
    | _ => false
end
end L3
end

section -- IV
set_option autoImplicit false
set_option linter.all false
set_option maxRecDepth 100000
set_option maxHeartbeats 2000000
namespace L3
open PySem PySem.Spec PyProof.Rows L2 GxR

/-- isinstance(e, C), C the class of number k -/
def isiC (G : GT) (sc : Scope) (en : Str) (k : Nat) : Expr → Bool
  | .Call (.Name x _) [.Name y _, .Name c _] [] _ => (decide (x = ("isinstance" : Str)) && GE.isBlt (glb G sc x)) && (decide (y = en) && (match glb G sc c with | some (.cls k') => decide (k' = k) | _ => false))
  | _ => false
def wStr (z : List Nat) : Expr → Bool
  | .Constant (.str s) _ _ => s.cps.toList == z
  | _ => false
def wordB (G : GT) (N : List Str) (sc : Scope) (body : List Stmt) : Bool := match N, body with
  | [en, kn, on], [.Assign [.Name kn1 _] (.List [c1, c2, c3, c4, c5] _) _, .If (.Compare (.Call (.Name ln _) [.ListComp (.Name o1 _) [⟨.Name o2 _, .Name kn2 _, [.Name o3 _], 0⟩] bs _] [] _) [.NotEq] [.Constant (.int 1) _ _] _) [.Return (some s0) _] [] _,
      .Return (some (.Subscript (.List [s1, s2, s3, s4, s5] _) (.Call (.Attribute (.Name kn3 _) ("index" : Str) ap) [.Constant (.bool true) _ _] [] cp) _)) _] =>
    (ap.endLine == cp.line) && (
    ((isiC G sc en 1 c1 && (isiC G sc en 2 c2 && (isiC G sc en 3 c3 && (isiC G sc en 4 c4 && isiC G sc en 5 c5)))) && (wStr (wordX 0) s0 && (wStr (wordX 1) s1 && (wStr (wordX 2) s2 && (wStr (wordX 3) s3 && (wStr (wordX 4) s4 && wStr (wordX 5) s5)))))) &&
      (((decide (ln = ("len" : Str)) && GE.isBlt (glb G sc ln)) && (decide (kn1 = kn) && (decide (kn2 = kn) && (decide (kn3 = kn) && (decide (o1 = on) && (decide (o2 = on) && decide (o3 = on))))))) &&
        ((decide (sc.names.lookup en = some .local) && decide (sc.names.lookup kn = some .local)) && ((blkC N sc bs [(on, 2)] && (decide (bs.names.lookup on = some .local) && visC (relS bs sc) on)) &&
          ((en != ("__debug__" : Str) && (kn != ("__debug__" : Str) && on != ("__debug__" : Str))) && (en != ("__classdict__" : Str) && (kn != ("__classdict__" : Str) && on != ("__classdict__" : Str))))))))
  | _, _ => false
/-- what the classes of the program's exceptions say -/
structure WordK (K : Fr) (cl : XC) : Prop where
  ex : ∀ k, k ≤ 5 → ∃ C, cl k = .ref C ∧ ExcC K C
  is : ∀ k c, k ≤ 5 → 1 ≤ c → c ≤ 5 → PySem.W.kitOne K (cl k) (cl c) = some (k == c)
/-- where that def stands -/
structure WordF (K : Fr) (mg : Str → Option Value) (cl : XC) (G : GT) (x : Str) : Prop where
  ex : ∃ (f : Addr) (fd : FuncData) (ps N : List Str) (name qual : Str) (params : Arguments) (body : List Stmt) (scope : Scope) (kws : List (Str × V)), mg x = some (.ref f) ∧ PySem.W.keepIn K (.ref f) = true ∧ Binds K fd ps [] ∧
    FunD K name qual params body scope [] kws f fd ∧ FnScope N ps scope ∧ ps.length = 1 ∧ N.length = 3 ∧ wordB G N scope body = true
  wk : WordK K cl
  blt : ∀ x, G.lookup x = some .blt → mg x = none
  cls : ∀ x c, G.lookup x = some (.cls c) → mg x = some (cl c)
end L3
end

section -- I17
set_option autoImplicit false
set_option linter.all false
set_option maxRecDepth 100000
set_option maxHeartbeats 2000000
namespace L3
open PySem PySem.Spec PyProof.Rows L2 GxR

/-- the globals stand for what the table says -/
structure GOk (X : Cx) (Ps : List Addr) (cl : XC) (k : Nat) (fs : Nat → List D → S → R D) (G : GT) : Prop where
  fn : ∀ x i m, G.lookup x = some (.fn i m) → FnF X Ps cl k m (fs i) x
  con : ∀ x d, G.lookup x = some (.con d) → ∃ v u, X.mg x = some u ∧ RelV v u ∧ (∀ xs, d ≠ .lv true xs) ∧ ∀ ρ n H, Rel X.K ρ n none H d v
  blt : ∀ x, G.lookup x = some .blt → X.mg x = none
  cls : ∀ x c, G.lookup x = some (.cls c) → ∃ (C : Addr) (bmB : List Value) (B newId initId : String), cl c = .ref C ∧ X.mg x = some (.ref C) ∧ ExcBaseFacts B newId initId bmB ∧ PySem.W.excIn X.K C bmB newId = true ∧ PySem.W.keepIn X.K (.ref C) = true ∧ Raises X (.ref C)
  dic : ∀ x kvs, G.lookup x = some (.dic kvs) → ∃ A, X.mg x = some (.ref A) ∧ KdAt X A kvs
  exm : ∀ x k c, k ≤ 5 → G.lookup x = some (.cls c) → PySem.W.exmOne X.K (cl k) (cl c) = some (subX k c)
  word : ∀ x i, G.lookup x = some (.word i) → WordF X.K X.mg cl G x
/-- the context of an expression; g: how many generators it may lie over -/
structure Okx (X : Cx) (Ps : List Addr) (cl : XC) (W : WX) (G : GT) (N : List Str) (g k : Nat) (sc : Scope) (fs : Nat → List D → S → R D) : Prop where
  nN : X.N = N
  nd : N.Nodup
  calm : X.calm = true
  esc : X.env.scope = sc
  room : Room (k + g) X.A
  tk : L2N.Takes X W
  gl : GOk X Ps cl k fs G
  gen : 0 < g → ∃ c P, TabB X.base X.mg c P ∧ X.env.code = .ref c ∧ P ∈ Ps

section
variable {X : Cx} {Ps : List Addr} {cl : XC} {W : WX} {G : GT} {N : List Str} {g k : Nat} {sc : Scope} {fs : Nat → List D → S → R D} {e : Expr}
theorem Okx.blk (o : Okx X Ps cl W G N g k sc fs) (s : Shared) (H : Hp) (scope : Scope) (C : Addr) (ce : List (Str × Addr)) (fp : List Addr) : Okx (X.blk s H scope (compEnvC scope ce C X.env) fp) Ps cl WF G N g k (relS scope sc) fs where
  nN := o.nN
  nd := o.nd
  calm := o.calm
  esc := by show relS scope X.env.scope = _; rw [o.esc]
  room := o.room
  tk := fun u s' ⟨a, B, sI, pins, σ, H, cls, d, _, _, _, _, _, _, _, _, w⟩ => w.elim
  gl := ⟨fun x i m h => ⟨(o.gl.fn x i m h).ex, (o.gl.fn x i m h).ar⟩, o.gl.con, o.gl.blt, o.gl.cls, o.gl.dic, o.gl.exm, o.gl.word⟩
  gen := o.gen
theorem Okx.gCx (o : Okx X Ps cl W G N g k sc fs) {A' : Around} (s : Shared) (H : Hp) (scope : Scope) (clo : List (Str × Addr)) (C : Addr) (code : Value) (fp : List Addr) (pn : List (Addr × Obj)) (r : Room k A') : Okx (gCx X A' s H scope clo C code fp pn) Ps cl WF G N 0 k scope fs where
  nN := o.nN
  nd := o.nd
  calm := rfl
  esc := rfl
  room := r
  tk := fun u s' ⟨a, B, sI, pins, σ, H, cls, d, _, _, _, _, _, _, _, _, w⟩ => w.elim
  gl := ⟨fun x i m h => ⟨(o.gl.fn x i m h).ex, (o.gl.fn x i m h).ar⟩, o.gl.con, o.gl.blt, o.gl.cls, o.gl.dic, o.gl.exm, o.gl.word⟩
  gen := fun h => absurd h (Nat.lt_irrefl _)
theorem glb_eq {x : Str} {ge : GE} (h : glb G sc x = some ge) : sc.names.lookup x = some .globalImplicit ∧ (x == ("__debug__" : Str)) = false ∧ x ≠ "__name__" ∧ G.lookup x = some ge := by
  unfold glb at h
  split at h
  · rename_i q
    exact ⟨q.1, by simpa using q.2.1, q.2.2, h⟩
  · cases h
theorem isBlt_eq {o : Option GE} (h : GE.isBlt o = true) : o = some .blt := by
  unfold GE.isBlt at h; split at h <;> first | rfl | cases h
theorem Okx.blt (o : Okx X Ps cl W G N g k sc fs) {x : Str} (h : GE.isBlt (glb G sc x) = true) : Gl X x ∧ X.mg x = none ∧ x ≠ "__name__" ∧ (x == ("__debug__" : Str)) = false := by
  obtain ⟨h1, h2, h3, h4⟩ := glb_eq (isBlt_eq h)
  exact ⟨by show X.env.scope.names.lookup x = _; rw [o.esc]; exact h1, o.gl.blt x h4, h3, h2⟩
theorem star_cons {a : Expr} {es : List Expr} {env : PySem.Env} (h : notStar a = true) : starEach (a :: es) env = (false, eval a env) :: starEach es env := by
  cases a <;> first | rfl | simp [notStar] at h
theorem star_plain {env : PySem.Env} {pos : Pos} : ∀ {es : List Expr}, plainL es = true → (backTo pos (starEach es env)).any (·.1) = false
  | [], _ => rfl
  | a :: es, h => by
    simp only [plainL, List.all_cons, Bool.and_eq_true] at h
    rw [star_cons h.1]
    have ih := star_plain (env := env) (pos := pos) (es := es) h.2
    unfold backTo at ih ⊢
    rw [List.map_cons, List.any_cons, ih]
    rfl
theorem star_few {env : PySem.Env} {pos : Pos} {es : List Expr} (h : plainL es = true) (hl : es.length < 30) :
    ((backTo pos (starEach es env)).all (fun x => !x.1) && (backToKw pos (keywordEach [] env)).all (fun x => x.1.isSome)
      && decide (es.length + ([] : List Keyword).length + (if ([] : List Keyword).isEmpty then 0 else 1) < 30)) = true := by
  have h1 : (backTo pos (starEach es env)).all (fun x => !x.1) = true := by
    have := star_plain (env := env) (pos := pos) h
    rw [List.any_eq_false] at this
    rw [List.all_eq_true]
    intro x hx
    have := this x hx
    simpa using this
  rw [h1]
  simp [backToKw, keywordEach, hl]
theorem noSuper_eq {o : Expr} {f : Str} {env : PySem.Env} {w : Sem Value} (h : noSuper o = true) : attributeBase o f env w = w := by
  unfold attributeBase
  split
  · simp [noSuper] at h
  · rfl
theorem plainIx_eq {b : Expr} (h : plainIx b = true) : PlainIx b := by
  intro o i
  cases b <;> first | rfl | simp [plainIx] at h
theorem notSet_eq {iter : Expr} {env : PySem.Env} (h : notSet iter = true) : ∀ x, foldedSetIterable iter env x = pure x := by
  intro x
  cases iter <;> first | rfl | simp [notSet] at h
theorem notSL_eq {iter : Expr} {env : PySem.Env} (h : notSL iter = true) : ∀ x, genFold iter env x = pure x := by
  intro x
  cases iter <;> first | rfl | simp [notSL] at h
theorem notSet_mark {op : CmpOp} {b : Expr} (h : notSet b = true) : behindInMarks op b = false := by
  cases b <;> first | rfl | simp [notSet] at h
theorem bi_boot (b : BI) (h : b.sole = true) : bootBuiltins (Str.ofString b.name) = some b.val := by
  cases b <;> first | (simp [BI.sole] at h; done) | decide +kernel
theorem ty_boot (t : Ty) : bootBuiltins (Str.ofString t.name) = some (.type t.name) := by
  cases t <;> decide +kernel
theorem isi_boot : bootBuiltins ("isinstance" : Str) = some (.builtin "isinstance") := by decide +kernel
theorem visC_eq {x : Str} (h : visC sc x = true) : Vis sc x := by
  simp only [visC, Bool.or_eq_true, decide_eq_true_eq] at h
  exact h
theorem toS_toList (s : Str) : toS s.cps.toList = s := by
  cases s; simp [toS]
theorem conC_eq {c : Const} {d : D} (h : conC c d = true) {j : Nat} {p : Pos} : E1 X Ps cl W (.Constant c j p) fun _ s => .ok d s := by
  cases c <;> cases d <;> simp [conC] at h
  · exact e_con pe_non (by simp) fun _ _ _ => .non
  · subst h; exact e_con pe_bl (by simp) fun _ _ _ => .bl _
  · subst h; exact e_con pe_int (by simp) fun _ _ _ => .int _
  · subst h
    refine e_con pe_str (by simp) fun ρ n H => ?_
    have := Rel.str (K := X.K) (ρ := ρ) (n := n) (x := none) (H := H) (‹Str›.cps.toList)
    rw [toS_toList] at this
    exact this
theorem conC_pe {c : Const} {d : D} (h : conC c d = true) {j : Nat} {p : Pos} : ∃ v, PE X (.Constant c j p) (tC v) ∧ (∀ xs, d ≠ .lv true xs) ∧ ∀ ρ n y H, Rel X.K ρ n y H d v := by
  cases c <;> cases d <;> simp [conC] at h
  · exact ⟨_, pe_non, by simp, fun _ _ _ _ => .non⟩
  · subst h; exact ⟨_, pe_bl, by simp, fun _ _ _ _ => .bl _⟩
  · subst h; exact ⟨_, pe_int, by simp, fun _ _ _ _ => .int _⟩
  · subst h
    refine ⟨_, pe_str, by simp, fun ρ n y H => ?_⟩
    have := Rel.str (K := X.K) (ρ := ρ) (n := n) (x := y) (H := H) (‹Str›.cps.toList)
    rw [toS_toList] at this
    exact this
theorem conC_ky {c : Const} {k : Ky} (h : conC c (kyD k) = true) {j : Nat} {p : Pos} : PE X (.Constant c j p) (tC (kV (toK k))) := by
  cases k with
  | inl i => cases c <;> simp [conC, kyD] at h; subst h; exact pe_int
  | inr z =>
    cases c <;> simp [conC, kyD] at h
    rename_i x
    subst h
    have : toS x.cps.toList = x := toS_toList x
    show PE X _ (tC (.str (toS x.cps.toList)))
    rw [this]; exact pe_str
theorem dctC_eq : ∀ {ks : List Ky} {ds : List D} {kes : List (Option Expr)} {ves : List Expr}, dctC ks ds kes ves = true → DConst X ks ds kes ves
  | [], [], [], [], _ => .nil
  | k :: ks, d :: ds, some ke :: kes, ve :: ves, h => by
    unfold dctC at h
    split at h
    · rename_i c1 c2 h1 h2
      obtain ⟨_, _, rfl⟩ := vCon_eq h1
      obtain ⟨_, _, rfl⟩ := vCon_eq h2
      simp only [Bool.and_eq_true] at h
      exact .cons ⟨_, rfl, conC_ky h.1, conC_pe h.2.1⟩ (dctC_eq h.2.2)
    · cases h
  | [], _ :: _, _, _, h => by simp [dctC] at h
  | [], [], _ :: _, _, h => by simp [dctC] at h
  | [], [], [], _ :: _, h => by simp [dctC] at h
  | _ :: _, [], _, _, h => by simp [dctC] at h
  | _ :: _, _ :: _, [], _, h => by simp [dctC] at h
  | _ :: _, _ :: _, none :: _, _, h => by simp [dctC] at h
  | _ :: _, _ :: _, some _ :: _, [], h => by simp [dctC] at h
/-- one test more than the value -/
def E3 (X : Cx) (Ps : List Addr) (cl : XC) (W : WX) (e : Expr) (f : Env → S → R D) : Prop := E1 X Ps cl W e f ∧ T1 X Ps cl W e f ∧ ∀ o vs p, e = .BoolOp o vs p → W1 X Ps cl W e f
theorem E3.of {f : Env → S → R D} (h : E1 X Ps cl W e f) (hb : ∀ o vs p, e ≠ .BoolOp o vs p) (he : ∀ whole, isTrue e X.env whole = (do let v ← whole; standAt e.pos; holding [v] (truthy v))) : E3 X Ps cl W e f :=
  ⟨h, t_val h he, fun o vs p q => absurd q (hb o vs p)⟩
theorem pts_of {ifs : List CE} {es : List Expr} {C : Nat → List D → S → R D} (h : (ifs = [] ∧ es = []) ∨ ∃ a b, ifs = [a] ∧ es = [b] ∧ T1 X Ps cl W b (ev C a)) : PTs X es (TXB X.K Ps cl W (tests C ifs)) := by
  rcases h with ⟨rfl, rfl⟩ | ⟨a, b, rfl, rfl, ht⟩
  · exact ⟨fun pins s σ H Q I ⟨ρ, e, st, g, er, p⟩ => pts_nil.run pins s σ H Q I (p ρ H Ext.refl g)⟩
  · refine ⟨fun pins s σ H Q I ⟨ρ, e, st, g, er, p⟩ => (pts_one ht).run pins s σ H Q I ⟨ρ, e, st, g, er, ?_⟩⟩
    have p : PostG X.K Ps ρ H st (tests C [a] e st) (GV X.K Ps Q) fun c H' => W (cl c) none σ H' := p
    unfold tests at p
    unfold bl
    cases q : ev C a e st with
    | bad => rw [q] at p; exact p
    | exc c s' => rw [q] at p; exact p
    | ok d s' =>
      rw [q] at p
      simp only [R.bind_ok] at p ⊢
      cases hb : d.bool with
      | none => rw [hb] at p; exact p
      | some b =>
        rw [hb] at p
        cases b with
        | true => unfold tests at p; exact p
        | false => exact p
end
end L3
end

section -- I18
set_option autoImplicit false
set_option linter.all false
set_option maxRecDepth 100000
set_option maxHeartbeats 4000000
namespace L3
open PySem PySem.Spec PyProof.Rows L2 GxR

theorem str_beq_false {x y : Str} (h : x ≠ y) : (x == y) = false := by simpa using h
section
variable {X : Cx} {Ps : List Addr} {cl : XC} {W : WX} {a b : Expr} {fa fb : Env → S → R D} {pos : Pos} {e : Expr}
theorem E3.one {op : BoolOp} {f : Env → S → R D} (h : E3 X Ps cl W a f) : E3 X Ps cl W (.BoolOp op [a] pos) f := by
  have w : W1 X Ps cl W (.BoolOp op [a] pos) f := by cases op with
    | And => exact pw_and1 h.2.1
    | Or => exact pw_or1 h.2.1
  exact ⟨pe_one h.1, w.pt, fun _ _ _ q => by cases q; exact w⟩
theorem E3.and {rest : List Expr} (ha : E3 X Ps cl W a fa) (hb : E3 X Ps cl W (.BoolOp .And (b :: rest) pos) fb) : E3 X Ps cl W (.BoolOp .And (a :: b :: rest) pos) (fAnd fa fb) := by
  have w := w_and ha.2.1 (hb.2.2 _ _ _ rfl)
  exact ⟨e_and ha.1 hb.1, w.pt, fun _ _ _ q => by cases q; exact w⟩
theorem E3.or {rest : List Expr} (ha : E3 X Ps cl W a fa) (hb : E3 X Ps cl W (.BoolOp .Or (b :: rest) pos) fb) : E3 X Ps cl W (.BoolOp .Or (a :: b :: rest) pos) (fOr fa fb) := by
  have w := w_or ha.2.1 (hb.2.2 _ _ _ rfl)
  exact ⟨e_or ha.1 hb.1, w.pt, fun _ _ _ q => by cases q; exact w⟩
theorem cell_bl {K : Fr} {ρ : Rh} {H : Hp} {s : S} {f : Env → S → R D} {en : Env} {G : GQ Bool} {XQ : Nat → Hp → Prop} (p : PostG K Ps ρ H s (bl (fun e s => (f e s).bind fun x s => newCell x s) en s) G XQ) : PostG K Ps ρ H s (bl f en s) G XQ := by
  unfold bl at p ⊢
  dsimp only at p
  cases q : f en s with
  | bad => rw [q] at p; exact p
  | exc c s' => rw [q] at p; exact p
  | ok x s' =>
    rw [q] at p
    simp only [R.bind_ok] at p
    unfold newCell at p
    split at p <;> exact p.elim
theorem E3.cell {f : Env → S → R D} (h : E3 X Ps cl W e f) : E3 X Ps cl W e fun e s => (f e s).bind fun x s => newCell x s :=
  ⟨e_cell h.1, PT.imp h.2.1 fun σ H Q ⟨ρ, en, s, g, er, p⟩ => ⟨ρ, en, s, g, er, cell_bl p⟩, fun o vs p q => PW.imp (h.2.2 o vs p q) fun σ H Q ⟨ρ, en, s, g, er, p⟩ => ⟨ρ, en, s, g, er, cell_bl p⟩⟩
end
section
variable {Ps : List Addr} {cl : XC} {G : GT} {N : List Str} {k : Nat} {fs : Nat → List D → S → R D}
mutual
theorem ok_e : ∀ (ce : CE) {X : Cx} {W : WX} {g : Nat} {sc : Scope} {e : Expr}, Okx X Ps cl W G N g k sc fs → okE G N g sc ce e = true → E3 X Ps cl W e fun en s => ev fs ce en s
  | .var i, X, W, g, sc, e, o, h => by
    unfold okE at h
    split at h
    · rename_i x hv
      obtain ⟨p, rfl⟩ := vName_eq hv
      simp only [Bool.and_eq_true, decide_eq_true_eq] at h
      simp only [ev]
      exact .of (e_var (by rw [o.nN]; exact h.1) (by rw [o.esc]; exact visC_eq h.2.1) (str_beq_false h.2.2.1) (str_beq_false h.2.2.2)) (by intros; simp) fun _ => rfl
    · cases h
  | .con d, X, W, g, sc, e, o, h => by
    unfold okE at h
    split at h
    · rename_i c hv
      obtain ⟨j, p, rfl⟩ := vCon_eq hv
      simp only [ev]
      exact .of (conC_eq h) (by intros; simp) fun _ => rfl
    · cases h
  | .glob d, X, W, g, sc, e, o, h => by
    unfold okE at h
    split at h
    · rename_i x hv
      obtain ⟨p, rfl⟩ := vName_eq hv
      split at h
      · rename_i d' hg
        have := D.same_eq _ _ h
        subst this
        obtain ⟨h1, h2, h3, h4⟩ := glb_eq hg
        obtain ⟨v, u, q1, q2, q3, q4⟩ := o.gl.con x _ h4
        simp only [ev]
        exact .of (e_con (pe_glob (by show X.env.scope.names.lookup x = _; rw [o.esc]; exact h1) q1 q2 h2) q3 q4) (by intros; simp) fun _ => rfl
      · cases h
    · cases h
  | .bin op a b, X, W, g, sc, e, o, h => by
    unfold okE at h
    split at h
    · rename_i a' op' b' hv
      obtain ⟨p, rfl⟩ := vBin_eq hv
      simp only [Bool.and_eq_true, decide_eq_true_eq] at h
      obtain ⟨rfl, h1, h2⟩ := h
      simp only [ev]
      exact .of (e_bin op (ok_e a o h1).1 (ok_e b o h2).1) (by intros; simp) fun _ => rfl
    · cases h
  | .neg a, X, W, g, sc, e, o, h => by
    unfold okE at h
    split at h
    · rename_i a' hv
      obtain ⟨p, rfl⟩ := vNeg_eq hv
      simp only [ev]
      exact .of (e_neg (ok_e a o h).1) (by intros; simp) fun _ => rfl
    · cases h
  | .not a, X, W, g, sc, e, o, h => by
    unfold okE at h
    split at h
    · rename_i a' hv
      obtain ⟨p, rfl⟩ := vNot_eq hv
      simp only [ev]
      have r := ok_e a o h
      exact ⟨e_not r.1, t_not r.2.1, fun _ _ _ q => by cases q⟩
    · cases h
  | .and a b, X, W, g, sc, e, o, h => by
    unfold okE at h
    split at h
    · rename_i a' b' r p hv
      have := vBool_eq hv
      subst this
      simp only [Bool.and_eq_true] at h
      simp only [ev]
      have ra := ok_e a o h.1
      have rb := ok_e b o h.2
      cases r with
      | nil => exact ra.and (E3.one rb)
      | cons c r => exact ra.and rb
    · cases h
  | .or a b, X, W, g, sc, e, o, h => by
    unfold okE at h
    split at h
    · rename_i a' b' r p hv
      have := vBool_eq hv
      subst this
      simp only [Bool.and_eq_true] at h
      simp only [ev]
      have ra := ok_e a o h.1
      have rb := ok_e b o h.2
      cases r with
      | nil => exact ra.or (E3.one rb)
      | cons c r => exact ra.or rb
    · cases h
  | .cmp op a b, X, W, g, sc, e, o, h => by
    unfold okE at h
    split at h
    · rename_i a' op' b' hv
      obtain ⟨p, rfl⟩ := vCmp_eq hv
      simp only [Bool.and_eq_true, decide_eq_true_eq] at h
      obtain ⟨rfl, hm, h1, h2⟩ := h
      simp only [ev]
      have hu : X.A.units + 65 < cLine := by have := o.room.un; omega
      have ra := ok_e a o h1
      have rb := ok_e b o h2
      exact ⟨e_cmp hu op ra.1 rb.1 (notSet_mark hm), t_cmp hu op ra.1 rb.1 (notSet_mark hm), fun _ _ _ q => by cases q⟩
    · cases h
  | .chain o1 o2 a b c, X, W, g, sc, e, o, h => by
    unfold okE at h
    split at h
    · rename_i a' p1 p2 b' c' hv
      obtain ⟨p, rfl⟩ := vChain_eq hv
      simp only [Bool.and_eq_true, decide_eq_true_eq] at h
      obtain ⟨⟨rfl, rfl⟩, hm, h1, h2, h3⟩ := h
      simp only [ev]
      have hu : X.A.units + 65 < cLine := by have := o.room.un; omega
      have ra := ok_e a o h1
      have rb := ok_e b o h2
      have rc := ok_e c o h3
      have hl : lastMarks [o1.py, o2.py] [b', c'] = false := by
        show behindInMarks o2.py c' = false
        exact notSet_mark hm
      exact ⟨e_chain hu o1 o2 ra.1 rb.1 rc.1 hl, t_chain hu o1 o2 ra.1 rb.1 rc.1 hl, fun _ _ _ q => by cases q⟩
    · cases h
  | .ite c a b, X, W, g, sc, e, o, h => by
    unfold okE at h
    split at h
    · rename_i c' a' b' hv
      obtain ⟨p, rfl⟩ := vIte_eq hv
      simp only [Bool.and_eq_true] at h
      simp only [ev]
      have rc := ok_e c o h.1
      have ra := ok_e a o h.2.1
      have rb := ok_e b o h.2.2
      exact ⟨e_ite rc.2.1 ra.1 rb.1, t_ite rc.2.1 ra.2.1 rb.2.1, fun _ _ _ q => by cases q⟩
    · cases h
  | .tup xs, X, W, g, sc, e, o, h => by
    unfold okE at h
    split at h
    · rename_i es hv
      obtain ⟨j, p, rfl⟩ := vTup_eq hv
      simp only [ev]
      exact .of (e_tup (ok_a xs o h)) (by intros; simp) fun _ => rfl
    · cases h
  | .lst xs, X, W, g, sc, e, o, h => by
    unfold okE at h
    split at h
    · rename_i es hv
      obtain ⟨p, rfl⟩ := vLst_eq hv
      simp only [ev]
      exact .of (e_lst (ok_a xs o h)) (by intros; simp) fun _ => rfl
    · cases h
  | .star a, X, W, g, sc, e, o, h => by
    unfold okE at h; cases h
  | .idx a i, X, W, g, sc, e, o, h => by
    unfold okE at h
    split at h
    · rename_i a' i' hv
      obtain ⟨p, rfl⟩ := vIdx_eq hv
      simp only [Bool.and_eq_true] at h
      simp only [ev]
      exact .of (e_idx (ok_e a o h.2.1).1 (ok_e i o h.2.2).1 (plainIx_eq h.1)) (by intros; simp) fun _ => rfl
    · cases h
  | .slc a lo hi, X, W, g, sc, e, o, h => by
    unfold okE at h
    split at h
    · rename_i a' l' h' hv
      obtain ⟨p, p2, rfl⟩ := vSlc_eq hv
      simp only [Bool.and_eq_true] at h
      simp only [ev]
      exact .of (e_slc (ok_e a o h.1).1 (ok_o lo o h.2.1) (ok_o hi o h.2.2)) (by intros; simp) fun _ => rfl
    · cases h
  | .isa a t, X, W, g, sc, e, o, h => by
    unfold okE at h
    split at h
    · rename_i x a' y' hv
      obtain ⟨p, p2, rfl⟩ := vCall_eq hv
      split at h
      · rename_i y hy
        obtain ⟨p3, rfl⟩ := vName_eq hy
        simp only [Bool.and_eq_true, decide_eq_true_eq] at h
        obtain ⟨⟨h1, rfl⟩, ⟨h2, rfl⟩, h3, h4⟩ := h
        obtain ⟨q1, q2, q3, q4⟩ := o.blt h1
        obtain ⟨r1, r2, r3, r4⟩ := o.blt h2
        simp only [ev]
        exact .of (e_isa t (ok_e a o h4).1 q1 q2 isi_boot r1 r2 (ty_boot t) q3 q4 r3 r4 (star_cons h3)) (by intros; simp) fun _ => rfl
      · cases h
    · cases h
  | .call f xs, X, W, g, sc, e, o, h => by
    unfold okE at h
    split at h
    · rename_i x a' es hv
      obtain ⟨p, p2, rfl⟩ := vCall_eq hv
      split at h
      · rename_i i m hg
        simp only [Bool.and_eq_true, decide_eq_true_eq] at h
        obtain ⟨rfl, hp, ha⟩ := h
        obtain ⟨h1, h2, h3, h4⟩ := glb_eq hg
        have hp' := hp
        simp only [plainL, List.all_cons, Bool.and_eq_true] at hp'
        simp only [ev]
        exact .of (e_call (o.gl.fn x i m h4) (o.room.mono (Nat.le_add_right _ _)) o.tk (by show X.env.scope.names.lookup x = _; rw [o.esc]; exact h1) (ok_a xs o ha) h2 (star_cons hp'.1) (star_plain hp'.2)) (by intros; simp) fun _ => rfl
      · cases h
    · cases h
  | .bi b xs, X, W, g, sc, e, o, h => by
    unfold okE at h
    split at h
    · rename_i x a' es hv
      obtain ⟨p, p2, rfl⟩ := vCall_eq hv
      simp only [Bool.and_eq_true, decide_eq_true_eq] at h
      obtain ⟨⟨hs, hb, rfl⟩, hp, ha⟩ := h
      obtain ⟨q1, q2, q3, q4⟩ := o.blt hb
      have hp' := hp
      simp only [plainL, List.all_cons, Bool.and_eq_true] at hp'
      simp only [ev]
      exact .of (e_bi o.calm b hs q1 q2 (bi_boot b hs) (ok_a xs o ha) q3 q4 (star_cons hp'.1) (star_plain hp'.2)) (by intros; simp) fun _ => rfl
    · cases h
  | .bm m ob xs, X, W, g, sc, e, o, h => by
    unfold okE at h
    split at h
    · rename_i o' f a' es hv
      obtain ⟨ap, p, rfl, hl⟩ := vMeth_eq hv
      simp only [Bool.and_eq_true, decide_eq_true_eq] at h
      obtain ⟨⟨rfl, hn, hz⟩, hp, ho, ha⟩ := h
      have hp' := hp
      simp only [plainL, List.all_cons, Bool.and_eq_true] at hp'
      simp only [ev]
      exact .of (e_bm m (ok_e ob o ho).1 (ok_a xs o ha) (noSuper_eq hn) (star_few hp (by simp; omega)) hl (star_cons hp'.1) (star_plain hp'.2)) (by intros; simp) fun _ => rfl
    · cases h
  | .mm m ob xs, X, W, g, sc, e, o, h => by
    unfold okE at h
    split at h
    · rename_i o' f a' es hv
      obtain ⟨ap, p, rfl, hl⟩ := vMeth_eq hv
      simp only [Bool.and_eq_true, decide_eq_true_eq] at h
      obtain ⟨⟨rfl, hn, hz⟩, hp, ho, ha⟩ := h
      have hp' := hp
      simp only [plainL, List.all_cons, Bool.and_eq_true] at hp'
      simp only [ev]
      exact .of (e_mm m (ok_e ob o ho).1 (ok_a xs o ha) (noSuper_eq hn) (star_few hp (by simp; omega)) hl (star_cons hp'.1) (star_plain hp'.2)) (by intros; simp) fun _ => rfl
    · rename_i o' f hv
      obtain ⟨ap, p, rfl, hl⟩ := vMeth_eq hv
      simp only [Bool.and_eq_true, decide_eq_true_eq] at h
      obtain ⟨⟨rfl, hn⟩, hm, hx, ho⟩ := h
      cases xs with
      | cons _ _ => simp at hx
      | nil =>
        cases m with
        | append => simp at hm
        | extend => simp at hm
        | pop =>
          simp only [ev, evs]
          exact .of (e_pop (ok_e ob o ho).1 (noSuper_eq hn) hl) (by intros; simp) fun _ => rfl
    · cases h
  | .lc elt t src ifs own, X, W, g, sc, e, o, h => by
    unfold okE at h
    split at h
    · rename_i elt' tg iter ifs' scope hv
      obtain ⟨p, rfl⟩ := vLc_eq hv
      simp only [Bool.and_eq_true] at h
      obtain ⟨⟨h1, h2⟩, ⟨h3, h4⟩, h5, h6, h7⟩ := h
      simp only [ev]
      refine .of ?_ (by intros; simp) fun _ => rfl
      have hN : X.N.Nodup := by rw [o.nN]; exact o.nd
      have hown : ∀ i ∈ t.names, i ∈ (ownL N own).map (·.2) := by
        rw [ownL_snd]
        simp only [subN, List.all_eq_true] at h2
        intro i hi
        simpa using h2 i hi
      have r := e_lc (Ps := Ps) (cl := cl) (W := W) (pos := p) (own := ownL N own) (t := t) o.calm hN (ok_i src o h5) (blkOk_by (by rw [o.nN, o.esc]; exact h1)) hown
        (fun s H C ce fp => g_of (X := X.blk s H scope (compEnvC scope ce C X.env) fp) (by rw [(o.blk s H scope C ce fp).nN]; exact o.nd) o.calm (fnb := fun x => scope.names.lookup x == some .cell) (fun x hx => hx) (by rw [(o.blk s H scope C ce fp).nN, (o.blk s H scope C ce fp).esc]; exact h3))
        (fun s H C ce fp => ok_t ifs (o.blk s H scope C ce fp) h6) (fun s H C ce fp => (ok_e elt (o.blk s H scope C ce fp) h7).1) (notSet_eq h4)
      rw [ownL_snd] at r
      exact r
    · cases h
  | .gen all elt t src ifs own, X, W, g, sc, e, o, h => by
    unfold okE at h
    split at h
    · rename_i x elt' tg iter ifs' scope hv
      obtain ⟨p, p2, p3, rfl⟩ := vGen_eq hv
      cases g with
      | zero => cases h
      | succ g =>
        simp only [Bool.and_eq_true, decide_eq_true_eq] at h
        obtain ⟨⟨hb, rfl⟩, ⟨h1, h2, hgc⟩, ⟨h3, h4⟩, h5, h6, h7⟩ := h
        obtain ⟨q1, q2, q3, q4⟩ := o.blt hb
        simp only [genC, Bool.and_eq_true, Bool.not_eq_true', List.all_eq_true, decide_eq_true_eq] at hgc
        obtain ⟨⟨c1, c2⟩, c3⟩ := hgc
        simp only [ev]
        refine .of ?_ (by intros; simp) fun _ => rfl
        have hN : X.N.Nodup := by rw [o.nN]; exact o.nd
        have hown : ∀ i ∈ t.names, i ∈ (ownL N own).map (·.2) := by
          rw [ownL_snd]
          simp only [subN, List.all_eq_true] at h2
          intro i hi
          simpa using h2 i hi
        obtain ⟨c, P, TB, hcode, hP⟩ := o.gen (Nat.succ_pos g)
        have r := e_gen (Ps := Ps) (cl := cl) (W := W) (p := p) (pos := p2) (gpos := p3) (own := ownL N own) (t := t) (k := k) all (o.room.mono (by omega)) hN q1 q2 TB hcode hP (blkOk_by (by rw [o.nN, o.esc]; exact h1)) hown c1
          (fun y hy q => by have := c2 y hy; simp [q] at this) c3 (ok_i src o h5)
          ⟨fun A' s H C clo code fp pn rA => g_of (X := gCx X A' s H scope clo C code fp pn) (by rw [(o.gCx s H scope clo C code fp pn rA).nN]; exact o.nd) rfl (fnb := fun x => scope.names.lookup x == some .cell) (fun x hx => hx) (by rw [(o.gCx s H scope clo C code fp pn rA).nN]; exact h3),
           fun A' s H C clo code fp pn rA => ok_t ifs (o.gCx s H scope clo C code fp pn rA) h6, fun A' s H C clo code fp pn rA => (ok_e elt (o.gCx s H scope clo C code fp pn rA) h7).1⟩ (notSL_eq h4) rfl
        rw [ownL_snd] at r
        exact r
    · cases h
  | .cell a, X, W, g, sc, e, o, h => by
    unfold okE at h
    simp only [ev]
    exact (ok_e a o h).cell
  | .gin neg a kvs, X, W, g, sc, e, o, h => by
    unfold okE at h
    split at h
    · rename_i a' op b' hv
      obtain ⟨p, rfl⟩ := vCmp_eq hv
      split at h
      · rename_i x hx
        obtain ⟨p2, rfl⟩ := vName_eq hx
        split at h
        · rename_i kvs' hg
          simp only [Bool.and_eq_true, decide_eq_true_eq] at h
          obtain ⟨rfl, hk, ha⟩ := h
          have := kvB_eq hk
          subst this
          obtain ⟨h1, h2, h3, h4⟩ := glb_eq hg
          obtain ⟨A, q1, q2⟩ := o.gl.dic x _ h4
          have hgl : Gl X x := by show X.env.scope.names.lookup x = _; rw [o.esc]; exact h1
          simp only [ev]
          exact ⟨e_gin neg hgl q1 h2 q2 (ok_e a o ha).1, t_gin neg hgl q1 h2 q2 (ok_e a o ha).1, fun _ _ _ q => by cases q⟩
        · cases h
      · cases h
    · cases h
  | .gix kvs a, X, W, g, sc, e, o, h => by
    unfold okE at h
    split at h
    · rename_i b' a' hv
      obtain ⟨p, rfl⟩ := vIdx_eq hv
      split at h
      · rename_i x hx
        obtain ⟨p2, rfl⟩ := vName_eq hx
        split at h
        · rename_i kvs' hg
          simp only [Bool.and_eq_true, decide_eq_true_eq] at h
          obtain ⟨hp, hk, ha⟩ := h
          have := kvB_eq hk
          subst this
          obtain ⟨h1, h2, h3, h4⟩ := glb_eq hg
          obtain ⟨A, q1, q2⟩ := o.gl.dic x _ h4
          have hgl : Gl X x := by show X.env.scope.names.lookup x = _; rw [o.esc]; exact h1
          simp only [ev]
          exact .of (e_gix hgl q1 h2 q2 (ok_e a o ha).1 (plainIx_eq hp)) (by intros; simp) fun _ => rfl
        · cases h
      · cases h
    · cases h
  | .kget kvs a, X, W, g, sc, e, o, h => by
    unfold okE at h
    split at h
    · rename_i o' f a' hv
      obtain ⟨ap, p, rfl, hl⟩ := vMeth_eq hv
      split at h
      · rename_i x hx
        obtain ⟨p2, rfl⟩ := vName_eq hx
        split at h
        · rename_i kvs' hg
          simp only [Bool.and_eq_true, decide_eq_true_eq] at h
          obtain ⟨hf, hn, hk, ha⟩ := h
          subst hf
          have := kvB_eq hk
          subst this
          obtain ⟨h1, h2, h3, h4⟩ := glb_eq hg
          obtain ⟨A, q1, q2⟩ := o.gl.dic x _ h4
          have hgl : Gl X x := by show X.env.scope.names.lookup x = _; rw [o.esc]; exact h1
          have hp : plainL [a'] = true := by simp [plainL, hn]
          simp only [ev]
          exact .of (e_kget hgl q1 h2 q2 (ok_e a o ha).1 ⟨noSuper_eq rfl, star_few hp (by simp), hl, by rw [star_cons hn]; rfl⟩) (by intros; simp) fun _ => rfl
        · cases h
      · cases h
    · cases h
  | .dct ks ds, X, W, g, sc, e, o, h => by
    unfold okE at h
    split at h
    · rename_i kes ves hv
      obtain ⟨p, rfl⟩ := vDict_eq hv
      simp only [Bool.and_eq_true, decide_eq_true_eq] at h
      obtain ⟨hn, h0, h15, hd⟩ := h
      simp only [ev]
      exact .of (e_dct (dctC_eq hd) hn (by intro q; subst q; simp at h0) h15) (by intros; simp) fun _ => rfl
    · cases h
  | .srev a, X, W, g, sc, e, o, h => by
    unfold okE at h
    split at h
    · rename_i a' hv
      obtain ⟨k, p1, p2, p3, p, rfl⟩ := vSrev_eq hv
      simp only [ev]
      exact .of (e_srev (ok_e a o h).1) (by intros; simp) fun _ => rfl
    · cases h
  | .dofp a, X, W, g, sc, e, o, h => by
    unfold okE at h
    split at h
    · rename_i x a' hv
      obtain ⟨p, p2, rfl⟩ := vCall_eq hv
      simp only [Bool.and_eq_true, decide_eq_true_eq] at h
      obtain ⟨⟨h1, rfl⟩, h3, h4⟩ := h
      obtain ⟨q1, q2, q3, q4⟩ := o.blt h1
      simp only [ev]
      exact .of (e_dofp o.calm (by have := o.room.un; omega) q1 q2 (by rfl) (ok_e a o h4).1 (by decide +kernel) (by decide +kernel) (star_cons h3)) (by intros; simp) fun _ => rfl
    · cases h
  | .dix a i, X, W, g, sc, e, o, h => by
    unfold okE at h
    split at h
    · rename_i a' i' hv
      obtain ⟨p, rfl⟩ := vIdx_eq hv
      simp only [Bool.and_eq_true] at h
      simp only [ev]
      exact .of (e_dix (by have := o.room.un; omega) (ok_e a o h.2.1).1 (ok_e i o h.2.2).1 (plainIx_eq h.1)) (by intros; simp) fun _ => rfl
    · cases h
  | .rev a, X, W, g, sc, e, o, h => by
    unfold okE at h
    split at h
    · rename_i x y hv
      obtain ⟨p, p2, rfl⟩ := vCall_eq hv
      split at h
      · rename_i z a' hy
        obtain ⟨p3, p4, rfl⟩ := vCall_eq hy
        simp only [Bool.and_eq_true, decide_eq_true_eq] at h
        obtain ⟨⟨h1, rfl⟩, ⟨h2, rfl⟩, h3, h4⟩ := h
        obtain ⟨q1, q2, q3, q4⟩ := o.blt h1
        obtain ⟨r1, r2, r3, r4⟩ := o.blt h2
        simp only [ev]
        exact .of (e_rev o.calm q1 q2 r1 r2 (ok_e a o h4).1 (star_cons h3)) (by intros; simp) fun _ => rfl
      · cases h
    · cases h
  | .lset a, X, W, g, sc, e, o, h => by
    unfold okE at h
    split at h
    · rename_i x y hv
      obtain ⟨p, p2, rfl⟩ := vCall_eq hv
      split at h
      · rename_i z a' hy
        obtain ⟨p3, p4, rfl⟩ := vCall_eq hy
        simp only [Bool.and_eq_true, decide_eq_true_eq] at h
        obtain ⟨⟨h1, rfl⟩, ⟨h2, rfl⟩, h3, h4⟩ := h
        obtain ⟨q1, q2, q3, q4⟩ := o.blt h1
        obtain ⟨r1, r2, r3, r4⟩ := o.blt h2
        simp only [ev]
        exact .of (e_lset o.calm (by have := o.room.un; omega) q1 q2 r1 r2 (ok_e a o h4).1 (star_cons h3)) (by intros; simp) fun _ => rfl
      · cases h
    · cases h
  | .maxd a k0, X, W, g, sc, e, o, h => by
    unfold okE at h
    split at h
    · rename_i x a' k' hv
      obtain ⟨p, p2, p3, j, p4, rfl⟩ := vMaxd_eq hv
      simp only [Bool.and_eq_true, decide_eq_true_eq] at h
      obtain ⟨⟨h1, rfl⟩, rfl, h3, h4⟩ := h
      obtain ⟨q1, q2, q3, q4⟩ := o.blt h1
      simp only [ev]
      exact .of (e_maxd o.calm q1 q2 (ok_e a o h4).1 (star_cons h3)) (by intros; simp) fun _ => rfl
    · cases h
theorem ok_s : ∀ (ce : CE) (a' : CE), ce = .star a' → ∀ {X : Cx} {W : WX} {g : Nat} {sc : Scope} {e : Expr}, Okx X Ps cl W G N g k sc fs → okE G N g sc a' e = true → E3 X Ps cl W e fun en s => ev fs a' en s
  | .star a, a', q, X, W, g, sc, e, o, h => by cases q; exact ok_e a o h
  | .var _, a', q, X, W, g, sc, e, o, h => by cases q
  | .con _, a', q, X, W, g, sc, e, o, h => by cases q
  | .glob _, a', q, X, W, g, sc, e, o, h => by cases q
  | .bin _ _ _, a', q, X, W, g, sc, e, o, h => by cases q
  | .neg _, a', q, X, W, g, sc, e, o, h => by cases q
  | .not _, a', q, X, W, g, sc, e, o, h => by cases q
  | .and _ _, a', q, X, W, g, sc, e, o, h => by cases q
  | .or _ _, a', q, X, W, g, sc, e, o, h => by cases q
  | .cmp _ _ _, a', q, X, W, g, sc, e, o, h => by cases q
  | .chain _ _ _ _ _, a', q, X, W, g, sc, e, o, h => by cases q
  | .ite _ _ _, a', q, X, W, g, sc, e, o, h => by cases q
  | .tup _, a', q, X, W, g, sc, e, o, h => by cases q
  | .lst _, a', q, X, W, g, sc, e, o, h => by cases q
  | .idx _ _, a', q, X, W, g, sc, e, o, h => by cases q
  | .slc _ _ _, a', q, X, W, g, sc, e, o, h => by cases q
  | .isa _ _, a', q, X, W, g, sc, e, o, h => by cases q
  | .call _ _, a', q, X, W, g, sc, e, o, h => by cases q
  | .bi _ _, a', q, X, W, g, sc, e, o, h => by cases q
  | .bm _ _ _, a', q, X, W, g, sc, e, o, h => by cases q
  | .mm _ _ _, a', q, X, W, g, sc, e, o, h => by cases q
  | .lc _ _ _ _ _, a', q, X, W, g, sc, e, o, h => by cases q
  | .gen _ _ _ _ _ _, a', q, X, W, g, sc, e, o, h => by cases q
  | .cell _, a', q, X, W, g, sc, e, o, h => by cases q
  | .gin _ _ _, a', q, X, W, g, sc, e, o, h => by cases q
  | .gix _ _, a', q, X, W, g, sc, e, o, h => by cases q
  | .rev _, a', q, X, W, g, sc, e, o, h => by cases q
  | .maxd _ _, a', q, X, W, g, sc, e, o, h => by cases q
  | .kget _ _, a', q, X, W, g, sc, e, o, h => by cases q
  | .dct _ _, a', q, X, W, g, sc, e, o, h => by cases q
  | .dix _ _, a', q, X, W, g, sc, e, o, h => by cases q
  | .srev _, a', q, X, W, g, sc, e, o, h => by cases q
  | .dofp _, a', q, X, W, g, sc, e, o, h => by cases q
  | .lset _, a', q, X, W, g, sc, e, o, h => by cases q
theorem ok_a : ∀ (ces : List CE) {X : Cx} {W : WX} {g : Nat} {sc : Scope} {es : List Expr}, Okx X Ps cl W G N g k sc fs → okA G N g sc ces es = true → PA X es (TXA X.K Ps cl W fun en s => evs fs ces en s)
  | [], X, W, g, sc, es, o, h => by
    cases es with
    | nil => simp only [evs]; exact a_nil
    | cons e es => unfold okA at h; cases h
  | a :: r, X, W, g, sc, es, o, h => by
    have ra := @ok_e a
    have rs := @ok_s a
    have rr := @ok_a r
    cases es with
    | nil => cases a <;> simp [okA] at h
    | cons e es =>
      by_cases hs : ∃ a', a = .star a'
      · obtain ⟨a', rfl⟩ := hs
        unfold okA at h
        split at h
        · rename_i e' hv
          obtain ⟨p, rfl⟩ := vStar_eq hv
          simp only [Bool.and_eq_true] at h
          simp only [evs]
          exact a_star (rs a' rfl o h.1).1 (rr o h.2)
        · cases h
      · have hn : ∀ a', a = .star a' → False := fun a' q => hs ⟨a', q⟩
        rw [okA] at h
        · simp only [Bool.and_eq_true] at h
          have q : (fun en s => evs fs (a :: r) en s) = fun en s => (ev fs a en s).bind fun x s => (evs fs r en s).bind fun ys s => .ok (x.frz :: ys) s := by
            funext en s
            rw [evs]
            exact hn
          rw [q]
          exact a_cons (ra o h.2.1).1 (rr o h.2.2) (star_cons h.1)
        · exact hn
theorem ok_o : ∀ (co : Option CE) {X : Cx} {W : WX} {g : Nat} {sc : Scope} {eo : Option Expr}, Okx X Ps cl W G N g k sc fs → okO G N g sc co eo = true → PO X eo (TXO X.K Ps cl W fun en s => evo fs co en s)
  | none, X, W, g, sc, eo, o, h => by
    cases eo with
    | none => simp only [evo]; exact o_none
    | some e => simp [okO] at h
  | some a, X, W, g, sc, eo, o, h => by
    cases eo with
    | none => simp [okO] at h
    | some e => unfold okO at h; simp only [evo]; exact o_some (ok_e a o h).1
theorem ok_t : ∀ (ces : List CE) {X : Cx} {W : WX} {g : Nat} {sc : Scope} {es : List Expr}, Okx X Ps cl W G N g k sc fs → okT G N g sc ces es = true → PTs X es (TXB X.K Ps cl W fun en s => tests fs ces en s)
  | [], X, W, g, sc, es, o, h => by
    cases es with
    | nil => exact pts_of (.inl ⟨rfl, rfl⟩)
    | cons e es => simp [okT] at h
  | [a], X, W, g, sc, es, o, h => by
    match es, h with
    | [e], h => unfold okT at h; exact pts_of (.inr ⟨a, e, rfl, rfl, (ok_e a o h).2.1⟩)
    | [], h => simp [okT] at h
    | _ :: _ :: _, h => simp [okT] at h
  | _ :: _ :: _, X, W, g, sc, es, o, h => by
    cases es <;> simp [okT] at h
theorem ok_i : ∀ (src : Src) {X : Cx} {W : WX} {g : Nat} {sc : Scope} {tg e : Expr}, Okx X Ps cl W G N g k sc fs → okI G N g sc src tg e = true → I1 X Ps cl W tg e fun en s => items fs src en s
  | .seq a, X, W, g, sc, tg, e, o, h => by
    unfold okI at h; simp only [items]; exact i_seq (ok_e a o h).1
  | .chars a, X, W, g, sc, tg, e, o, h => by
    unfold okI at h; simp only [items]; exact i_chars (ok_e a o h).1
  | .rng1 a, X, W, g, sc, tg, e, o, h => by
    unfold okI at h
    split at h
    · rename_i x a' hv
      obtain ⟨p, p2, rfl⟩ := vCall_eq hv
      simp only [Bool.and_eq_true, decide_eq_true_eq] at h
      obtain ⟨⟨h1, rfl⟩, h2, h3⟩ := h
      obtain ⟨q1, q2, q3, q4⟩ := o.blt h1
      simp only [items]
      exact i_rng1 q1 q2 (ok_e a o h3).1 (star_cons h2)
    · cases h
  | .enum a, X, W, g, sc, tg, e, o, h => by
    unfold okI at h
    split at h
    · split at h
      · rename_i x a' hv
        obtain ⟨p, p2, rfl⟩ := vCall_eq hv
        simp only [Bool.and_eq_true, decide_eq_true_eq] at h
        obtain ⟨⟨h1, rfl⟩, h2, h3⟩ := h
        obtain ⟨q1, q2, q3, q4⟩ := o.blt h1
        simp only [items]
        exact i_enum q1 q2 (ok_e a o h3).1 (star_cons h2)
      · cases h
    · cases h
  | .rng2 a b, X, W, g, sc, tg, e, o, h => by
    unfold okI at h
    split at h
    · rename_i x a' b' hv
      obtain ⟨p, p2, rfl⟩ := vCall_eq hv
      simp only [Bool.and_eq_true, decide_eq_true_eq] at h
      obtain ⟨⟨h1, rfl⟩, ⟨h2, h2'⟩, h3, h4⟩ := h
      obtain ⟨q1, q2, q3, q4⟩ := o.blt h1
      simp only [items]
      exact i_rng2 q1 q2 (ok_e a o h3).1 (ok_e b o h4).1 (by rw [star_cons h2, star_cons h2']; rfl) (star_cons h2')
    · cases h
end
end
end L3
end

section -- I19
set_option autoImplicit false
set_option linter.all false
set_option maxRecDepth 100000
set_option maxHeartbeats 4000000
namespace L3
open PySem PySem.Spec PyProof.Rows L2 GxR

/-- swappedStores of two tuples, told by the scope -/
def swT (ts vs : List Expr) (sc : Scope) : Option (Option (List Str)) :=
    if !(ts.length == 2 || ts.length == 3) || vs.length != ts.length then some none else
    if !plainL vs then some none else
    match ts.filterMap (fun
      | .Name id pos => if sc.names.lookup id == some .local && pos.line == ((ts.head?.map (·.pos.line)).getD 0) then some id else none
      | _ => none) with
    | names => if names.length != ts.length || names.eraseDups.length != names.length then some none else
      if vs.all (foldedForSure 8) then some none else
      if vs.all (constantsAlone 8) then none else some (some names)
def isTupE : Expr → Bool | .Tuple .. => true | _ => false
def isTL : Expr → Bool | .Tuple .. => true | .List .. => true | _ => false
theorem sw_notT {targets : List Expr} {value : Expr} {env : PySem.Env} (h : isTupE value = false) : swappedStores targets value env = pure none := by
  unfold swappedStores
  split
  · rename_i hm
    split at hm
    · simp [isTupE] at h
    · simp [isTupE] at h
    · cases hm
  · rfl
theorem sw_notG {t value : Expr} {env : PySem.Env} (h : isTL t = false) : swappedStores [t] value env = pure none := by
  unfold swappedStores
  split
  · rename_i hm
    split at hm
    · rename_i q; cases q; simp [isTL] at h
    · rename_i q; cases q; simp [isTL] at h
    · cases hm
  · rfl
theorem swT_eq {ts vs : List Expr} {k k2 : Nat} {p p2 : Pos} {env : PySem.Env} {r : Option (List Str)} (hk : env.scope.kind = .function) (h : swT ts vs env.scope = some r) : swappedStores [.Tuple ts k p] (.Tuple vs k2 p2) env = pure r := by
  have hb : env.blockKind = .function := by unfold Env.blockKind; rw [hk]; rfl
  have hbb : (env.blockKind != ScopeKind.function) = false := by rw [hb]; rfl
  unfold swT at h
  show (do
      if !(ts.length == 2 || ts.length == 3) || vs.length != ts.length || env.blockKind != .function then return none
      if vs.any fun | .Starred .. => true | _ => false then return none
      let line := (ts.head?.map (·.pos.line)).getD 0
      let names := ts.filterMap fun
        | .Name id pos => if env.kindOf id == some .local && pos.line == line then some id else none
        | _ => none
      if names.length != ts.length || names.eraseDups.length != names.length then return none
      if vs.all (foldedForSure 8) then return none
      if vs.all (constantsAlone 8) then unsupported "assign.tuple-of-constant-expressions:order-of-the-stores"
      return some names : Sem (Option (List Str))) = _
  rw [hbb, Bool.or_false]
  have hst : (vs.any fun | .Starred .. => true | _ => false) = !plainL vs := by
    unfold plainL
    rw [List.all_eq_not_any_not, Bool.not_not]
    congr 1
    funext e
    cases e <;> rfl
  rw [hst]
  split at h
  · rename_i c1
    cases h
    rw [if_pos c1]
  · rename_i c1
    rw [if_neg c1]
    split at h
    · rename_i c2
      cases h
      rw [if_pos c2]
    · rename_i c2
      rw [if_neg c2]
      dsimp only at h
      dsimp only
      split at h
      · rename_i c3
        cases h
        exact if_pos c3
      · rename_i c3
        refine (if_neg c3).trans ?_
        split at h
        · rename_i c4
          cases h
          exact if_pos c4
        · rename_i c4
          refine (if_neg c4).trans ?_
          split at h
          · cases h
          · rename_i c5
            cases h
            exact if_neg c5
/-- swapsWith, for a name -/
def isComp : Expr → Option Scope | .ListComp _ _ s _ => some s | .SetComp _ _ s _ => some s | .DictComp _ _ _ s _ => some s | _ => none
theorem sw_no {e : Expr} {t : Option Expr} {l : Nat} {env : PySem.Env} (h : isComp e = none) : swapsWith e t l env = pure false := by
  unfold swapsWith
  cases e <;> first | rfl | simp [isComp] at h
theorem sole_no {e tg : Expr} {l : Nat} {env : PySem.Env} (h : isComp e = none) : swapsWithSole [tg] e l env = pure false := sw_no h
/-- the value of a list comprehension goes to that name at once -/
def swOn (sc : Scope) (tg e : Expr) : Bool := match tg, e with
  | .Name y py, .ListComp _ _ scope pos => decide (sc.names.lookup y = some .local) && (py.line == pos.line) && !(scope.names.any fun (n, k) => n == y && (k == .local || k == .cell))
  | _, _ => false
end L3
end

section -- I20
set_option autoImplicit false
set_option linter.all false
set_option maxRecDepth 100000
set_option maxHeartbeats 4000000
namespace L3
open PySem PySem.Spec PyProof.Rows L2 GxR

def noSD : Expr → Bool | .SetComp .. => false | .DictComp .. => false | _ => true
theorem sw_on {e tg : Expr} {l : Nat} {env : PySem.Env} (hk : env.scope.kind = .function) (h : noSD e = true) : swapsWith e (some tg) l env = pure (swOn env.scope tg e) := by
  have hb : env.blockKind = .function := by unfold Env.blockKind; rw [hk]; rfl
  cases e with
  | ListComp elt gs scope pos =>
    unfold swapsWith
    cases tg with
    | Name y py =>
      show (pure (env.blockKind == .function && env.kindOf y == some .local && py.line == pos.line && !(scope.names.any fun (n, k) => n == y && (k == .local || k == .cell))) : Sem Bool) = _
      rw [hb]
      congr 1
      unfold swOn Env.kindOf
      by_cases q : env.scope.names.lookup y = some .local
      · simp [q]
      · have : (env.scope.names.lookup y == some NameKind.local) = false := by simpa using q
        simp [q, this]
    | _ => rfl
  | SetComp _ _ _ _ => simp [noSD] at h
  | DictComp _ _ _ _ _ => simp [noSD] at h
  | _ => cases tg <;> rfl
theorem swN_on {e : Expr} {l : Nat} {env : PySem.Env} (h : isComp e = none) : swapsWith e none l env = pure false := sw_no h

def vAsg : Stmt → Option (Expr × Expr × Pos) | .Assign [t] e p => some (t, e, p) | _ => none
def vAug : Stmt → Option (Str × Operator × Expr) | .AugAssign (.Name x _) o e _ => some (x, o, e) | _ => none
def vAugS : Stmt → Option (Expr × Expr × Operator × Expr) | .AugAssign (.Subscript a i _) o e _ => some (a, i, o, e) | _ => none
def vExpr : Stmt → Option Expr | .Expr e _ => some e | _ => none
def vRet : Stmt → Option (Option Expr) | .Return e _ => some e | _ => none
def vIf : Stmt → Option (Expr × List Stmt × List Stmt) | .If c a b _ => some (c, a, b) | _ => none
def vWhl : Stmt → Option (Expr × List Stmt) | .While c b [] _ => some (c, b) | _ => none
def vFor : Stmt → Option (Expr × Expr × List Stmt) | .For t i b [] _ => some (t, i, b) | _ => none
def vRaise : Stmt → Option (Str × Str) | .Raise (some (.Call (.Name x _) [.Constant (.str m) _ _] [] _)) none _ => some (x, m) | _ => none
def vTry : Stmt → Option (List Stmt × Str × Stmt × List Stmt) | .Try b [.ExceptHandler (some (.Name x _)) none (s :: r) _] [] [] _ => some (b, x, s, r) | _ => none
def vTryAs : Stmt → Option (List Stmt × Str × Str × Stmt × List Stmt) | .Try b [.ExceptHandler (some (.Name x _)) (some n) (s :: r) _] [] [] _ => some (b, x, n, s, r) | _ => none
def vSub : Expr → Option (Expr × Expr) | .Subscript o i _ => some (o, i) | _ => none
section
variable {s : Stmt}
theorem vAsg_eq {t e : Expr} {p : Pos} (h : vAsg s = some (t, e, p)) : s = .Assign [t] e p := by
  unfold vAsg at h; split at h <;> cases h; rfl
theorem vAug_eq {x : Str} {o : Operator} {e : Expr} (h : vAug s = some (x, o, e)) : ∃ p q, s = .AugAssign (.Name x p) o e q := by
  unfold vAug at h; split at h <;> cases h; exact ⟨_, _, rfl⟩
theorem vAugS_eq {a i : Expr} {o : Operator} {e : Expr} (h : vAugS s = some (a, i, o, e)) : ∃ p q, s = .AugAssign (.Subscript a i p) o e q := by
  unfold vAugS at h; split at h <;> cases h; exact ⟨_, _, rfl⟩
theorem vExpr_eq {e : Expr} (h : vExpr s = some e) : ∃ p, s = .Expr e p := by
  unfold vExpr at h; split at h <;> cases h; exact ⟨_, rfl⟩
theorem vRet_eq {e : Option Expr} (h : vRet s = some e) : ∃ p, s = .Return e p := by
  unfold vRet at h; split at h <;> cases h; exact ⟨_, rfl⟩
theorem vIf_eq {c : Expr} {a b : List Stmt} (h : vIf s = some (c, a, b)) : ∃ p, s = .If c a b p := by
  unfold vIf at h; split at h <;> cases h; exact ⟨_, rfl⟩
theorem vWhl_eq {c : Expr} {b : List Stmt} (h : vWhl s = some (c, b)) : ∃ p, s = .While c b [] p := by
  unfold vWhl at h; split at h <;> cases h; exact ⟨_, rfl⟩
theorem vFor_eq {t i : Expr} {b : List Stmt} (h : vFor s = some (t, i, b)) : ∃ p, s = .For t i b [] p := by
  unfold vFor at h; split at h <;> cases h; exact ⟨_, rfl⟩
theorem vRaise_eq {x m : Str} (h : vRaise s = some (x, m)) : ∃ p j q r u, s = .Raise (some (.Call (.Name x p) [.Constant (.str m) j q] [] r)) none u := by
  unfold vRaise at h; split at h <;> cases h; exact ⟨_, _, _, _, _, rfl⟩
theorem vTry_eq {b r : List Stmt} {x : Str} {t : Stmt} (h : vTry s = some (b, x, t, r)) : ∃ p q u, s = .Try b [.ExceptHandler (some (.Name x p)) none (t :: r) q] [] [] u := by
  unfold vTry at h; split at h <;> cases h; exact ⟨_, _, _, rfl⟩
theorem vTryAs_eq {b r : List Stmt} {x n : Str} {t : Stmt} (h : vTryAs s = some (b, x, n, t, r)) : ∃ p q u, s = .Try b [.ExceptHandler (some (.Name x p)) (some n) (t :: r) q] [] [] u := by
  unfold vTryAs at h; split at h <;> cases h; exact ⟨_, _, _, rfl⟩
theorem vSub_eq {e o i : Expr} (h : vSub e = some (o, i)) : ∃ p, e = .Subscript o i p := by
  unfold vSub at h; split at h <;> cases h; exact ⟨_, rfl⟩
end
/-- the except suite -/
def okH (h : Suite) (t : Stmt) (r : List Stmt) : Bool := match h, t, r with
  | .pass, .Pass _, [] => true
  | .cont, .Continue _, [] => true
  | .con d, .Return (some (.Constant c _ _)) _, [] => conC c d
  | _, _, _ => false
/-- an except suite that may name the caught exception -/
def okHA (G : GT) (N : List Str) (sc : Scope) (i : Nat) (h : Suite) (t : Stmt) (r : List Stmt) : Bool := match h with
  | .word f => (match t, r with
    | .Return (some (.Call (.Name x _) [.Name y _] [] _)) _, [] => (match glb G sc x with | some (.word f') => decide (f' = f) | _ => false) && (decide (N[i]? = some y) && (decide (sc.names.lookup y = some .local) && (y != ("__debug__" : Str) && y != ("__classdict__" : Str))))
    | _, _ => false)
  | _ => okH h t r
/-- the stores of an assignment in which no comprehension's value goes to the name at once -/
def stC (N : List Str) (sc : Scope) (t : Tg) (x : CE) (tg e : Expr) : Bool := if isTupE e then (if isTL tg then (match tg, e with
    | .Tuple ts _ _, .Tuple vs _ _ => (match swT ts vs sc with
      | none => false
      | some none => true
      | some (some ns) => (match t, x, ts, vs, ns with
        | .tup [.nm i, .nm j], .tup _, [.Name a _, .Name b _], [_, _], [a', b'] => ((decide (a' = a) && decide (b' = b)) && (decide (i ≠ j) && (decide (sc.names.lookup a = some .local) && decide (sc.names.lookup b = some .local))))
        | .tup [.nm i, .nm j, .nm l], .tup _, [.Name a _, .Name b _, .Name c _], [_, _, _], [a', b', c'] => ((decide (a' = a) && (decide (b' = b) && decide (c' = c))) && ((decide (i ≠ j) && (decide (i ≠ l) && decide (j ≠ l))) && (decide (sc.names.lookup a = some .local) && (decide (sc.names.lookup b = some .local) && decide (sc.names.lookup c = some .local)))))
        | _, _, _, _, _ => false))
    | _, _ => false) else true) else true
def isLc : CE → Bool | .lc .. => true | .cell (.lc ..) => true | _ => false
def isPM : Op2 → Bool | .add => true | .sub => true | _ => false
mutual
def okST (G : GT) (N : List Str) (g : Nat) (sc : Scope) : CS → Stmt → Bool
  | .asg t x, s => match vAsg s with
    | some (tg, e, p) => (tgC N sc (fun _ => true) t tg && noSD e) && (okE G N g sc x e && (if swOn sc tg e then (isLc x && (match t with | .nm _ => true | _ => false)) else stC N sc t x tg e))
    | none => false
  | .aug i op x, s => match vAug s with
    | some (y, o, e) => (decide (N[i]? = some y) && (decide (o = op.py) && isPM op)) && ((decide (sc.names.lookup y = some .local) || decide (sc.names.lookup y = some .cell)) && okE G N g sc x e)
    | none => false
  | .put o i x, s => match vAsg s with
    | some (tg, e, p) => match vSub tg with
      | some (o', i') => (plainIx i' && (noSD e && (isComp e).isNone)) && (okE G N g sc x e && (okE G N g sc o o' && okE G N g sc i i'))
      | none => false
    | none => false
  | .augp o i op x, s => match vAugS s with
    | some (o', i', op', e) => (plainIx i' && (decide (op' = op.py) && isPM op)) && (okE G N g sc o o' && (okE G N g sc i i' && okE G N g sc x e))
    | none => false
  | .expr x, s => match vExpr s with
    | some e => (isComp e).isNone && okE G N g sc x e
    | none => false
  | .ret x, s => match vRet s with
    | some (some e) => okE G N g sc x e
    | _ => false
  | .retN, s => match vRet s with
    | some none => true
    | _ => false
  | .ite c a b, s => match vIf s with
    | some (c', a', b') => okE G N g sc c c' && (okSTs G N g sc a a' && okSTs G N g sc b b')
    | none => false
  | .whl c b, s => match vWhl s with
    | some (c', b') => okE G N g sc c c' && okSTs G N g sc b b'
    | none => false
  | .forr t src b, s => match vFor s with
    | some (tg, it, b') => (tgC N sc (fun _ => true) t tg && notSet it) && (okI G N g sc src tg it && okSTs G N g sc b b')
    | none => false
  | .raise c, s => match vRaise s with
    | some (x, m) => match glb G sc x with
      | some (.cls c') => decide (c' = c)
      | _ => false
    | none => false
  | .tryy b c i h, s => match i with
    | none => match vTry s with
      | some (b', x, t, r) => (match glb G sc x with
        | some (.cls c') => decide (c' = c)
        | _ => false) && (okH h t r && okSTs G N g sc b b')
      | none => false
    | some i => match vTryAs s with
      | some (b', x, n, t, r) => (match glb G sc x with
        | some (.cls c') => decide (c' = c)
        | _ => false) && ((decide (N[i]? = some n) && decide (sc.names.lookup n = some .local)) && (okHA G N sc i h t r && okSTs G N g sc b b'))
      | none => false
  | .pass, s => match s with | .Pass _ => true | _ => false
  | .brk, s => match s with | .Break _ => true | _ => false
  | .cont, s => match s with | .Continue _ => true | _ => false
def okSTs (G : GT) (N : List Str) (g : Nat) (sc : Scope) : List CS → List Stmt → Bool
  | [], [] => true
  | x :: r, s :: t => okST G N g sc x s && okSTs G N g sc r t
  | _, _ => false
end
end L3
end

section -- IH
set_option autoImplicit false
set_option linter.all false
set_option maxRecDepth 100000
set_option maxHeartbeats 4000000
namespace L3
open PySem PySem.Spec PyProof.Rows L2 GxR

section
variable {prog : Program} {w : World} {A : Around} {E : Value → Shared → Prop} {s : Shared}
theorem list_end_hot {it l x1 : Addr} {i : Nat} {items : Array Value} {Q : Option Value → Shared → Prop} (hot : HotX.HotAt A x1 s.heap) (nx : it ≠ x1) (st : s.heap.IsListIter it l i) (hl : s.heap.IsList l items) (hi : items[i]? = none)
    (hQ : ∀ h', Heap.ExtBut it s.heap h' → Q none { s with heap := h' }) : wpAny (model prog w) A (pyNext (.ref it)) Q E s := by
  obtain ⟨oi, ei, ci, di⟩ := id st
  obtain ⟨ol, el, _, nl, dl⟩ := hl
  obtain ⟨hh, o1, vs1, h1, d1, c1⟩ := hot
  unfold pyNext
  refine wpAny_bind (wpAny_attempt (wpAny_callSpecial?_slot (name := Str.ofString "__next__") st.typeIs slot_listiter_next (wpAny_call_entry slot_listiter_next st.typeIs entry_listiter_next ?_ (args_listiter_next _))))
  show wpAny _ _ (field (.ref it) 0 >>= _) _ _ s
  refine wpAny_bind (wpAny_field ei di (x := .ref l) rfl ?_)
  show wpAny _ _ (if (Value.ref l == Value.none) = true then _ else _) _ _ s
  rw [if_neg (show ¬ ((Value.ref l == Value.none) = true) from nofun)]
  show wpAny _ _ (field (.ref it) 1 >>= _) _ _ s
  refine wpAny_bind (wpAny_field ei di (x := .int i 0) rfl ?_)
  show wpAny _ _ (seqItems? (.ref l) >>= _) _ _ s
  refine wpAny_bind (wpAny_seqItems el dl ?_)
  simp only [Int.toNat_natCast, hi]
  refine wpAny_bind (wpAny_rule (wpAny_bind (wpAny_setField ei di (by simp) ?_)))
  show wpAny _ _ (newExc (.type "StopIteration") [] >>= _) _ _ _
  refine wpAny_bind ?_
  simp only [newExc, newTuple]
  refine wpAny_bind (wpAny_newObj_type ?_ (by size_fits))
  refine wpAny_bind (m := firstArgMember _ _) (wpAny_of_eq (a := Value.none) (by first | rfl | (simp only [firstArgMember]; rfl)) ?_)
  refine wpAny_newObj_type ?_ (by size_fits)
  have h1' := (Heap.get?_update_other s.heap (Obj.mapFields (fun x => x.setIfInBounds 0 Value.none)) nx).trans h1
  refine HotX.raiseNew_hot ⟨hh, o1, vs1, Heap.get?_push_of_some _ (Heap.get?_push_of_some _ h1'), d1, c1⟩ (Nat.ne_of_lt (Heap.lt_size (Heap.get?_push_of_some _ h1'))) (Heap.get?_push_size _ rfl) rfl (by first | (simp; done) | (simp; omega) | (simp only [Array.size_append]; simp; omega)) ?_
  refine wpAny_bind (wpAny_isInstance (T := "StopIteration") (b := true) ⟨_, Heap.get?_update_self _ (Heap.get?_push_size _ rfl) rfl, rfl⟩ isSubtype_stop ?_)
  refine wpAny_pure (hQ _ fun b o hb e => ?_)
  have e' := (Heap.get?_update_other s.heap (Obj.mapFields (fun x => x.setIfInBounds 0 Value.none)) (Ne.symm hb)).trans e
  rw [Heap.get?_update_other _ _ (Nat.ne_of_gt (Heap.lt_size (Heap.get?_push_of_some _ e')))]
  exact Heap.get?_push_of_some _ (Heap.get?_push_of_some _ e')
end
section
variable {X : Cx}
/-- [elt for tg in iter if ..] over a list, while the exception p is handled -/
def tLcH (K : Fr) (ti : TE) (g : TG) (tt : TT) (te : TE) (own : List Nat) : TE := fun σ H Q => ti σ H fun x H1 => ∃ (a : Addr) (xs : List V), x = .ref a ∧ SqL K H1 a xs ∧ ∀ B : Addr, H1 B = none → ∃ Iv : Nat → Hp → Prop,
  Iv 0 (upd H1 B (.lst [])) ∧ (∀ i h, Iv i h → SqL K h a xs) ∧ (∀ h, Iv xs.length h → Q (.ref B) h) ∧ ∀ i y h, xs[i]? = some y → Iv i h → g y (L2.wipe σ own) h fun σ2 h2 => L2.wipe σ2 own = L2.wipe σ own ∧ tt σ2 h2 fun b h3 =>
    if b = true then te σ2 h3 fun z h4 => ∃ acc, h4 B = some (.lst acc) ∧ acc.length < sizeLine ∧ Iv (i + 1) (upd h4 B (.lst (acc ++ [z]))) else Iv (i + 1) h3
theorem pe_lcH {p : Addr × Obj} (hot : L2H.Hot1 X.A p) (hp : p ∈ X.pn) {elt tg iter : Expr} {ifs : List Expr} {scope : Scope} {own : List (Str × Nat)} {pos : Pos} {ti : TE} {g : TG} {tt : TT} {te : TE} (nd : X.N.Nodup) (hi : PE X iter ti) (ok : BlkOk X.N X.env.scope scope own)
    (hg : ∀ (s0 : Shared) (H0 : Hp) (C : Addr) (ce : List (Str × Addr)) (fp : List Addr), PG (X.blk s0 H0 scope (compEnvC scope ce C X.env) fp) tg g) (ht : ∀ (s0 : Shared) (H0 : Hp) (C : Addr) (ce : List (Str × Addr)) (fp : List Addr), PTs (X.blk s0 H0 scope (compEnvC scope ce C X.env) fp) ifs tt)
    (he : ∀ (s0 : Shared) (H0 : Hp) (C : Addr) (ce : List (Str × Addr)) (fp : List Addr), PE (X.blk s0 H0 scope (compEnvC scope ce C X.env) fp) elt te) (hs : ∀ x, foldedSetIterable iter X.env x = pure x) (hgo : ∀ (v u : Value), letOwnedTupleGo tg v u = pure ()) :
    PE X (.ListComp elt [⟨tg, iter, ifs, 0⟩] scope pos) (tLcH X.K ti g tt te (own.map (·.2))) := by
  refine ⟨fun pins s σ H Q I h => ?_⟩
  rw [eval_ListComp]
  have frees : ∀ y ∈ scope.names, y.2 = .free → ∃ c, X.env.cells.lookup y.1 = some c := fun y hy e => (ok.free y hy e).elim (fun k => I.ok.has _ (.inl k)) fun k => I.ok.has _ (.inr k)
  refine wpAny_comprehension_free (use := none) rfl hs (closure_ok frees) ok.kind (fun y hy e => by rw [ok.uniq y hy, e]) (thn (hi.run pins s σ H _ I h) fun xv s1 hx => ?_)
  obtain ⟨x, H1, I1, r1, a, xs, rfl, hq, q⟩ := hx
  cases r1
  obtain ⟨its, rv, pl, hz⟩ := I1.list hq
  refine wpAny_pyIter_list pl.isList ?_
  -- the iterator, then the new list, then the block's names
  generalize hit : s1.heap.objs.size = it
  generalize hs2 : ({ s1 with heap := s1.heap.push { cls := .type "list_iterator", data := .fields #[.ref a, .int 0 0] } } : Shared) = s2
  have k2 : ∀ b o, s1.heap.get? b = some o → s2.heap.get? b = some o := fun b o e => by rw [← hs2]; exact Heap.get?_push_of_some _ e
  have I2 : Inv X pins σ H1 s2 := by
    rw [← hs2]
    exact I1.kept (t' := s1.toks) fun b o e => Heap.get?_push_of_some _ e
  have st2 : s2.heap.IsListIter it a 0 := by
    rw [← hs2, ← hit]
    exact ⟨_, Heap.get?_push_size _ rfl, rfl, rfl⟩
  have f2 : FpOk X pins H1 it := by
    rw [← hit]
    exact I1.fpOk (Nat.le_refl _) (I1.hok.fresh (Nat.le_refl _))
  have sz2 : it < s2.heap.objs.size := by obtain ⟨o, e, _⟩ := id st2; exact Heap.lt_size e
  refine wpAny_newObj_type (newEnv_comp ?_) (by show 0 ≤ sizeLine; decide)
  generalize hB : s2.heap.objs.size = B
  have nB : H1 B = none := I2.hok.fresh (Nat.le_of_eq hB)
  obtain ⟨Iv, iv0, ivL, ivE, step⟩ := q B nB
  generalize hs3 : ({ s2 with heap := s2.heap.push { cls := .type "list", data := .seq ([] : List Value).toArray } } : Shared) = s3
  have h3 : s3.heap = s2.heap.push { cls := .type "list", data := .seq ([] : List Value).toArray } := by rw [← hs3]
  have k3 : ∀ b o, s2.heap.get? b = some o → s3.heap.get? b = some o := fun b o e => by rw [h3]; exact Heap.get?_push_of_some _ e
  have I3 : Inv X pins σ (upd H1 B (.lst [])) s3 := by
    rw [← hs3]
    refine I2.laid (t' := s2.toks) (fun b o e => Heap.get?_push_of_some _ e) (Nat.le_of_eq hB) ⟨Nat.zero_le _, [], 0, .nil, ?_⟩
    rw [← hB]
    exact Heap.get?_push_size _ rfl
  have f3 : FpOk X pins (upd H1 B (.lst [])) it ∧ it < s3.heap.objs.size := by
    refine ⟨⟨?_, f2.2⟩, by rw [h3, Heap.size_push]; exact Nat.lt_succ_of_lt sz2⟩
    rw [upd_ne (by rw [← hB]; exact Nat.ne_of_lt sz2)]
    exact f2.1
  have st3 : s3.heap.IsListIter it a 0 := st2.at fun o e => k3 it o e
  have I4 := block_start I3 ok nd (fp := [it]) fun b hb => by rw [List.mem_singleton.mp hb]; exact f3
  have pg := hg s3 (upd H1 B (.lst [])) s3.heap.objs.size (cellsFrom (s3.heap.objs.size + 1) scope.names (cloFrom X.env.cells scope.names [])) [it]
  have pt := ht s3 (upd H1 B (.lst [])) s3.heap.objs.size (cellsFrom (s3.heap.objs.size + 1) scope.names (cloFrom X.env.cells scope.names [])) [it]
  have pe := he s3 (upd H1 B (.lst [])) s3.heap.objs.size (cellsFrom (s3.heap.objs.size + 1) scope.names (cloFrom X.env.cells scope.names [])) [it]
  have P3 := I3.pin p (List.mem_append_left _ hp)
  show codeAny _ _ (.compStart (.ListComp elt [⟨tg, iter, ifs, 0⟩] scope pos) 0 (.ref it) (.ref B) (compEnvC scope (cellsFrom (s3.heap.objs.size + 1) scope.names (cloFrom X.env.cells scope.names [])) s3.heap.objs.size X.env)) (compPost (model X.prog X.w) X.A X.xe none (EP X pins σ Q) (.ref B) s3.heap.objs.size) { s3 with heap := pushCells (s3.heap.push { cls := .type "dict", data := .dict #[] }) scope.names }
  generalize hce : compEnvC scope (cellsFrom (s3.heap.objs.size + 1) scope.names (cloFrom X.env.cells scope.names [])) s3.heap.objs.size X.env = ce at I4 pg pt pe ⊢
  have cL : ce.locals = s3.heap.objs.size := by subst hce; rfl
  generalize hH3 : upd H1 B (.lst []) = H3 at I3 I4 pg pt pe iv0 f3 P3
  generalize hs4 : ({ s3 with heap := pushCells (s3.heap.push { cls := .type "dict", data := .dict #[] }) scope.names } : Shared) = s4 at I4 ⊢
  have k4 : ∀ b o, s3.heap.get? b = some o → s4.heap.get? b = some o := fun b o e => by rw [← hs4]; exact pushCells_keeps _ _ _ _ (Heap.get?_push_of_some _ e)
  have st4 : s4.heap.IsListIter it a 0 := st3.at fun o e => k4 it o e
  -- the handled exception is pinned in the block, too
  have pinB : ∀ {σ' : L2.St} {H' : Hp} {s' : Shared} {pl : List (Addr × Obj)}, Inv (X.blk s3 H3 scope ce [it]) pl σ' H' s' → s'.heap.get? p.1 = some p.2 → H' p.1 = none → Inv (X.blk s3 H3 scope ce [it]) [p] σ' H' s' := fun {σ' H' s' pl} J e n => by
    refine J.pins_of fun q hq => ?_
    rw [List.mem_singleton.mp hq]
    refine ⟨e, n, ?_, ?_, P3.2.2.2.2⟩
    · show p.1 ≠ ce.locals
      rw [cL]
      exact Nat.ne_of_lt (Heap.lt_size P3.1)
    · exact fun hm => (List.mem_cons.mp (I3.stkSub p.1 hm)).elim P3.2.2.1 P3.2.2.2.1
  have I5 := pinB I4 (k4 _ _ P3.1) P3.2.1
  have nit : it ≠ p.1 := fun e => f3.1.2.2.2.2.2 p (List.mem_append_left _ hp) e.symm
  have hotA : ∀ {σ' : L2.St} {H' : Hp} {s' : Shared}, Inv (X.blk s3 H3 scope ce [it]) [p] σ' H' s' → HotX.HotAt X.A p.1 s'.heap := fun {σ' H' s'} J => by
    obtain ⟨hh, v1, e1, c1⟩ := hot
    exact ⟨hh, p.2, v1, (J.pin p (List.mem_append_right _ (List.mem_singleton.mpr rfl))).1, e1, c1⟩
  have fpB : ∀ {σ' : L2.St} {H' : Hp} {s' : Shared}, Inv (X.blk s3 H3 scope ce [it]) [p] σ' H' s' → H' it = none → FpOk (X.blk s3 H3 scope ce [it]) [p] H' it := fun {σ' H' s'} J n =>
    ⟨n, (J.ok.exf it (List.mem_singleton.mpr rfl)).1, J.ok.exfs it (List.mem_singleton.mpr rfl), .inl (List.mem_singleton.mpr rfl), fun x c e => (J.ok.exf it (List.mem_singleton.mpr rfl)).2 x c e, fun q hq => by
      have : q = p := by simpa using (show q ∈ ([] : List (Addr × Obj)) ++ [p] from hq)
      rw [this]; exact Ne.symm nit⟩
  have loop : codeAny (model X.prog X.w) X.A (.compLoop (.ListComp elt [⟨tg, iter, ifs, 0⟩] scope pos) 0 (.ref it) (.ref B) ce) (compPost (model X.prog X.w) X.A X.xe none (EP X pins σ Q) (.ref B) s3.heap.objs.size) s4 := by
    refine compLoop_any (fun n s' => ∃ i H', n = xs.length - i ∧ i ≤ xs.length ∧ Inv (X.blk s3 H3 scope ce [it]) [p] (L2.wipe σ (own.map (·.2))) H' s' ∧ s'.heap.IsListIter it a i ∧ H' it = none ∧ Iv i H') ?_ xs.length ⟨0, H3, by simp, Nat.zero_le _, I5, st4, f3.1.1, iv0⟩
    rintro n s5 ⟨i, H5, rfl, hil, J5, st5, n5, iv5⟩
    obtain ⟨its5, rv5, pl5, hz5⟩ := J5.list (ivL i H5 iv5)
    have f5 := fpB J5 n5
    have hl5 := rv5.length
    by_cases hlt : i < xs.length
    · have hy : xs[i]? = some xs[i] := by simp [hlt]
      obtain ⟨u, hu, ru⟩ := rv5.get hy
      refine wpAny_pyNext_list_item st5 pl5.isList (x := u) (by simpa using hu) fun h6 st6 sb => ?_
      have J6 : Inv (X.blk s3 H3 scope ce [it]) [p] (L2.wipe σ (own.map (·.2))) H5 { s5 with heap := h6 } := J5.turned (t' := s5.toks) (fun b o hb e => (sb.2 b hb).trans e) f5.1 f5.2.1 f5.2.2.2.1 f5.2.2.2.2.1 f5.2.2.2.2.2
      show wpAny _ _ (letOwnedTupleGo tg (.ref it) u) _ _ _
      rw [hgo]
      refine wpAny_pure ?_
      -- the iterator is pinned, too, while the turn runs
      obtain ⟨o6, e6, c6, d6⟩ := id st6
      have J7 := J6.pinned (fp := [it]) (fun b hb => by rw [List.mem_singleton.mp hb]; exact fpB J6 n5) fun b hb => by rw [List.mem_singleton.mp hb]; exact ⟨o6, e6, fun v z => by rw [d6] at z; cases z⟩
      refine thnF (pg.run _ _ _ H5 _ u _ J7 ru (step i _ H5 hy iv5)) fun _ s8 ⟨σ8, H8, J8, hw8, q8⟩ => ?_
      refine thnF (pt.run _ s8 σ8 H8 _ J8 q8) fun b s9 ⟨H9, J9, q9⟩ => ?_
      have fin : ∀ {s' : Shared} {H' : Hp}, Inv (X.blk s3 H3 scope ce [it]) ([p] ++ pinsAt [it] h6) σ8 H' s' → Iv (i + 1) H' → ∃ m, m < xs.length - i ∧ ∃ i H', m = xs.length - i ∧ i ≤ xs.length ∧ Inv (X.blk s3 H3 scope ce [it]) [p] (L2.wipe σ (own.map (·.2))) H' s' ∧ s'.heap.IsListIter it a i ∧ H' it = none ∧ Iv i H' := fun {s' H'} J' iv => by
        have pit := J'.pin (it, o6) (List.mem_append_right _ (List.mem_append_right _ (mem_pinsAt (List.mem_singleton.mpr rfl) e6)))
        have hl : (L2.wipe σ (own.map (·.2))).length = σ8.length := by rw [← hw8, L2.wipe_length]
        refine ⟨xs.length - (i + 1), by omega, i + 1, H', rfl, hlt, (J'.unpinned (pins := [p])).weak hl (fun j v e => ?_), ⟨o6, pit.1, c6, d6⟩, pit.2.1, iv⟩
        rw [← hw8] at e
        exact (L2.wipe_some e).1
      cases b with
      | false =>
        simp only [Bool.false_eq_true, if_false] at q9 ⊢
        exact fin J9 q9
      | true =>
        simp only [if_true] at q9 ⊢
        exact thnF (pe.run _ s9 σ8 H9 _ J9 q9) fun z s10 ⟨yv, H10, J10, r10, acc, hB10, hz10, iv10⟩ => app_ok (X := X.blk s3 H3 scope ce [it]) J10 hB10 hz10 r10 fun s11 J11 => fin J11 iv10
    · have he : i = xs.length := by omega
      subst he
      refine list_end_hot (hotA J5) nit st5 pl5.isList (by simp; omega) fun h6 eb => ?_
      have J6 : Inv (X.blk s3 H3 scope ce [it]) [p] (L2.wipe σ (own.map (·.2))) H5 { s5 with heap := h6 } := J5.turned (t' := s5.toks) (fun b o hb e => eb b o hb e) f5.1 f5.2.1 f5.2.2.2.1 f5.2.2.2.2.1 f5.2.2.2.2.2
      have I7 : Inv X pins σ H5 { s5 with heap := h6 } := I3.call' (ch := [it]) J6.os J6.base J6.hok J6.bare fun b hb => by
        rw [List.mem_singleton.mp hb]
        exact ⟨f3.1.2.2.2.1, f3.1.2.1, f3.1.2.2.2.2.1, f3.1.2.2.2.2.2⟩
      have nC : H5 s3.heap.objs.size = none := by
        have z : H5 ce.locals = none := J6.free
        rw [cL] at z
        exact z
      obtain ⟨m, hn, _⟩ := J6.loc
      have hn : h6.Ns ce.locals m := hn
      rw [cL] at hn
      refine ⟨m, hn, fun h'' sb => ?_⟩
      obtain ⟨f0, f1, f2, f3, f4, f5⟩ := I3.fpOk (H' := H5) (Nat.le_refl _) nC
      exact ⟨.ref B, H5, I7.turned (t' := s5.toks) (fun b o hb e => (sb.2 b hb).trans e) f0 f1 f3 f4 f5, rfl, ivE H5 iv5⟩
  exact codeAny_compStart_list loop (wpAny_pyIter_listiter st4 loop)
end
end L3
end

section -- IW
set_option autoImplicit false
set_option linter.all false
set_option maxRecDepth 100000
set_option maxHeartbeats 4000000
namespace L3
open PySem PySem.Spec PyProof.Rows L2 GxR

section
variable {X : Cx} {G : GT} {cl : XC} {sc : Scope} {en : Str} {a : Addr} {oe : Obj} {k : Nat}
theorem call_isP {C : Addr} (E : ExcC X.K C) (hp : (a, oe) ∈ X.pn) (hz : Zc (.ref C) none oe) (hf : ∃ vs, oe.data = .fields vs) : CallR X (.builtin "isinstance") (rIsE X.K C a) := by
  intro pins s σ H xs us Q I r h
  obtain ⟨c, cv, b, rfl, hcv, e, q⟩ := h
  cases r with
  | cons r1 rr =>
    cases rr with
    | cons r2 rr =>
      cases rr
      cases r1
      have ec := hcv _ r2
      subst ec
      obtain ⟨hget, _⟩ := I.pin (a, oe) (List.mem_append_left _ hp)
      obtain ⟨vs, hv⟩ := hf
      have J : PySem.W.InstAt s.heap a oe C none := by
        obtain ⟨oc, od, oda, osl⟩ := oe
        obtain ⟨z1, z2⟩ := hz
        dsimp only at z1 z2 hv
        subst z1 z2 hv
        exact ⟨hget, rfl, rfl, trivial⟩
      exact PySem.W.kia_one (PySem.W.handS_kitx_exc E.hg E.hk E.hs E.hd E.ha E.hn E.ht E.hm) I.kIn J e (fun z => nomatch z) fun tk => ⟨.bl b, H, I.kept (t' := tk) fun _ _ z => z, rfl, q⟩
def tIs (a : Addr) (b : Bool) : TE := fun σ H Q => σ[0]? = some (some (.ref a)) ∧ Q (.bl b) H
theorem isiC_eq {c : Nat} {e : Expr} (wk : WordK X.K cl) (hk : k ≤ 5) (h1 : 1 ≤ c) (h5 : c ≤ 5) (esc : X.env.scope = sc) (hN : X.N[0]? = some en) (hv : sc.names.lookup en = some .local) (hd : (en == ("__debug__" : Str)) = false) (hcd : (en == ("__classdict__" : Str)) = false)
    (blt : ∀ x, G.lookup x = some .blt → X.mg x = none) (cls : ∀ x c, G.lookup x = some (.cls c) → X.mg x = some (cl c)) (hp : (a, oe) ∈ X.pn) (hz : Zc (cl k) none oe) (hf : ∃ vs, oe.data = .fields vs) (h : isiC G sc en c e = true) : PE X e (tIs a (k == c)) := by
  unfold isiC at h
  split at h
  · rename_i x p1 y p2 cn p3 p4
    simp only [Bool.and_eq_true, decide_eq_true_eq] at h
    obtain ⟨⟨rfl, g1⟩, rfl, g2⟩ := h
    split at g2
    · rename_i k' hg
      simp only [decide_eq_true_eq] at g2
      subst g2
      obtain ⟨n1, n2, n3, n4⟩ := glb_eq (isBlt_eq g1)
      obtain ⟨m1, m2, m3, m4⟩ := glb_eq hg
      obtain ⟨C, hC, E⟩ := wk.ex k hk
      obtain ⟨C2, hC2, _⟩ := wk.ex k' h5
      rw [hC] at hz
      have hm := cls _ _ m4
      refine PE.imp (pe_callB (call_isP E hp hz hf) (by show X.env.scope.names.lookup _ = _; rw [esc]; exact n1) (blt _ n4) isi_boot (pa_cons (pe_var hN (.inl (by rw [esc]; exact hv)) hd hcd) (pa_cons (pe_glob (v := .ref C2) (by show X.env.scope.names.lookup _ = _; rw [esc]; exact m1) hm (by rw [hC2]; rfl) m2) pa_nil)) n3 n2 rfl rfl) fun σ H Q h => ?_
      obtain ⟨h0, q⟩ := h
      refine ⟨_, h0, .ref C2, cl k', k == k', rfl, fun u ru => ?_, ?_, q⟩
      · rw [hC2]; exact ru
      · have := wk.is k k' hk h1 h5
        rw [hC] at this
        exact this
    · cases g2
  · cases h
theorem wStr_eq {z : List Nat} {e : Expr} (h : wStr z e = true) : PE X e (tC (.str (toS z))) := by
  unfold wStr at h
  split at h
  · simp only [beq_iff_eq] at h
    rw [← h, toS_toList]
    exact pe_str
  · cases h
/-- a heap with new objects alone -/
def Newer (H H' : Hp) : Prop := ∀ (K : Fr) (Ps : List Addr) (ρ : Rh) (s : S), Good K Ps ρ none H s → Ext K ρ H s ρ H' s ∧ Good K Ps ρ none H' s
theorem Newer.refl {H : Hp} : Newer H H := fun _ _ _ _ g => ⟨Ext.refl, g⟩
theorem Newer.new {H H1 : Hp} {b : Addr} {o : HO} (n : Newer H H1) (h : H1 b = none) : Newer H (upd H1 b o) := fun K Ps ρ s g => by
  obtain ⟨e, g1⟩ := n K Ps ρ s g
  exact ⟨e.trans (Ext.new h), g1.new h⟩
theorem word_pss {N : List Str} {body : List Stmt} (hN : X.N = N) (nd : N.Nodup) (esc : X.env.scope = sc) (fk : sc.kind = .function) (fn : ∀ x, X.fn x = true) (wk : WordK X.K cl) (hk : k ≤ 5) (hot : L2H.Hot1 X.A (a, oe)) (hp : (a, oe) ∈ X.pn) (hz : Zc (cl k) none oe)
    (hf : ∃ vs, oe.data = .fields vs) (blt : ∀ x, G.lookup x = some .blt → X.mg x = none) (cls : ∀ x c, G.lookup x = some (.cls c) → X.mg x = some (cl c)) (h : wordB G N sc body = true) :
    PSs X body (fun D σ H => σ[0]? = some (some (.ref a)) ∧ σ.length = 3 ∧ ∀ H', Newer H H' → D.rt (.str (toS (wordX k))) H') := by
  unfold wordB at h
  split at h
  · rename_i en kn on kn1 q1 c1 c2 c3 c4 c5 q2 q3 ln q4 o1 q5 o2 q6 kn2 q7 o3 q8 bs q9 q10 j1 q11 q12 s0 q13 q14 s1 s2 s3 s4 s5 q15 kn3 q19 ap j2 q16 cp q17 q18
    simp only [Bool.and_eq_true, decide_eq_true_eq, bne_iff_ne, ne_eq] at h
    obtain ⟨hl, ⟨⟨hc1, hc2, hc3, hc4, hc5⟩, hs0, hs1, hs2, hs3, hs4, hs5⟩, ⟨⟨rfl, gl⟩, rfl, rfl, rfl, rfl, rfl, rfl⟩, ⟨hve, hvk⟩, ⟨hb, hvo, hbo⟩, ⟨d1, d2, d3⟩, e1, e2, e3⟩ := h
    have v0 : X.N[0]? = some en := by rw [hN]; rfl
    have v1 : X.N[1]? = some kn3 := by rw [hN]; rfl
    have v2 : X.N[2]? = some o3 := by rw [hN]; rfl
    have ndX : X.N.Nodup := by rw [hN]; exact nd
    have fkX : X.env.scope.kind = .function := by rw [esc]; exact fk
    have db1 : (kn3 == ("__debug__" : Str)) = false := by simpa using d2
    have db2 : (kn3 == ("__classdict__" : Str)) = false := by simpa using e2
    have db3 : (o3 == ("__debug__" : Str)) = false := by simpa using d3
    have db4 : (o3 == ("__classdict__" : Str)) = false := by simpa using e3
    have I : ∀ {c : Nat} {e : Expr}, 1 ≤ c → c ≤ 5 → isiC G sc en c e = true → PE X e (tIs a (k == c)) := fun c1 c5 hc => isiC_eq wk hk c1 c5 esc v0 hve (by simpa using d1) (by simpa using e1) blt cls hp hz hf hc
    have lN : Loc X.env.scope kn3 := .inl (by rw [esc]; exact hvk)
    obtain ⟨n1, n2, n3, n4⟩ := glb_eq (isBlt_eq gl)
    have st1 : ∀ {tp : Pos} {e : Expr}, isiC G sc en 1 e = true → e = e := fun _ => rfl
    have noS : ∀ {c : Nat} {e : Expr}, isiC G sc en c e = true → notStar e = true := fun hc => by
      unfold isiC at hc
      split at hc
      · rfl
      · cases hc
    have noW : ∀ {z : List Nat} {e : Expr}, wStr z e = true → notStar e = true := fun hc => by
      unfold wStr at hc
      split at hc
      · rfl
      · cases hc
    have pL := pe_lst (pa_cons (I (c := 1) (by decide) (by decide) hc1) (pa_cons (I (c := 2) (by decide) (by decide) hc2) (pa_cons (I (c := 3) (by decide) (by decide) hc3) (pa_cons (I (c := 4) (by decide) (by decide) hc4) (pa_cons (I (c := 5) (by decide) (by decide) hc5) pa_nil (star_cons (noS hc5))) (star_cons (noS hc4))) (star_cons (noS hc3))) (star_cons (noS hc2))) (star_cons (noS hc1))) (pos := q2)
    have p1 := ps_set (pos := q3) (pos' := q1) ndX v1 lN pL (by rw [sw_on fkX rfl]; rfl) (.inl (fn _))
    have ho : ∀ (s0 : Shared) (H0 : Hp) (C : Addr) (ce : List (Str × Addr)) (fp : List Addr), (X.blk s0 H0 bs (compEnvC bs ce C X.env) fp).env.scope.names.lookup o3 = some .local := fun s0 H0 C ce fp => lookup_relS_keep (sc := X.env.scope) (by decide) hvo
    have lc := pe_lcH (pos := q9) (tg := .Name o3 q6) (elt := .Name o3 q5) (iter := .Name kn3 q7) (ifs := [.Name o3 q8]) (own := [(o3, 2)]) hot hp ndX (pe_var (pos := q7) v1 (.inl (by rw [esc]; exact hvk)) db1 db2) (blkOk_by (by rw [hN, esc]; exact hb))
      (fun s0 H0 C ce fp => pg_name (X := X.blk s0 H0 bs (compEnvC bs ce C X.env) fp) (i := 2) ndX v2 (.inl (ho s0 H0 C ce fp)) (.inr (ho s0 H0 C ce fp)))
      (fun s0 H0 C ce fp => pts_one (pt_val (pe_var (X := X.blk s0 H0 bs (compEnvC bs ce C X.env) fp) (i := 2) v2 (.inl (ho s0 H0 C ce fp)) db3 db4)))
      (fun s0 H0 C ce fp => pe_var (X := X.blk s0 H0 bs (compEnvC bs ce C X.env) fp) (i := 2) v2 (.inl (ho s0 H0 C ce fp)) db3 db4) (fun _ => rfl) (fun _ _ => rfl)
    have p2 := ps_if (pos := q14) (pt_cmpR (pos := q12) op_ne (pe_callB (p := q4) (pos := q10) call_len (by show X.env.scope.names.lookup _ = _; rw [esc]; exact n1) (blt _ n4) (bi_boot .len rfl) (pa_cons lc pa_nil) n3 n2 rfl rfl) (pe_int (i := 1) (j := j1) (pos := q11)) rfl) (pss_one (ps_ret (wStr_eq hs0) (pos := q13))) pss_nil
    have p3 := ps_ret (pos := q18) (pe_ix (pos := q17) ix_seq (pe_lst (pos := q15) (pa_cons (wStr_eq hs1) (pa_cons (wStr_eq hs2) (pa_cons (wStr_eq hs3) (pa_cons (wStr_eq hs4) (pa_cons (wStr_eq hs5) pa_nil (star_cons (noW hs5))) (star_cons (noW hs4))) (star_cons (noW hs3))) (star_cons (noW hs2))) (star_cons (noW hs1))))
      (pe_bm (apos := ap) (cpos := cp) PySem.F.plainAttrs_list PySem.F.slot_list_index PySem.F.type_list_index mt_index (pe_var (pos := q19) v1 (.inl (by rw [esc]; exact hvk)) db1 db2) (pa_cons (pe_bl (b := true) (j := j2) (pos := q16)) pa_nil) rfl rfl hl rfl rfl) (fun _ _ => rfl))
    refine ⟨fun pins s σ H D J q => (pss_cons p1 (pss_cons p2 (pss_one p3))).run pins s σ H D J ?_⟩
    obtain ⟨h0, hl, q⟩ := q
    refine ⟨h0, h0, h0, h0, h0, by show 5 ≤ sizeLine; decide, fun p np => ?_⟩
    have wk5 : k = 0 ∨ k = 1 ∨ k = 2 ∨ k = 3 ∨ k = 4 ∨ k = 5 := by omega
    generalize hbs : [V.bl (k == 1), V.bl (k == 2), V.bl (k == 3), V.bl (k == 4), V.bl (k == 5)] = vs
    have hlen : vs.length = 5 := by rw [← hbs]; rfl
    have gs : ∀ {σ : L2.St} {u : V}, σ.length = 3 → (σ.set 1 (some u))[1]? = some (some u) := fun {σ u} h => by rw [List.getElem?_set_self (by omega)]
    show tSeq _ _ _ (σ.set 1 (some (V.ref p))) (upd H p (.lst vs))
    have s1 := gs (u := V.ref p) hl
    -- the comprehension: what is true of the five
    let flt : Nat → List V := fun i => (vs.take i).filter fun v => decide (v = V.bl true)
    have fl5 : ∀ i, (flt i).length ≤ 5 := fun i => by
      have := List.length_filter_le (fun v => decide (v = V.bl true)) (vs.take i)
      rw [List.length_take] at this
      show ((vs.take i).filter fun v => decide (v = V.bl true)).length ≤ 5
      omega
    have z5 : 5 < sizeLine := by decide
    have npB : ∀ {B : Addr}, (upd H p (.lst vs)) B = none → p ≠ B := fun nB e => by rw [← e, upd_same] at nB; cases nB
    refine ⟨V.ref p, s1, p, vs, rfl, .inl (.inl upd_same), fun B nB => ⟨fun i h => h = upd (upd H p (.lst vs)) B (.lst (flt i)), rfl, ?_, ?_, ?_⟩⟩
    · rintro i h rfl
      refine .inl (.inl ?_)
      rw [upd_ne (npB nB), upd_same]
    · rintro h rfl
      have nw : Newer H (upd (upd H p (.lst vs)) B (.lst (flt vs.length))) := (Newer.refl.new np).new nB
      refine ⟨V.ref B, (flt vs.length).length, rfl, .inl ⟨_, .inl (.inl upd_same), rfl⟩, rfl, _, rfl, ?_⟩
      have hpv : (upd (upd H p (.lst vs)) B (.lst (flt vs.length))) p = some (.lst vs) := by rw [upd_ne (npB nB), upd_same]
      have fin : ∀ {j : Nat}, j < 5 → vs[j]? = some (V.bl true) → (∀ m z, m < j → vs[m]? = some z → eqV z (V.bl true) = false) → (∀ i, [V.str (toS (wordX 1)), .str (toS (wordX 2)), .str (toS (wordX 3)), .str (toS (wordX 4)), .str (toS (wordX 5))][j]? = some i → i = V.str (toS (wordX k))) → vs.all flatV = true →
          tRet (tOp (L2.rIx X.K) (tLst (tCons (tC (V.str (toS (wordX 1)))) (tCons (tC (V.str (toS (wordX 2)))) (tCons (tC (V.str (toS (wordX 3)))) (tCons (tC (V.str (toS (wordX 4)))) (tCons (tC (V.str (toS (wordX 5)))) tNil)))))) (tBM X.K "list" (rIndex X.K) (tVar 1) (tCons (tC (V.bl true)) tNil))) D (σ.set 1 (some (V.ref p))) (upd (upd H p (.lst vs)) B (.lst (flt vs.length))) := fun {j} hj h1 h2 h3 h4 => by
        have z6 : 5 ≤ sizeLine := by decide
        refine ⟨z6, fun C nC => ?_⟩
        have npC : p ≠ C := fun e => by rw [← e, hpv] at nC; cases nC
        have hp3 : ∀ u, (upd (upd (upd H p (.lst vs)) B (.lst (flt vs.length))) C u) p = some (.lst vs) := fun u => by rw [upd_ne npC, hpv]
        refine ⟨V.ref p, s1, .inl ⟨rfl, vs, .inl (.inl (hp3 _))⟩, p, vs, V.bl true, j, V.bl true, rfl, rfl, .inl (.inl (hp3 _)), rfl, h4, h1, rfl, h2, ?_⟩
        have hj5 : ∃ v, [V.str (toS (wordX 1)), .str (toS (wordX 2)), .str (toS (wordX 3)), .str (toS (wordX 4)), .str (toS (wordX 5))][j]? = some v := ⟨_, List.getElem?_eq_getElem hj⟩
        obtain ⟨v, hv⟩ := hj5
        have ev := h3 v hv
        subst ev
        refine .inl ⟨C, _, (j : Int), _, rfl, rfl, .inl (.inl upd_same), ?_, q _ (nw.new nC)⟩
        rw [L2.atI_nat]
        exact hv
      rcases wk5 with rfl | rfl | rfl | rfl | rfl | rfl
      · subst hbs
        exact q _ nw
      · subst hbs
        exact fin (j := 0) (by decide) rfl (fun m z h => absurd h (by omega)) (fun i h => by cases h; rfl) rfl
      · subst hbs
        exact fin (j := 1) (by decide) rfl (fun m z h e => by (obtain rfl : m = 0 := by omega); cases e; rfl) (fun i h => by cases h; rfl) rfl
      · subst hbs
        refine fin (j := 2) (by decide) rfl (fun m z h e => ?_) (fun i h => by cases h; rfl) rfl
        (obtain rfl | rfl : m = 0 ∨ m = 1 := by omega) <;> (cases e; rfl)
      · subst hbs
        refine fin (j := 3) (by decide) rfl (fun m z h e => ?_) (fun i h => by cases h; rfl) rfl
        (obtain rfl | rfl | rfl : m = 0 ∨ m = 1 ∨ m = 2 := by omega) <;> (cases e; rfl)
      · subst hbs
        refine fin (j := 4) (by decide) rfl (fun m z h e => ?_) (fun i h => by cases h; rfl) rfl
        (obtain rfl | rfl | rfl | rfl : m = 0 ∨ m = 1 ∨ m = 2 ∨ m = 3 := by omega) <;> (cases e; rfl)
    · rintro i y h hy rfl
      obtain ⟨b, rfl⟩ : ∃ b, y = V.bl b := by
        have := List.mem_of_getElem? hy
        rw [← hbs] at this
        simp only [List.mem_cons, List.not_mem_nil, or_false] at this
        rcases this with rfl | rfl | rfl | rfl | rfl <;> exact ⟨_, rfl⟩
      have e1 : flt (i + 1) = flt i ++ if b = true then [V.bl b] else [] := by
        show (vs.take (i + 1)).filter _ = (vs.take i).filter _ ++ _
        rw [List.take_add_one, List.filter_append, hy]
        cases b <;> simp
      have hl2 : (L2.wipe (σ.set 1 (some (V.ref p))) (List.map (fun x => x.snd) [(o3, 2)])).length = 3 := by rw [L2.wipe_length, List.length_set, hl]
      have g2 : ((L2.wipe (σ.set 1 (some (V.ref p))) (List.map (fun x => x.snd) [(o3, 2)])).set 2 (some (V.bl b)))[2]? = some (some (V.bl b)) := by rw [List.getElem?_set_self (by omega)]
      refine ⟨?_, V.bl b, g2, b, rfl, ?_⟩
      · show L2.wipe _ [2] = L2.wipe _ [2]
        simp [L2.wipe]
      · cases b with
        | false =>
          rw [if_neg (by simp)]
          show upd _ _ _ = upd _ _ (.lst (flt (i + 1)))
          rw [e1]; simp
        | true =>
          rw [if_pos rfl]
          refine ⟨V.bl true, g2, flt i, upd_same, by have := fl5 i; omega, ?_⟩
          show upd _ _ _ = upd _ _ (.lst (flt (i + 1)))
          rw [upd_upd, e1]; rfl
  · cases h
theorem pe_word {x y : Str} {i : Nat} {q p2 pos : Pos} (W : WordF X.K X.mg cl G x) (hg : Gl X x) (hdb : (x == ("__debug__" : Str)) = false) (hot : L2H.Hot1 X.A (a, oe)) (hp : (a, oe) ∈ X.pn) (hz : Zc (cl k) none oe) (hf : ∃ vs, oe.data = .fields vs) (hk : k ≤ 5)
    (hr : L2H.RoomH 1 X.A) (hN : X.N[i]? = some y) (hv : Vis X.env.scope y) (hd : (y == ("__debug__" : Str)) = false) (hcd : (y == ("__classdict__" : Str)) = false) :
    PE X (.Call (.Name x q) [.Name y p2] [] pos) (fun σ H Q => σ[i]? = some (some (.ref a)) ∧ ∀ H', Newer H H' → Q (.str (toS (wordX k))) H') := by
  obtain ⟨⟨f, fd, ps, N, name, qual, params, body, scope, kws, hm, kp, hb, F, S, lp, lN, wb⟩, wk, blt, cls⟩ := W
  refine ⟨fun pins s σ H Q I ⟨h0, qq⟩ => ?_⟩
  refine wpAny_Call_Name_kw (ld_glob I hg hm ?_ hdb)
  have ha : PA X [.Name y p2] (tCons (tVar i) tNil) := pa_cons (pe_var hN hv hd hcd) pa_nil
  refine PySem.W.callWith_K (h₀ := X.base) I.ok.mod.kin kp (thn (ha.run pos pins s σ H (fun vs H1 => vs = [V.ref a] ∧ H1 = H) I ⟨_, h0, rfl, rfl⟩) fun us s1 ⟨vs, H1, I1, r, ev, eH⟩ => ⟨I1.kIn, ?_⟩) rfl rfl
  subst ev eH
  cases r with
  | cons r1 rr =>
    cases rr
    cases r1
    -- the def's own run
    have P1 := I1.pin (a, oe) (List.mem_append_left _ hp)
    have hpin : L2H.PinOk X.stack H1 s1 (a, oe) := ⟨P1.1, P1.2.1, fun hm => (List.mem_cons.mp (I1.stkSub a hm)).elim P1.2.2.1 P1.2.2.2.1, P1.2.2.2.2⟩
    obtain ⟨oc, od, dV, kV, doc, pm, an, cdv, ct, osl, rfl, lk, hcd2, _, _⟩ := F.ex
    have b := hb s1 [.ref a] I1.kIn (by rw [List.append_nil]; simp [lp])
    rw [List.append_nil] at b
    have e0 := I1.env0
    have lim : s1.heap.NoLimit := I1.nolimit
    have vals : Vals [V.ref a] [Value.ref a] := .cons rfl .nil
    have hkind : ∀ z ∈ ps.zip [Value.ref a], scope.names.lookup z.1 = some .local ∨ (scope.names.lookup z.1 = some .cell ∧ ((cellsFrom (s1.heap.objs.size + 1) scope.names []).lookup z.1).isSome = true) := fun ⟨n, v⟩ hz => (S.par n (List.of_mem_zip hz).1).elim .inl fun e => .inr ⟨e, PySem.W.cellsFrom_some _ _ _ (.inl e)⟩
    have key : codeAny (model X.prog X.w) X.A (.call (.ref f) ⟨[.ref a], []⟩) (CR (L2N.CX X.prog X.w) X.stack X.prog X.w H1 s1 Q (fun _ _ _ => False)) s1 := by
      refine codeAny_call_function hr.depth (I1.kIn _ _ lk) rfl S.co S.gen rfl (PySem.W.codeRec_of I1.kIn hcd2) (b _ _ _ _ ?_)
      refine wpAny_newFunctionEnv_cells S.kind hkind fun env he s2 xx => ?_
      subst he
      refine ⟨lim.keeps xx.toInCall.keep, codeAny_func ?_⟩
      have J := L2H.inv_startH (CX := L2N.CX X.prog X.w) (P := X.prog) (w := X.w) (K := X.K) (mg := X.mg) (base := X.base) (A := X.A) (E := fun _ _ _ => False) (f := f) S hpin e0 (by simp [lp]) vals xx
      have B := word_pss (X := L2H.cxH (L2N.CX X.prog X.w) X.prog X.w X.K X.mg X.base N qual scope f cdv X.A X.stack s1 H1 (fun _ _ _ => False) (a, oe)) (cl := cl) (sc := scope) rfl S.nd rfl S.kind (fun _ => rfl) wk hk hot (List.mem_singleton.mpr rfl) hz hf blt cls wb
      have hst : L2.start N [V.ref a] = some (V.ref a) :: List.replicate (N.length - 1) none := rfl
      refine wpAny_mono (B.run [] s2 (L2.start N [V.ref a]) H1 { nx := fun _ H' => Q .non H', rt := Q } J ⟨by rw [hst]; rfl, by rw [hst]; simp [lN], fun H' nw => qq H' nw⟩) (fun fl s' hs => ?_) fun e s' hs => hs
      have fin : ∀ {σ' : L2.St} {H' : Hp} {v : V} {u : Value}, Inv (L2H.cxH (L2N.CX X.prog X.w) X.prog X.w X.K X.mg X.base N qual scope f cdv X.A X.stack s1 H1 (fun _ _ _ => False) (a, oe)) [] σ' H' s' → RelV v u → Q v H' → L2.CE X.stack X.prog X.w H1 s1 Q u s' := fun {σ' H' v u} J' rv q =>
        ⟨v, H', J'.os, J'.bare, J'.base, J'.hok, rv, q⟩
      cases fl with
      | ret u =>
        obtain ⟨v, σ', H', J', rv, q⟩ := hs
        exact fin J' rv q
      | next =>
        obtain ⟨σ', H', J', q⟩ := hs
        exact fin (v := V.non) (u := Value.none) J' rfl q
      | brk => exact (hs.elim fun _ h => h.elim fun _ h => h.2).elim
      | cont => exact (hs.elim fun _ h => h.elim fun _ h => h.2).elim
    refine wpAny_call (codeAny_mono key fun r s' hq => ?_)
    cases r with
    | error e =>
      obtain ⟨_, _, _, _, _, _, _, _, _, _, _, _, h⟩ := (show L2N.CX X.prog X.w X.stack H1 s1 (fun _ _ _ => False) e s' from hq)
      exact h.elim
    | ok fl =>
      cases fl with
      | ret u => exact I1.after hq
      | next => exact (show False from hq).elim
      | brk => exact (show False from hq).elim
      | cont => exact (show False from hq).elim
end
end L3
end

section -- I21
set_option autoImplicit false
set_option linter.all false
set_option maxRecDepth 100000
set_option maxHeartbeats 4000000
namespace L3
open PySem PySem.Spec PyProof.Rows L2 GxR

def conV : Const → V
  | .none => .non
  | .bool b => .bl b
  | .int i => .int i
  | .str s => .str s
  | _ => .non
theorem conV_rel {c : Const} {d : D} (h : conC c d = true) : (∀ xs, d ≠ .lv true xs) ∧ ∀ (K : Fr) ρ n x H, Rel K ρ n x H d (conV c) := by
  cases c <;> cases d <;> simp [conC] at h
  · exact ⟨by simp, fun _ _ _ _ _ => .non⟩
  · subst h; exact ⟨by simp, fun _ _ _ _ _ => .bl _⟩
  · subst h; exact ⟨by simp, fun _ _ _ _ _ => .int _⟩
  · subst h
    refine ⟨by simp, fun K ρ n x H => ?_⟩
    have := Rel.str (K := K) (ρ := ρ) (n := n) (x := x) (H := H) (‹Str›.cps.toList)
    rw [toS_toList] at this
    exact this
theorem conV_eq {c : Const} {d : D} (h : conC c d = true) {X : Cx} {j : Nat} {p : Pos} : PE X (.Constant c j p) (tC (conV c)) := by
  cases c <;> cases d <;> simp [conC] at h
  · exact pe_non
  · exact pe_bl
  · exact pe_int
  · exact pe_str
/-- the reading of an except suite -/
def tSu (v : V) : Suite → TS
  | .pass => tNext
  | .cont => tCont
  | .con d => tRet (tC v)
  | .word _ => fun _ _ _ => False
def suV : List Stmt → V
  | [.Return (some (.Constant c _ _)) _] => conV c
  | _ => .non
theorem okH_eq {h : Suite} {t : Stmt} {r : List Stmt} (hh : okH h t r = true) (X : Cx) : PSs X (t :: r) (tSu (suV (t :: r)) h) := by
  unfold okH at hh
  split at hh
  · exact pss_one ps_pass
  · exact pss_one ps_continue
  · exact pss_one (ps_ret (conV_eq hh))
  · cases hh
theorem okH_rel {d : D} {t : Stmt} {r : List Stmt} (hh : okH (.con d) t r = true) : (∀ xs, d ≠ .lv true xs) ∧ ∀ (K : Fr) ρ n x H, Rel K ρ n x H d (suV (t :: r)) := by
  unfold okH at hh
  split at hh
  · rename_i h; cases h
  · rename_i h; cases h
  · rename_i h; cases h; exact conV_rel hh
  · cases hh
def fTry (c : Nat) (i : Option Nat) (h : Suite) (fb : Env → S → F) : Env → S → F := fun e s => match fb e s with
      | .ex k e' s' => if k ≤ 5 then (if subX k c then (match suite h k e' s' with
          | .nx e s => .nx (clr i e) s
          | .ct e s => .ct (clr i e) s
          | f => f) else .ex k e' s') else .bad
      | f => f
section
variable {X : Cx} {Ps : List Addr} {cl : XC} {W : WX} {b suite : List Stmt} {b₀ : Stmt} {x n : Str} {c : Nat} {fb : Env → S → F} {h : Suite} {np pos pos' : Pos}
theorem s_try (hs : X.stack = X.env :: X.outer) (hf : X.env.frame = some X.env.locals) (hc : Names X x (cl c)) (tk : L2N.Takes X W) (hex : ∀ k, k ≤ 5 → PySem.W.exmOne X.K (cl k) (cl c) = some (subX k c))
    (hb : ∀ (W : WX) (pn : List (Addr × Obj)) (xe : Value → Shared → Prop), L2N.Takes (X.tr pn xe) W → PassesOwn (model X.prog X.w) X.A X.env xe → SS1 (X.tr pn xe) Ps cl W b fb) (hsu : okH h b₀ suite = true) :
    S1 X Ps cl W (.Try b [.ExceptHandler (some (.Name x np)) none (b₀ :: suite) pos'] [] [] pos) (fTry c none h fb) := by
  refine PS.imp (L2N.ps_try_many (tb := fun W => TXS X.K Ps cl W fb) (l := [(cl c, fun _ _ _ => tSu (suV (b₀ :: suite)) h)]) hs hf tk hb (.cons hc (fun _ _ _ _ _ _ _ => okH_eq hsu _) .nil)) fun Dn σ H ⟨ρ, e, s, g, er, p⟩ => ⟨ρ, e, s, g, er, ?_⟩
  unfold fTry at p
  cases q : fb e s with
  | nx e' s' => rw [q] at p; exact p
  | bk e' s' => rw [q] at p; exact p
  | ct e' s' => rw [q] at p; exact p
  | rt d s' => rw [q] at p; exact p
  | bad => rw [q] at p; exact p
  | ex k e' s' =>
    rw [q] at p
    dsimp only at p
    split at p
    · rename_i hk
      intro ρ' H' σ' x' g' er'
      refine ⟨subX k c, hex k hk, fun hsub a ha => ?_, fun hsub => ?_⟩
      · rw [if_pos hsub] at p
        cases h with
        | pass => exact p ρ' H' σ' x' g' er'
        | cont => exact p ρ' H' σ' x' g' er'
        | con d =>
          obtain ⟨q1, q2⟩ := okH_rel hsu
          exact p ρ' H' _ x' (.of q1 g' (q2 _ _ _ _ _))
        | word f => exact (by simp [okH] at hsu : False).elim
      · rw [if_neg (by rw [hsub]; simp)] at p
        exact p ρ' H' σ' x' g' er'
    · exact p.elim
theorem s_tryAs {i : Nat} (hs : X.stack = X.env :: X.outer) (hf : X.env.frame = some X.env.locals) (hN : X.N.Nodup) (hi : X.N[i]? = some n) (hln : X.env.kindOf n = some .local) (hc : Names X x (cl c)) (tk : L2N.Takes X W) (hex : ∀ k, k ≤ 5 → PySem.W.exmOne X.K (cl k) (cl c) = some (subX k c))
    (hb : ∀ (W : WX) (pn : List (Addr × Obj)) (xe : Value → Shared → Prop), L2N.Takes (X.tr pn xe) W → PassesOwn (model X.prog X.w) X.A X.env xe → SS1 (X.tr pn xe) Ps cl W b fb) (hsu : okH h b₀ suite = true) :
    S1 X Ps cl W (.Try b [.ExceptHandler (some (.Name x np)) (some n) (b₀ :: suite) pos'] [] [] pos) (fTry c (some i) h fb) := by
  refine PS.imp (L2N.ps_try_as (tb := fun W => TXS X.K Ps cl W fb) (ts := fun _ _ _ => tSu (suV (b₀ :: suite)) h) hs hf hN hi hln hc tk hb (fun _ _ _ _ _ _ _ => okH_eq hsu _)) fun Dn σ H ⟨ρ, e, s, g, er, p⟩ => ⟨ρ, e, s, g, er, ?_⟩
  unfold fTry at p
  cases q : fb e s with
  | nx e' s' => rw [q] at p; exact p
  | bk e' s' => rw [q] at p; exact p
  | ct e' s' => rw [q] at p; exact p
  | rt d s' => rw [q] at p; exact p
  | bad => rw [q] at p; exact p
  | ex k e' s' =>
    rw [q] at p
    dsimp only at p
    split at p
    · rename_i hk
      intro ρ' H' σ' x' g' er'
      have erc : ∀ o, EnvRel X.K ρ' s'.n H' ((σ'.set i o).set i none) (e'.set i none) := fun o => by
        rw [List.set_set]; exact er'.setN none
      refine ⟨subX k c, hex k hk, fun hsub a ha => ?_, fun hsub => ?_⟩
      · rw [if_pos hsub] at p
        cases h with
        | pass => exact p ρ' H' _ x' g' (erc _)
        | cont => exact p ρ' H' _ x' g' (erc _)
        | con d =>
          obtain ⟨q1, q2⟩ := okH_rel hsu
          exact p ρ' H' _ x' (.of q1 g' (q2 _ _ _ _ _))
        | word f => exact (by simp [okH] at hsu : False).elim
      · rw [if_neg (by rw [hsub]; simp)] at p
        exact p ρ' H' σ' x' g' er'
    · exact p.elim
/-- except C as n: return w(n) -/
theorem s_tryAsW {G : GT} {i : Nat} {w : Str} {q p2 p3 p4 : Pos} {f : Nat} (hs : X.stack = X.env :: X.outer) (hf : X.env.frame = some X.env.locals) (nd : X.N.Nodup) (hi : X.N[i]? = some n) (hln : X.env.kindOf n = some .local) (hc : Names X x (cl c)) (tk : L2N.Takes X W)
    (hex : ∀ k, k ≤ 5 → PySem.W.exmOne X.K (cl k) (cl c) = some (subX k c)) (hb : ∀ (W : WX) (pn : List (Addr × Obj)) (xe : Value → Shared → Prop), L2N.Takes (X.tr pn xe) W → PassesOwn (model X.prog X.w) X.A X.env xe → SS1 (X.tr pn xe) Ps cl W b fb)
    (F : WordF X.K X.mg cl G w) (hg : Gl X w) (d1 : (w == ("__debug__" : Str)) = false) (d2 : (n == ("__debug__" : Str)) = false) (d3 : (n == ("__classdict__" : Str)) = false) (rm : L2H.RoomH 1 X.A) :
    S1 X Ps cl W (.Try b [.ExceptHandler (some (.Name x np)) (some n) [.Return (some (.Call (.Name w q) [.Name n p2] [] p3)) p4] pos'] [] [] pos) (fTry c (some i) (.word f) fb) := by
  refine PS.imp (L2N.ps_try_as (tb := fun W => TXS X.K Ps cl W fb) (ts := fun a u d => fun D σ H => ∃ (k : Nat) (σ0 : L2.St), k ≤ 5 ∧ u = cl k ∧ d = none ∧ σ = σ0.set i (some (.ref a)) ∧ ∀ H', Newer H H' → D.rt (.str (toS (wordX k))) H') hs hf nd hi hln hc tk hb (fun a oe u d pn hz hfd => ?_))
    fun Dn σ H ⟨ρ, e, s, g, er, p⟩ => ⟨ρ, e, s, g, er, ?_⟩
  · refine ⟨fun pins s σ H D I ⟨k, σ0, hk, e1, e2, e3, qq⟩ => ?_⟩
    subst e1 e2 e3
    obtain ⟨vs, hv⟩ := hfd
    have hot : L2H.Hot1 (X.suite a ((a, oe) :: pn)).A (a, oe) := ⟨rfl, vs, hv, hz.2.2 vs hv⟩
    refine (pss_one (ps_ret (pe_word (X := X.suite a ((a, oe) :: pn)) (i := i) F hg d1 hot List.mem_cons_self hz.zc ⟨vs, hv⟩ hk ⟨rm.dp, rm.un⟩ hi (.inl hln) d2 d3))).run pins s (σ0.set i (some (.ref a))) H D I ⟨?_, qq⟩
    have hl := I.len
    rw [List.length_set] at hl
    rw [List.getElem?_set_self (by rw [hl]; exact (List.getElem?_eq_some_iff.mp hi).1)]
  · unfold fTry at p
    cases q : fb e s with
    | nx e' s' => rw [q] at p; exact p
    | bk e' s' => rw [q] at p; exact p
    | ct e' s' => rw [q] at p; exact p
    | rt d s' => rw [q] at p; exact p
    | bad => rw [q] at p; exact p
    | ex k e' s' =>
      rw [q] at p
      dsimp only at p
      split at p
      · rename_i hk
        intro ρ' H' σ' x' g' er'
        refine ⟨subX k c, hex k hk, fun hsub a ha => ?_, fun hsub => ?_⟩
        · rw [if_pos hsub] at p
          refine ⟨k, σ', hk, rfl, rfl, rfl, fun H'' nw => ?_⟩
          obtain ⟨x2, g2⟩ := nw X.K Ps ρ' s' g'
          exact p ρ' H'' _ (x'.trans x2) (.of (by simp) g2 (.str _))
        · rw [if_neg (by rw [hsub]; simp)] at p
          exact p ρ' H' σ' x' g' er'
      · exact p.elim
end

/-- the context of a def's statements -/
structure Oks (X : Cx) (Ps : List Addr) (cl : XC) (W : WX) (G : GT) (N : List Str) (g k : Nat) (sc : Scope) (fs : Nat → List D → S → R D) : Prop extends Okx X Ps cl W G N g k sc fs where
  fn : ∀ x, X.fn x = true
  kind : sc.kind = .function
  po : PassesOwn (model X.prog X.w) X.A X.env X.xe
  stk : X.stack = X.env :: X.outer
  frm : X.env.frame = some X.env.locals
  rm : Room 1 X.A
section
variable {X : Cx} {Ps : List Addr} {cl : XC} {W : WX} {G : GT} {N : List Str} {g k : Nat} {sc : Scope} {fs : Nat → List D → S → R D}
theorem Oks.tr (o : Oks X Ps cl W G N g k sc fs) {W' : WX} {pn : List (Addr × Obj)} {xe : Value → Shared → Prop} (tk : L2N.Takes (X.tr pn xe) W') (po : PassesOwn (model X.prog X.w) X.A X.env xe) : Oks (X.tr pn xe) Ps cl W' G N g k sc fs where
  nN := o.nN
  nd := o.nd
  calm := o.calm
  esc := o.esc
  room := o.room
  tk := tk
  gl := ⟨fun x i m h => ⟨(o.gl.fn x i m h).ex, (o.gl.fn x i m h).ar⟩, o.gl.con, o.gl.blt, o.gl.cls, o.gl.dic, o.gl.exm, o.gl.word⟩
  gen := o.gen
  fn := o.fn
  kind := o.kind
  po := po
  stk := o.stk
  frm := o.frm
  rm := o.rm
theorem Oks.names (o : Oks X Ps cl W G N g k sc fs) {x : Str} {c : Nat} (h : glb G sc x = some (.cls c)) : Names X x (cl c) ∧ ∀ k, k ≤ 5 → PySem.W.exmOne X.K (cl k) (cl c) = some (subX k c) := by
  obtain ⟨h1, h2, h3, h4⟩ := glb_eq h
  obtain ⟨C, _, _, _, _, q1, q2, _⟩ := o.gl.cls x c h4
  exact ⟨⟨by show X.env.scope.names.lookup x = _; rw [o.esc]; exact h1, h2, .inl (by rw [q1]; exact q2)⟩, fun k hk => o.gl.exm x k c hk h4⟩
theorem isTL_view {t : Tg} {tg : Expr} (h : tgC N sc (fun _ => true) t tg = true) (h1 : isTL tg = true) : ∃ ts es k p, t = .tup ts ∧ tg = .Tuple es k p := by
  cases t with
  | nm i => obtain ⟨x, p, rfl, _⟩ := tgC_nm h; simp [isTL] at h1
  | tup ts => obtain ⟨es, k, p, rfl, _⟩ := tgC_tup h; exact ⟨_, _, _, _, rfl, rfl⟩
theorem assignEach_one {tg : Expr} {t : Tg} {env : PySem.Env} (h : tgC N sc (fun _ => true) t tg = true) : (assignEach [tg] env).map (·.2) = [assign tg env] := by
  rw [tgC_plain h]; rfl
theorem plain_sub {b c : Expr} {tp : Pos} {env : PySem.Env} (h : plainIx c = true) : ∀ v, assign (.Subscript b c tp) env v = (do
      let x ← holding [v] (eval b env)
      let y ← holding [v, x] (eval c env)
      standAt tp
      holding [v, x, y] (setItem x y v)
      release [v, x, y] []) := by
  intro v
  cases c <;> first | rfl | simp [plainIx] at h
theorem plain_aug {c : Expr} (h : plainIx c = true) : ∀ ov iv new, augStore c ov iv new = (do holding [new, ov, iv] (setItem ov iv new); release [new, ov, iv] []; pure .next) := by
  intro ov iv new
  cases c <;> first | rfl | simp [plainIx] at h
end
end L3
end

section -- I22
set_option autoImplicit false
set_option linter.all false
set_option maxRecDepth 100000
set_option maxHeartbeats 4000000
namespace L3
open PySem PySem.Spec PyProof.Rows L2 GxR

section
variable {Ps : List Addr} {cl : XC} {G : GT} {N : List Str} {k : Nat} {fs : Nat → List D → S → R D}
section
variable {X : Cx} {W : WX} {g : Nat} {sc : Scope}
/-- a comprehension's value, to a mutable name at once -/
theorem lc_parts {elt : CE} {t : Tg} {src : Src} {ifs : List CE} {own : List Nat} {e : Expr} {y : Str} {py spos : Pos} {i : Nat} (o : Oks X Ps cl W G N g k sc fs) (h : okE G N g sc (.lc elt t src ifs own) e = true)
    (hi : X.N[i]? = some y) (hsw : swapsWith e (some (.Name y py)) spos.line X.env = pure true) (hl : X.env.scope.names.lookup y = some .local) :
    S1 X Ps cl W (.Assign [.Name y py] e spos) (fAsg (.nm i) fun en s => ev fs (.lc elt t src ifs own) en s) ∧
    S1 X Ps cl W (.Assign [.Name y py] e spos) (fAsg (.nm i) fun en s => ev fs (.cell (.lc elt t src ifs own)) en s) := by
  unfold okE at h
  split at h
  · rename_i elt' tg iter ifs' scope hv
    obtain ⟨p, rfl⟩ := vLc_eq hv
    simp only [Bool.and_eq_true] at h
    obtain ⟨⟨h1, h2⟩, ⟨h3, h4⟩, h5, h6, h7⟩ := h
    simp only [ev]
    have hN : X.N.Nodup := by rw [o.nN]; exact o.nd
    have hown : ∀ i ∈ t.names, i ∈ (ownL N own).map (·.2) := by
      rw [ownL_snd]
      simp only [subN, List.all_eq_true] at h2
      intro i hi
      simpa using h2 i hi
    have ob := fun s H C ce fp => o.toOkx.blk s H scope C ce fp
    have r := ps_setLc (te := TX X.K Ps cl WF (fun en s => ev fs elt en s)) (tt := TXB X.K Ps cl WF (fun en s => tests fs ifs en s)) (g := TXG X.K t) (wi := TXI X.K Ps cl W (fun en s => items fs src en s)) (own := ownL N own) o.calm hN hi hl hsw (ok_i src o.toOkx h5) (blkOk_by (by rw [o.nN, o.esc]; exact h1))
      (fun s H C ce fp => g_of (X := X.blk s H scope (compEnvC scope ce C X.env) fp) (by rw [(ob s H C ce fp).nN]; exact o.nd) o.calm (fnb := fun x => scope.names.lookup x == some .cell) (fun x hx => hx) (by rw [(ob s H C ce fp).nN, (ob s H C ce fp).esc]; exact h3))
      (fun s H C ce fp => ok_t ifs (ob s H C ce fp) h6) (fun s H C ce fp => (ok_e elt (ob s H C ce fp) h7).1) (notSet_eq h4)
    rw [ownL_snd] at r hown
    have hlt : ∀ σ : L2.St, σ.length = X.N.length → i < σ.length := fun σ hl => by rw [hl]; exact (List.getElem?_eq_some_iff.mp hi).1
    constructor
    · refine PS.len r fun Dn σ H hl h => ?_
      obtain ⟨ρ, e, s, g, er, p⟩ := h
      refine lc_read hown ⟨ρ, e, s, g, er, PostF.of p g er fun d s1 ρ1 H1 v x1 o er1 p => ?_⟩
      exact gName_read (hlt σ hl) ⟨ρ1, s1.n, d, e, _, o.frz, er1, rfl, fun σ' _ _ er' => p ρ1 H1 σ' Ext.refl o.good er'⟩
    · refine PS.len r fun Dn σ H hl h => ?_
      obtain ⟨ρ, e, s, g, er, p⟩ := h
      have p : PostF X.K Ps ρ H s (F.of (((items fs src e s).bind fun it s => lcI (lcF t own (fun en s => tests fs ifs en s) (fun en s => ev fs elt en s) e) it s).bind fun x s => newCell x s) e fun d s => match asg (.nm i) d e with
          | some e' => .nx e' s
          | none => .bad) Dn fun c σ' H' => W (cl c) none σ' H' := p
      refine lc_read hown ⟨ρ, e, s, g, er, ?_⟩
      show Post X.K Ps ρ H s ((items fs src e s).bind fun it s => lcI (lcF t own (fun en s => tests fs ifs en s) (fun en s => ev fs elt en s) e) it s) _ _
      cases q : (items fs src e s).bind fun it s => lcI (lcF t own (fun en s => tests fs ifs en s) (fun en s => ev fs elt en s) e) it s with
      | bad => rw [q] at p; exact p
      | exc c s' => rw [q] at p; exact fun ρ' H' x g' => p ρ' H' σ x g' (er.ext g x)
      | ok d s' =>
        rw [q] at p
        intro ρ' H' v x1 o1
        simp only [R.bind_ok] at p
        unfold newCell at p
        split at p
        · obtain ⟨ρ2, x2, g2, r2⟩ := okR_cell x1 o1
          simp only [F.of_ok, asg] at p
          have hn : S.n ⟨s'.cells ++ [.lst ‹_›], s'.base, s'.up⟩ = s'.n + 1 := by simp [S.n]
          have er2 := er.ext g x2
          rw [hn] at er2
          exact gName_read (X := X) (hlt σ hl) ⟨ρ2, s'.n + 1, D.ref s'.n, e, e.set i (some (D.ref s'.n)), r2, er2, rfl, fun σ' _ _ er' => p ρ2 H' σ' x2 g2 (by rw [hn]; exact er')⟩
        · exact p.elim
  · cases h
theorem stC_ok {x : CE} {t : Tg} {tg e : Expr} {pos : Pos} (o : Oks X Ps cl W G N g k sc fs) (h1 : tgC N sc (fun _ => true) t tg = true) (h2 : noSD e = true) (h3 : okE G N g sc x e = true) (h4 : swOn sc tg e = false) (h5 : stC N sc t x tg e = true) :
    S1 X Ps cl W (.Assign [tg] e pos) (fAsg t fun en s => ev fs x en s) := by
  have hN : X.N.Nodup := by rw [o.nN]; exact o.nd
  have hk : X.env.scope.kind = .function := by rw [o.esc]; exact o.kind
  have hs : ∀ l, swapsWithSole [tg] e l X.env = pure false := fun l => by
    have := sw_on (tg := tg) (l := l) hk h2
    rw [o.esc, h4] at this
    exact this
  have gen : swappedStores [tg] e X.env = pure none → S1 X Ps cl W (.Assign [tg] e pos) (fAsg t fun en s => ev fs x en s) := fun hw =>
    s_asg (ok_e x o.toOkx h3).1 (g_of hN o.calm (fnb := fun _ => true) (fun x _ => o.fn x) (by rw [o.nN, o.esc]; exact h1)) (hs _) hw (assignEach_one h1)
  unfold stC at h5
  split at h5
  · rename_i he
    split at h5
    · rename_i ht
      split at h5
      · rename_i ts kk pp vs k2 p2
        split at h5
        · cases h5
        · rename_i hsw
          exact gen (swT_eq hk (by rw [o.esc]; exact hsw))
        · rename_i ns hsw
          have hsw' := swT_eq (k := kk) (p := pp) (k2 := k2) (p2 := p2) hk (by rw [o.esc]; exact hsw)
          split at h5
          · rename_i i j xs a pa b pb va vb a' b'
            simp only [Bool.and_eq_true, decide_eq_true_eq] at h5
            obtain ⟨⟨rfl, rfl⟩, hij, ha, hb⟩ := h5
            simp only [tgC, tgsC, Bool.and_eq_true, decide_eq_true_eq, Bool.and_true] at h1
            unfold okE at h3
            simp only [vTup] at h3
            have := s_par (Ps := Ps) (cl := cl) (W := W) (px := pa) (py := pb) (pt := pp) (kt := kk) (k2 := k2) (pt2 := p2) (pos := pos) o.calm hN (by rw [o.nN]; exact h1.1.1) (by rw [o.nN]; exact h1.2.1) hij (by rw [o.esc]; exact ha) (by rw [o.esc]; exact hb) (ok_a xs o.toOkx h3) hsw' (hs _)
            simp only [ev]
            exact this
          · rename_i i j l xs a pa b pb c pc va vb vc a' b' c'
            simp only [Bool.and_eq_true, decide_eq_true_eq] at h5
            obtain ⟨⟨rfl, rfl, rfl⟩, ⟨hij, hil, hjl⟩, ha, hb, hc⟩ := h5
            simp only [tgC, tgsC, Bool.and_eq_true, decide_eq_true_eq, Bool.and_true] at h1
            unfold okE at h3
            simp only [vTup] at h3
            have := s_par3 (Ps := Ps) (cl := cl) (W := W) (px := pa) (py := pb) (pz := pc) (pt := pp) (kt := kk) (k2 := k2) (pt2 := p2) (pos := pos) o.calm hN (by rw [o.nN]; exact h1.1.1) (by rw [o.nN]; exact h1.2.1.1) (by rw [o.nN]; exact h1.2.2.1) hij hil hjl (by rw [o.esc]; exact ha) (by rw [o.esc]; exact hb) (by rw [o.esc]; exact hc) (ok_a xs o.toOkx h3) hsw' (hs _)
            simp only [ev]
            exact this
          · cases h5
      · cases h5
    · rename_i ht
      exact gen (sw_notG (by simpa using ht))
  · rename_i he
    exact gen (sw_notT (by simpa using he))
end
mutual
theorem ok_st : ∀ (cs : CS) {X : Cx} {W : WX} {g : Nat} {sc : Scope} {st : Stmt} {w : Nat}, Oks X Ps cl W G N g k sc fs → okST G N g sc cs st = true → S1 X Ps cl W st fun en s => ex fs w cs en s
  | .asg t x, X, W, g, sc, st, w, o, h => by
    unfold okST at h
    split at h
    · rename_i tg e p hv
      have := vAsg_eq hv
      subst this
      simp only [Bool.and_eq_true] at h
      obtain ⟨⟨h1, h2⟩, h3, h4⟩ := h
      simp only [ex]
      split at h4
      · rename_i hsw
        simp only [Bool.and_eq_true] at h4
        obtain ⟨h4, h5⟩ := h4
        cases t with
        | tup ts => simp at h5
        | nm i =>
          obtain ⟨y, py, rfl, hn, _⟩ := tgC_nm h1
          have hk : X.env.scope.kind = .function := by rw [o.esc]; exact o.kind
          have hs := sw_on (tg := .Name y py) (l := p.line) hk h2
          rw [o.esc, hsw] at hs
          have hl : X.env.scope.names.lookup y = some .local := by
            rw [o.esc]
            unfold swOn at hsw
            split at hsw
            · rename_i q1
              cases q1
              simp only [Bool.and_eq_true, decide_eq_true_eq] at hsw
              exact hsw.1.1
            · cases hsw
          unfold isLc at h4
          split at h4
          · exact (lc_parts o h3 (by rw [o.nN]; exact hn) hs hl).1
          · unfold okE at h3
            exact (lc_parts o h3 (by rw [o.nN]; exact hn) hs hl).2
          · cases h4
      · rename_i hsw
        exact stC_ok o h1 h2 h3 (by simpa using hsw) h4
    · cases h
  | .aug i op x, X, W, g, sc, st, w, o, h => by
    unfold okST at h
    split at h
    · rename_i y op' e hv
      obtain ⟨p, q, rfl⟩ := vAug_eq hv
      simp only [Bool.and_eq_true, Bool.or_eq_true, decide_eq_true_eq] at h
      obtain ⟨⟨h1, rfl, h2⟩, h3, h4⟩ := h
      simp only [ex]
      exact s_aug (by cases op <;> simp [isPM] at h2 <;> simp) (by rw [o.nN]; exact o.nd) (by rw [o.nN]; exact h1) (by rw [o.esc]; exact h3) (.inl (o.fn y)) (ok_e x o.toOkx h4).1
    · cases h
  | .put ob i x, X, W, g, sc, st, w, o, h => by
    unfold okST at h
    split at h
    · rename_i tg e p hv
      have := vAsg_eq hv
      subst this
      split at h
      · rename_i o' i' hs
        obtain ⟨tp, rfl⟩ := vSub_eq hs
        simp only [Bool.and_eq_true, Option.isNone_iff_eq_none] at h
        obtain ⟨⟨h1, h2, h3⟩, h4, h5, h6⟩ := h
        simp only [ex]
        exact s_put (ok_e x o.toOkx h4).1 (ok_e ob o.toOkx h5).1 (ok_e i o.toOkx h6).1 (sole_no h3) (sw_notG rfl) rfl (plain_sub h1)
      · cases h
    · cases h
  | .augp ob i op x, X, W, g, sc, st, w, o, h => by
    unfold okST at h
    split at h
    · rename_i o' i' op' e hv
      obtain ⟨p, q, rfl⟩ := vAugS_eq hv
      simp only [Bool.and_eq_true, decide_eq_true_eq] at h
      obtain ⟨⟨h1, rfl, h2⟩, h3, h4, h5⟩ := h
      simp only [ex]
      exact s_augp (by cases op <;> simp [isPM] at h2 <;> simp) (ok_e ob o.toOkx h3).1 (ok_e i o.toOkx h4).1 (ok_e x o.toOkx h5).1 (plain_aug h1)
    · cases h
  | .expr x, X, W, g, sc, st, w, o, h => by
    unfold okST at h
    split at h
    · rename_i e hv
      obtain ⟨p, rfl⟩ := vExpr_eq hv
      simp only [Bool.and_eq_true, Option.isNone_iff_eq_none] at h
      simp only [ex]
      exact s_expr (ok_e x o.toOkx h.2).1 (sw_no h.1)
    · cases h
  | .ret x, X, W, g, sc, st, w, o, h => by
    unfold okST at h
    split at h
    · rename_i e hv
      obtain ⟨p, rfl⟩ := vRet_eq hv
      simp only [ex]
      exact s_ret (ok_e x o.toOkx h).1
    · cases h
  | .retN, X, W, g, sc, st, w, o, h => by
    unfold okST at h
    split at h
    · rename_i hv
      obtain ⟨p, rfl⟩ := vRet_eq hv
      simp only [ex]
      exact s_retN
    · cases h
  | .ite c a b, X, W, g, sc, st, w, o, h => by
    unfold okST at h
    split at h
    · rename_i c' a' b' hv
      obtain ⟨p, rfl⟩ := vIf_eq hv
      simp only [Bool.and_eq_true] at h
      simp only [ex]
      exact s_ite (ok_e c o.toOkx h.1).2.1 (ok_sts a o h.2.1) (ok_sts b o h.2.2)
    · cases h
  | .whl c b, X, W, g, sc, st, w, o, h => by
    unfold okST at h
    split at h
    · rename_i c' b' hv
      obtain ⟨p, rfl⟩ := vWhl_eq hv
      simp only [Bool.and_eq_true] at h
      simp only [ex]
      exact s_whl o.po (ok_e c o.toOkx h.1).2.1 (ok_sts b o h.2)
    · cases h
  | .forr t src b, X, W, g, sc, st, w, o, h => by
    unfold okST at h
    split at h
    · rename_i tg it b' hv
      obtain ⟨p, rfl⟩ := vFor_eq hv
      simp only [Bool.and_eq_true] at h
      obtain ⟨⟨h1, h2⟩, h3, h4⟩ := h
      simp only [ex]
      exact s_for o.po o.calm (ok_i src o.toOkx h3) (g_of (by rw [o.nN]; exact o.nd) o.calm (fnb := fun _ => true) (fun x _ => o.fn x) (by rw [o.nN, o.esc]; exact h1)) (ok_sts b o h4) (notSet_eq h2)
    · cases h
  | .raise c, X, W, g, sc, st, w, o, h => by
    unfold okST at h
    split at h
    · rename_i x m hv
      obtain ⟨p, j, q, r, u, rfl⟩ := vRaise_eq hv
      split at h
      · rename_i c' hg
        simp only [decide_eq_true_eq] at h
        subst h
        obtain ⟨h1, h2, h3, h4⟩ := glb_eq hg
        obtain ⟨C, bmB, B, newId, initId, q1, q2, q3, q4, q5, q6⟩ := o.gl.cls x _ h4
        simp only [ex]
        refine PS.imp (L2N.ps_raise o.calm o.tk (L2N.pmk_own q3 q4 q2 q5 q6 (by show X.env.scope.names.lookup x = _; rw [o.esc]; exact h1) h2)) fun Dn σ H ⟨ρ, e, s, g, er, p⟩ => ?_
        rw [← q1]
        exact p ρ H σ Ext.refl g er
      · cases h
    · cases h
  | .tryy b c none hn, X, W, g, sc, st, w, o, h => by
    unfold okST at h
    dsimp only at h
    split at h
    · rename_i b' x t r hv
      obtain ⟨p, q, u, rfl⟩ := vTry_eq hv
      simp only [Bool.and_eq_true] at h
      obtain ⟨h1, h2, h3⟩ := h
      split at h1
      · rename_i c' hg
        simp only [decide_eq_true_eq] at h1
        subst h1
        obtain ⟨n1, n2⟩ := o.names hg
        simp only [ex]
        exact s_try o.stk o.frm n1 o.tk n2 (fun W' pn xe tk po => ok_sts b (o.tr tk po) h3) h2
      · cases h1
    · cases h
  | .tryy b c (some i) hn, X, W, g, sc, st, w, o, h => by
    unfold okST at h
    dsimp only at h
    split at h
    · rename_i b' x n t r hv
      obtain ⟨p, q, u, rfl⟩ := vTryAs_eq hv
      simp only [Bool.and_eq_true, decide_eq_true_eq] at h
      obtain ⟨h1, ⟨h4, h5⟩, h2, h3⟩ := h
      split at h1
      · rename_i c' hg
        simp only [decide_eq_true_eq] at h1
        subst h1
        obtain ⟨n1, n2⟩ := o.names hg
        simp only [ex]
        unfold okHA at h2
        split at h2
        · split at h2
          · rename_i f x2 q2 y q3 q4 q5
            simp only [Bool.and_eq_true, decide_eq_true_eq, bne_iff_ne, ne_eq] at h2
            obtain ⟨hw, h6, h7, h8, h9⟩ := h2
            split at hw
            · rename_i f' hg2
              obtain ⟨m1, m2, m3, m4⟩ := glb_eq hg2
              have ey : n = y := Option.some.inj (h4.symm.trans h6)
              subst ey
              exact s_tryAsW o.stk o.frm (by rw [o.nN]; exact o.nd) (by rw [o.nN]; exact h4) (by show X.env.scope.names.lookup n = _; rw [o.esc]; exact h5) n1 o.tk n2 (fun W' pn xe tk po => ok_sts b (o.tr tk po) h3) (o.gl.word _ _ m4) (by show X.env.scope.names.lookup _ = _; rw [o.esc]; exact m1) m2 (by simpa using h8) (by simpa using h9) (L2H.roomH_of o.rm)
            · cases hw
          · cases h2
        · exact s_tryAs o.stk o.frm (by rw [o.nN]; exact o.nd) (by rw [o.nN]; exact h4) (by show X.env.scope.names.lookup n = _; rw [o.esc]; exact h5) n1 o.tk n2 (fun W' pn xe tk po => ok_sts b (o.tr tk po) h3) h2
      · cases h1
    · cases h
  | .pass, X, W, g, sc, st, w, o, h => by
    unfold okST at h
    split at h
    · simp only [ex]; exact s_pass
    · cases h
  | .brk, X, W, g, sc, st, w, o, h => by
    unfold okST at h
    split at h
    · simp only [ex]; exact s_brk
    · cases h
  | .cont, X, W, g, sc, st, w, o, h => by
    unfold okST at h
    split at h
    · simp only [ex]; exact s_cont
    · cases h
theorem ok_sts : ∀ (css : List CS) {X : Cx} {W : WX} {g : Nat} {sc : Scope} {sts : List Stmt} {w : Nat}, Oks X Ps cl W G N g k sc fs → okSTs G N g sc css sts = true → SS1 X Ps cl W sts fun en s => exs fs w css en s
  | [], X, W, g, sc, sts, w, o, h => by
    cases sts with
    | nil => simp only [exs]; exact s_nil
    | cons s t => simp [okSTs] at h
  | x :: r, X, W, g, sc, sts, w, o, h => by
    cases sts with
    | nil => simp [okSTs] at h
    | cons s t =>
      unfold okSTs at h
      simp only [Bool.and_eq_true] at h
      simp only [exs]
      exact s_cons (ok_st x o h.1) (ok_sts r o h.2)
end
end
end L3
end

section -- I23
set_option autoImplicit false
set_option linter.all false
set_option maxRecDepth 100000
set_option maxHeartbeats 2000000
namespace L3
open PySem PySem.Spec PyProof.Rows L2 GxR

/-- a def of the text with its small form -/
structure DefE where
  d : He.DefD
  ps : List Str
  N : List Str
  g : Nat
  b : Fn
structure DefOk (G : GT) (e : DefE) : Prop where
  sc : FnScope e.N e.ps e.d.scope
  par : e.b.par = e.ps.length
  len : e.b.par + e.b.more = e.N.length
  chk : okSTs G e.N e.g e.d.scope e.b.body e.d.body = true ∨ (e.b.body = [.brk] ∧ wordB G e.N e.d.scope e.d.body = true)
  g1 : e.g ≤ 1
  bind : ∀ (kV doc pm : Value) (an : Option Addr) (cdv ct : Value) (us : List Value), us.length = e.ps.length → bindArgs (PySem.W.fnOf e.d.name e.d.qual e.d.params e.d.body e.d.scope .none kV doc pm an cdv ct) ⟨us, []⟩ = pure (e.ps.zip us)
/-- the module's names stand for what the table says -/
structure TopOk (K : Fr) (w : World) (mg : Str → Option Value) (base : Heap) (Ps : List Addr) (cl : XC) (G : GT) (defs : List DefE) : Prop where
  fn : ∀ x i m, G.lookup x = some (.fn i m) → ∃ e, defs[i]? = some e ∧ e.ps.length = m ∧ DefOk G e ∧ ∃ A fd kws, mg x = some (.ref A) ∧ FunD K e.d.name e.d.qual e.d.params e.d.body e.d.scope [] kws A fd ∧ (0 < e.g → ∃ c P, fd.code = .ref c ∧ TabB base mg c P ∧ P ∈ Ps)
  con : ∀ x d, G.lookup x = some (.con d) → ∃ v u, mg x = some u ∧ RelV v u ∧ (∀ xs, d ≠ .lv true xs) ∧ ∀ ρ n H, Rel K ρ n none H d v
  blt : ∀ x, G.lookup x = some .blt → mg x = none
  cls : ∀ x c, G.lookup x = some (.cls c) → ∃ (C : Addr) (bmB : List Value) (B newId initId : String), cl c = .ref C ∧ mg x = some (.ref C) ∧ ExcBaseFacts B newId initId bmB ∧ PySem.W.excIn K C bmB newId = true ∧ PySem.W.keepIn K (.ref C) = true ∧ ∀ X : Cx, X.K = K → Raises X (.ref C)
  dic : ∀ x kvs, G.lookup x = some (.dic kvs) → ∃ A, mg x = some (.ref A) ∧ KdK K w A kvs
  exm : ∀ x k c, k ≤ 5 → G.lookup x = some (.cls c) → PySem.W.exmOne K (cl k) (cl c) = some (subX k c)
  word : ∀ x i, G.lookup x = some (.word i) → WordF K mg cl G x
def fnsOf (defs : List DefE) : Array Fn := (defs.map (·.b)).toArray
section
variable {P : Program} {w : World} {K : Fr} {mg : Str → Option Value} {base : Heap} {Ps : List Addr} {cl : XC} {G : GT} {defs : List DefE} {wN : Nat}
theorem env_start {ρ : Rh} {n m : Nat} {H : Hp} {ds : List D} {vs : List V} {N : List Str} (r : RelL K ρ n none H ds vs) : EnvRel K ρ n H (L2.start N vs) (ds.map some ++ List.replicate m none) := fun i d q => by
  have hi : ds[i]? = some d := by
    unfold getV at q
    by_cases hl : i < ds.length
    · rw [List.getElem?_append_left (by simpa using hl), List.getElem?_map, List.getElem?_eq_getElem hl] at q
      simp only [Option.map_some, Option.some.injEq] at q
      rw [List.getElem?_eq_getElem hl, ← q]
    · rw [List.getElem?_append_right (by simpa using hl), List.getElem?_replicate] at q
      split at q
      · rename_i h
        split at h <;> cases h
      · cases q
  obtain ⟨v, h1, h2⟩ := r.get hi
  refine ⟨v, ?_, h2⟩
  unfold L2.start
  have hl : i < vs.length := (List.getElem?_eq_some_iff.mp h1).1
  rw [List.getElem?_append_left (by simpa using hl), List.getElem?_map, h1]
  rfl
theorem fnok {n i m : Nat} {e : DefE} {A : Addr} {fd : FuncData} {kws : List (Str × V)} (ih : ∀ X : Cx, X.prog = P → X.w = w → X.K = K → X.mg = mg → X.base = base → GOk X Ps cl (2 * n) (fun i => calls (fnsOf defs) wN n i) G) (h1 : defs[i]? = some e) (h2 : e.ps.length = m) (ok : DefOk G e)
    (F : FunD K e.d.name e.d.qual e.d.params e.d.body e.d.scope [] kws A fd) (hg : 0 < e.g → ∃ c P, fd.code = .ref c ∧ TabB base mg c P ∧ P ∈ Ps) : FnOk P w K mg base (L2N.CX P w) (2 * (n + 1)) A fd e.ps (spI K Ps cl m fun ds s => calls (fnsOf defs) wN (n + 1) i ds s) := by
  have hf : (fnsOf defs)[i]? = some e.b := by
    unfold fnsOf
    rw [List.getElem?_toArray, List.getElem?_map, h1]
    rfl
  obtain ⟨oc, od, dV, kV, doc, pm, an, cdv, ct, osl, rfl, lk, hcd, _, _⟩ := F.ex
  have := fn_of (CX := L2N.CX P w) (P := P) (w := w) (mg := mg) (base := base) (k := 2 * n + 1) (sp := spI K Ps cl m fun ds s => calls (fnsOf defs) wN (n + 1) i ds s) lk hcd ok.sc (fun vs H Q E q => q.1.trans h2.symm) (fun A' outer s H vs Q E hr q => ?_)
  · exact this
  · obtain ⟨hl, ρ, ds, st, g, r, p⟩ := q
    have hds : ds.length = e.b.par := by rw [r.length, hl, ok.par, h2]
    have O : Oks (cxOf (L2N.CX P w) P w K mg base e.N e.d.qual e.d.scope A cdv A' outer s H E) Ps cl (fun cls d _ H => E cls d H) G e.N e.g (2 * n) e.d.scope (fun i => calls (fnsOf defs) wN n i) := by
      refine { nN := rfl, nd := ok.sc.nd, calm := rfl, esc := rfl, room := hr.mono (by have := ok.g1; omega), tk := L2N.takes_of rfl rfl rfl rfl, gl := ih _ rfl rfl rfl rfl rfl, gen := fun h0 => ?_, fn := fun _ => rfl, kind := ok.sc.kind, po := passes_of rfl, stk := rfl, frm := rfl, rm := hr.mono (by omega) }
      obtain ⟨c, Pt, q1, q2, q3⟩ := hg h0
      exact ⟨c, Pt, q2, q1, q3⟩
    rcases ok.chk with chk | ⟨hb, _⟩
    rotate_left
    · unfold calls at p
      rw [hf] at p
      dsimp only at p
      unfold run at p
      rw [if_pos hds, hb] at p
      simp only [exs, ex] at p
      exact p.elim
    refine ⟨_, ok_sts e.b.body (w := wN) O chk, ρ, ds.map some ++ List.replicate e.b.more none, st.entry, g, env_start r, ?_⟩
    unfold calls at p
    rw [hf] at p
    dsimp only at p
    unfold run at p
    rw [if_pos hds] at p
    show PostF K Ps ρ H st.entry (exs (fun i => calls (fnsOf defs) wN n i) wN e.b.body (ds.map some ++ List.replicate e.b.more none) st.entry) _ _
    cases q : exs (fun i => calls (fnsOf defs) wN n i) wN e.b.body (ds.map some ++ List.replicate e.b.more none) st.entry with
    | nx e' s' => rw [q] at p; exact fun ρ' H' σ' x' g' er' => p ρ' H' .non x' ⟨g', .non⟩
    | rt d s' => rw [q] at p; exact p
    | ex c e' s' => rw [q] at p; exact fun ρ' H' σ' x' g' er' => p ρ' H' x' g'
    | bk e' s' => rw [q] at p; exact p.elim
    | ct e' s' => rw [q] at p; exact p.elim
    | bad => rw [q] at p; exact p.elim
theorem gok (T : TopOk K w mg base Ps cl G defs) : ∀ (n : Nat) (X : Cx), X.prog = P → X.w = w → X.K = K → X.mg = mg → X.base = base → GOk X Ps cl (2 * n) (fun i => calls (fnsOf defs) wN n i) G := by
  intro n
  induction n with
  | zero =>
    intro X e1 e2 e3 e4 e5
    subst e1 e2 e3 e4 e5
    refine ⟨fun x i m h => ?_, T.con, T.blt, fun x c h => ?_, T.dic, T.exm, T.word⟩
    · obtain ⟨e, h1, h2, ok, A, fd, kws, hm, F, _⟩ := T.fn x i m h
      refine ⟨⟨A, fd, e.ps, hm, F.kp, F.bindsN ok.bind, fun vs H Q E q => q.1.trans h2.symm, fun A' outer s H args us vs Q E hr e0 hb r q => ?_⟩, fun ds s _ => rfl⟩
      obtain ⟨_, ρ, ds, st, _, _, p⟩ := q
      exact p.elim
    · obtain ⟨C, bmB, B, n1, n2, q1, q2, q3, q4, q5, q6⟩ := T.cls x c h
      exact ⟨C, bmB, B, n1, n2, q1, q2, q3, q4, q5, q6 X rfl⟩
  | succ n ih =>
    intro X e1 e2 e3 e4 e5
    subst e1 e2 e3 e4 e5
    refine ⟨fun x i m h => ?_, T.con, T.blt, fun x c h => ?_, T.dic, T.exm, T.word⟩
    · obtain ⟨e, h1, h2, ok, A, fd, kws, hm, F, hg⟩ := T.fn x i m h
      refine ⟨⟨A, fd, e.ps, hm, F.kp, F.bindsN ok.bind, fnok ih h1 h2 ok F hg⟩, fun ds s hne => ?_⟩
      have hf : (fnsOf defs)[i]? = some e.b := by
        unfold fnsOf
        rw [List.getElem?_toArray, List.getElem?_map, h1]
        rfl
      unfold calls
      rw [hf]
      dsimp only
      unfold run
      rw [if_neg (by rw [ok.par, h2]; exact hne)]
    · obtain ⟨C, bmB, B, n1, n2, q1, q2, q3, q4, q5, q6⟩ := T.cls x c h
      exact ⟨C, bmB, B, n1, n2, q1, q2, q3, q4, q5, q6 X rfl⟩
end
end L3
end

section -- I24
set_option autoImplicit false
set_option linter.all false
set_option maxRecDepth 100000
set_option maxHeartbeats 2000000
namespace L3
open PySem PySem.Spec PyProof.Rows L2 GxR

def headS : List D → Bool
  | .str _ :: _ => true
  | .int _ :: .str _ :: _ => true
  | _ => false
theorem headS_rel {K : Fr} {xs : List D} {vs : List V} (h : headS xs = true) (r : ∀ ρ n H, RelL K ρ n none H xs vs) : HdT vs := by
  match xs, h with
  | .int i :: .str z :: t, _ =>
    have := r ⟨fun _ => 0, []⟩ 0 fun _ => none
    cases this with
    | cons r1 r2 =>
      cases r1
      cases r2 with
      | cons r3 _ => cases r3; trivial
  | .str z :: t, _ =>
    have := r ⟨fun _ => 0, []⟩ 0 fun _ => none
    cases this with
    | cons r1 r2 => cases r1; trivial
mutual
/-- a written constant's object -/
def relDB (K : Fr) : D → Value → Bool
  | .non, .none => true
  | .bl a, .bool b => a == b
  | .int a, .int b _ => decide (a = b)
  | .str a, .str b _ => b.cps.toList == a
  | .tup xs, .ref a => match K.lookup a with
    | some ⟨.type c, _, .seq its _, _⟩ => decide (c = "tuple") && (decide (its.size ≤ sizeLine) && (headS xs && relDBs K xs its.toList))
    | _ => false
  | _, _ => false
def relDBs (K : Fr) : List D → List Value → Bool
  | [], [] => true
  | x :: xs, u :: us => relDB K x u && relDBs K xs us
  | _, _ => false
end
mutual
theorem relDB_ok {K : Fr} : ∀ (d : D) (u : Value), relDB K d u = true → ∃ v, RelV v u ∧ (∀ xs, d ≠ .lv true xs) ∧ ∀ ρ n H, Rel K ρ n none H d v
  | .non, u, h => by
    cases u <;> simp [relDB] at h
    exact ⟨.non, rfl, by simp, fun _ _ _ => .non⟩
  | .bl a, u, h => by
    cases u <;> simp [relDB] at h
    subst h
    exact ⟨.bl _, rfl, by simp, fun _ _ _ => .bl _⟩
  | .int a, u, h => by
    cases u <;> simp [relDB] at h
    subst h
    exact ⟨.int _, ⟨_, rfl⟩, by simp, fun _ _ _ => .int _⟩
  | .str a, u, h => by
    cases u <;> simp [relDB] at h
    subst h
    refine ⟨.str _, ⟨_, rfl⟩, by simp, fun ρ n H => ?_⟩
    have := Rel.str (K := K) (ρ := ρ) (n := n) (x := none) (H := H) (‹Str›.cps.toList)
    rw [toS_toList] at this
    exact this
  | .tup xs, u, h => by
    cases u with
    | ref a =>
      unfold relDB at h
      split at h
      · rename_i q
        simp only [Bool.and_eq_true, decide_eq_true_eq] at h
        obtain ⟨rfl, h2, h4, h3⟩ := h
        obtain ⟨vs, r1, r2⟩ := relDBs_ok xs _ h3
        exact ⟨.ref a, rfl, by simp, fun ρ n H => .tup (.inr ⟨⟨_, _, _, q, rfl, rfl, h2, r1⟩, headS_rel h4 r2⟩) (r2 ρ n H)⟩
      · cases h
    | _ => simp [relDB] at h
  | .lv o xs, u, h => by cases u <;> simp [relDB] at h
  | .ref n, u, h => by cases u <;> simp [relDB] at h
  | .scr n, u, h => by cases u <;> simp [relDB] at h
theorem relDBs_ok {K : Fr} : ∀ (ds : List D) (us : List Value), relDBs K ds us = true → ∃ vs, Vals vs us ∧ ∀ ρ n H, RelL K ρ n none H ds vs
  | [], us, h => by
    cases us with
    | nil => exact ⟨[], .nil, fun _ _ _ => .nil⟩
    | cons u us => simp [relDBs] at h
  | d :: ds, us, h => by
    cases us with
    | nil => simp [relDBs] at h
    | cons u us =>
      simp only [relDBs, Bool.and_eq_true] at h
      obtain ⟨v, r1, _, r2⟩ := relDB_ok d u h.1
      obtain ⟨vs, r3, r4⟩ := relDBs_ok ds us h.2
      exact ⟨v :: vs, .cons r1 r3, fun ρ n H => .cons (r2 ρ n H) (r4 ρ n H)⟩
end

def clN (G : GT) (c : Nat) : Str := match G.find? (fun p => match p.2 with | .cls c' => c' == c | _ => false) with
  | some p => p.1
  | none => match G.find? (fun p => match p.2 with | .cls c' => c' == 0 | _ => false) with
    | some p => p.1
    | none => ""
def clv (K : Fr) (G : GT) : XC := fun c => .ref (He.ga K (clN G c))
def exmB (K : Fr) (G : GT) (c : Nat) : Bool := (List.range 6).all fun k => decide (PySem.W.exmOne K (clv K G k) (clv K G c) = some (subX k c))
/-- a table's entries are these -/
def dicBs (K : Fr) : List DictEntry → List (List Nat × D) → Bool
  | [], [] => true
  | e :: es, (k, d) :: r => ((match e.key with | .str x _ => x.cps.toList == k | _ => false) && relDB K d e.val) && dicBs K es r
  | _, _ => false
def dicB (K : Fr) (a : Addr) (kvs : List (List Nat × D)) : Bool := match K.lookup a with
  | some ⟨_, _, .dict es _, _⟩ => dicBs K es.toList kvs
  | _ => false
theorem dicBs_ok {K : Fr} : ∀ {es : List DictEntry} {kvs : List (List Nat × D)}, dicBs K es kvs = true → es.any (·.refKey) = false ∧ ∀ z : List Nat, match kvs.lookup z with
    | none => es.find? (·.key.isStr (toS z)) = none
    | some d => ∃ e, es.find? (·.key.isStr (toS z)) = some e ∧ relDB K d e.val = true
  | [], [], _ => ⟨rfl, fun z => rfl⟩
  | e :: es, (k, d) :: r, h => by
    simp only [dicBs, Bool.and_eq_true] at h
    obtain ⟨⟨h1, h2⟩, h3⟩ := h
    obtain ⟨i1, i2⟩ := dicBs_ok h3
    split at h1
    · rename_i x t q
      simp only [beq_iff_eq] at h1
      subst h1
      refine ⟨?_, fun z => ?_⟩
      · rw [List.any_cons, i1]
        simp [DictEntry.refKey, q]
      · have i3 := i2 z
        rw [List.lookup_cons, List.find?_cons]
        have hs : e.key.isStr (toS z) = (z == x.cps.toList) := by
          rw [q]
          show (x == toS z) = _
          rw [Bool.eq_iff_iff]
          simp only [beq_iff_eq]
          constructor
          · intro e; subst e; simp [toS]
          · intro e; rw [e, toS_toList]
        rw [hs]
        cases hz : z == x.cps.toList with
        | true => exact ⟨e, rfl, h2⟩
        | false => exact i3
    · cases h1
  | [], _ :: _, h => by simp [dicBs] at h
  | _ :: _, [], h => by simp [dicBs] at h
theorem kdK_of {K : Fr} {w : World} {a : Addr} {kvs : List (List Nat × D)} {ks : List Str} (h : He.dicW K a = some (He.keysIn w.params ks)) (hb : dicB K a kvs = true) : KdK K w a kvs := by
  obtain ⟨es, n, D⟩ := He.dicW_ok h
  refine ⟨es, n, D, fun z => ?_⟩
  unfold dicB at hb
  rw [D.at_] at hb
  obtain ⟨h1, h2⟩ := dicBs_ok hb
  have h3 := h2 z
  unfold PySem.W.nsIn
  rw [D.at_]
  dsimp only
  cases q : kvs.lookup z with
  | none =>
    rw [q] at h3
    rw [h3, h1]
    exact ⟨none, rfl, rfl⟩
  | some d =>
    rw [q] at h3
    obtain ⟨e, h4, h5⟩ := h3
    rw [h4]
    obtain ⟨v, r1, r2, r3⟩ := relDB_ok d _ h5
    exact ⟨some e.val, rfl, e.val, v, rfl, r1, r2, r3⟩
def dicsOf (G : GT) : List (Str × List (List Nat × D)) := G.filterMap fun p => match p.2 with | .dic kvs => some (p.1, kvs) | _ => none
/-- the exceptions' classes -/
def exB (K : Fr) : Value → Bool
  | .ref C => (decide (PySem.W.findIn K (.ref C) "__getattribute__" = some (some (.builtin "BaseException.__getattribute__"))) && decide (PySem.W.findIn K (.ref C) "__getattr__" = some none)) &&
    ((decide (PySem.W.subIn K (.ref C) (.type "BaseException") = some true) && PySem.W.hasDictIn K C) && ((decide (PySem.W.findIn K (.ref C) "__class__" = some (some (.builtin "object.__class__"))) && decide (PySem.W.specialIn K (.builtin "object.__class__") "__get__" = some (some (.builtin "getset_descriptor.__get__")))) &&
      (decide (PySem.W.takesIn K (.builtin "object.__class__") = some true) && decide (PySem.W.mroIn K C (.type "object") = some true))))
  | _ => false
def wkB (K : Fr) (G : GT) : Bool := (List.range 6).all fun k => exB K (clv K G k) && (List.range 5).all fun c => decide (PySem.W.kitOne K (clv K G k) (clv K G (c + 1)) = some (k == c + 1))
theorem wkB_ok {K : Fr} {G : GT} (h : wkB K G = true) : WordK K (clv K G) := by
  unfold wkB at h
  simp only [List.all_eq_true, Bool.and_eq_true, List.mem_range, decide_eq_true_eq] at h
  refine ⟨fun k hk => ⟨He.ga K (clN G k), rfl, ?_⟩, fun k c hk h1 h5 => ?_⟩
  · have := (h k (by omega)).1
    unfold clv exB at this
    simp only [Bool.and_eq_true, decide_eq_true_eq] at this
    obtain ⟨⟨a1, a2⟩, ⟨a3, a4⟩, ⟨a5, a6⟩, a7, a8⟩ := this
    exact ⟨a1, a2, a3, a4, a5, a6, a7, a8⟩
  · have := (h k (by omega)).2 (c - 1) (by omega)
    rw [show c - 1 + 1 = c by omega] at this
    exact this
def geB (K : Fr) (G : GT) (defs : List DefE) (p : Str × GE) : Bool := match p.2 with
  | .fn i m => (He.Fa.glo p.1).ok K && (match defs[i]? with
    | some e => decide (e.d.at_ = (p.1, none)) && (decide (e.ps.length = m) && (e.d.dfl.isEmpty && e.d.kwd.isEmpty))
    | none => false)
  | .con d => match PySem.W.nsIn K mainGlobals p.1 with
    | some (some u) => relDB K d u
    | _ => false
  | .blt => (He.Fa.free p.1).ok K
  | .dic kvs => (He.Fa.glo p.1).ok K && dicB K (He.ga K p.1) kvs
  | .word i => (He.Fa.glo p.1).ok K && ((match defs[i]? with
    | some e => decide (e.d.at_ = (p.1, none)) && ((decide (e.ps.length = 1) && decide (e.N.length = 3)) && ((e.d.dfl.isEmpty && e.d.kwd.isEmpty) && wordB G e.N e.d.scope e.d.body))
    | none => false) && wkB K G)
  | .cls c => ((He.Fa.glo p.1).ok K && decide (clN G c = p.1)) && ((He.Fa.exc p.1).ok K && exmB K G c)
/-- the code object of a def, its table -/
def tabOf (K : Fr) (x : Str × Option Str) : Option (Addr × Addr) := match K.lookup (He.fAd K x) with
  | some ⟨_, _, .func fd, _⟩ => (match fd.code with
    | .ref c => (match K.lookup c with
      | some ⟨_, _, .fields vs, _⟩ => (match (vs[11]? : Option Value) with
        | some (.ref P) => some (c, P)
        | _ => none)
      | _ => none)
    | _ => none)
  | _ => none
def tabsOf (K : Fr) (defs : List DefE) : List (Addr × Addr) := defs.filterMap fun e => if 0 < e.g then tabOf K e.d.at_ else none
def codeB (K : Fr) (p : Addr × Addr) : Bool := match K.lookup p.1 with
  | some ⟨.type c, _, .fields vs, _⟩ => (decide (c = "code") && decide (vs[11]? = some (.ref p.2))) && ((match vs.getD 18 .none with | .str _ _ => true | _ => false) && ((match vs.getD 7 .none with | .int _ _ => true | _ => false) && ((match vs.getD 9 .none with | .bool _ => true | _ => false) && ((match vs.getD 10 .none with | .int _ _ => true | _ => false) && decide (p.1 ≠ p.2)))))
  | _ => false
def tblB : Option Obj → Bool
  | some ⟨.none, none, .fields vs, sl⟩ => vs.isEmpty && sl.isEmpty
  | _ => false
def chkM (G : GT) (defs : List DefE) (K T : Fr) : Bool := ((G.all (geB K G defs) && defs.all fun e => e.d.ok K) && (defs.all fun e => decide (e.g = 0) || (tabOf K e.d.at_).isSome)) &&
  ((tabsOf K defs).all fun p => (K.lookup p.2).isNone && (codeB K p && tblB (T.lookup p.2)))
abbrev AlM : Type := Bool × (List He.FnW × List (Option (List (Option (Str × Int)))))
def isRec : Option Obj → Bool
  | some ⟨.none, _, .fields _, _⟩ => true
  | _ => false
def frK (n : Nat) (g : Addr → Option Obj) : Fr := He.frG g ((He.asD g n).filter fun a => !isRec (g a))
def obsM (G : GT) (defs : List DefE) (K T : Fr) : AlM := (chkM G defs K T, (defs.map fun e => He.fnW K e.d.at_, (dicsOf G).map fun p => He.dicW K (He.ga K p.1)))
def valM (G : GT) (defs : List DefE) (w : World) : AlM := (true, (defs.map fun e => e.d.val, (dicsOf G).map fun p => some (He.keysIn w.params (p.2.map fun q => toS q.1))))
def obsMG (n : Nat) (G : GT) (defs : List DefE) (g : Addr → Option Obj) : AlM := obsM G defs (frK n g) (He.frG g ((tabsOf (frK n g) defs).map (·.2)))
def hookM (n : Nat) (G : GT) (defs : List DefE) : PySem.W.Hook where
  α := AlM
  obs := fun s => obsMG n G defs s.heap.get?
  val := valM G defs
  says := fun w h => ∃ K T : Fr, K.In h ∧ T.In h ∧ obsM G defs K T = valM G defs w
  of := fun _ _ e => ⟨_, _, He.frG_in, He.frG_in, e⟩
  keeps := fun _ _ _ ⟨K, T, hK, hT, c⟩ k => ⟨K, T, PySem.W.Frag.In.keeps hK k, PySem.W.Frag.In.keeps hT k, c⟩
theorem obsMG_eq {n : Nat} {G : GT} {defs : List DefE} {g : Addr → Option Obj} {s : Shared} (h : ∀ a, g a = s.heap.get? a) : obsMG n G defs g = (hookM n G defs).obs s := by
  have e : g = s.heap.get? := funext h
  rw [e] <;> rfl
section
variable {w : World} {G : GT} {defs : List DefE} {K T : Fr} {h : Heap} {mg : Str → Option Value}
theorem sayM_def (c : obsM G defs K T = valM G defs w) {i : Nat} {e : DefE} (hi : defs[i]? = some e) : ∃ fd, FunD K e.d.name e.d.qual e.d.params e.d.body e.d.scope (e.d.dvs K) (e.d.kws K) (He.fAd K e.d.at_) fd := by
  have c1 : chkM G defs K T = true := congrArg (fun z : AlM => z.1) c
  have c2 : (defs.map fun e => He.fnW K e.d.at_) = defs.map fun e => e.d.val := congrArg (fun z : AlM => z.2.1) c
  have e2 : (defs.map fun e => He.fnW K e.d.at_)[i]? = (defs.map fun e => e.d.val)[i]? := by rw [c2]
  rw [List.getElem?_map, List.getElem?_map, hi] at e2
  unfold chkM at c1
  simp only [Bool.and_eq_true, List.all_eq_true] at c1
  exact He.DefD.funD (Option.some.inj e2) (c1.1.1.2 e (List.mem_of_getElem? hi))
theorem lookup_mem {x : Str} {ge : GE} : ∀ {G : GT}, G.lookup x = some ge → (x, ge) ∈ G := fun h => PySem.mem_of_lookup h
theorem tab_code (c : obsM G defs K T = valM G defs w) (X : K.In h) {p : Addr × Addr} (hp : p ∈ tabsOf K defs) : PySem.W.CodeHd h p.1 p.2 := by
  have c1 : chkM G defs K T = true := congrArg (fun z : AlM => z.1) c
  unfold chkM at c1
  simp only [Bool.and_eq_true, List.all_eq_true] at c1
  have q := (c1.2 p hp).2.1
  unfold codeB at q
  split at q
  · rename_i c' dd vs sl hl
    simp only [Bool.and_eq_true, decide_eq_true_eq] at q
    obtain ⟨⟨rfl, h11⟩, h18, h7, h9, h10, hne⟩ := q
    have a18 : ∃ f t, vs.getD 18 .none = .str f t := by
      split at h18
      · exact ⟨_, _, ‹_›⟩
      · cases h18
    have a7 : ∃ f t, vs.getD 7 .none = .int f t := by
      split at h7
      · exact ⟨_, _, ‹_›⟩
      · cases h7
    have a9 : ∃ f, vs.getD 9 .none = .bool f := by
      split at h9
      · exact ⟨_, ‹_›⟩
      · cases h9
    have a10 : ∃ f t, vs.getD 10 .none = .int f t := by
      split at h10
      · exact ⟨_, _, ‹_›⟩
      · cases h10
    obtain ⟨f18, t18, e18⟩ := a18
    obtain ⟨f7, t7, e7⟩ := a7
    obtain ⟨f9, e9⟩ := a9
    obtain ⟨f10, t10, e10⟩ := a10
    refine ⟨_, vs, f18, t18, f7, t7, f9, f10, t10, X _ _ hl, rfl, rfl, h11, ?_, e18, e7, e9, e10, hne⟩
    rw [Array.getD_eq_getD_getElem?, h11]
    rfl
  · cases q
theorem tab_at (c : obsM G defs K T = valM G defs w) (X : T.In h) {p : Addr × Addr} (hp : p ∈ tabsOf K defs) : h.get? p.2 = some { cls := .none, data := .fields #[] } ∧ K.lookup p.2 = none := by
  have c1 : chkM G defs K T = true := congrArg (fun z : AlM => z.1) c
  unfold chkM at c1
  simp only [Bool.and_eq_true, List.all_eq_true] at c1
  have q := (c1.2 p hp)
  refine ⟨?_, by simpa using q.1⟩
  have q2 := q.2.2
  unfold tblB at q2
  split at q2
  · rename_i vs sl hl
    simp only [Bool.and_eq_true, Array.isEmpty_iff] at q2
    obtain ⟨rfl, rfl⟩ := q2
    exact X _ _ hl
  · cases q2
theorem topOk (c : obsM G defs K T = valM G defs w) (X : K.In h) (Gn : h.Ns mainGlobals mg) (hd : ∀ e ∈ defs, DefOk G e) {base : Heap} (TB : ∀ p ∈ tabsOf K defs, TabB base mg p.1 p.2) :
    TopOk K w mg base ((tabsOf K defs).map (·.2)) (clv K G) G defs := by
  have c1 : chkM G defs K T = true := congrArg (fun z : AlM => z.1) c
  have c0 := c1
  unfold chkM at c1
  simp only [Bool.and_eq_true, List.all_eq_true] at c1
  have ge : ∀ x g, G.lookup x = some g → geB K G defs (x, g) = true := fun x g hl => c1.1.1.1 (x, g) (lookup_mem hl)
  refine ⟨fun x i m hl => ?_, fun x d hl => ?_, fun x hl => ?_, fun x k hl => ?_, fun x kvs hl => ?_, fun x k k' hk hl => ?_, fun x i hl => ?_⟩
  · have q := ge x _ hl
    unfold geB at q
    simp only [Bool.and_eq_true] at q
    obtain ⟨q1, q2⟩ := q
    split at q2
    · rename_i e he
      simp only [Bool.and_eq_true, decide_eq_true_eq, List.isEmpty_iff] at q2
      obtain ⟨q2, q3, q4, q5⟩ := q2
      obtain ⟨fd, F⟩ := sayM_def c he
      have hv : e.d.dvs K = [] := by unfold He.DefD.dvs; rw [q4]; rfl
      rw [hv] at F
      have ha : He.fAd K e.d.at_ = He.ga K x := by rw [q2]; rfl
      have F0 := F
      rw [ha] at F
      refine ⟨e, he, q3, hd e (List.mem_of_getElem? he), _, fd, _, He.glo_ok X Gn q1, F, fun hg => ?_⟩
      have hs := c1.1.2 e (List.mem_of_getElem? he)
      simp only [Bool.or_eq_true, decide_eq_true_eq] at hs
      rcases hs with hs | hs
      · omega
      · obtain ⟨⟨cc, P⟩, ht⟩ := Option.isSome_iff_exists.mp hs
        have hm : (cc, P) ∈ tabsOf K defs := List.mem_filterMap.mpr ⟨e, List.mem_of_getElem? he, by rw [if_pos hg]; exact ht⟩
        refine ⟨cc, P, ?_, TB _ hm, List.mem_map.mpr ⟨_, hm, rfl⟩⟩
        obtain ⟨oc, od, dV, kV, doc, pm, an, cdv, ct, osl, rfl, lk, _, _, _⟩ := F0.ex
        unfold tabOf at ht
        rw [lk] at ht
        dsimp only at ht
        split at ht
        · rename_i c2 hc2
          split at ht
          · split at ht
            · cases ht; rfl
            · cases ht
          · cases ht
        · cases ht
    · cases q2
  · have q := ge x _ hl
    unfold geB at q
    dsimp only at q
    split at q
    · rename_i u hu
      obtain ⟨v, r1, r2, r3⟩ := relDB_ok d u q
      exact ⟨v, u, PySem.W.mg_of X Gn hu, r1, r2, r3⟩
    · cases q
  · exact He.free_ok X Gn (ge x _ hl)
  · have q := ge x _ hl
    unfold geB at q
    simp only [Bool.and_eq_true, decide_eq_true_eq] at q
    obtain ⟨⟨q1, q2⟩, q3, q4⟩ := q
    obtain ⟨e1, e2, e3, e4⟩ := He.exc_ok q3
    refine ⟨He.ga K x, He.veBase, "ValueError", "ValueError.__new__", _, by unfold clv; rw [q2], He.glo_ok X Gn q1, PySem.F.excBase_ValueError, e1, e2, fun X' hX => raises_own (by rw [hX]; exact e3) (by rw [hX]; exact e4)⟩
  · have q := ge x _ hl
    unfold geB at q
    simp only [Bool.and_eq_true] at q
    have c3 : ((dicsOf G).map fun p => He.dicW K (He.ga K p.1)) = (dicsOf G).map fun p => some (He.keysIn w.params (p.2.map fun q => toS q.1)) := congrArg (fun z : AlM => z.2.2) c
    have hm : (x, kvs) ∈ dicsOf G := List.mem_filterMap.mpr ⟨(x, .dic kvs), lookup_mem hl, rfl⟩
    have c4 : He.dicW K (He.ga K x) = some (He.keysIn w.params (kvs.map fun q => toS q.1)) := List.map_inj_left.mp c3 _ hm
    exact ⟨_, He.glo_ok X Gn q.1, kdK_of c4 q.2⟩
  · have q := ge x _ hl
    unfold geB at q
    simp only [Bool.and_eq_true, decide_eq_true_eq] at q
    obtain ⟨_, _, q4⟩ := q
    unfold exmB at q4
    rw [List.all_eq_true] at q4
    simpa using q4 k (List.mem_range.mpr (by omega))
  · have q := ge x _ hl
    unfold geB at q
    simp only [Bool.and_eq_true] at q
    obtain ⟨q1, q2, q3⟩ := q
    split at q2
    · rename_i e he
      simp only [Bool.and_eq_true, decide_eq_true_eq, List.isEmpty_iff] at q2
      obtain ⟨q2, ⟨q4, q5⟩, ⟨q6, q7⟩, q8⟩ := q2
      obtain ⟨fd, F⟩ := sayM_def c he
      have hv : e.d.dvs K = [] := by unfold He.DefD.dvs; rw [q6]; rfl
      rw [hv] at F
      have ha : He.fAd K e.d.at_ = He.ga K x := by rw [q2]; rfl
      rw [ha] at F
      have ok := hd e (List.mem_of_getElem? he)
      refine ⟨⟨_, fd, e.ps, e.N, _, _, _, _, _, _, He.glo_ok X Gn q1, F.kp, F.bindsN ok.bind, F, ok.sc, q4, q5, q8⟩, wkB_ok q3, fun y hy => He.free_ok X Gn (ge y _ hy), fun y k hy => ?_⟩
      have q := ge y _ hy
      unfold geB at q
      simp only [Bool.and_eq_true, decide_eq_true_eq] at q
      obtain ⟨⟨q1, q2⟩, _⟩ := q
      unfold clv
      rw [q2]
      exact He.glo_ok X Gn q1
    · cases q2
end
end L3
end

section -- I25
set_option autoImplicit false
set_option linter.all false
set_option maxRecDepth 100000
set_option maxHeartbeats 2000000
namespace L3
open PySem PySem.Spec PyProof.Rows L2 GxR

/-- the script, as data -/
def IsScr (d : D) (ns : List Int) : Prop := d = .scr ns ∨ d = .lv false (ns.map .int)
/-- the law holds, in the small syntax -/
def Plain (defs : List DefE) (wN n i : Nat) : Prop := ∀ ns : List Int, ns.length ≤ 63 → (∀ z ∈ ns, Builtin.Int.intBits z ≤ 1048576) → ∀ d, IsScr d ns → ∃ s', calls (fnsOf defs) wN (n + 1) i [d] ⟨[], 0, none⟩ = .ok (.bl true) s'
theorem fn_fact {w : World} {G : GT} {defs : List DefE} {K T : Fr} {h : Heap} {mg : Str → Option Value} (c : obsM G defs K T = valM G defs w) (X : K.In h) (Gn : h.Ns mainGlobals mg) {x : Str} {i m : Nat} (hl : G.lookup x = some (.fn i m)) :
    ∃ e fd kws, defs[i]? = some e ∧ e.ps.length = m ∧ mg x = some (.ref (He.ga K x)) ∧ FunD K e.d.name e.d.qual e.d.params e.d.body e.d.scope [] kws (He.ga K x) fd := by
  have c1 : chkM G defs K T = true := congrArg (fun z : AlM => z.1) c
  unfold chkM at c1
  simp only [Bool.and_eq_true, List.all_eq_true] at c1
  have q : geB K G defs (x, .fn i m) = true := c1.1.1.1 _ (lookup_mem hl)
  unfold geB at q
  simp only [Bool.and_eq_true] at q
  obtain ⟨q1, q2⟩ := q
  split at q2
  · rename_i e he
    simp only [Bool.and_eq_true, decide_eq_true_eq, List.isEmpty_iff] at q2
    obtain ⟨q2, q3, q4, q5⟩ := q2
    obtain ⟨fd, F⟩ := sayM_def c he
    have hv : e.d.dvs K = [] := by unfold He.DefD.dvs; rw [q4]; rfl
    rw [hv] at F
    have ha : He.fAd K e.d.at_ = He.ga K x := by rw [q2]; rfl
    rw [ha] at F
    exact ⟨e, fd, _, he, q3, He.glo_ok X Gn q1, F⟩
  · cases q2
theorem law_at {l : PySem.W.OpenLaw} {w : World} {G : GT} {defs : List DefE} {wN n i : Nat} {h : Heap} {mg : Str → Option Value} {fa : Addr} (hg : G.lookup ("law" : Str) = some (GE.fn i 1)) (hps : ∀ e, defs[i]? = some e → e.ps = [("script" : Str)]) (hd : ∀ e ∈ defs, DefOk G e)
    (pl : Plain defs wN n i) (Y : ∃ K T : Fr, K.In h ∧ T.In h ∧ obsM G defs K T = valM G defs w) (Gn : h.Ns mainGlobals mg) (hfa : mg ("law" : Str) = some (.ref fa)) :
    ∃ K : Fr, K.In h ∧ LamX.LawAtS l w K (L2N.CX l.prog w) (2 * (n + 1)) 63 "script" mg fa h := by
  obtain ⟨K, T, hK, hT, c⟩ := Y
  refine ⟨K, hK, ?_⟩
  obtain ⟨e, fd, kws, he, hm, hA, F⟩ := fn_fact c hK Gn hg
  have : fa = He.ga K "law" := by rw [hfa] at hA; cases hA; rfl
  subst this
  have ok := hd e (List.mem_of_getElem? he)
  have ep := hps e he
  refine ⟨fd, tabsOf K defs, spI K ((tabsOf K defs).map (·.2)) (clv K G) 1 (fun ds s => calls (fnsOf defs) wN (n + 1) i ds s), fun p hp => (tab_at c hT hp).1, fun p hp => (tab_at c hT hp).2, fun p hp => tab_code c hK hp, fun s v => ?_, fun H a ns hl hb hH hS => ?_, fun base hKb hGb TB => ?_⟩
  · have b := FunD.bindsA F ok.bind s [v] (by rw [ep]; rfl)
    rw [ep] at b
    exact b
  · refine ⟨rfl, ?_⟩
    have gd : Good K ((tabsOf K defs).map (·.2)) ⟨fun _ => 0, []⟩ none H ⟨[], 0, none⟩ := by
      refine ⟨fun i j hi => absurd hi (by simp [S.n]), fun i o e => by simp at e, fun i o hi e => by simp at e, Nat.le_refl _, fun P hP => ?_, fun a ha => by cases ha⟩
      obtain ⟨p, hp, rfl⟩ := List.mem_map.mp hP
      exact ⟨#[], hH p hp, trivial⟩
    have key : ∀ d, IsScr d ns → Rel K ⟨fun _ => 0, []⟩ 0 none H d (.ref a) → ∃ (ρ : Rh) (ds : List D) (s : S), Good K ((tabsOf K defs).map (·.2)) ρ none H s.entry ∧ RelL K ρ s.n none H ds [V.ref a] ∧
        Post K ((tabsOf K defs).map (·.2)) ρ H s.entry (calls (fnsOf defs) wN (n + 1) i ds s.entry) (fun v _ => v = .bl true) fun c H' => False := fun d hd r => by
      refine ⟨⟨fun _ => 0, []⟩, [d], ⟨[], 0, none⟩, gd, .cons r .nil, ?_⟩
      obtain ⟨s', q⟩ := pl ns hl hb d hd
      show Post K _ _ H _ (calls (fnsOf defs) wN (n + 1) i [d] ⟨[], 0, none⟩) _ _
      rw [q]
      intro ρ' H' v x o
      obtain ⟨_, r⟩ := o
      cases r
      rfl
    rcases hS with (hS | ⟨o, hS⟩) | hS
    · exact key _ (.inr rfl) (.lv hS (fun i hi => absurd hi (Nat.not_lt_zero _)) (by simp) (by simp) (relL_intv (s := ⟨[], 0, none⟩) ns))
    · exact key _ (.inl rfl) (.scr (.inl ⟨o, hS⟩))
    · exact key _ (.inl rfl) (.scr (.inr hS))
  · have TB' : ∀ p ∈ tabsOf K defs, TabB base mg p.1 p.2 := fun p hp => ⟨(TB p hp).code, (TB p hp).bm, (TB p hp).gP⟩
    have top := topOk (mg := mg) c hK Gn hd TB'
    have := fnok (P := l.prog) (w := w) (wN := wN) (gok (P := l.prog) (w := w) (wN := wN) top n) he hm ok F (fun h0 => by
      obtain ⟨e', he', _, _, A, fd', kws', hA', F', hg'⟩ := top.fn _ _ _ hg
      rw [he] at he'
      cases he'
      rw [hA] at hA'
      cases hA'
      obtain ⟨oc, od, dV, kV, doc, pm, an, cdv, ct, osl, e1, lk, _⟩ := F.ex
      obtain ⟨oc', od', dV', kV', doc', pm', an', cdv', ct', osl', e2, lk', _⟩ := F'.ex
      rw [lk] at lk'
      cases lk'
      exact hg' h0)
    rw [ep] at this
    exact this
end L3
end

section -- P0
set_option autoImplicit false
namespace L3
section
variable {C : Nat → List D → S → R D} {w : Nat} {e : Env} {s : S}
@[simp] theorem ev_var (i : Nat) : ev C (.var i) e s = R.opt (getV e i) s := by simp only [ev]
@[simp] theorem ev_con (d : D) : ev C (.con d) e s = .ok d s := by simp only [ev]
@[simp] theorem ev_glob (d : D) : ev C (.glob d) e s = .ok d s := by simp only [ev]
@[simp] theorem ev_bin (o : Op2) (a b : CE) : ev C (.bin o a b) e s = (ev C a e s).bind fun x s => (ev C b e s).bind fun y s => R.opt (bin2 o (x.rd s) (y.rd s)) s := by simp only [ev]
@[simp] theorem ev_neg (a : CE) : ev C (.neg a) e s = (ev C a e s).bind fun x s => R.opt (x.toInt.map fun i => .int (-i)) s := by simp only [ev]
@[simp] theorem ev_not (a : CE) : ev C (.not a) e s = (ev C a e s).bind fun x s => R.opt (x.bool.map fun b => .bl (!b)) s := by simp only [ev]
@[simp] theorem ev_and (a b : CE) : ev C (.and a b) e s = (ev C a e s).bind fun x s => (R.opt x.bool s).bind fun t s => if t then ev C b e s else .ok (.bl false) s := by simp only [ev]
@[simp] theorem ev_or (a b : CE) : ev C (.or a b) e s = (ev C a e s).bind fun x s => (R.opt x.bool s).bind fun t s => if t then .ok (.bl true) s else ev C b e s := by simp only [ev]
@[simp] theorem ev_cmp (o : Cmp) (a b : CE) : ev C (.cmp o a b) e s = (ev C a e s).bind fun x s => (ev C b e s).bind fun y s => R.opt ((cmp2 o (x.rd s) (y.rd s)).map .bl) s := by simp only [ev]
@[simp] theorem ev_chain (o1 o2 : Cmp) (a b c : CE) : ev C (.chain o1 o2 a b c) e s = (ev C a e s).bind fun x s => (ev C b e s).bind fun y s => (R.opt (cmp2 o1 (x.rd s) (y.rd s)) s).bind fun t s =>
      if t then (ev C c e s).bind fun z s => R.opt ((cmp2 o2 (y.rd s) (z.rd s)).map .bl) s else .ok (.bl false) s := by simp only [ev]
@[simp] theorem ev_ite (c a b : CE) : ev C (.ite c a b) e s = (ev C c e s).bind fun x s => (R.opt x.bool s).bind fun t s => if t then ev C a e s else ev C b e s := by simp only [ev]
@[simp] theorem ev_tup (xs : List CE) : ev C (.tup xs) e s = (evs C xs e s).bind fun ds s => R.chk (decide (ds.length ≤ big)) (.ok (.tup ds) s) := by simp only [ev]
@[simp] theorem ev_lst (xs : List CE) : ev C (.lst xs) e s = (evs C xs e s).bind fun ds s => R.chk (decide (ds.length ≤ big)) (.ok (.lv true ds) s) := by simp only [ev]
@[simp] theorem ev_idx (a i : CE) : ev C (.idx a i) e s = (ev C a e s).bind fun x s => (ev C i e s).bind fun y s => R.opt (idx2 (x.rd s) y) s := by simp only [ev]
@[simp] theorem ev_slc (a : CE) (lo hi : Option CE) : ev C (.slc a lo hi) e s = (ev C a e s).bind fun x s => (evo C lo e s).bind fun l s => (evo C hi e s).bind fun h s => R.opt (slc2 l h (x.rd s)) s := by simp only [ev]
@[simp] theorem ev_isa (a : CE) (t : Ty) : ev C (.isa a t) e s = (ev C a e s).bind fun x s => R.opt ((isTy t (x.rd s)).map .bl) s := by simp only [ev]
@[simp] theorem ev_call (f : Nat) (xs : List CE) : ev C (.call f xs) e s = (evs C xs e s).bind fun ds s => callR (C f) ds s := by simp only [ev]
@[simp] theorem ev_bi (b : BI) (xs : List CE) : ev C (.bi b xs) e s = (evs C xs e s).bind fun ds s => R.opt (bi b (ds.map (·.rd s))) s := by simp only [ev]
@[simp] theorem ev_bm (m : BM) (o : CE) (xs : List CE) : ev C (.bm m o xs) e s = (ev C o e s).bind fun x s => (R.opt (strOf x) s).bind fun z s => (evs C xs e s).bind fun ds s => R.opt (bm m (.str z) (ds.map (·.rd s))) s := by simp only [ev]
@[simp] theorem ev_mm (m : MM) (o : CE) (xs : List CE) : ev C (.mm m o xs) e s = (ev C o e s).bind fun x s => (R.opt (cellOf x s) s).bind fun n s => (evs C xs e s).bind fun ds s => mmS m n ds s := by simp only [ev]
/-- one turn of a comprehension -/
def lcT (C : Nat → List D → S → R D) (elt : CE) (t : Tg) (ifs : List CE) (own : List Nat) (e : Env) (x : D) (s : S) : R (Option D) := match asg t x (wipe e own) with
  | none => .bad
  | some e1 => ((tests C ifs e1 s).bind fun b s => if b then (ev C elt e1 s).bind fun d s => .ok (some d) s else .ok none s).nox
def geT (C : Nat → List D → S → R D) (elt : CE) (t : Tg) (ifs : List CE) (own : List Nat) (e : Env) (x : D) (s : S) : R (Option Bool) := match asg t x (wipe e own) with
  | none => .bad
  | some e1 => ((tests C ifs e1 s).bind fun b s => if b then (ev C elt e1 s).bind fun d s => (R.opt d.bool s).bind fun b s => .ok (some b) s else .ok none s).nox
@[simp] theorem ev_lc (elt : CE) (t : Tg) (src : Src) (ifs : List CE) (own : List Nat) : ev C (.lc elt t src ifs own) e s = (items C src e s).bind fun it s => lcI (lcT C elt t ifs own e) it s := by simp only [ev]; rfl
@[simp] theorem ev_gen (all : Bool) (elt : CE) (t : Tg) (src : Src) (ifs : List CE) (own : List Nat) : ev C (.gen all elt t src ifs own) e s = (items C src e s).bind fun it s => geI all (geT C elt t ifs own e) it s := by simp only [ev]; rfl
@[simp] theorem ev_cell (a : CE) : ev C (.cell a) e s = (ev C a e s).bind fun x s => newCell x s := by simp only [ev]
@[simp] theorem ev_gin (neg : Bool) (a : CE) (kvs : List (List Nat × D)) : ev C (.gin neg a kvs) e s = (ev C a e s).bind fun x s => R.opt ((strOf x).map fun z => .bl (if neg then !(kvs.lookup z).isSome else (kvs.lookup z).isSome)) s := by simp only [ev]
@[simp] theorem ev_gix (a : CE) (kvs : List (List Nat × D)) : ev C (.gix kvs a) e s = (ev C a e s).bind fun x s => R.opt ((strOf x).bind fun z => kvs.lookup z) s := by simp only [ev]
@[simp] theorem ev_rev (a : CE) : ev C (.rev a) e s = (ev C a e s).bind fun x s => R.opt (revOf (x.rd s)) s := by simp only [ev]
@[simp] theorem ev_kget (a : CE) (kvs : List (List Nat × D)) : ev C (.kget kvs a) e s = (ev C a e s).bind fun x s => R.opt ((strOf x).map fun z => (kvs.lookup z).getD .non) s := by simp only [ev]
@[simp] theorem ev_dct (ks : List Ky) (ds : List D) : ev C (.dct ks ds) e s = .ok (.ref s.cells.length) ⟨s.cells ++ [.dct ks ds], s.base, s.up⟩ := by simp only [ev]
@[simp] theorem ev_srev (a : CE) : ev C (.srev a) e s = (ev C a e s).bind fun x s => R.opt (srevOf x) s := by simp only [ev]
@[simp] theorem ev_lset (a : CE) : ev C (.lset a) e s = (ev C a e s).bind fun x s => R.opt (lsetOf (x.rd s)) s := by simp only [ev]
@[simp] theorem ev_dofp (a : CE) : ev C (.dofp a) e s = (ev C a e s).bind fun x s => dofpOf (x.rd s) s := by simp only [ev]
@[simp] theorem ev_dix (a i : CE) : ev C (.dix a i) e s = (ev C a e s).bind fun x s => (ev C i e s).bind fun y s => R.opt (dixOf x y s) s := by simp only [ev]
@[simp] theorem evs_nil : evs C [] e s = .ok [] s := by simp only [evs]
@[simp] theorem evs_star (a : CE) (r : List CE) : evs C (.star a :: r) e s = (ev C a e s).bind fun x s => (R.opt (x.rd s).items s).bind fun xs s => (evs C r e s).bind fun ys s => .ok (xs ++ ys) s := by simp only [evs]
@[simp] theorem evs_cons (a : CE) (r : List CE) (h : ∀ b, a = .star b → False) : evs C (a :: r) e s = (ev C a e s).bind fun x s => (evs C r e s).bind fun ys s => .ok (x.frz :: ys) s := by
  rw [evs]; exact h
@[simp] theorem evo_none : evo C none e s = .ok none s := by simp only [evo]
@[simp] theorem evo_some (a : CE) : evo C (some a) e s = (ev C a e s).bind fun x s => (R.opt x.toInt s).bind fun i s => .ok (some i) s := by simp only [evo]
@[simp] theorem tests_nil : tests C [] e s = .ok true s := by simp only [tests]
@[simp] theorem tests_cons (c : CE) (r : List CE) : tests C (c :: r) e s = (ev C c e s).bind fun x s => (R.opt x.bool s).bind fun b s => if b then tests C r e s else .ok false s := by simp only [tests]
@[simp] theorem items_seq (a : CE) : items C (.seq a) e s = (ev C a e s).bind fun x s => R.opt (seqOf s x) s := by simp only [items]
/-- the numbers below one, between two; simp must not look into them (the kernel would run deep) -/
def rng1D (x : D) : Option It := x.toInt.bind fun i => rng 0 i
def rng2D (x y : D) : Option It := x.toInt.bind fun i => y.toInt.bind fun j => rng i j
@[simp] theorem items_rng1 (a : CE) : items C (.rng1 a) e s = (ev C a e s).bind fun x s => R.opt (rng1D x) s := by simp only [items, rng1D]
@[simp] theorem items_rng2 (a b : CE) : items C (.rng2 a b) e s = (ev C a e s).bind fun x s => (ev C b e s).bind fun y s => R.opt (rng2D x y) s := by simp only [items, rng2D]
theorem rng_ok {a b : Int} (h : -4611686018427387904 < a) (h2 : a < 4611686018427387904) (h3 : -4611686018427387904 < b) (h4 : b < 4611686018427387904) : rng a b = some (.fix ((List.range (b - a).toNat).map fun (i : Nat) => .int (a + (i : Int)))) := by
  unfold rng
  rw [if_pos]
  omega
theorem rng1D_int {i : Int} (h : i < 4611686018427387904) (h0 : -4611686018427387904 < i) : rng1D (.int i) = some (.fix ((List.range i.toNat).map fun (j : Nat) => .int j)) := by
  unfold rng1D
  rw [show D.toInt (.int i) = some i from rfl, Option.bind_some, rng_ok (by omega) (by omega) (by omega) (by omega), Int.sub_zero]
  congr 3
  funext j
  rw [Int.zero_add]
theorem rng1D_nat {k : Nat} (h : k < 4611686018427387904) : rng1D (.int (k : Int)) = some (.fix ((List.range k).map fun (j : Nat) => .int j)) := by
  rw [rng1D_int (by omega) (by omega), Int.toNat_natCast]
theorem rng2D_nat {a b : Nat} (h : a < 4611686018427387904) (h2 : b < 4611686018427387904) : rng2D (.int (a : Int)) (.int (b : Int)) = some (.fix ((List.range (b - a)).map fun (j : Nat) => .int ((a : Int) + j))) := by
  unfold rng2D
  rw [show D.toInt (.int (a : Int)) = some (a : Int) from rfl, Option.bind_some, show D.toInt (.int (b : Int)) = some (b : Int) from rfl, Option.bind_some, rng_ok (by omega) (by omega) (by omega) (by omega)]
  congr 3
  rw [show ((b : Int) - (a : Int)).toNat = b - a by omega]
@[simp] theorem ex_asg (t : Tg) (x : CE) : ex C w (.asg t x) e s = F.of (ev C x e s) e fun d s => match asg t d e with
      | some e' => .nx e' s
      | none => .bad := by simp only [ex] <;> rfl
@[simp] theorem ex_aug (i : Nat) (op : Op2) (x : CE) : ex C w (.aug i op x) e s = match getV e i with
      | some a => F.of (ev C x e s) e fun d s => match aug2 op a d with
        | some r => .nx (e.set i (some r)) s
        | none => .bad
      | none => .bad := by simp only [ex] <;> rfl
@[simp] theorem ex_expr (x : CE) : ex C w (.expr x) e s = F.of (ev C x e s) e fun _ s => .nx e s := by simp only [ex]
@[simp] theorem ex_ret (x : CE) : ex C w (.ret x) e s = F.of (ev C x e s) e fun d s => .rt d s := by simp only [ex]
@[simp] theorem ex_retN : ex C w .retN e s = .rt .non s := by simp only [ex]
@[simp] theorem ex_ite (c : CE) (a b : List CS) : ex C w (.ite c a b) e s = F.of (ev C c e s) e fun d s => match d.bool with
      | some true => exs C w a e s
      | some false => exs C w b e s
      | none => .bad := by simp only [ex] <;> rfl
/-- a while loop's test, its turn -/
def whC (C : Nat → List D → S → R D) (c : CE) (e : Env) (s : S) : R Bool := (ev C c e s).bind fun d s => R.opt d.bool s
def whB (C : Nat → List D → S → R D) (w : Nat) (b : List CS) (e : Env) (s : S) : F := exs C w b e s
@[simp] theorem ex_whl (c : CE) (b : List CS) : ex C w (.whl c b) e s = whI (whC C c) (whB C w b) w e s := by simp only [ex] <;> rfl
/-- one turn of a loop -/
def foT (C : Nat → List D → S → R D) (w : Nat) (t : Tg) (b : List CS) (x : D) (e : Env) (s : S) : F := match asg t x e with
      | some e' => exs C w b e' s
      | none => .bad
@[simp] theorem ex_forr (t : Tg) (src : Src) (b : List CS) : ex C w (.forr t src b) e s = F.of (items C src e s) e fun it s => foI (foT C w t b) it e s := by simp only [ex] <;> rfl
@[simp] theorem ex_pass : ex C w .pass e s = .nx e s := by simp only [ex]
@[simp] theorem ex_brk : ex C w .brk e s = .bk e s := by simp only [ex]
@[simp] theorem ex_cont : ex C w .cont e s = .ct e s := by simp only [ex]
@[simp] theorem exs_nil : exs C w [] e s = .nx e s := by simp only [exs]
@[simp] theorem exs_cons (x : CS) (r : List CS) : exs C w (x :: r) e s = (ex C w x e s).next fun e s => exs C w r e s := by simp only [exs]
@[simp] theorem asg_nm (i : Nat) (d : D) : asg (.nm i) d e = some (e.set i (some d.frz)) := by simp only [asg]
@[simp] theorem asg_tup (ts : List Tg) (xs : List D) : asg (.tup ts) (.tup xs) e = asgs ts xs e := by simp only [asg]
@[simp] theorem asgs_nil : asgs [] [] e = some e := by simp only [asgs]
@[simp] theorem asgs_cons (t : Tg) (ts : List Tg) (x : D) (xs : List D) : asgs (t :: ts) (x :: xs) e = (asg t x e).bind fun e' => asgs ts xs e' := by simp only [asgs]
end
/-- the store at the entry of a call -/
def S.ent (s : S) : S := ⟨s.cells, s.cells.length, none⟩
theorem D.lt_of_le : ∀ {d : D} {m n : Nat}, m ≤ n → d.lt m = true → d.lt n = true := by
  have key : ∀ (m n : Nat), m ≤ n → ∀ d : D, (d.lt m = true → d.lt n = true) := by
    intro m n h
    refine @D.rec (fun d => d.lt m = true → d.lt n = true) (fun l => D.ltL m l = true → D.ltL n l = true) ?_ ?_ ?_ ?_ ?_ ?_ ?_ ?_ ?_ ?_
    all_goals (try intros; try simp_all [D.lt, D.lt.ltL])
    omega
  intro d m n h; exact key m n h d
theorem callR_pure {f : List D → S → R D} {vs : List D} {s : S} {d : D} (h : f vs s.ent = .ok d s.ent) (hd : d.lt 0 = true) : callR f vs s = .ok d s := by
  have h' : f vs ⟨s.cells, s.cells.length, none⟩ = .ok d s.ent := h
  unfold callR
  rw [h']
  have hv : s.ent.viol = false := rfl
  have hg : S.gone s s.ent = s := by unfold S.gone S.ent; simp
  have hl : d.lt s.ent.base = true := D.lt_of_le (Nat.zero_le _) hd
  unfold norm
  simp only [hv, Bool.false_eq_true, if_false]
  cases d with
  | ref m => simp [D.lt] at hd
  | _ => simp [hl, hg]
theorem calls_eq {fs : Array Fn} {w n f : Nat} {vs : List D} {s : S} {b : Fn} (h : fs[f]? = some b) : calls fs w (n + 1) f vs s = run (calls fs w n) w b vs s := by
  rw [calls, h]
theorem geL_all {f : D → S → R (Option Bool)} {p : D → Bool} {s : S} : ∀ {xs : List D}, (∀ x ∈ xs, f x s = .ok (some (p x)) s) → geL true f xs s = .ok (.bl (xs.all p)) s
  | [], _ => rfl
  | x :: r, h => by
    simp only [geL, h x List.mem_cons_self, R.bind_ok, List.all_cons]
    cases p x with
    | true => simpa using geL_all fun y hy => h y (List.mem_cons_of_mem _ hy)
    | false => simp
theorem geL_any {f : D → S → R (Option Bool)} {p : D → Bool} {s : S} : ∀ {xs : List D}, (∀ x ∈ xs, f x s = .ok (some (p x)) s) → geL false f xs s = .ok (.bl (xs.any p)) s
  | [], _ => rfl
  | x :: r, h => by
    simp only [geL, h x List.mem_cons_self, R.bind_ok, List.any_cons]
    cases p x with
    | false => simpa using geL_any fun y hy => h y (List.mem_cons_of_mem _ hy)
    | true => simp
theorem lcL_fm {f : D → S → R (Option D)} {g : D → Option D} {s : S} : ∀ {xs acc : List D}, acc.length + xs.length ≤ big → (∀ x ∈ xs, f x s = .ok (g x) s) → lcL f xs acc s = .ok (.lv true (acc ++ (xs.filterMap g).map D.frz)) s
  | [], acc, _, _ => by simp [lcL]
  | x :: r, acc, hl, h => by
    have hl' : acc.length + (r.length + 1) ≤ big := hl
    simp only [lcL, h x List.mem_cons_self, R.bind_ok]
    cases q : g x with
    | none =>
      simp only [List.filterMap_cons, q]
      exact lcL_fm (by omega) fun y hy => h y (List.mem_cons_of_mem _ hy)
    | some d =>
      simp only [List.filterMap_cons, q, if_pos (show acc.length < big by omega)]
      rw [lcL_fm (by simp; omega) fun y hy => h y (List.mem_cons_of_mem _ hy)]
      simp
/-- a loop with an invariant -/
theorem foL_inv {f : D → Env → S → F} {P : Nat → Env → S → Prop} : ∀ {xs : List D} {k : Nat} {e : Env} {s : S}, P k e s → (∀ i x e s, xs[i]? = some x → P (k + i) e s → ∃ e' s', (f x e s = .nx e' s' ∨ f x e s = .ct e' s') ∧ P (k + i + 1) e' s') →
    ∃ e' s', foL f xs e s = .nx e' s' ∧ P (k + xs.length) e' s'
  | [], k, e, s, h, _ => ⟨e, s, rfl, h⟩
  | x :: r, k, e, s, h, hs => by
    obtain ⟨e1, s1, h1, h2⟩ := hs 0 x e s rfl h
    obtain ⟨e2, s2, h3, h4⟩ := foL_inv (xs := r) (k := k + 1) (e := e1) (s := s1) h2 fun i y e s hy hp => by
      have := hs (i + 1) y e s hy (by rw [show k + (i + 1) = k + 1 + i by omega]; exact hp)
      rw [show k + (i + 1) + 1 = k + 1 + i + 1 by omega] at this
      exact this
    refine ⟨e2, s2, ?_, by rw [show k + (x :: r).length = k + 1 + r.length by simp; omega]; exact h4⟩
    unfold foL
    rcases h1 with h1 | h1 <;> rw [h1] <;> exact h3
section
variable {s : S}
@[simp] theorem rd_non  : D.rd s .non = .non := rfl
@[simp] theorem frz_non  : D.frz .non = .non := rfl
@[simp] theorem isTy_int_non  : isTy .int .non = some false := rfl
@[simp] theorem isTy_bool_non  : isTy .bool .non = some false := rfl
@[simp] theorem isTy_str_non  : isTy .str .non = some false := rfl
@[simp] theorem isTy_list_non  : isTy .list .non = some false := rfl
@[simp] theorem isTy_tuple_non  : isTy .tuple .non = some false := rfl
@[simp] theorem is_non_non  : cmp2 .is .non .non = some true := rfl
@[simp] theorem isnot_non_non  : cmp2 .isnot .non .non = some false := rfl
@[simp] theorem rd_bl (b : Bool) : D.rd s (.bl b) = (.bl b) := rfl
@[simp] theorem frz_bl (b : Bool) : D.frz (.bl b) = (.bl b) := rfl
@[simp] theorem isTy_int_bl (b : Bool) : isTy .int (.bl b) = some true := rfl
@[simp] theorem isTy_bool_bl (b : Bool) : isTy .bool (.bl b) = some true := rfl
@[simp] theorem isTy_str_bl (b : Bool) : isTy .str (.bl b) = some false := rfl
@[simp] theorem isTy_list_bl (b : Bool) : isTy .list (.bl b) = some false := rfl
@[simp] theorem isTy_tuple_bl (b : Bool) : isTy .tuple (.bl b) = some false := rfl
@[simp] theorem is_non_bl (b : Bool) : cmp2 .is (.bl b) .non = some false := rfl
@[simp] theorem isnot_non_bl (b : Bool) : cmp2 .isnot (.bl b) .non = some true := rfl
@[simp] theorem rd_int (i : Int) : D.rd s (.int i) = (.int i) := rfl
@[simp] theorem frz_int (i : Int) : D.frz (.int i) = (.int i) := rfl
@[simp] theorem isTy_int_int (i : Int) : isTy .int (.int i) = some true := rfl
@[simp] theorem isTy_bool_int (i : Int) : isTy .bool (.int i) = some false := rfl
@[simp] theorem isTy_str_int (i : Int) : isTy .str (.int i) = some false := rfl
@[simp] theorem isTy_list_int (i : Int) : isTy .list (.int i) = some false := rfl
@[simp] theorem isTy_tuple_int (i : Int) : isTy .tuple (.int i) = some false := rfl
@[simp] theorem is_non_int (i : Int) : cmp2 .is (.int i) .non = some false := rfl
@[simp] theorem isnot_non_int (i : Int) : cmp2 .isnot (.int i) .non = some true := rfl
@[simp] theorem rd_str (z : List Nat) : D.rd s (.str z) = (.str z) := rfl
@[simp] theorem frz_str (z : List Nat) : D.frz (.str z) = (.str z) := rfl
@[simp] theorem isTy_int_str (z : List Nat) : isTy .int (.str z) = some false := rfl
@[simp] theorem isTy_bool_str (z : List Nat) : isTy .bool (.str z) = some false := rfl
@[simp] theorem isTy_str_str (z : List Nat) : isTy .str (.str z) = some true := rfl
@[simp] theorem isTy_list_str (z : List Nat) : isTy .list (.str z) = some false := rfl
@[simp] theorem isTy_tuple_str (z : List Nat) : isTy .tuple (.str z) = some false := rfl
@[simp] theorem is_non_str (z : List Nat) : cmp2 .is (.str z) .non = some false := rfl
@[simp] theorem isnot_non_str (z : List Nat) : cmp2 .isnot (.str z) .non = some true := rfl
@[simp] theorem rd_tup (xs : List D) : D.rd s (.tup xs) = (.tup xs) := rfl
@[simp] theorem frz_tup (xs : List D) : D.frz (.tup xs) = (.tup xs) := rfl
@[simp] theorem isTy_int_tup (xs : List D) : isTy .int (.tup xs) = some false := rfl
@[simp] theorem isTy_bool_tup (xs : List D) : isTy .bool (.tup xs) = some false := rfl
@[simp] theorem isTy_str_tup (xs : List D) : isTy .str (.tup xs) = some false := rfl
@[simp] theorem isTy_list_tup (xs : List D) : isTy .list (.tup xs) = some false := rfl
@[simp] theorem isTy_tuple_tup (xs : List D) : isTy .tuple (.tup xs) = some true := rfl
@[simp] theorem is_non_tup (xs : List D) : cmp2 .is (.tup xs) .non = some false := rfl
@[simp] theorem isnot_non_tup (xs : List D) : cmp2 .isnot (.tup xs) .non = some true := rfl
@[simp] theorem rd_lv (o : Bool) (xs : List D) : D.rd s (.lv o xs) = (.lv o xs) := rfl
@[simp] theorem frz_lv (o : Bool) (xs : List D) : D.frz (.lv o xs) = (.lv false xs) := rfl
@[simp] theorem isTy_int_lv (o : Bool) (xs : List D) : isTy .int (.lv o xs) = some false := rfl
@[simp] theorem isTy_bool_lv (o : Bool) (xs : List D) : isTy .bool (.lv o xs) = some false := rfl
@[simp] theorem isTy_str_lv (o : Bool) (xs : List D) : isTy .str (.lv o xs) = some false := rfl
@[simp] theorem isTy_list_lv (o : Bool) (xs : List D) : isTy .list (.lv o xs) = some true := rfl
@[simp] theorem isTy_tuple_lv (o : Bool) (xs : List D) : isTy .tuple (.lv o xs) = some false := rfl
@[simp] theorem is_non_lv (o : Bool) (xs : List D) : cmp2 .is (.lv o xs) .non = some false := rfl
@[simp] theorem isnot_non_lv (o : Bool) (xs : List D) : cmp2 .isnot (.lv o xs) .non = some true := rfl
@[simp] theorem frz_ref (m : Nat) : D.frz (.ref m) = .ref m := rfl
@[simp] theorem bool_bl (b : Bool) : D.bool (.bl b) = some b := rfl
@[simp] theorem toInt_int (i : Int) : D.toInt (.int i) = some i := rfl
@[simp] theorem items_tup (xs : List D) : D.items (.tup xs) = some xs := rfl
@[simp] theorem items_lv (o : Bool) (xs : List D) : D.items (.lv o xs) = some xs := rfl
@[simp] theorem bin_add (a b : Int) : bin2 .add (.int a) (.int b) = some (.int (a + b)) := rfl
@[simp] theorem bin_sub (a b : Int) : bin2 .sub (.int a) (.int b) = some (.int (a - b)) := rfl
@[simp] theorem bin_mul (a b : Int) : bin2 .mul (.int a) (.int b) = if wide a || wide b then some (.int (a * b)) else none := rfl
@[simp] theorem bin_fdiv (a b : Int) : bin2 .fdiv (.int a) (.int b) = if 0 < b ∧ b < 1073741824 then some (.int (a / b)) else none := rfl
@[simp] theorem bin_mod (a b : Int) : bin2 .mod (.int a) (.int b) = if 0 < b then some (.int (a % b)) else none := rfl
@[simp] theorem bin_pow (a b : Int) : bin2 .pow (.int a) (.int b) = if 0 ≤ b ∧ b ≤ 1000 ∧ wide a then some (.int (a ^ b.toNat)) else none := rfl
@[simp] theorem bin_addS (a b : List Nat) : bin2 .add (.str a) (.str b) = if a.length + b.length ≤ big then some (.str (a ++ b)) else none := rfl
@[simp] theorem bin_addT (a b : List D) : bin2 .add (.tup a) (.tup b) = if a.length + b.length ≤ big then some (.tup (a ++ b)) else none := rfl
@[simp] theorem bin_addL (o p : Bool) (a b : List D) : bin2 .add (.lv o a) (.lv p b) = if a.length + b.length ≤ big then some (.lv true (a ++ b)) else none := rfl
@[simp] theorem bin_mulT (a : List D) (k : Int) : bin2 .mul (.tup a) (.int k) = if a.length ≤ 1000 ∧ a ≠ [] ∧ 2 ≤ k ∧ k ≤ 1000 then some (.tup (List.replicate k.toNat a).flatten) else none := rfl
@[simp] theorem bin_mulS (a : List Nat) (k : Int) : bin2 .mul (.str a) (.int k) = if 0 ≤ k ∧ k ≤ 100000 ∧ a.length ≤ 100 then some (.str (List.replicate k.toNat a).flatten) else none := rfl
@[simp] theorem cmp_lt (a b : Int) : cmp2 .lt (.int a) (.int b) = some (decide (a < b)) := rfl
@[simp] theorem cmp_le (a b : Int) : cmp2 .le (.int a) (.int b) = some (decide (a ≤ b)) := rfl
@[simp] theorem cmp_gt (a b : Int) : cmp2 .gt (.int a) (.int b) = some (decide (b < a)) := rfl
@[simp] theorem cmp_ge (a b : Int) : cmp2 .ge (.int a) (.int b) = some (decide (b ≤ a)) := rfl
@[simp] theorem cmp_eqI (a b : Int) : cmp2 .eq (.int a) (.int b) = some (decide (a = b)) := rfl
@[simp] theorem cmp_neI (a b : Int) : cmp2 .ne (.int a) (.int b) = some (!decide (a = b)) := rfl
@[simp] theorem cmp_eqS (a b : List Nat) : cmp2 .eq (.str a) (.str b) = some (a == b) := rfl
@[simp] theorem cmp_neS (a b : List Nat) : cmp2 .ne (.str a) (.str b) = some (!(a == b)) := rfl
@[simp] theorem cmp_ltS (a b : List Nat) : cmp2 .lt (.str a) (.str b) = some (strLt a b) := rfl
@[simp] theorem cmp_leS (a b : List Nat) : cmp2 .le (.str a) (.str b) = some (!strLt b a) := rfl
@[simp] theorem cmp_ltT (a b : List D) : cmp2 .lt (.tup a) (.tup b) = if D.fitL 63 a && D.fitL 63 b then ordD 64 (.tup a) (.tup b) else none := rfl
@[simp] theorem cmp_isB (a b : Bool) : cmp2 .is (.bl a) (.bl b) = some (a == b) := rfl
@[simp] theorem cmp_isnotB (a b : Bool) : cmp2 .isnot (.bl a) (.bl b) = some (!(a == b)) := rfl
@[simp] theorem cmp_inS (c : Nat) (z : List Nat) : cmp2 .inn (.str [c]) (.str z) = some (z.contains c) := rfl
@[simp] theorem cmp_notinS (c : Nat) (z : List Nat) : cmp2 .notin (.str [c]) (.str z) = some (!z.contains c) := rfl
theorem cmp_eq {a b : D} (ha : a.fit 64 = true) (hb : b.fit 64 = true) : cmp2 .eq a b = some (a.eqv b) := by
  cases a <;> cases b <;> simp_all [cmp2] <;> rfl
theorem cmp_ne {a b : D} (ha : a.fit 64 = true) (hb : b.fit 64 = true) : cmp2 .ne a b = some (!a.eqv b) := by
  cases a <;> cases b <;> simp_all [cmp2] <;> rfl
theorem cmp_inT {a : D} {xs : List D} (ha : a.fit 64 = true) (hb : D.fitL 63 xs = true) : cmp2 .inn a (.tup xs) = some (xs.any fun x => x.eqv a) := by
  cases a <;> simp_all [cmp2]
theorem cmp_notinT {a : D} {xs : List D} (ha : a.fit 64 = true) (hb : D.fitL 63 xs = true) : cmp2 .notin a (.tup xs) = some (!xs.any fun x => x.eqv a) := by
  cases a <;> simp_all [cmp2]
theorem cmp_inL {a : D} {o : Bool} {xs : List D} (ha : a.fit 64 = true) (hb : D.fitL 63 xs = true) : cmp2 .inn a (.lv o xs) = some (xs.any fun x => x.eqv a) := by
  cases a <;> simp_all [cmp2]
theorem cmp_notinL {a : D} {o : Bool} {xs : List D} (ha : a.fit 64 = true) (hb : D.fitL 63 xs = true) : cmp2 .notin a (.lv o xs) = some (!xs.any fun x => x.eqv a) := by
  cases a <;> simp_all [cmp2]
@[simp] theorem idx_tup (xs : List D) (i : Int) : idx2 (.tup xs) (.int i) = atI xs i := rfl
@[simp] theorem idx_lv (o : Bool) (xs : List D) (i : Int) : idx2 (.lv o xs) (.int i) = atI xs i := rfl
@[simp] theorem idx_scr (ns : List Int) (i : Int) : idx2 (.scr ns) (.int i) = (atI ns i).map .int := rfl
theorem atI_nat {α : Type} (xs : List α) (k : Nat) : atI xs (k : Int) = xs[k]? := by
  unfold atI ixN
  by_cases h : k < xs.length
  · rw [if_pos (by omega), if_pos (by omega)]
    rfl
  · rw [if_pos (by omega), if_neg (by omega)]
    rw [List.getElem?_eq_none (by omega)]
    rfl
@[simp] theorem atI_0 {α : Type} (xs : List α) : atI xs 0 = xs[0]? := atI_nat xs 0
@[simp] theorem atI_1 {α : Type} (xs : List α) : atI xs 1 = xs[1]? := atI_nat xs 1
@[simp] theorem atI_2 {α : Type} (xs : List α) : atI xs 2 = xs[2]? := atI_nat xs 2
@[simp] theorem atI_3 {α : Type} (xs : List α) : atI xs 3 = xs[3]? := atI_nat xs 3
@[simp] theorem atI_4 {α : Type} (xs : List α) : atI xs 4 = xs[4]? := atI_nat xs 4
@[simp] theorem atI_5 {α : Type} (xs : List α) : atI xs 5 = xs[5]? := atI_nat xs 5
@[simp] theorem atI_6 {α : Type} (xs : List α) : atI xs 6 = xs[6]? := atI_nat xs 6
@[simp] theorem atI_7 {α : Type} (xs : List α) : atI xs 7 = xs[7]? := atI_nat xs 7
@[simp] theorem atI_8 {α : Type} (xs : List α) : atI xs 8 = xs[8]? := atI_nat xs 8
@[simp] theorem atI_9 {α : Type} (xs : List α) : atI xs 9 = xs[9]? := atI_nat xs 9
@[simp] theorem atI_10 {α : Type} (xs : List α) : atI xs 10 = xs[10]? := atI_nat xs 10
@[simp] theorem atI_11 {α : Type} (xs : List α) : atI xs 11 = xs[11]? := atI_nat xs 11
@[simp] theorem atI_12 {α : Type} (xs : List α) : atI xs 12 = xs[12]? := atI_nat xs 12
@[simp] theorem slc_tup (l h : Option Int) (xs : List D) : slc2 l h (.tup xs) = some (.tup (cut xs l h)) := rfl
@[simp] theorem slc_lv (l h : Option Int) (o : Bool) (xs : List D) : slc2 l h (.lv o xs) = some (.lv true (cut xs l h)) := rfl
@[simp] theorem bi_len_tup (xs : List D) : bi .len [.tup xs] = some (.int xs.length) := rfl
@[simp] theorem bi_len_lv (o : Bool) (xs : List D) : bi .len [.lv o xs] = some (.int xs.length) := rfl
@[simp] theorem bi_tuple_tup (xs : List D) : bi .tuple [.tup xs] = some (.tup xs) := rfl
@[simp] theorem bi_tuple_lv (o : Bool) (xs : List D) : bi .tuple [.lv o xs] = some (.tup xs) := rfl
@[simp] theorem bi_list_tup (xs : List D) : bi .list [.tup xs] = some (.lv true xs) := rfl
@[simp] theorem bi_list_lv (o : Bool) (xs : List D) : bi .list [.lv o xs] = some (.lv true xs) := rfl
@[simp] theorem bi_len_scr (ns : List Int) : bi .len [.scr ns] = some (.int ns.length) := rfl
@[simp] theorem bi_len_str (z : List Nat) : bi .len [.str z] = if z.length ≤ big then some (.int z.length) else none := rfl
@[simp] theorem bi_int (i : Int) : bi .int [.int i] = some (.int i) := rfl
@[simp] theorem bi_abs (i : Int) : bi .abs [.int i] = some (.int (if i < 0 then -i else i)) := rfl
@[simp] theorem bi_max2 (a b : Int) : bi .max [.int a, .int b] = some (.int (if a < b then b else a)) := rfl
@[simp] theorem bi_min2 (a b : Int) : bi .min [.int a, .int b] = some (.int (if b < a then b else a)) := rfl
@[simp] theorem seqOf_tup (xs : List D) : seqOf s (.tup xs) = some (.fix xs) := rfl
@[simp] theorem seqOf_lv (o : Bool) (xs : List D) : seqOf s (.lv o xs) = some (.fix xs) := rfl
@[simp] theorem seqOf_scr (ns : List Int) : seqOf s (.scr ns) = some (.fix (ns.map .int)) := rfl
@[simp] theorem seqOf_str (z : List Nat) : seqOf s (.str z) = some (.fix (z.map fun c => .str [c])) := rfl
@[simp] theorem strOf_str (z : List Nat) : strOf (.str z) = some z := rfl
@[simp] theorem lcI_fix (f : D → S → R (Option D)) (xs : List D) : lcI f (.fix xs) s = lcL f xs [] s := rfl
@[simp] theorem geI_fix (a : Bool) (f : D → S → R (Option Bool)) (xs : List D) : geI a f (.fix xs) s = geL a f xs s := rfl
@[simp] theorem foI_fix (f : D → Env → S → F) (xs : List D) (e : Env) : foI f (.fix xs) e s = foL f xs e s := rfl
@[simp] theorem getV_0 (o : Option D) (e : Env) : getV (o :: e) 0 = o := by cases o <;> rfl
@[simp] theorem getV_s (o : Option D) (e : Env) (i : Nat) : getV (o :: e) (i + 1) = getV e i := rfl
@[simp] theorem getV_1 (o0 o1 : Option D) (e : Env) : getV (o0 :: o1 :: e) 1 = o1 := by cases o1 <;> rfl
@[simp] theorem getV_2 (o0 o1 o2 : Option D) (e : Env) : getV (o0 :: o1 :: o2 :: e) 2 = o2 := by cases o2 <;> rfl
@[simp] theorem getV_3 (o0 o1 o2 o3 : Option D) (e : Env) : getV (o0 :: o1 :: o2 :: o3 :: e) 3 = o3 := by cases o3 <;> rfl
@[simp] theorem getV_4 (o0 o1 o2 o3 o4 : Option D) (e : Env) : getV (o0 :: o1 :: o2 :: o3 :: o4 :: e) 4 = o4 := by cases o4 <;> rfl
@[simp] theorem getV_5 (o0 o1 o2 o3 o4 o5 : Option D) (e : Env) : getV (o0 :: o1 :: o2 :: o3 :: o4 :: o5 :: e) 5 = o5 := by cases o5 <;> rfl
@[simp] theorem getV_6 (o0 o1 o2 o3 o4 o5 o6 : Option D) (e : Env) : getV (o0 :: o1 :: o2 :: o3 :: o4 :: o5 :: o6 :: e) 6 = o6 := by cases o6 <;> rfl
@[simp] theorem getV_7 (o0 o1 o2 o3 o4 o5 o6 o7 : Option D) (e : Env) : getV (o0 :: o1 :: o2 :: o3 :: o4 :: o5 :: o6 :: o7 :: e) 7 = o7 := by cases o7 <;> rfl
@[simp] theorem getV_8 (o0 o1 o2 o3 o4 o5 o6 o7 o8 : Option D) (e : Env) : getV (o0 :: o1 :: o2 :: o3 :: o4 :: o5 :: o6 :: o7 :: o8 :: e) 8 = o8 := by cases o8 <;> rfl
@[simp] theorem getV_9 (o0 o1 o2 o3 o4 o5 o6 o7 o8 o9 : Option D) (e : Env) : getV (o0 :: o1 :: o2 :: o3 :: o4 :: o5 :: o6 :: o7 :: o8 :: o9 :: e) 9 = o9 := by cases o9 <;> rfl
@[simp] theorem getV_10 (o0 o1 o2 o3 o4 o5 o6 o7 o8 o9 o10 : Option D) (e : Env) : getV (o0 :: o1 :: o2 :: o3 :: o4 :: o5 :: o6 :: o7 :: o8 :: o9 :: o10 :: e) 10 = o10 := by cases o10 <;> rfl
@[simp] theorem getV_11 (o0 o1 o2 o3 o4 o5 o6 o7 o8 o9 o10 o11 : Option D) (e : Env) : getV (o0 :: o1 :: o2 :: o3 :: o4 :: o5 :: o6 :: o7 :: o8 :: o9 :: o10 :: o11 :: e) 11 = o11 := by cases o11 <;> rfl
@[simp] theorem getV_12 (o0 o1 o2 o3 o4 o5 o6 o7 o8 o9 o10 o11 o12 : Option D) (e : Env) : getV (o0 :: o1 :: o2 :: o3 :: o4 :: o5 :: o6 :: o7 :: o8 :: o9 :: o10 :: o11 :: o12 :: e) 12 = o12 := by cases o12 <;> rfl
@[simp] theorem getV_13 (o0 o1 o2 o3 o4 o5 o6 o7 o8 o9 o10 o11 o12 o13 : Option D) (e : Env) : getV (o0 :: o1 :: o2 :: o3 :: o4 :: o5 :: o6 :: o7 :: o8 :: o9 :: o10 :: o11 :: o12 :: o13 :: e) 13 = o13 := by cases o13 <;> rfl
@[simp] theorem getV_14 (o0 o1 o2 o3 o4 o5 o6 o7 o8 o9 o10 o11 o12 o13 o14 : Option D) (e : Env) : getV (o0 :: o1 :: o2 :: o3 :: o4 :: o5 :: o6 :: o7 :: o8 :: o9 :: o10 :: o11 :: o12 :: o13 :: o14 :: e) 14 = o14 := by cases o14 <;> rfl
@[simp] theorem getV_15 (o0 o1 o2 o3 o4 o5 o6 o7 o8 o9 o10 o11 o12 o13 o14 o15 : Option D) (e : Env) : getV (o0 :: o1 :: o2 :: o3 :: o4 :: o5 :: o6 :: o7 :: o8 :: o9 :: o10 :: o11 :: o12 :: o13 :: o14 :: o15 :: e) 15 = o15 := by cases o15 <;> rfl
@[simp] theorem getV_16 (o0 o1 o2 o3 o4 o5 o6 o7 o8 o9 o10 o11 o12 o13 o14 o15 o16 : Option D) (e : Env) : getV (o0 :: o1 :: o2 :: o3 :: o4 :: o5 :: o6 :: o7 :: o8 :: o9 :: o10 :: o11 :: o12 :: o13 :: o14 :: o15 :: o16 :: e) 16 = o16 := by cases o16 <;> rfl
@[simp] theorem getV_17 (o0 o1 o2 o3 o4 o5 o6 o7 o8 o9 o10 o11 o12 o13 o14 o15 o16 o17 : Option D) (e : Env) : getV (o0 :: o1 :: o2 :: o3 :: o4 :: o5 :: o6 :: o7 :: o8 :: o9 :: o10 :: o11 :: o12 :: o13 :: o14 :: o15 :: o16 :: o17 :: e) 17 = o17 := by cases o17 <;> rfl
@[simp] theorem getV_18 (o0 o1 o2 o3 o4 o5 o6 o7 o8 o9 o10 o11 o12 o13 o14 o15 o16 o17 o18 : Option D) (e : Env) : getV (o0 :: o1 :: o2 :: o3 :: o4 :: o5 :: o6 :: o7 :: o8 :: o9 :: o10 :: o11 :: o12 :: o13 :: o14 :: o15 :: o16 :: o17 :: o18 :: e) 18 = o18 := by cases o18 <;> rfl
@[simp] theorem getV_19 (o0 o1 o2 o3 o4 o5 o6 o7 o8 o9 o10 o11 o12 o13 o14 o15 o16 o17 o18 o19 : Option D) (e : Env) : getV (o0 :: o1 :: o2 :: o3 :: o4 :: o5 :: o6 :: o7 :: o8 :: o9 :: o10 :: o11 :: o12 :: o13 :: o14 :: o15 :: o16 :: o17 :: o18 :: o19 :: e) 19 = o19 := by cases o19 <;> rfl
@[simp] theorem getV_20 (o0 o1 o2 o3 o4 o5 o6 o7 o8 o9 o10 o11 o12 o13 o14 o15 o16 o17 o18 o19 o20 : Option D) (e : Env) : getV (o0 :: o1 :: o2 :: o3 :: o4 :: o5 :: o6 :: o7 :: o8 :: o9 :: o10 :: o11 :: o12 :: o13 :: o14 :: o15 :: o16 :: o17 :: o18 :: o19 :: o20 :: e) 20 = o20 := by cases o20 <;> rfl
@[simp] theorem getV_21 (o0 o1 o2 o3 o4 o5 o6 o7 o8 o9 o10 o11 o12 o13 o14 o15 o16 o17 o18 o19 o20 o21 : Option D) (e : Env) : getV (o0 :: o1 :: o2 :: o3 :: o4 :: o5 :: o6 :: o7 :: o8 :: o9 :: o10 :: o11 :: o12 :: o13 :: o14 :: o15 :: o16 :: o17 :: o18 :: o19 :: o20 :: o21 :: e) 21 = o21 := by cases o21 <;> rfl
@[simp] theorem getV_22 (o0 o1 o2 o3 o4 o5 o6 o7 o8 o9 o10 o11 o12 o13 o14 o15 o16 o17 o18 o19 o20 o21 o22 : Option D) (e : Env) : getV (o0 :: o1 :: o2 :: o3 :: o4 :: o5 :: o6 :: o7 :: o8 :: o9 :: o10 :: o11 :: o12 :: o13 :: o14 :: o15 :: o16 :: o17 :: o18 :: o19 :: o20 :: o21 :: o22 :: e) 22 = o22 := by cases o22 <;> rfl
@[simp] theorem getV_23 (o0 o1 o2 o3 o4 o5 o6 o7 o8 o9 o10 o11 o12 o13 o14 o15 o16 o17 o18 o19 o20 o21 o22 o23 : Option D) (e : Env) : getV (o0 :: o1 :: o2 :: o3 :: o4 :: o5 :: o6 :: o7 :: o8 :: o9 :: o10 :: o11 :: o12 :: o13 :: o14 :: o15 :: o16 :: o17 :: o18 :: o19 :: o20 :: o21 :: o22 :: o23 :: e) 23 = o23 := by cases o23 <;> rfl
@[simp] theorem wipe_nil (e : Env) : wipe e [] = e := rfl
@[simp] theorem wipe_cons (e : Env) (v : Nat) (vs : List Nat) : wipe e (v :: vs) = (wipe e vs).set v none := rfl
theorem run_eq {C : Nat → List D → S → R D} {w : Nat} {f : Fn} {vs : List D} (h : vs.length = f.par) : run C w f vs s = match exs C w f.body (vs.map some ++ List.replicate f.more none) s with
  | .nx _ s => .ok .non s
  | .rt d s => .ok d s
  | .ex c _ s => .exc c s
  | _ => .bad := by unfold run; rw [if_pos h] <;> rfl
theorem bigN : big = 16777216 := rfl
end
/-- a loop that looks for a fault -/
theorem foL_all {f : D → Env → S → F} {p : D → Bool} {r : D} {s : S} {P : Env → Prop} : ∀ {xs : List D} {e : Env}, P e → (∀ x ∈ xs, ∀ e, P e → if p x then ∃ e', f x e s = .nx e' s ∧ P e' else f x e s = .rt r s) →
    if xs.all p then ∃ e', foL f xs e s = .nx e' s ∧ P e' else foL f xs e s = .rt r s
  | [], e, h, _ => ⟨e, rfl, h⟩
  | x :: xs, e, h, hs => by
    have h1 := hs x List.mem_cons_self e h
    have ih := fun e' (h' : P e') => foL_all (f := f) (p := p) (r := r) (s := s) (xs := xs) h' fun y hy => hs y (List.mem_cons_of_mem _ hy)
    rw [List.all_cons]
    cases q : p x with
    | false =>
      rw [q] at h1
      simp only [Bool.false_eq_true, if_false] at h1
      simp only [Bool.false_and, Bool.false_eq_true, if_false]
      unfold foL
      rw [h1]; rfl
    | true =>
      rw [q] at h1
      simp only [if_true] at h1
      obtain ⟨e', h2, h3⟩ := h1
      have h4 := ih e' h3
      unfold foL
      rw [h2]
      simpa using h4
/-- a loop of m turns -/
theorem whI_count {c : Env → S → R Bool} {b : Env → S → F} {P : Nat → Env → S → Prop} {m : Nat} (ht : ∀ k e s, k < m → P k e s → c e s = .ok true s ∧ ∃ e' s', b e s = .nx e' s' ∧ P (k + 1) e' s') (hf : ∀ e s, P m e s → c e s = .ok false s) :
    ∀ (j k fuel : Nat) (e : Env) (s : S), k + j = m → j < fuel → P k e s → ∃ e' s', whI c b fuel e s = .nx e' s' ∧ P m e' s'
  | 0, k, fuel + 1, e, s, hk, _, h => by
    have : k = m := by omega
    subst this
    refine ⟨e, s, ?_, h⟩
    unfold whI
    rw [hf e s h]; rfl
  | j + 1, k, fuel + 1, e, s, hk, hfu, h => by
    obtain ⟨h1, e1, s1, h2, h3⟩ := ht k e s (by omega) h
    obtain ⟨e2, s2, h4, h5⟩ := whI_count (c := c) (b := b) (P := P) ht hf j (k + 1) fuel e1 s1 (by omega) (by omega) h3
    refine ⟨e2, s2, ?_, h5⟩
    unfold whI
    rw [h1]
    simp only [F.of_ok, if_true, h2, F.turn_nx]
    exact h4
  | j, k, 0, e, s, _, hfu, _ => by omega
theorem sIx_nat (n d k : Nat) : sIx n d (some (k : Int)) = min k n := by
  show (if (k : Int) < 0 then ((k : Int) + (n : Int)).toNat else min (k : Int).toNat n) = _
  rw [if_neg (by omega)]
  simp
theorem cut_to {α : Type} (xs : List α) (k : Nat) : cut xs none (some (k : Int)) = xs.take k := by
  unfold cut
  rw [sIx_nat]
  show (xs.drop 0).take (min k xs.length - 0) = _
  rw [List.drop_zero, Nat.sub_zero]
  by_cases h : k ≤ xs.length
  · rw [Nat.min_eq_left h]
  · rw [Nat.min_eq_right (by omega), List.take_of_length_le (Nat.le_refl _), List.take_of_length_le (by omega)]
theorem cut_from {α : Type} (xs : List α) (k : Nat) : cut xs (some (k : Int)) none = xs.drop k := by
  unfold cut
  rw [sIx_nat]
  show (xs.drop (min k xs.length)).take (xs.length - min k xs.length) = _
  by_cases h : k ≤ xs.length
  · rw [Nat.min_eq_left h]
    apply List.take_of_length_le
    simp
  · rw [Nat.min_eq_right (by omega), List.drop_of_length_le (Nat.le_refl _), List.drop_of_length_le (by omega)]
    simp
end L3
end

section -- TAB
set_option autoImplicit false
set_option linter.all false
set_option maxRecDepth 100000
set_option maxHeartbeats 0
namespace LW
open PySem
def top (i : Nat) : Stmt := PySem.Challenge.pw_treeschanged_k07_whole_trees_with_keys.main.body.getD i (.Pass ⟨0, 0, 0, 0⟩)
end LW
namespace LW
open PySem PySem.Spec PyProof.Rows L2 L3
/-- is_number -/
def b0 : Fn := ⟨3, 0, [
.ret (.and (.isa (.var 0) .int) (.and (.not (.isa (.var 0) .bool)) (.chain .le .le (.var 1) (.var 0) (.var 2))))]⟩
/-- is_word -/
def b1 : Fn := ⟨1, 1, [
.ret (.and (.isa (.var 0) .str) (.and (.chain .le .le (.con (.int 1)) (.bi .len [.var 0]) (.glob (.int 6))) (.gen true (.cmp .inn (.var 1) (.glob (.str [97, 98, 99, 100, 101, 102, 103, 104, 105, 106, 107, 108, 109, 110, 111, 112, 113, 114, 115, 116, 117, 118, 119, 120, 121, 122]))) (.nm 1) (.seq (.var 0)) [] [1])))]⟩
/-- are_signs -/
def b2 : Fn := ⟨1, 1, [
.ite (.or (.not (.isa (.var 0) .str)) (.cmp .gt (.bi .len [.var 0]) (.glob (.int 20)))) [
.ret (.con (.bl false))] [], 
.ret (.gen true (.and (.chain .le .le (.con (.str [32])) (.var 1) (.con (.str [126]))) (.cmp .notin (.var 1) (.con (.str [92, 34])))) (.nm 1) (.seq (.var 0)) [] [1])]⟩
/-- is_key -/
def b3 : Fn := ⟨1, 0, [
.ite (.and (.cmp .eq (.var 0) (.glob (.tup [.int 0, .str []]))) (.isa (.var 0) .tuple)) [
.ret (.not (.isa (.idx (.var 0) (.con (.int 0))) .bool))] [], 
.ite (.or (.not (.isa (.var 0) .tuple)) (.cmp .ne (.bi .len [.var 0]) (.con (.int 2)))) [
.ret (.con (.bl false))] [], 
.ret (.and (.call 0 [.idx (.var 0) (.con (.int 0)), .con (.int 1), .glob (.int 1000000)]) (.call 1 [.idx (.var 0) (.con (.int 1))]))]⟩
/-- keys_behind -/
def b4 : Fn := ⟨2, 3, [
.ite (.or (.not (.isa (.var 0) .tuple)) (.or (.cmp .ne (.bi .len [.var 0]) (.con (.int 4))) (.cmp .eq (.var 1) (.con (.int 0))))) [
.ret (.con .non)] [], 
.ite (.or (.not (.call 3 [.idx (.var 0) (.con (.int 0))])) (.or (.not (.call 1 [.idx (.var 0) (.con (.int 1))])) (.or (.not (.call 2 [.idx (.var 0) (.con (.int 2))])) (.not (.isa (.idx (.var 0) (.con (.int 3))) .tuple))))) [
.ret (.con .non)] [], 
.asg (.nm 2) (.cell (.lst [.idx (.var 0) (.con (.int 0))])), 
.forr (.nm 3) (.seq (.idx (.var 0) (.con (.int 3)))) [
.asg (.nm 4) (.call 4 [.var 3, .bin .sub (.var 1) (.con (.int 1))]), 
.ite (.or (.cmp .is (.var 4) (.con .non)) (.cmp .gt (.bin .add (.bi .len [.var 2]) (.bi .len [.var 4])) (.glob (.int 200)))) [
.ret (.con .non)] [], 
.expr (.mm .extend (.var 2) [.var 4])], 
.ret (.var 2)]⟩
/-- is_keyed -/
def b5 : Fn := ⟨1, 1, [
.asg (.nm 1) (.call 4 [.var 0, .glob (.int 30)]), 
.ret (.and (.cmp .isnot (.var 1) (.con .non)) (.and (.cmp .eq (.idx (.var 1) (.con (.int 0))) (.glob (.tup [.int 0, .str []]))) (.cmp .eq (.lset (.var 1)) (.bi .len [.var 1]))))]⟩
/-- plain -/
def b6 : Fn := ⟨1, 1, [
.ret (.tup [.idx (.var 0) (.con (.int 1)), .idx (.var 0) (.con (.int 2)), .bi .tuple [.lc (.call 6 [.var 1]) (.nm 1) (.seq (.idx (.var 0) (.con (.int 3)))) [] [1]]])]⟩
/-- keys_of -/
def b7 : Fn := ⟨1, 2, [
.asg (.nm 1) (.cell (.lst [.idx (.var 0) (.con (.int 0))])), 
.forr (.nm 2) (.seq (.idx (.var 0) (.con (.int 3)))) [
.expr (.mm .extend (.var 1) [.call 7 [.var 2]])], 
.ret (.var 1)]⟩
/-- path_of -/
def b8 : Fn := ⟨2, 2, [
.ite (.cmp .eq (.idx (.var 0) (.con (.int 0))) (.var 1)) [
.ret (.tup [])] [], 
.forr (.tup [.nm 2, .nm 3]) (.enum (.idx (.var 0) (.con (.int 3)))) [
.ite (.cmp .inn (.var 1) (.call 7 [.var 3])) [
.ret (.tup [.var 2, .star (.call 8 [.var 3, .var 1])])] []], 
.raise 3]⟩
/-- key_at -/
def b9 : Fn := ⟨2, 1, [
.forr (.nm 2) (.seq (.var 1)) [
.ite (.cmp .ge (.var 2) (.bi .len [.idx (.var 0) (.con (.int 3))])) [
.raise 3] [], 
.asg (.nm 0) (.idx (.idx (.var 0) (.con (.int 3))) (.var 2))], 
.ret (.idx (.var 0) (.con (.int 0)))]⟩
/-- keyed_anew -/
def b10 : Fn := ⟨3, 0, [
.ret (.call 11 [.var 0, .var 1, .cell (.lst [.var 2]), .con (.bl true)])]⟩
/-- keyed_from -/
def b11 : Fn := ⟨4, 3, [
.asg (.nm 4) (.glob (.tup [.int 0, .str []])), 
.ite (.not (.var 3)) [
.asg (.nm 4) (.tup [.idx (.var 2) (.con (.int 0)), .var 1]), 
.augp (.var 2) (.con (.int 0)) .add (.con (.int 1))] [], 
.asg (.nm 5) (.lc (.call 11 [.var 6, .var 1, .var 2, .con (.bl false)]) (.nm 6) (.seq (.idx (.var 0) (.con (.int 2)))) [] [6]), 
.ret (.tup [.var 4, .idx (.var 0) (.con (.int 0)), .idx (.var 0) (.con (.int 1)), .bi .tuple [.var 5]])]⟩
/-- _law_draws -/
def b12 : Fn := ⟨1, 6, [
.asg (.nm 1) (.cell (.lst [])), 
.forr (.nm 2) (.seq (.var 0)) [
.asg (.nm 3) (.bi .abs [.var 2]), 
.ite (.cmp .lt (.var 3) (.bin .pow (.con (.int 10)) (.con (.int 18)))) [
.asg (.nm 4) (.bin .mod (.bi .int [.bin .add (.bin .mul (.var 3) (.con (.int 48271))) (.con (.int 11))]) (.con (.int 2147483647))), 
.expr (.mm .append (.var 1) [.bin .mod (.bi .int [.bin .add (.bin .mul (.var 4) (.con (.int 69621))) (.var 3)]) (.con (.int 2147483629))]), 
.expr (.mm .append (.var 1) [.bin .mod (.bi .int [.bin .add (.var 4) (.bin .fdiv (.var 3) (.con (.int 7)))]) (.con (.int 1000003))]), 
.asg (.nm 3) (.con (.int 0))] [], 
.forr (.nm 5) (.rng1 (.con (.int 60))) [
.ite (.cmp .gt (.var 3) (.con (.int 0))) [
.expr (.mm .append (.var 1) [.bin .mod (.bi .int [.var 3]) (.con (.int 997))]), 
.asg (.nm 3) (.bin .fdiv (.var 3) (.con (.int 997)))] []]], 
.asg (.nm 6) (.con (.int 1)), 
.ite (.cmp .gt (.bi .len [.var 0]) (.con (.int 0))) [
.asg (.nm 6) (.bin .add (.con (.int 1)) (.bi .abs [.idx (.var 0) (.con (.int 0))]))] [], 
.forr (.nm 5) (.rng1 (.con (.int 900))) [
.asg (.nm 6) (.bin .mod (.bi .int [.bin .add (.bin .mul (.var 6) (.con (.int 48271))) (.con (.int 69621))]) (.con (.int 2147483647))), 
.expr (.mm .append (.var 1) [.bin .fdiv (.var 6) (.con (.int 5))])], 
.ret (.rev (.var 1))]⟩
/-- _law_take -/
def b13 : Fn := ⟨2, 0, [
.ite (.cmp .eq (.bi .len [.var 0]) (.con (.int 0))) [
.ret (.con (.int 0))] [], 
.ret (.bin .mod (.bi .int [.mm .pop (.var 0) []]) (.var 1))]⟩
/-- _law_alike -/
def b14 : Fn := ⟨2, 1, [
.ite (.or (.isa (.var 1) .list) (.isa (.var 1) .tuple)) [
.ite (.or (.cmp .ne (.isa (.var 0) .list) (.isa (.var 1) .list)) (.cmp .ne (.isa (.var 0) .tuple) (.isa (.var 1) .tuple))) [
.ret (.con (.bl false))] [], 
.ret (.and (.cmp .eq (.bi .len [.var 0]) (.bi .len [.var 1])) (.cmp .eq (.lc (.var 2) (.nm 2) (.rng1 (.bi .len [.var 1])) [.not (.call 14 [.idx (.var 0) (.var 2), .idx (.var 1) (.var 2)])] [2]) (.lst [])))] [], 
.ite (.cmp .is (.var 1) (.con .non)) [
.ret (.cmp .is (.var 0) (.con .non))] [], 
.ite (.or (.isa (.var 1) .bool) (.isa (.var 0) .bool)) [
.ret (.and (.isa (.var 0) .bool) (.and (.isa (.var 1) .bool) (.cmp .eq (.var 0) (.var 1))))] [], 
.ite (.isa (.var 1) .int) [
.ret (.and (.isa (.var 0) .int) (.cmp .eq (.var 0) (.var 1)))] [], 
.ret (.and (.isa (.var 0) .str) (.cmp .eq (.var 0) (.var 1)))]⟩
/-- _law_says -/
def b15 : Fn := ⟨2, 0, [
.ret (.and (.isa (.var 0) .bool) (.cmp .eq (.var 0) (.var 1)))]⟩
/-- _law_word -/
def b16 : Fn := ⟨1, 2, [.brk]⟩
/-- _law_tree -/
def b17 : Fn := ⟨3, 5, [
.asg (.tup [.nm 3, .nm 4]) (.tup [.idx (.lst [.con (.str [97]), .con (.str [98]), .con (.str [105, 116, 101, 109]), .con (.str [108, 105, 115, 116])]) (.call 13 [.var 0, .con (.int 4)]), .idx (.lst [.con (.str []), .con (.str []), .con (.str [120]), .con (.str [115, 111, 32, 105, 116, 32, 105, 115]), .con (.str [55])]) (.call 13 [.var 0, .con (.int 5)])]), 
.asg (.tup [.nm 5, .nm 6]) (.tup [.bin .sub (.var 1) (.con (.int 1)), .cell (.lst [])]), 
.whl (.and (.cmp .gt (.var 5) (.con (.int 0))) (.and (.cmp .gt (.var 2) (.con (.int 1))) (.cmp .gt (.call 13 [.var 0, .con (.int 3)]) (.con (.int 0))))) [
.asg (.nm 7) (.call 17 [.var 0, .bin .add (.con (.int 1)) (.call 13 [.var 0, .var 5]), .bin .sub (.var 2) (.con (.int 1))]), 
.expr (.mm .append (.var 6) [.var 7]), 
.asg (.nm 5) (.bin .sub (.var 5) (.call 18 [.var 7]))], 
.ret (.tup [.var 3, .var 4, .bi .tuple [.var 6]])]⟩
/-- _law_size -/
def b18 : Fn := ⟨1, 1, [
.ret (.bin .add (.con (.int 1)) (.bi .sum [.lc (.call 18 [.var 1]) (.nm 1) (.seq (.idx (.var 0) (.con (.int 2)))) [] [1]]))]⟩
/-- _law_paths -/
def b19 : Fn := ⟨2, 2, [
.asg (.nm 2) (.lst [.var 1]), 
.forr (.nm 3) (.rng1 (.bi .len [.idx (.var 0) (.con (.int 2))])) [
.asg (.nm 2) (.bin .add (.var 2) (.call 19 [.idx (.idx (.var 0) (.con (.int 2))) (.var 3), .bin .add (.var 1) (.tup [.var 3])]))], 
.ret (.var 2)]⟩
/-- _law_with -/
def b20 : Fn := ⟨3, 1, [
.ite (.cmp .eq (.var 1) (.tup [])) [
.ret (.var 2)] [], 
.asg (.nm 3) (.cell (.bi .list [.idx (.var 0) (.con (.int 2))])), 
.put (.var 3) (.idx (.var 1) (.con (.int 0))) (.call 20 [.idx (.var 3) (.idx (.var 1) (.con (.int 0))), .slc (.var 1) (some (.con (.int 1))) none, .var 2]), 
.ret (.tup [.idx (.var 0) (.con (.int 0)), .idx (.var 0) (.con (.int 1)), .bi .tuple [.var 3]])]⟩
/-- _law_told -/
def b21 : Fn := ⟨3, 1, [
.tryy [
.ret (.ite (.cmp .eq (.var 0) (.con (.int 0))) (.call 8 [.var 1, .var 2]) (.call 9 [.var 1, .var 2]))] 0 (some 3) (.word 16)]⟩
/-- _law_keyed -/
def b22 : Fn := ⟨2, 3, [
.asg (.tup [.nm 2, .nm 3]) (.tup [.mm .pop (.var 1) [.con (.int 0)], .cell (.lst [])]), 
.forr (.nm 4) (.seq (.idx (.var 0) (.con (.int 2)))) [
.expr (.mm .append (.var 3) [.call 22 [.var 4, .var 1]])], 
.ret (.tup [.var 2, .idx (.var 0) (.con (.int 0)), .idx (.var 0) (.con (.int 1)), .bi .tuple [.var 3]])]⟩
/-- _law_swapped -/
def b23 : Fn := ⟨3, 2, [
.asg (.nm 3) (.ite (.cmp .eq (.idx (.var 0) (.con (.int 0))) (.var 1)) (.var 2) (.idx (.var 0) (.con (.int 0)))), 
.ret (.tup [.var 3, .idx (.var 0) (.con (.int 1)), .idx (.var 0) (.con (.int 2)), .bi .tuple [.lc (.call 23 [.var 4, .var 1, .var 2]) (.nm 4) (.seq (.idx (.var 0) (.con (.int 3)))) [] [4]]])]⟩
/-- law -/
def b24 : Fn := ⟨1, 17, [
.asg (.nm 1) (.cell (.call 12 [.var 0])), 
.asg (.nm 2) (.call 17 [.var 1, .bin .add (.con (.int 1)) (.call 13 [.var 1, .con (.int 14)]), .con (.int 5)]), 
.asg (.nm 3) (.call 19 [.var 2, .tup []]), 
.asg (.tup [.nm 4, .nm 5]) (.tup [.idx (.lst [.con (.str [97, 110, 110]), .con (.str [98, 111])]) (.call 13 [.var 1, .con (.int 2)]), .bin .add (.con (.int 1)) (.call 13 [.var 1, .con (.int 50)])]), 
.asg (.nm 6) (.call 10 [.var 2, .var 4, .var 5]), 
.asg (.nm 7) (.bin .add (.lst [.tup [.con (.int 0), .con (.str [])]]) (.lc (.tup [.bin .add (.var 5) (.var 8), .var 4]) (.nm 8) (.rng1 (.bin .sub (.bi .len [.var 3]) (.con (.int 1)))) [] [8])), 
.ite (.or (.not (.call 14 [.var 6, .call 22 [.var 2, .cell (.bi .list [.var 7])]])) (.or (.not (.call 15 [.call 5 [.var 6], .con (.bl true)])) (.not (.call 14 [.lst [.call 6 [.var 6], .call 7 [.var 6]], .lst [.var 2, .var 7]])))) [
.ret (.con (.bl false))] [], 
.asg (.tup [.nm 9, .nm 10]) (.tup [.cell (.lc (.tup [.bin .add (.bin .add (.con (.int 1)) (.call 13 [.var 1, .con (.int 3)])) (.bin .mul (.con (.int 9)) (.var 8)), .idx (.lst [.con (.str [97, 110, 110]), .con (.str [98, 111]), .con (.str [99, 121])]) (.call 13 [.var 1, .con (.int 3)])]) (.nm 8) (.rng1 (.bin .sub (.bi .len [.var 3]) (.con (.int 1)))) [] [8]), .cell (.lst [.tup [.con (.int 0), .con (.str [])]])]), 
.whl (.cmp .ne (.var 9) (.lst [])) [
.expr (.mm .append (.var 10) [.mm .pop (.var 9) [.call 13 [.var 1, .bi .len [.var 9]]]])], 
.asg (.nm 11) (.call 22 [.var 2, .cell (.bi .list [.var 10])]), 
.ite (.or (.not (.call 15 [.call 5 [.var 11], .con (.bl true)])) (.not (.call 14 [.lst [.call 6 [.var 11], .call 7 [.var 11]], .lst [.var 2, .var 10]]))) [
.ret (.con (.bl false))] [], 
.forr (.nm 8) (.rng1 (.bi .len [.var 3])) [
.ite (.or (.not (.call 15 [.call 3 [.idx (.var 10) (.var 8)], .con (.bl true)])) (.not (.call 14 [.lst [.call 21 [.con (.int 0), .var 11, .idx (.var 10) (.var 8)], .call 21 [.con (.int 1), .var 11, .idx (.var 3) (.var 8)]], .lst [.idx (.var 3) (.var 8), .idx (.var 10) (.var 8)]]))) [
.ret (.con (.bl false))] []], 
.ite (.or (.cmp .ne (.lc (.call 21 [.con (.int 0), .var 11, .var 12]) (.nm 12) (.seq (.lst [.tup [.con (.int 99999), .con (.str [97, 110, 110])], .tup [.con (.int 1), .con (.str [122, 122])], .con .non])) [] [12]) (.bin .mul (.lst [.con (.str [110, 111, 110, 101])]) (.con (.int 3)))) (.cmp .ne (.call 21 [.con (.int 1), .var 11, .tup [.con (.int 99)]]) (.con (.str [110, 111, 110, 101])))) [
.ret (.con (.bl false))] [], 
.ite (.cmp .gt (.bi .len [.var 3]) (.con (.int 1))) [
.asg (.nm 12) (.idx (.var 10) (.bin .add (.con (.int 1)) (.call 13 [.var 1, .bin .sub (.bi .len [.var 10]) (.con (.int 1))]))), 
.asg (.nm 13) (.bin .add (.lst [.tup [.con (.int 0), .con (.str [])], .idx (.var 10) (.con (.int 0)), .tup [.con (.int 0), .con (.str [97, 110, 110])], .tup [.con (.int 1000001), .con (.str [97, 110, 110])], .tup [.con (.int 1), .con (.str [])], .con .non, .lst [.con (.int 1), .con (.str [97, 110, 110])], .tup [.con (.bl true), .con (.str [97, 110, 110])], .tup [.con (.int 1), .con (.str [97, 110, 110]), .con (.int 2)]]) (.slc (.lc (.var 14) (.nm 14) (.seq (.slc (.var 10) (some (.con (.int 1))) none)) [.cmp .ne (.var 14) (.var 12)] [14]) none (some (.con (.int 1))))), 
.ite (.cmp .ne (.lc (.var 14) (.nm 14) (.seq (.var 13)) [.not (.call 15 [.call 5 [.call 23 [.var 11, .var 12, .var 14]], .con (.bl false)])] [14]) (.lst [])) [
.ret (.con (.bl false))] []] [], 
.ite (.not (.call 15 [.call 5 [.call 23 [.var 11, .tup [.con (.int 0), .con (.str [])], .tup [.con (.int 5), .con (.str [122, 122])]]], .con (.bl false)])) [
.ret (.con (.bl false))] [], 
.asg (.nm 15) (.lst [.con .non, .tup [], .bi .list [.var 11], .slc (.var 11) none (some (.con (.int 3))), .bin .add (.var 11) (.tup [.con (.int 1)]), .bin .add (.tup [.idx (.var 11) (.con (.int 0)), .con (.str [65])]) (.slc (.var 11) (some (.con (.int 2))) none), .bin .add (.bin .add (.slc (.var 11) none (some (.con (.int 2)))) (.tup [.con (.str [34])])) (.slc (.var 11) (some (.con (.int 3))) none), .bin .add (.slc (.var 11) none (some (.con (.int 3)))) (.tup [.con .non]), .bin .add (.slc (.var 11) none (some (.con (.int 3)))) (.tup [.lst []]), .bin .add (.slc (.var 11) none (some (.con (.int 3)))) (.tup [.tup [.con .non]])]), 
.ite (.cmp .ne (.lc (.var 16) (.nm 16) (.seq (.var 15)) [.not (.call 15 [.call 5 [.var 16], .con (.bl false)])] [16]) (.lst [])) [
.ret (.con (.bl false))] [], 
.asg (.nm 17) (.lc (.var 14) (.nm 14) (.seq (.lst [.tup [.con (.int 0), .con (.str [])], .tup [.con (.int 1), .con (.str [97])], .tup [.con (.int 1000000), .con (.str [97, 98, 99, 100, 101, 102])]])) [.cmp .is (.call 3 [.var 14]) (.con (.bl true))] [14]), 
.ret (.and (.cmp .eq (.bi .len [.var 17]) (.con (.int 3))) (.cmp .eq (.lc (.var 14) (.nm 14) (.seq (.lst [.con .non, .tup [.con (.int 0), .con (.str [97])], .tup [.con (.int 1), .con (.str [])], .tup [.neg (.con (.int 1)), .con (.str [97])], .tup [.con (.int 1000001), .con (.str [97])], .tup [.con (.int 1), .con (.str [65])], .tup [.con (.bl true), .con (.str [97])], .tup [.con (.bl false), .con (.str [])], .lst [.con (.int 0), .con (.str [])], .tup [.con (.int 1)], .con (.int 5)])) [.cmp .isnot (.call 3 [.var 14]) (.con (.bl false))] [14]) (.lst [])))]⟩
def G : GT := [(Str.ofString "is_number", GE.fn 0 3),
  (Str.ofString "is_word", GE.fn 1 1),
  (Str.ofString "are_signs", GE.fn 2 1),
  (Str.ofString "is_key", GE.fn 3 1),
  (Str.ofString "keys_behind", GE.fn 4 2),
  (Str.ofString "is_keyed", GE.fn 5 1),
  (Str.ofString "plain", GE.fn 6 1),
  (Str.ofString "keys_of", GE.fn 7 1),
  (Str.ofString "path_of", GE.fn 8 2),
  (Str.ofString "key_at", GE.fn 9 2),
  (Str.ofString "keyed_anew", GE.fn 10 3),
  (Str.ofString "keyed_from", GE.fn 11 4),
  (Str.ofString "_law_draws", GE.fn 12 1),
  (Str.ofString "_law_take", GE.fn 13 2),
  (Str.ofString "_law_alike", GE.fn 14 2),
  (Str.ofString "_law_says", GE.fn 15 2),
  (Str.ofString "_law_word", GE.word 16),
  (Str.ofString "_law_tree", GE.fn 17 3),
  (Str.ofString "_law_size", GE.fn 18 1),
  (Str.ofString "_law_paths", GE.fn 19 2),
  (Str.ofString "_law_with", GE.fn 20 3),
  (Str.ofString "_law_told", GE.fn 21 3),
  (Str.ofString "_law_keyed", GE.fn 22 2),
  (Str.ofString "_law_swapped", GE.fn 23 3),
  (Str.ofString "law", GE.fn 24 1),
  (Str.ofString "TreeError", GE.cls 0),
  (Str.ofString "OutOfRange", GE.cls 1),
  (Str.ofString "Malformed", GE.cls 2),
  (Str.ofString "NotThere", GE.cls 3),
  (Str.ofString "Refused", GE.cls 4),
  (Str.ofString "TooMuch", GE.cls 5),
  (Str.ofString "MOST_WORD", GE.con (.int 6)),
  (Str.ofString "MOST_SIGNS", GE.con (.int 20)),
  (Str.ofString "MOST_NODES", GE.con (.int 200)),
  (Str.ofString "MOST_DEEP", GE.con (.int 30)),
  (Str.ofString "LETTERS", GE.con (.str [97, 98, 99, 100, 101, 102, 103, 104, 105, 106, 107, 108, 109, 110, 111, 112, 113, 114, 115, 116, 117, 118, 119, 120, 121, 122])),
  (Str.ofString "MOST_COUNT", GE.con (.int 1000000)),
  (Str.ofString "ROOT", GE.con (.tup [.int 0, .str []])),
  (Str.ofString "abs", GE.blt),
  (Str.ofString "all", GE.blt),
  (Str.ofString "bool", GE.blt),
  (Str.ofString "enumerate", GE.blt),
  (Str.ofString "int", GE.blt),
  (Str.ofString "isinstance", GE.blt),
  (Str.ofString "len", GE.blt),
  (Str.ofString "list", GE.blt),
  (Str.ofString "range", GE.blt),
  (Str.ofString "reversed", GE.blt),
  (Str.ofString "set", GE.blt),
  (Str.ofString "str", GE.blt),
  (Str.ofString "sum", GE.blt),
  (Str.ofString "tuple", GE.blt)]
def e0 : DefE := ⟨⟨("is_number", none), "is_number", "is_number", defArgs (top 8), defBody (top 8), defScope (top 8), [], []⟩, [Str.ofString "value", Str.ofString "least", Str.ofString "most"], [Str.ofString "value", Str.ofString "least", Str.ofString "most"], 0, b0⟩
def e1 : DefE := ⟨⟨("is_word", none), "is_word", "is_word", defArgs (top 15), defBody (top 15), defScope (top 15), [], []⟩, [Str.ofString "value"], [Str.ofString "value", Str.ofString "sign"], 1, b1⟩
def e2 : DefE := ⟨⟨("are_signs", none), "are_signs", "are_signs", defArgs (top 16), defBody (top 16), defScope (top 16), [], []⟩, [Str.ofString "value"], [Str.ofString "value", Str.ofString "sign"], 1, b2⟩
def e3 : DefE := ⟨⟨("is_key", none), "is_key", "is_key", defArgs (top 20), defBody (top 20), defScope (top 20), [], []⟩, [Str.ofString "value"], [Str.ofString "value"], 0, b3⟩
def e4 : DefE := ⟨⟨("keys_behind", none), "keys_behind", "keys_behind", defArgs (top 21), defBody (top 21), defScope (top 21), [], []⟩, [Str.ofString "value", Str.ofString "deep"], [Str.ofString "value", Str.ofString "deep", Str.ofString "found", Str.ofString "one", Str.ofString "inner"], 0, b4⟩
def e5 : DefE := ⟨⟨("is_keyed", none), "is_keyed", "is_keyed", defArgs (top 22), defBody (top 22), defScope (top 22), [], []⟩, [Str.ofString "value"], [Str.ofString "value", Str.ofString "found"], 0, b5⟩
def e6 : DefE := ⟨⟨("plain", none), "plain", "plain", defArgs (top 23), defBody (top 23), defScope (top 23), [], []⟩, [Str.ofString "tree"], [Str.ofString "tree", Str.ofString "one"], 0, b6⟩
def e7 : DefE := ⟨⟨("keys_of", none), "keys_of", "keys_of", defArgs (top 24), defBody (top 24), defScope (top 24), [], []⟩, [Str.ofString "tree"], [Str.ofString "tree", Str.ofString "found", Str.ofString "one"], 0, b7⟩
def e8 : DefE := ⟨⟨("path_of", none), "path_of", "path_of", defArgs (top 25), defBody (top 25), defScope (top 25), [], []⟩, [Str.ofString "tree", Str.ofString "key"], [Str.ofString "tree", Str.ofString "key", Str.ofString "place", Str.ofString "one"], 0, b8⟩
def e9 : DefE := ⟨⟨("key_at", none), "key_at", "key_at", defArgs (top 26), defBody (top 26), defScope (top 26), [], []⟩, [Str.ofString "tree", Str.ofString "path"], [Str.ofString "tree", Str.ofString "path", Str.ofString "place"], 0, b9⟩
def e10 : DefE := ⟨⟨("keyed_anew", none), "keyed_anew", "keyed_anew", defArgs (top 27), defBody (top 27), defScope (top 27), [], []⟩, [Str.ofString "tree", Str.ofString "site", Str.ofString "first"], [Str.ofString "tree", Str.ofString "site", Str.ofString "first"], 0, b10⟩
def e11 : DefE := ⟨⟨("keyed_from", none), "keyed_from", "keyed_from", defArgs (top 28), defBody (top 28), defScope (top 28), [], []⟩, [Str.ofString "tree", Str.ofString "site", Str.ofString "counts", Str.ofString "is_root"], [Str.ofString "tree", Str.ofString "site", Str.ofString "counts", Str.ofString "is_root", Str.ofString "key", Str.ofString "inner", Str.ofString "one"], 0, b11⟩
def e12 : DefE := ⟨⟨("_law_draws", none), "_law_draws", "_law_draws", defArgs (top 30), defBody (top 30), defScope (top 30), [], []⟩, [Str.ofString "script"], [Str.ofString "script", Str.ofString "draws", Str.ofString "cell", Str.ofString "number", Str.ofString "first", Str.ofString "k", Str.ofString "seed"], 0, b12⟩
def e13 : DefE := ⟨⟨("_law_take", none), "_law_take", "_law_take", defArgs (top 31), defBody (top 31), defScope (top 31), [], []⟩, [Str.ofString "draws", Str.ofString "bound"], [Str.ofString "draws", Str.ofString "bound"], 0, b13⟩
def e14 : DefE := ⟨⟨("_law_alike", none), "_law_alike", "_law_alike", defArgs (top 32), defBody (top 32), defScope (top 32), [], []⟩, [Str.ofString "found", Str.ofString "due"], [Str.ofString "found", Str.ofString "due", Str.ofString "k"], 0, b14⟩
def e15 : DefE := ⟨⟨("_law_says", none), "_law_says", "_law_says", defArgs (top 33), defBody (top 33), defScope (top 33), [], []⟩, [Str.ofString "told", Str.ofString "due"], [Str.ofString "told", Str.ofString "due"], 0, b15⟩
def e16 : DefE := ⟨⟨("_law_word", none), "_law_word", "_law_word", defArgs (top 34), defBody (top 34), defScope (top 34), [], []⟩, [Str.ofString "e"], [Str.ofString "e", Str.ofString "kinds", Str.ofString "one"], 0, b16⟩
def e17 : DefE := ⟨⟨("_law_tree", none), "_law_tree", "_law_tree", defArgs (top 35), defBody (top 35), defScope (top 35), [], []⟩, [Str.ofString "draws", Str.ofString "most", Str.ofString "deep"], [Str.ofString "draws", Str.ofString "most", Str.ofString "deep", Str.ofString "word", Str.ofString "signs", Str.ofString "left", Str.ofString "found", Str.ofString "part"], 0, b17⟩
def e18 : DefE := ⟨⟨("_law_size", none), "_law_size", "_law_size", defArgs (top 36), defBody (top 36), defScope (top 36), [], []⟩, [Str.ofString "tree"], [Str.ofString "tree", Str.ofString "one"], 0, b18⟩
def e19 : DefE := ⟨⟨("_law_paths", none), "_law_paths", "_law_paths", defArgs (top 37), defBody (top 37), defScope (top 37), [], []⟩, [Str.ofString "tree", Str.ofString "path"], [Str.ofString "tree", Str.ofString "path", Str.ofString "found", Str.ofString "k"], 0, b19⟩
def e20 : DefE := ⟨⟨("_law_with", none), "_law_with", "_law_with", defArgs (top 38), defBody (top 38), defScope (top 38), [], []⟩, [Str.ofString "tree", Str.ofString "path", Str.ofString "other"], [Str.ofString "tree", Str.ofString "path", Str.ofString "other", Str.ofString "parts"], 0, b20⟩
def e21 : DefE := ⟨⟨("_law_told", none), "_law_told", "_law_told", defArgs (top 39), defBody (top 39), defScope (top 39), [], []⟩, [Str.ofString "which", Str.ofString "tree", Str.ofString "one"], [Str.ofString "which", Str.ofString "tree", Str.ofString "one", Str.ofString "e"], 0, b21⟩
def e22 : DefE := ⟨⟨("_law_keyed", none), "_law_keyed", "_law_keyed", defArgs (top 40), defBody (top 40), defScope (top 40), [], []⟩, [Str.ofString "tree", Str.ofString "keys"], [Str.ofString "tree", Str.ofString "keys", Str.ofString "key", Str.ofString "parts", Str.ofString "one"], 0, b22⟩
def e23 : DefE := ⟨⟨("_law_swapped", none), "_law_swapped", "_law_swapped", defArgs (top 41), defBody (top 41), defScope (top 41), [], []⟩, [Str.ofString "tree", Str.ofString "old", Str.ofString "new"], [Str.ofString "tree", Str.ofString "old", Str.ofString "new", Str.ofString "key", Str.ofString "one"], 0, b23⟩
def e24 : DefE := ⟨⟨("law", none), "law", "law", defArgs (top 42), defBody (top 42), defScope (top 42), [], []⟩, [Str.ofString "script"], [Str.ofString "script", Str.ofString "draws", Str.ofString "tree", Str.ofString "paths", Str.ofString "site", Str.ofString "first", Str.ofString "told", Str.ofString "keys", Str.ofString "k", Str.ofString "left", Str.ofString "mixed", Str.ofString "other", Str.ofString "one", Str.ofString "bad", Str.ofString "key", Str.ofString "odd", Str.ofString "value", Str.ofString "good"], 0, b24⟩
def defs : List DefE := [e0, e1, e2, e3, e4, e5, e6, e7, e8, e9, e10, e11, e12, e13, e14, e15, e16, e17, e18, e19, e20, e21, e22, e23, e24]
theorem o0 : DefOk G e0 := ⟨⟨rfl, rfl, rfl, by decide +kernel, rfl, by decide +kernel, by decide +kernel⟩, rfl, rfl, .inl (by decide +kernel), by decide, fun _ _ _ _ _ _ us hl => match us, hl with | [_, _, _], _ => rfl⟩
theorem o1 : DefOk G e1 := ⟨⟨rfl, rfl, rfl, by decide +kernel, rfl, by decide +kernel, by decide +kernel⟩, rfl, rfl, .inl (by decide +kernel), by decide, fun _ _ _ _ _ _ us hl => match us, hl with | [_], _ => rfl⟩
theorem o2 : DefOk G e2 := ⟨⟨rfl, rfl, rfl, by decide +kernel, rfl, by decide +kernel, by decide +kernel⟩, rfl, rfl, .inl (by decide +kernel), by decide, fun _ _ _ _ _ _ us hl => match us, hl with | [_], _ => rfl⟩
theorem o3 : DefOk G e3 := ⟨⟨rfl, rfl, rfl, by decide +kernel, rfl, by decide +kernel, by decide +kernel⟩, rfl, rfl, .inl (by decide +kernel), by decide, fun _ _ _ _ _ _ us hl => match us, hl with | [_], _ => rfl⟩
theorem o4 : DefOk G e4 := ⟨⟨rfl, rfl, rfl, by decide +kernel, rfl, by decide +kernel, by decide +kernel⟩, rfl, rfl, .inl (by decide +kernel), by decide, fun _ _ _ _ _ _ us hl => match us, hl with | [_, _], _ => rfl⟩
theorem o5 : DefOk G e5 := ⟨⟨rfl, rfl, rfl, by decide +kernel, rfl, by decide +kernel, by decide +kernel⟩, rfl, rfl, .inl (by decide +kernel), by decide, fun _ _ _ _ _ _ us hl => match us, hl with | [_], _ => rfl⟩
theorem o6 : DefOk G e6 := ⟨⟨rfl, rfl, rfl, by decide +kernel, rfl, by decide +kernel, by decide +kernel⟩, rfl, rfl, .inl (by decide +kernel), by decide, fun _ _ _ _ _ _ us hl => match us, hl with | [_], _ => rfl⟩
theorem o7 : DefOk G e7 := ⟨⟨rfl, rfl, rfl, by decide +kernel, rfl, by decide +kernel, by decide +kernel⟩, rfl, rfl, .inl (by decide +kernel), by decide, fun _ _ _ _ _ _ us hl => match us, hl with | [_], _ => rfl⟩
theorem o8 : DefOk G e8 := ⟨⟨rfl, rfl, rfl, by decide +kernel, rfl, by decide +kernel, by decide +kernel⟩, rfl, rfl, .inl (by decide +kernel), by decide, fun _ _ _ _ _ _ us hl => match us, hl with | [_, _], _ => rfl⟩
theorem o9 : DefOk G e9 := ⟨⟨rfl, rfl, rfl, by decide +kernel, rfl, by decide +kernel, by decide +kernel⟩, rfl, rfl, .inl (by decide +kernel), by decide, fun _ _ _ _ _ _ us hl => match us, hl with | [_, _], _ => rfl⟩
theorem o10 : DefOk G e10 := ⟨⟨rfl, rfl, rfl, by decide +kernel, rfl, by decide +kernel, by decide +kernel⟩, rfl, rfl, .inl (by decide +kernel), by decide, fun _ _ _ _ _ _ us hl => match us, hl with | [_, _, _], _ => rfl⟩
theorem o11 : DefOk G e11 := ⟨⟨rfl, rfl, rfl, by decide +kernel, rfl, by decide +kernel, by decide +kernel⟩, rfl, rfl, .inl (by decide +kernel), by decide, fun _ _ _ _ _ _ us hl => match us, hl with | [_, _, _, _], _ => rfl⟩
theorem o12 : DefOk G e12 := ⟨⟨rfl, rfl, rfl, by decide +kernel, rfl, by decide +kernel, by decide +kernel⟩, rfl, rfl, .inl (by decide +kernel), by decide, fun _ _ _ _ _ _ us hl => match us, hl with | [_], _ => rfl⟩
theorem o13 : DefOk G e13 := ⟨⟨rfl, rfl, rfl, by decide +kernel, rfl, by decide +kernel, by decide +kernel⟩, rfl, rfl, .inl (by decide +kernel), by decide, fun _ _ _ _ _ _ us hl => match us, hl with | [_, _], _ => rfl⟩
theorem o14 : DefOk G e14 := ⟨⟨rfl, rfl, rfl, by decide +kernel, rfl, by decide +kernel, by decide +kernel⟩, rfl, rfl, .inl (by decide +kernel), by decide, fun _ _ _ _ _ _ us hl => match us, hl with | [_, _], _ => rfl⟩
theorem o15 : DefOk G e15 := ⟨⟨rfl, rfl, rfl, by decide +kernel, rfl, by decide +kernel, by decide +kernel⟩, rfl, rfl, .inl (by decide +kernel), by decide, fun _ _ _ _ _ _ us hl => match us, hl with | [_, _], _ => rfl⟩
theorem o16 : DefOk G e16 := ⟨⟨rfl, rfl, rfl, by decide +kernel, rfl, by decide +kernel, by decide +kernel⟩, rfl, rfl, .inr ⟨rfl, by decide +kernel⟩, by decide, fun _ _ _ _ _ _ us hl => match us, hl with | [_], _ => rfl⟩
theorem o17 : DefOk G e17 := ⟨⟨rfl, rfl, rfl, by decide +kernel, rfl, by decide +kernel, by decide +kernel⟩, rfl, rfl, .inl (by decide +kernel), by decide, fun _ _ _ _ _ _ us hl => match us, hl with | [_, _, _], _ => rfl⟩
theorem o18 : DefOk G e18 := ⟨⟨rfl, rfl, rfl, by decide +kernel, rfl, by decide +kernel, by decide +kernel⟩, rfl, rfl, .inl (by decide +kernel), by decide, fun _ _ _ _ _ _ us hl => match us, hl with | [_], _ => rfl⟩
theorem o19 : DefOk G e19 := ⟨⟨rfl, rfl, rfl, by decide +kernel, rfl, by decide +kernel, by decide +kernel⟩, rfl, rfl, .inl (by decide +kernel), by decide, fun _ _ _ _ _ _ us hl => match us, hl with | [_, _], _ => rfl⟩
theorem o20 : DefOk G e20 := ⟨⟨rfl, rfl, rfl, by decide +kernel, rfl, by decide +kernel, by decide +kernel⟩, rfl, rfl, .inl (by decide +kernel), by decide, fun _ _ _ _ _ _ us hl => match us, hl with | [_, _, _], _ => rfl⟩
theorem o21 : DefOk G e21 := ⟨⟨rfl, rfl, rfl, by decide +kernel, rfl, by decide +kernel, by decide +kernel⟩, rfl, rfl, .inl (by decide +kernel), by decide, fun _ _ _ _ _ _ us hl => match us, hl with | [_, _, _], _ => rfl⟩
theorem o22 : DefOk G e22 := ⟨⟨rfl, rfl, rfl, by decide +kernel, rfl, by decide +kernel, by decide +kernel⟩, rfl, rfl, .inl (by decide +kernel), by decide, fun _ _ _ _ _ _ us hl => match us, hl with | [_, _], _ => rfl⟩
theorem o23 : DefOk G e23 := ⟨⟨rfl, rfl, rfl, by decide +kernel, rfl, by decide +kernel, by decide +kernel⟩, rfl, rfl, .inl (by decide +kernel), by decide, fun _ _ _ _ _ _ us hl => match us, hl with | [_, _, _], _ => rfl⟩
theorem o24 : DefOk G e24 := ⟨⟨rfl, rfl, rfl, by decide +kernel, rfl, by decide +kernel, by decide +kernel⟩, rfl, rfl, .inl (by decide +kernel), by decide, fun _ _ _ _ _ _ us hl => match us, hl with | [_], _ => rfl⟩
end LW
end

section -- PG
set_option autoImplicit false
set_option linter.all false
set_option maxRecDepth 10000
namespace L3
/-- common data: nothing mutable, not deep, short texts -/
def D.nice : Nat → D → Bool
  | n + 1, .tup xs => niceL n xs
  | n + 1, .lv _ xs => niceL n xs
  | 0, .tup _ => false
  | 0, .lv _ _ => false
  | _, .ref _ => false
  | _, .scr _ => false
  | _, .str s => okS s && decide (s.length ≤ 1000)
  | _, _ => true
where niceL (n : Nat) : List D → Bool
  | [] => true
  | x :: xs => D.nice n x && niceL n xs
theorem nice_fit_aux : ∀ (n : Nat) (d : D), (d.nice n = true → d.fit n = true ∧ d.fit (n + 1) = true ∧ d.nice (n + 1) = true ∧ d.lt 0 = true) := by
  intro n
  induction n with
  | zero => intro d; cases d <;> simp [D.nice, D.fit, D.lt] <;> (intros; simp_all)
  | succ n ih =>
    have ihL : ∀ xs : List D, D.nice.niceL n xs = true → D.fit.fitL n xs = true ∧ D.fit.fitL (n + 1) xs = true ∧ D.nice.niceL (n + 1) xs = true ∧ D.lt.ltL 0 xs = true := by
      intro xs
      induction xs with
      | nil => intro _; exact ⟨rfl, rfl, rfl, rfl⟩
      | cons x xs ihx =>
        intro h
        simp only [D.nice.niceL, Bool.and_eq_true] at h
        have h1 := ih x h.1
        have h2 := ihx h.2
        simp [D.fit.fitL, D.nice.niceL, D.lt.ltL, h1, h2]
    intro d
    cases d with
    | tup xs => intro h; have := ihL xs (by simpa [D.nice] using h); simpa [D.nice, D.fit, D.lt] using this
    | lv o xs => intro h; have := ihL xs (by simpa [D.nice] using h); simpa [D.nice, D.fit, D.lt] using this
    | _ => simp [D.nice, D.fit, D.lt] <;> (intros; simp_all)
theorem nice_fit {n : Nat} {d : D} (h : d.nice n = true) : d.fit n = true := (nice_fit_aux n d h).1
theorem nice_succ {n : Nat} {d : D} (h : d.nice n = true) : d.nice (n + 1) = true := (nice_fit_aux n d h).2.2.1
theorem nice_lt {n : Nat} {d : D} (h : d.nice n = true) : d.lt 0 = true := (nice_fit_aux n d h).2.2.2
theorem nice_mono {m n : Nat} {d : D} (h : d.nice m = true) (hl : m ≤ n) : d.nice n = true := by
  induction hl with
  | refl => exact h
  | step _ ih => exact nice_succ ih
theorem niceL_mem {n : Nat} : ∀ {xs : List D}, D.nice.niceL n xs = true → ∀ x ∈ xs, x.nice n = true
  | [], _, x, hx => by cases hx
  | y :: ys, h, x, hx => by
    simp only [D.nice.niceL, Bool.and_eq_true] at h
    rcases List.mem_cons.mp hx with rfl | hx
    · exact h.1
    · exact niceL_mem h.2 x hx
theorem nice_rd {n : Nat} {d : D} {s : S} (h : d.nice n = true) : d.rd s = d := by
  cases d <;> first | rfl | (cases n <;> simp [D.nice] at h)
theorem nice_frz {n : Nat} {d : D} (h : d.nice n = true) : d.frz.nice n = true := by
  cases d <;> first | exact h | (cases n <;> simp_all [D.nice])
end L3
namespace LG
open L3
def bNum : Fn := ⟨3, 0, [
.ret (.and (.isa (.var 0) .int) (.and (.not (.isa (.var 0) .bool)) (.chain .le .le (.var 1) (.var 0) (.var 2))))]⟩
def bWord : Fn := ⟨1, 1, [
.ret (.and (.isa (.var 0) .str) (.and (.chain .le .le (.con (.int 1)) (.bi .len [.var 0]) (.glob (.int 6))) (.gen true (.cmp .inn (.var 1) (.glob (.str [97, 98, 99, 100, 101, 102, 103, 104, 105, 106, 107, 108, 109, 110, 111, 112, 113, 114, 115, 116, 117, 118, 119, 120, 121, 122]))) (.nm 1) (.seq (.var 0)) [] [1])))]⟩
def bSigns : Fn := ⟨1, 1, [
.ite (.or (.not (.isa (.var 0) .str)) (.cmp .gt (.bi .len [.var 0]) (.glob (.int 20)))) [
.ret (.con (.bl false))] [], 
.ret (.gen true (.and (.chain .le .le (.con (.str [32])) (.var 1) (.con (.str [126]))) (.cmp .notin (.var 1) (.con (.str [92, 34])))) (.nm 1) (.seq (.var 0)) [] [1])]⟩
def bDraws : Fn := ⟨1, 6, [
.asg (.nm 1) (.cell (.lst [])), 
.forr (.nm 2) (.seq (.var 0)) [
.asg (.nm 3) (.bi .abs [.var 2]), 
.ite (.cmp .lt (.var 3) (.bin .pow (.con (.int 10)) (.con (.int 18)))) [
.asg (.nm 4) (.bin .mod (.bi .int [.bin .add (.bin .mul (.var 3) (.con (.int 48271))) (.con (.int 11))]) (.con (.int 2147483647))), 
.expr (.mm .append (.var 1) [.bin .mod (.bi .int [.bin .add (.bin .mul (.var 4) (.con (.int 69621))) (.var 3)]) (.con (.int 2147483629))]), 
.expr (.mm .append (.var 1) [.bin .mod (.bi .int [.bin .add (.var 4) (.bin .fdiv (.var 3) (.con (.int 7)))]) (.con (.int 1000003))]), 
.asg (.nm 3) (.con (.int 0))] [], 
.forr (.nm 5) (.rng1 (.con (.int 60))) [
.ite (.cmp .gt (.var 3) (.con (.int 0))) [
.expr (.mm .append (.var 1) [.bin .mod (.bi .int [.var 3]) (.con (.int 997))]), 
.asg (.nm 3) (.bin .fdiv (.var 3) (.con (.int 997)))] []]], 
.asg (.nm 6) (.con (.int 1)), 
.ite (.cmp .gt (.bi .len [.var 0]) (.con (.int 0))) [
.asg (.nm 6) (.bin .add (.con (.int 1)) (.bi .abs [.idx (.var 0) (.con (.int 0))]))] [], 
.forr (.nm 5) (.rng1 (.con (.int 900))) [
.asg (.nm 6) (.bin .mod (.bi .int [.bin .add (.bin .mul (.var 6) (.con (.int 48271))) (.con (.int 69621))]) (.con (.int 2147483647))), 
.expr (.mm .append (.var 1) [.bin .fdiv (.var 6) (.con (.int 5))])], 
.ret (.rev (.var 1))]⟩
def bTake : Fn := ⟨2, 0, [
.ite (.cmp .eq (.bi .len [.var 0]) (.con (.int 0))) [
.ret (.con (.int 0))] [], 
.ret (.bin .mod (.bi .int [.mm .pop (.var 0) []]) (.var 1))]⟩
variable {w n : Nat} {s : S} {F : Array Fn} {i0 : Nat}
def isNum (v : D) (a b : Int) : Bool := match v with | .int i => decide (a ≤ i) && decide (i ≤ b) | _ => false
def letters : List Nat := [97, 98, 99, 100, 101, 102, 103, 104, 105, 106, 107, 108, 109, 110, 111, 112, 113, 114, 115, 116, 117, 118, 119, 120, 121, 122]
def isWord : D → Bool
  | .str z => decide (1 ≤ z.length) && (decide (z.length ≤ 6) && z.all (fun c => letters.contains c))
  | _ => false
theorem r_num (hF : F[i0]? = some bNum) {v : D} {a b : Int} {k : Nat} (hv : v.nice k = true) : calls F w (n + 1) i0 [v, .int a, .int b] s = .ok (.bl (isNum v a b)) s := by
  rw [calls_eq (b := bNum) hF]
  cases v with
  | int i => 
    simp [run, bNum, isNum]
    by_cases h : a ≤ i <;> simp [h]
  | ref m => cases k <;> simp [D.nice] at hv
  | scr m => cases k <;> simp [D.nice] at hv
  | _ => simp [run, bNum, isNum]
theorem c_num (hF : F[i0]? = some bNum) {v : D} {a b : Int} {k : Nat} (hv : v.nice k = true) : callR (calls F w (n + 1) i0) [v, .int a, .int b] s = .ok (.bl (isNum v a b)) s := callR_pure (r_num hF hv) rfl
theorem nice_str {k : Nat} {z : List Nat} (h : (D.str z).nice k = true) : okS z = true ∧ z.length ≤ 1000 := by
  cases k <;> simpa [D.nice] using h
theorem big_len {z : List Nat} (h : z.length ≤ 1000) : z.length ≤ big := by rw [bigN]; omega
theorem r_word (hF : F[i0]? = some bWord) {v : D} {k : Nat} (hv : v.nice k = true) : calls F w (n + 1) i0 [v] s = .ok (.bl (isWord v)) s := by
  rw [calls_eq (b := bWord) hF]
  cases v with
  | str z =>
    have hb := big_len (nice_str hv).2
    have key : ∀ s : S, geL true (geT (calls F w n) (.cmp .inn (.var 1) (.glob (.str letters))) (.nm 1) [] [1] [some (.str z), none]) (z.map fun c => .str [c]) s = .ok (.bl (z.all fun c => letters.contains c)) s := fun s => by
      rw [geL_all (p := fun d => match d with | .str [c] => letters.contains c | _ => false)]
      · simp [List.all_map, Function.comp_def]
      · intro x hx
        obtain ⟨c, _, rfl⟩ := List.mem_map.mp hx
        simp [geT]
    unfold letters at key
    simp [run, bWord, isWord, hb, letters, key]
    by_cases h1 : 1 ≤ z.length
    · by_cases h2 : z.length ≤ 6
      · have h2' : (z.length : Int) ≤ 6 := by omega
        have h1' : (1 : Int) ≤ z.length := by omega
        simp [h1, h2, h1', h2']
      · have h2' : ¬ (z.length : Int) ≤ 6 := by omega
        have h1' : (1 : Int) ≤ z.length := by omega
        simp [h1, h2, h1', h2']
    · have h1' : ¬ (1 : Int) ≤ z.length := by omega
      simp [h1, h1']
  | ref m => cases k <;> simp [D.nice] at hv
  | scr m => cases k <;> simp [D.nice] at hv
  | _ => simp [run, bWord, isWord]
theorem c_word (hF : F[i0]? = some bWord) {v : D} {k : Nat} (hv : v.nice k = true) : callR (calls F w (n + 1) i0) [v] s = .ok (.bl (isWord v)) s := callR_pure (r_word hF hv) rfl

def signOk (c : Nat) : Bool := decide (32 ≤ c) && (decide (c ≤ 126) && !([92, 34].contains c))
def areSigns : D → Bool
  | .str z => decide (z.length ≤ 20) && z.all signOk
  | _ => false
@[simp] theorem strLt1 (a b : Nat) : strLt [a] [b] = decide (a < b) := by
  unfold strLt
  by_cases h : a = b
  · subst h; simp [strLt]
  · simp [h]
theorem r_signs (hF : F[i0]? = some bSigns) {v : D} {k : Nat} (hv : v.nice k = true) : calls F w (n + 1) i0 [v] s = .ok (.bl (areSigns v)) s := by
  rw [calls_eq (b := bSigns) hF]
  cases v with
  | str z =>
    have hb := big_len (nice_str hv).2
    have key : ∀ s : S, geL true (geT (calls F w n) (.and (.chain .le .le (.con (.str [32])) (.var 1) (.con (.str [126]))) (.cmp .notin (.var 1) (.con (.str [92, 34])))) (.nm 1) [] [1] [some (.str z), none]) (z.map fun c => .str [c]) s = .ok (.bl (z.all signOk)) s := fun s => by
      rw [geL_all (p := fun d => match d with | .str [c] => signOk c | _ => false)]
      · simp [List.all_map, Function.comp_def]
      · intro x hx
        obtain ⟨c, _, rfl⟩ := List.mem_map.mp hx
        simp only [geT, wipe_cons, wipe_nil, List.set_cons_succ, List.set_cons_zero, asg_nm, frz_str, tests_nil, R.bind_ok, if_true, ev_and, ev_chain, ev_con, ev_var, getV_1, R.opt_some, rd_str, cmp_leS, strLt1, Option.map_some, ev_cmp, cmp_notinS]
        by_cases h1 : 32 ≤ c
        · by_cases h2 : c ≤ 126
          · have h1' : ¬ c < 32 := by omega
            have h2' : ¬ 126 < c := by omega
            simp [signOk, h1, h2, h1', h2']
          · have h1' : ¬ c < 32 := by omega
            have h2' : 126 < c := by omega
            simp [signOk, h1, h2, h1', h2']
        · have h1' : c < 32 := by omega
          simp [signOk, h1, h1']
    simp [run, bSigns, areSigns, hb]
    by_cases h1 : z.length ≤ 20
    · have h1' : ¬ (20 : Int) < z.length := by omega
      simp [h1, h1', key]
    · have h1' : (20 : Int) < z.length := by omega
      simp [h1, h1']
  | ref m => cases k <;> simp [D.nice] at hv
  | scr m => cases k <;> simp [D.nice] at hv
  | _ => simp [run, bSigns, areSigns]
theorem c_signs (hF : F[i0]? = some bSigns) {v : D} {k : Nat} (hv : v.nice k = true) : callR (calls F w (n + 1) i0) [v] s = .ok (.bl (areSigns v)) s := callR_pure (r_signs hF hv) rfl
/-- the store with one list of numbers behind what there is -/
def S.dr (s : S) (ns : List Int) : S := ⟨s.cells ++ [.lst (ns.map .int)], s.base, s.up⟩
theorem dr_at {s : S} {ns : List Int} : (S.dr s ns).cells[s.cells.length]? = some (.lst (ns.map .int)) := by simp [S.dr]
theorem dr_rd {s : S} {ns : List Int} : (D.ref s.cells.length).rd (S.dr s ns) = .lv false (ns.map .int) := by
  show (match (S.dr s ns).cells[s.cells.length]? with | some (.lst xs) => D.lv false xs | _ => D.ref s.cells.length) = _
  rw [dr_at]
theorem dr_cell {s : S} {ns : List Int} : cellOf (.ref s.cells.length) (S.dr s ns) = some s.cells.length := by
  unfold cellOf
  simp [S.dr]
theorem ints_lt (ns : List Int) : D.lt.ltL 0 (ns.map .int) = true := by
  induction ns with
  | nil => rfl
  | cons a r ih => simpa [D.lt.ltL, D.lt] using ih
theorem dr_put {s : S} {ns ms : List Int} : (S.dr s ns).put s.cells.length (.lst (ms.map .int)) = S.dr s ms := by
  unfold S.put
  have : (MO.lst (ms.map .int)).lt 0 = true := ints_lt ms
  rw [if_pos this]
  simp [S.dr]
theorem dr_app {s : S} {ns : List Int} {x : Int} (h : ns.length < 16777216) : mmS .append s.cells.length [.int x] (S.dr s ns) = .ok .non (S.dr s (ns ++ [x])) := by
  unfold mmS
  rw [dr_at]
  show (if _ then _ else _) = _
  rw [if_pos (by rw [bigN]; simpa using h)]
  rw [show ns.map D.int ++ [D.int x] = (ns ++ [x]).map D.int by simp, dr_put]
/-- one turn of the loop that takes a number apart -/
theorem draws_in {C : Nat → List D → S → R D} {s0 : S} {d : D} {o2 o4 o5 o6 : Option D} {m : Int} {ns : List Int} (hz : ns.length ≤ 100000) : ∃ m' ns' o5',
    foL (foT C w (.nm 5) [
.ite (.cmp .gt (.var 3) (.con (.int 0))) [
.expr (.mm .append (.var 1) [.bin .mod (.bi .int [.var 3]) (.con (.int 997))]),
.asg (.nm 3) (.bin .fdiv (.var 3) (.con (.int 997)))] []]) ((List.range 60).map fun (j : Nat) => D.int j) [some d, some (.ref s0.cells.length), o2, some (.int m), o4, o5, o6] (S.dr s0 ns) =
      .nx [some d, some (.ref s0.cells.length), o2, some (.int m'), o4, o5', o6] (S.dr s0 ns') ∧ ns'.length ≤ ns.length + 60 := by
  obtain ⟨e', s', h1, m', ns', o5', h2, h3, h4⟩ := foL_inv (f := foT C w (.nm 5) [
.ite (.cmp .gt (.var 3) (.con (.int 0))) [
.expr (.mm .append (.var 1) [.bin .mod (.bi .int [.var 3]) (.con (.int 997))]),
.asg (.nm 3) (.bin .fdiv (.var 3) (.con (.int 997)))] []]) (xs := (List.range 60).map fun (j : Nat) => D.int j) (k := 0) (P := fun k e s' => ∃ m' ns' o5', e = [some d, some (.ref s0.cells.length), o2, some (.int m'), o4, o5', o6] ∧ s' = S.dr s0 ns' ∧ ns'.length ≤ ns.length + k)
    (e := [some d, some (.ref s0.cells.length), o2, some (.int m), o4, o5, o6]) (s := S.dr s0 ns) ⟨m, ns, o5, rfl, rfl, by omega⟩ (fun i x e s' hx hp => by
      obtain ⟨m', ns', o5', rfl, rfl, hl⟩ := hp
      have hi : i < 60 := by
        have := (List.getElem?_eq_some_iff.mp hx).1
        simpa using this
      by_cases hm : 0 < m'
      · refine ⟨_, _, .inl ?_, m' / 997, ns' ++ [m' % 997], some x.frz, rfl, rfl, by simp; omega⟩
        simp [foT, hm, dr_cell, dr_app (show ns'.length < 16777216 by omega)]
      · refine ⟨_, _, .inl ?_, m', ns', some x.frz, rfl, rfl, by omega⟩
        simp [foT, hm])
  refine ⟨m', ns', o5', by rw [h1, h2, h3], ?_⟩
  simpa using h4
theorem draws_out {C : Nat → List D → S → R D} {s0 : S} {d : D} {is : List Int} (hz : is.length ≤ 1000) {o3 o4 o5 o6 o2 : Option D} : ∃ ns' o2' o3' o4' o5',
    foL (foT C w (.nm 2) [
.asg (.nm 3) (.bi .abs [.var 2]),
.ite (.cmp .lt (.var 3) (.bin .pow (.con (.int 10)) (.con (.int 18)))) [
.asg (.nm 4) (.bin .mod (.bi .int [.bin .add (.bin .mul (.var 3) (.con (.int 48271))) (.con (.int 11))]) (.con (.int 2147483647))),
.expr (.mm .append (.var 1) [.bin .mod (.bi .int [.bin .add (.bin .mul (.var 4) (.con (.int 69621))) (.var 3)]) (.con (.int 2147483629))]),
.expr (.mm .append (.var 1) [.bin .mod (.bi .int [.bin .add (.var 4) (.bin .fdiv (.var 3) (.con (.int 7)))]) (.con (.int 1000003))]),
.asg (.nm 3) (.con (.int 0))] [],
.forr (.nm 5) (.rng1 (.con (.int 60))) [
.ite (.cmp .gt (.var 3) (.con (.int 0))) [
.expr (.mm .append (.var 1) [.bin .mod (.bi .int [.var 3]) (.con (.int 997))]),
.asg (.nm 3) (.bin .fdiv (.var 3) (.con (.int 997)))] []]]) (is.map D.int) [some d, some (.ref s0.cells.length), o2, o3, o4, o5, o6] (S.dr s0 []) =
      .nx [some d, some (.ref s0.cells.length), o2', o3', o4', o5', o6] (S.dr s0 ns') ∧ ns'.length ≤ 62 * is.length := by
  have w1 : wide 48271 = true := by decide
  have w2 : wide 69621 = true := by decide
  have w3 : wide 10 = true := by decide
  obtain ⟨e', s', h1, ns', o2', o3', o4', o5', h2, h3, h4⟩ := foL_inv (f := foT C w (.nm 2) [
.asg (.nm 3) (.bi .abs [.var 2]),
.ite (.cmp .lt (.var 3) (.bin .pow (.con (.int 10)) (.con (.int 18)))) [
.asg (.nm 4) (.bin .mod (.bi .int [.bin .add (.bin .mul (.var 3) (.con (.int 48271))) (.con (.int 11))]) (.con (.int 2147483647))),
.expr (.mm .append (.var 1) [.bin .mod (.bi .int [.bin .add (.bin .mul (.var 4) (.con (.int 69621))) (.var 3)]) (.con (.int 2147483629))]),
.expr (.mm .append (.var 1) [.bin .mod (.bi .int [.bin .add (.var 4) (.bin .fdiv (.var 3) (.con (.int 7)))]) (.con (.int 1000003))]),
.asg (.nm 3) (.con (.int 0))] [],
.forr (.nm 5) (.rng1 (.con (.int 60))) [
.ite (.cmp .gt (.var 3) (.con (.int 0))) [
.expr (.mm .append (.var 1) [.bin .mod (.bi .int [.var 3]) (.con (.int 997))]),
.asg (.nm 3) (.bin .fdiv (.var 3) (.con (.int 997)))] []]]) (xs := is.map D.int) (k := 0) (P := fun k e s' => ∃ ns' o2' o3' o4' o5', e = [some d, some (.ref s0.cells.length), o2', o3', o4', o5', o6] ∧ s' = S.dr s0 ns' ∧ ns'.length ≤ 62 * k)
    (e := [some d, some (.ref s0.cells.length), o2, o3, o4, o5, o6]) (s := S.dr s0 []) ⟨[], o2, o3, o4, o5, rfl, rfl, by simp⟩ (fun i x e s' hx hp => by
      obtain ⟨ns', o2', o3', o4', o5', rfl, rfl, hl⟩ := hp
      have hi : i < is.length := by
        have := (List.getElem?_eq_some_iff.mp hx).1
        simpa using this
      obtain ⟨z, rfl⟩ : ∃ z, x = .int z := by
        rw [List.getElem?_map] at hx
        cases q : is[i]? with
        | none => rw [q] at hx; cases hx
        | some z => rw [q] at hx; cases hx; exact ⟨z, rfl⟩
      have hr := rng1D_nat (k := 60) (by omega)
      simp only [Int.cast_ofNat_Int] at hr
      generalize ha : (if z < 0 then -z else z) = a
      by_cases hm : a < 1000000000000000000
      · obtain ⟨m2, ns2, o52, k1, k2⟩ := draws_in (w := w) (C := C) (s0 := s0) (d := d) (o2 := some (.int z)) (o4 := some (.int ((a * 48271 + 11) % 2147483647))) (o5 := o5') (o6 := o6) (m := 0) (ns := ns' ++ [((a * 48271 + 11) % 2147483647 * 69621 + a) % 2147483629] ++ [((a * 48271 + 11) % 2147483647 + a / 7) % 1000003]) (by simp; omega)
        refine ⟨_, _, .inl ?_, ns2, some (.int z), some (.int m2), some (.int ((a * 48271 + 11) % 2147483647)), o52, rfl, rfl, by simp at k2; omega⟩
        simp [foT, ha, w3, hm, w1, w2, dr_cell, dr_app (show ns'.length < 16777216 by omega), dr_app (show (ns' ++ [((a * 48271 + 11) % 2147483647 * 69621 + a) % 2147483629]).length < 16777216 by simp; omega), hr]
        simp at k1
        rw [k1]
        rfl
      · obtain ⟨m2, ns2, o52, k1, k2⟩ := draws_in (w := w) (C := C) (s0 := s0) (d := d) (o2 := some (.int z)) (o4 := o4') (o5 := o5') (o6 := o6) (m := a) (ns := ns') (by omega)
        refine ⟨_, _, .inl ?_, ns2, some (.int z), some (.int m2), o4', o52, rfl, rfl, by omega⟩
        simp [foT, ha, w3, hm, hr, k1])
  refine ⟨ns', o2', o3', o4', o5', by rw [h1, h2, h3], ?_⟩
  simpa using h4
theorem draws_end {C : Nat → List D → S → R D} {s0 : S} {d : D} {ns : List Int} (hz : ns.length ≤ 100000) {m : Int} {o2 o3 o4 o5 : Option D} : ∃ m' ns' o5',
    foL (foT C w (.nm 5) [
.asg (.nm 6) (.bin .mod (.bi .int [.bin .add (.bin .mul (.var 6) (.con (.int 48271))) (.con (.int 69621))]) (.con (.int 2147483647))),
.expr (.mm .append (.var 1) [.bin .fdiv (.var 6) (.con (.int 5))])]) ((List.range 900).map fun (j : Nat) => D.int j) [some d, some (.ref s0.cells.length), o2, o3, o4, o5, some (.int m)] (S.dr s0 ns) =
      .nx [some d, some (.ref s0.cells.length), o2, o3, o4, o5', some (.int m')] (S.dr s0 ns') := by
  have w1 : wide 48271 = true := by decide
  obtain ⟨e', s', h1, m', ns', o5', h2, h3, h4⟩ := foL_inv (f := foT C w (.nm 5) [
.asg (.nm 6) (.bin .mod (.bi .int [.bin .add (.bin .mul (.var 6) (.con (.int 48271))) (.con (.int 69621))]) (.con (.int 2147483647))),
.expr (.mm .append (.var 1) [.bin .fdiv (.var 6) (.con (.int 5))])]) (xs := (List.range 900).map fun (j : Nat) => D.int j) (k := 0) (P := fun k e s' => ∃ m' ns' o5', e = [some d, some (.ref s0.cells.length), o2, o3, o4, o5', some (.int m')] ∧ s' = S.dr s0 ns' ∧ ns'.length ≤ ns.length + k)
    (e := [some d, some (.ref s0.cells.length), o2, o3, o4, o5, some (.int m)]) (s := S.dr s0 ns) ⟨m, ns, o5, rfl, rfl, by omega⟩ (fun i x e s' hx hp => by
      obtain ⟨m', ns', o5', rfl, rfl, hl⟩ := hp
      have hi : i < 900 := by
        have := (List.getElem?_eq_some_iff.mp hx).1
        simpa using this
      refine ⟨_, _, .inl ?_, (m' * 48271 + 69621) % 2147483647, ns' ++ [(m' * 48271 + 69621) % 2147483647 / 5], some x.frz, rfl, rfl, by simp; omega⟩
      simp [foT, w1, dr_cell, dr_app (show ns'.length < 16777216 by omega)])
  exact ⟨m', ns', o5', by rw [h1, h2, h3]⟩
theorem callR_dr {f : List D → S → R D} {vs : List D} {s : S} {d : D} {ns : List Int} (h : f vs s.ent = .ok d (S.dr s.ent ns)) (hd : d.lt 0 = true) : callR f vs s = .ok d s := by
  have h' : f vs ⟨s.cells, s.cells.length, none⟩ = .ok d (S.dr s.ent ns) := h
  unfold callR
  rw [h']
  have hv : (S.dr s.ent ns).viol = false := rfl
  have hg : S.gone s (S.dr s.ent ns) = s := by unfold S.gone S.dr S.ent; simp
  have hl : d.lt (S.dr s.ent ns).base = true := D.lt_of_le (Nat.zero_le _) hd
  unfold norm
  simp only [hv, Bool.false_eq_true, if_false]
  cases d with
  | ref m => simp [D.lt] at hd
  | _ => simp [hl, hg]
theorem newCell_lst {xs : List D} : newCell (.lv true xs) s = .ok (.ref s.cells.length) ⟨s.cells ++ [.lst xs], s.base, s.up⟩ := rfl
theorem r_draws (hF : F[i0]? = some bDraws) {is : List Int} {dd : D} (hd : dd = .scr is ∨ dd = .lv false (is.map .int)) (hz : is.length ≤ 1000) : ∃ ns ms : List Int, calls F w (n + 1) i0 [dd] s = .ok (.lv true (ns.map .int)) (S.dr s ms) := by
  rw [calls_eq (b := bDraws) hF]
  obtain ⟨ns1, o2, o3, o4, o5, k1, k2⟩ := draws_out (w := w) (C := calls F w n) (s0 := s) (d := dd) (is := is) hz (o2 := none) (o3 := none) (o4 := none) (o5 := none) (o6 := none)
  have hr := rng1D_nat (k := 900) (by omega)
  simp only [Int.cast_ofNat_Int] at hr
  have hq : ∀ s : S, seqOf s dd = some (.fix (is.map D.int)) := fun s => by rcases hd with rfl | rfl <;> rfl
  have hlen : bi .len [dd] = some (.int is.length) := by rcases hd with rfl | rfl <;> simp
  have hrd : ∀ s, dd.rd s = dd := fun s => by rcases hd with rfl | rfl <;> rfl
  have hfr : dd.frz = dd := by rcases hd with rfl | rfl <;> rfl
  have key : ∀ m : Int, ∃ m' ns' o5', foL _ _ _ _ = .nx _ _ := fun m => draws_end (w := w) (C := calls F w n) (s0 := s) (d := dd) (ns := ns1) (by omega) (m := m) (o2 := o2) (o3 := o3) (o4 := o4) (o5 := o5)
  have fin : ∀ ns' : List Int, revOf (.lv false (ns'.map D.int)) = some (.lv true (ns'.reverse.map D.int)) := fun ns' => by simp [revOf]
  have cl : S.mk (s.cells ++ [.lst []]) s.base s.up = S.dr s [] := rfl
  by_cases he : 0 < is.length
  · obtain ⟨z, hz0⟩ : ∃ z, idx2 dd (.int 0) = some (.int z) := by
      refine ⟨is[0], ?_⟩
      rcases hd with rfl | rfl
      · simp [List.getElem?_eq_getElem he]
      · simp [List.getElem?_eq_getElem he]
    obtain ⟨m', ns', o5', k3⟩ := key (1 + if z < 0 then -z else z)
    refine ⟨ns'.reverse, ns', ?_⟩
    simp [run, bDraws, newCell_lst, cl, hq, k1, hfr, hrd, hlen, he, hz0, hr, k3, dr_rd, fin]
  · obtain ⟨m', ns', o5', k3⟩ := key 1
    refine ⟨ns'.reverse, ns', ?_⟩
    simp [run, bDraws, newCell_lst, cl, hq, k1, hfr, hrd, hlen, he, hr, k3, dr_rd, fin]
theorem c_draws (hF : F[i0]? = some bDraws) {is : List Int} {dd : D} (hd : dd = .scr is ∨ dd = .lv false (is.map .int)) (hz : is.length ≤ 1000) : ∃ ns : List Int, callR (calls F w (n + 1) i0) [dd] s = .ok (.lv true (ns.map .int)) s := by
  obtain ⟨ns, ms, h⟩ := r_draws (w := w) (n := n) (s := s.ent) hF hd hz
  exact ⟨ns, callR_dr h (by show D.lt.ltL 0 _ = true; exact ints_lt ns)⟩
theorem dr_pop {s : S} {ns : List Int} {x : Int} : mmS .pop s.cells.length [] (S.dr s (ns ++ [x])) = .ok (.int x) (S.dr s ns) := by
  unfold mmS
  rw [dr_at]
  have e : (ns ++ [x]).map D.int = ns.map D.int ++ [D.int x] := by simp
  simp only [e, mutI, List.getLast?_concat, List.dropLast_concat, dr_put]
theorem c_take (hF : F[i0]? = some bTake) {ns : List Int} {lim : Int} (hl : 0 < lim) : ∃ (r : Int) (ms : List Int), callR (calls F w (n + 1) i0) [.ref s.cells.length, .int lim] (S.dr s ns) = .ok (.int r) (S.dr s ms) ∧ 0 ≤ r ∧ r < lim := by
  have key : ∃ (r : Int) (ms : List Int), calls F w (n + 1) i0 [.ref s.cells.length, .int lim] (S.dr ⟨s.cells, s.cells.length + 1, none⟩ ns) = .ok (.int r) (S.dr ⟨s.cells, s.cells.length + 1, none⟩ ms) ∧ 0 ≤ r ∧ r < lim := by
    rw [calls_eq (b := bTake) hF]
    generalize hs : S.mk s.cells (s.cells.length + 1) none = t
    have hc : s.cells.length = t.cells.length := by rw [← hs]
    rw [hc]
    rcases List.eq_nil_or_concat ns with rfl | ⟨ms, x, rfl⟩
    · refine ⟨0, [], ?_, by omega, hl⟩
      simp [run, bTake, dr_rd]
    · rw [List.concat_eq_append]
      refine ⟨x % lim, ms, ?_, Int.emod_nonneg _ (by omega), Int.emod_lt_of_pos _ hl⟩
      have hne : ¬ ((ms.length : Int) + 1 = 0) := by omega
      simp [run, bTake, dr_rd, hne, dr_cell, dr_pop, hl]
  obtain ⟨r, ms, h, h1, h2⟩ := key
  refine ⟨r, ms, ?_, h1, h2⟩
  have he : S.mk (S.dr s ns).cells (S.dr s ns).cells.length none = S.dr ⟨s.cells, s.cells.length + 1, none⟩ ns := by simp [S.dr]
  unfold callR
  rw [he, h]
  show norm (S.dr s ns) (.int r) _ = _
  unfold norm
  have hv : (S.dr ⟨s.cells, s.cells.length + 1, none⟩ ms).viol = false := rfl
  rw [hv]
  simp only [Bool.false_eq_true, if_false]
  have h0 : ∀ k, (D.int r).lt k = true := fun k => rfl
  rw [h0, if_pos rfl]
  congr 1
  unfold S.gone S.dr
  simp
  exact List.take_of_length_le (by simp)
/-- the law's store: the draws alone -/
def ds (ns : List Int) : S := S.dr ⟨[], 0, none⟩ ns
theorem c_take0 (hF : F[i0]? = some bTake) {ns : List Int} {lim : Int} (hl : 0 < lim) : ∃ (r : Int) (ms : List Int), callR (calls F w (n + 1) i0) [.ref 0, .int lim] (ds ns) = .ok (.int r) (ds ms) ∧ 0 ≤ r ∧ r < lim := c_take (s := ⟨[], 0, none⟩) hF hl
end LG
end

section -- PH
set_option autoImplicit false
set_option linter.all false
set_option maxRecDepth 10000
namespace L3
section
variable {C : Nat → List D → S → R D} {w : Nat} {e : Env} {s : S}
@[simp] theorem ev_maxd (a : CE) (k : Int) : ev C (.maxd a k) e s = (ev C a e s).bind fun x s => R.opt (maxdOf (x.rd s) k) s := by simp only [ev]
@[simp] theorem items_enum (a : CE) : items C (.enum a) e s = (ev C a e s).bind fun x s => R.opt (enumOf x) s := by simp only [items]
@[simp] theorem ex_raise (c : Nat) : ex C w (.raise c) e s = .ex c e s := by simp only [ex]
@[simp] theorem enumOf_tup (xs : List D) : enumOf (.tup xs) = some (.fix (enumL xs)) := rfl
@[simp] theorem enumOf_lv (o : Bool) (xs : List D) : enumOf (.lv o xs) = some (.fix (enumL xs)) := rfl
@[simp] theorem bi_sum (o : Bool) (xs : List D) : bi .sum [.lv o xs] = (intsOf xs).map fun ns => .int ns.sum := rfl
@[simp] theorem bi_maxL (o : Bool) (xs : List D) : bi .max [.lv o xs] = (intsOf xs).bind fun ns => (maxI ns).map .int := rfl
@[simp] theorem maxd_lv (o : Bool) (xs : List D) (k : Int) : maxdOf (.lv o xs) k = (intsOf xs).map fun ns => .int ((maxI ns).getD k) := rfl
theorem intsOf_int {α : Type} (f : α → Int) : ∀ xs : List α, intsOf (xs.map fun x => .int (f x)) = some (xs.map f)
  | [] => rfl
  | x :: r => by
    show (intsOf (r.map fun x => .int (f x))).map (f x :: ·) = _
    rw [intsOf_int f r]; rfl
theorem lcL_map {α : Type} {f : D → S → R (Option D)} {emb h : α → D} {s : S} : ∀ {xs : List α} {acc : List D}, acc.length + xs.length ≤ big → (∀ x ∈ xs, f (emb x) s = .ok (some (h x)) s) → lcL f (xs.map emb) acc s = .ok (.lv true (acc ++ xs.map fun x => (h x).frz)) s
  | [], acc, _, _ => by simp [lcL]
  | x :: r, acc, hl, hx => by
    have hl' : acc.length + (r.length + 1) ≤ big := hl
    simp only [List.map_cons, lcL, hx x List.mem_cons_self, R.bind_ok, if_pos (show acc.length < big by omega)]
    rw [lcL_map (by simp; omega) fun y hy => hx y (List.mem_cons_of_mem _ hy)]
    simp
/-- a comprehension that hands nothing on -/
theorem lcL_none {f : D → S → R (Option D)} {s : S} : ∀ {xs : List D}, (∀ x ∈ xs, f x s = .ok none s) → lcL f xs [] s = .ok (.lv true []) s
  | [], _ => rfl
  | x :: r, hx => by
    simp only [lcL, hx x List.mem_cons_self, R.bind_ok]
    exact lcL_none fun y hy => hx y (List.mem_cons_of_mem _ hy)
/-- a loop that leaves the store -/
theorem foL_keep {f : D → Env → S → F} {P : Nat → Env → Prop} {s : S} : ∀ {xs : List D} {k : Nat} {e : Env}, P k e → (∀ i x e, xs[i]? = some x → P (k + i) e → ∃ e', f x e s = .nx e' s ∧ P (k + i + 1) e') → ∃ e', foL f xs e s = .nx e' s ∧ P (k + xs.length) e' := fun {xs k e} h hs => by
  obtain ⟨e', s', h1, h2, h3⟩ := foL_inv (f := f) (P := fun k e t => P k e ∧ t = s) (xs := xs) (k := k) (e := e) (s := s) ⟨h, rfl⟩ fun i x e t hx hp => by
    obtain ⟨hp, rfl⟩ := hp
    obtain ⟨e', h1, h2⟩ := hs i x e hx hp
    exact ⟨e', t, .inl h1, h2, rfl⟩
  subst h3
  exact ⟨e', h1, h2⟩
end
end L3
namespace LG
open L3
inductive T where | nd (w g : List Nat) (ps : List T)
mutual
def tr : T → D
  | .nd w g ps => .tup [.str w, .str g, .tup (trL ps)]
def trL : List T → List D
  | [] => []
  | p :: r => tr p :: trL r
end
theorem trL_eq : ∀ ps : List T, trL ps = ps.map tr
  | [] => by unfold trL; rfl
  | p :: r => by unfold trL; rw [trL_eq r]; rfl
theorem tr_nd (w g : List Nat) (ps : List T) : tr (.nd w g ps) = .tup [.str w, .str g, .tup (ps.map tr)] := by unfold tr; rw [trL_eq]
@[simp] theorem tr_frz (t : T) : (tr t).frz = tr t := by cases t; rw [tr_nd]; rfl
@[simp] theorem tr_rd (t : T) (s : S) : (tr t).rd s = tr t := by cases t; rw [tr_nd]; rfl
mutual
def T.deep : T → Nat
  | .nd _ _ ps => deepL ps + 1
def deepL : List T → Nat
  | [] => 0
  | p :: r => max p.deep (deepL r)
end
mutual
def T.size : T → Nat
  | .nd _ _ ps => sizeL ps + 1
def sizeL : List T → Nat
  | [] => 0
  | p :: r => p.size + sizeL r
end
theorem sizeL_eq : ∀ ps : List T, sizeL ps = (ps.map T.size).sum
  | [] => rfl
  | p :: r => by unfold sizeL; rw [sizeL_eq r]; simp
theorem size_nd (w g : List Nat) (ps : List T) : (T.nd w g ps).size = (ps.map T.size).sum + 1 := by unfold T.size; rw [sizeL_eq]
theorem deep_pos (t : T) : 0 < t.deep := by cases t; unfold T.deep; omega
theorem size_pos (t : T) : 0 < t.size := by cases t; unfold T.size; omega
theorem deepL_mem : ∀ {ps : List T} {p : T}, p ∈ ps → p.deep ≤ deepL ps
  | [], _, h => by cases h
  | q :: r, p, h => by
    unfold deepL
    rcases List.mem_cons.mp h with rfl | h
    · omega
    · have := deepL_mem h; omega
theorem deep_of {w g : List Nat} {ps : List T} {d : Nat} (h : (T.nd w g ps).deep ≤ d + 1) : ∀ p ∈ ps, p.deep ≤ d := fun p hp => by
  have := deepL_mem hp
  unfold T.deep at h
  omega
theorem len_size : ∀ ps : List T, ps.length ≤ (ps.map T.size).sum
  | [] => by simp
  | p :: r => by have := len_size r; have := size_pos p; simp; omega
theorem size_mem : ∀ {ps : List T} {p : T}, p ∈ ps → p.size ≤ (ps.map T.size).sum
  | [], _, h => by cases h
  | q :: r, p, h => by
    rcases List.mem_cons.mp h with rfl | h
    · simp
    · have := size_mem h; simp; omega
theorem size_of {w g : List Nat} {ps : List T} {k : Nat} (h : (T.nd w g ps).size ≤ k) : ∀ p ∈ ps, p.size ≤ k := fun p hp => by
  have := size_mem hp
  rw [size_nd] at h
  omega
theorem len_of {w g : List Nat} {ps : List T} {k : Nat} (h : (T.nd w g ps).size ≤ k) : ps.length < k := by
  have := len_size ps
  rw [size_nd] at h
  omega
variable {w n : Nat} {s : S} {F : Array Fn} {i0 i1 i2 : Nat}
theorem ck (k : Nat) (r : L3.R D) (h : k ≤ 1000) : L3.R.chk (decide (k ≤ big)) r = r := by rw [decide_eq_true (by rw [bigN]; omega)]; rfl
def bSize (i : Nat) : Fn := ⟨1, 1, [.ret (.bin .add (.con (.int 1)) (.bi .sum [.lc (.call i [.var 1]) (.nm 1) (.seq (.idx (.var 0) (.con (.int 2)))) [] [1]]))]⟩
theorem sum_nat (ps : List T) : (ps.map fun p => (p.size : Int)).sum = ((ps.map T.size).sum : Nat) := by
  induction ps with
  | nil => rfl
  | cons p r ih => simp [ih]
theorem r_size (hF : F[i0]? = some (bSize i0)) : ∀ (d : Nat) (t : T), t.deep ≤ d → t.size ≤ 1000 → ∀ n s, calls F w (n + d) i0 [tr t] s = .ok (.int t.size) s
  | 0, t, h, _, n, s => absurd (deep_pos t) (by omega)
  | d + 1, .nd wd g ps, h, hz, n, s => by
    have ih := fun p (hp : p ∈ ps) => r_size hF d p (deep_of h p hp) (size_of hz p hp) n
    rw [show n + (d + 1) = (n + d) + 1 from rfl, calls_eq hF]
    have key : ∀ o, lcL (lcT (calls F w (n + d)) (.call i0 [.var 1]) (.nm 1) [] [1] [some (.tup [.str wd, .str g, .tup (ps.map tr)]), o]) (ps.map tr) [] s = .ok (.lv true (ps.map fun p => .int p.size)) s := fun o => by
      rw [lcL_map (h := fun p => .int p.size) (by rw [bigN]; have := len_of hz; simp; omega)]
      · simp
      · intro p hp
        have : callR (calls F w (n + d) i0) [tr p] s = .ok (.int p.size) s := callR_pure (ih p hp _) rfl
        simp [lcT, this]
    have hs : (1 : Int) + ((ps.map T.size).sum : Nat) = (((ps.map T.size).sum + 1 : Nat) : Int) := by omega
    rw [size_nd, tr_nd]
    simp [run, bSize, key, intsOf_int, sum_nat]
    omega
theorem c_size (hF : F[i0]? = some (bSize i0)) {t : T} {d : Nat} (h : t.deep ≤ d) (hz : t.size ≤ 1000) : callR (calls F w (n + d) i0) [tr t] s = .ok (.int t.size) s := callR_pure (r_size hF d t h hz n _) rfl
end LG
end

section -- PI
set_option autoImplicit false
set_option linter.all false
set_option maxRecDepth 10000
namespace L3
theorem bm_join (o : Bool) (sep : List Nat) (xs : List D) : bm .join (.str sep) [.lv o xs] = (strsOf xs).bind fun ss => if (ss.map (·.length)).sum + sep.length * ss.length ≤ big then some (.str (joinS sep ss)) else none := rfl
theorem strsOf_str {α : Type} (f : α → List Nat) : ∀ xs : List α, strsOf (xs.map fun x => .str (f x)) = some (xs.map f)
  | [] => rfl
  | x :: r => by
    show (strsOf (r.map fun x => .str (f x))).map (f x :: ·) = _
    rw [strsOf_str f r]; rfl
theorem joinS_nil : ∀ xs : List (List Nat), joinS [] xs = xs.flatten
  | [] => rfl
  | [a] => by simp [joinS]
  | a :: b :: r => by
    have := joinS_nil (b :: r)
    simp only [joinS, List.append_nil, this, List.flatten_cons]
theorem joinS_32 : ∀ xs : List (List Nat), xs ≠ [] → [32] ++ joinS [32] xs = (xs.map (32 :: ·)).flatten
  | [], h => absurd rfl h
  | [a], _ => by simp [joinS]
  | a :: b :: r, _ => by
    have := joinS_32 (b :: r) (by simp)
    simp only [joinS, List.map_cons, List.flatten_cons] at this ⊢
    rw [← this]; simp
theorem addS_ok {a b : List Nat} (h : a.length + b.length ≤ 16777216) : bin2 .add (.str a) (.str b) = some (.str (a ++ b)) := by
  show (if _ then _ else _) = _
  rw [if_pos (by rw [bigN]; exact h)]
theorem join_ok {sep : List Nat} {o : Bool} {xs : List D} {ss : List (List Nat)} (h1 : strsOf xs = some ss) (h : (ss.map (·.length)).sum + sep.length * ss.length ≤ 16777216) : bm .join (.str sep) [.lv o xs] = some (.str (joinS sep ss)) := by
  rw [bm_join, h1]
  show (if _ then _ else _) = _
  rw [if_pos (by rw [bigN]; exact h)]
end L3
namespace LG
open L3
variable {w n : Nat} {s : S} {F : Array Fn} {i0 i1 i2 : Nat}
theorem deep_nd (w g : List Nat) (ps : List T) : (T.nd w g ps).deep = deepL ps + 1 := by unfold T.deep; rfl
theorem deepL_cons (p : T) (r : List T) : deepL (p :: r) = max p.deep (deepL r) := by conv => lhs; unfold deepL
theorem fold_deep : ∀ (ps : List T) (a : Nat), (ps.map fun p => (p.deep : Int)).foldl (fun m x => if m < x then x else m) (a : Int) = ((max a (deepL ps) : Nat) : Int)
  | [], a => by simp [deepL]
  | p :: r, a => by
    simp only [List.map_cons, List.foldl_cons]
    have e : (if (a : Int) < (p.deep : Int) then (p.deep : Int) else (a : Int)) = ((max a p.deep : Nat) : Int) := by split <;> omega
    rw [e, fold_deep r, deepL_cons]
    congr 1
    omega
theorem maxI_deep (ps : List T) : (maxI (ps.map fun p => (p.deep : Int))).getD 0 = ((deepL ps : Nat) : Int) := by
  cases ps with
  | nil => rfl
  | cons p r =>
    show (r.map fun p => (p.deep : Int)).foldl (fun m x => if m < x then x else m) (p.deep : Int) = _
    rw [fold_deep, deepL_cons]
theorem maxI_deep0 (ps : List T) : maxI ((0 : Int) :: ps.map fun p => (p.deep : Int)) = some ((deepL ps : Nat) : Int) := by
  show some ((ps.map fun p => (p.deep : Int)).foldl (fun m x => if m < x then x else m) ((0 : Nat) : Int)) = _
  rw [fold_deep]
  simp
def bDepth (i : Nat) : Fn := ⟨1, 1, [.ret (.bin .add (.con (.int 1)) (.maxd (.lc (.call i [.var 1]) (.nm 1) (.seq (.idx (.var 0) (.con (.int 2)))) [] [1]) 0))]⟩
def bDeep (i : Nat) : Fn := ⟨1, 1, [.ret (.bin .add (.con (.int 1)) (.bi .max [.bin .add (.lst [.con (.int 0)]) (.lc (.call i [.var 1]) (.nm 1) (.seq (.idx (.var 0) (.con (.int 2)))) [] [1])]))]⟩
/-- a number of each part -/
theorem key_lc {f : T → Int} {d : Nat} {wd g : List Nat} {ps : List T} (hz : (T.nd wd g ps).size ≤ 1000) (h : ∀ p ∈ ps, ∀ s, calls F w (n + d) i0 [tr p] s = .ok (.int (f p)) s) (o : Option D) (s : S) :
    lcL (lcT (calls F w (n + d)) (.call i0 [.var 1]) (.nm 1) [] [1] [some (.tup [.str wd, .str g, .tup (ps.map tr)]), o]) (ps.map tr) [] s = .ok (.lv true (ps.map fun p => .int (f p))) s := by
  rw [lcL_map (h := fun p => .int (f p)) (by rw [bigN]; have := len_of hz; simp; omega)]
  · simp
  · intro p hp
    have : callR (calls F w (n + d) i0) [tr p] s = .ok (.int (f p)) s := callR_pure (h p hp _) rfl
    simp [lcT, this]
theorem r_depth (hF : F[i0]? = some (bDepth i0)) : ∀ (d : Nat) (t : T), t.deep ≤ d → t.size ≤ 1000 → ∀ n s, calls F w (n + d) i0 [tr t] s = .ok (.int t.deep) s
  | 0, t, h, _, n, s => absurd (deep_pos t) (by omega)
  | d + 1, .nd wd g ps, h, hz, n, s => by
    have ih := fun p (hp : p ∈ ps) => r_depth hF d p (deep_of h p hp) (size_of hz p hp) n
    rw [show n + (d + 1) = (n + d) + 1 from rfl, calls_eq hF]
    have key := key_lc (f := fun p => (p.deep : Int)) hz ih
    rw [deep_nd, tr_nd]
    simp [run, bDepth, key, intsOf_int, maxI_deep]
    omega
theorem c_depth (hF : F[i0]? = some (bDepth i0)) {t : T} {d : Nat} (h : t.deep ≤ d) (hz : t.size ≤ 1000) : callR (calls F w (n + d) i0) [tr t] s = .ok (.int t.deep) s := callR_pure (r_depth hF d t h hz n _) rfl
theorem r_deep (hF : F[i0]? = some (bDeep i0)) : ∀ (d : Nat) (t : T), t.deep ≤ d → t.size ≤ 1000 → ∀ n s, calls F w (n + d) i0 [tr t] s = .ok (.int t.deep) s
  | 0, t, h, _, n, s => absurd (deep_pos t) (by omega)
  | d + 1, .nd wd g ps, h, hz, n, s => by
    have ih := fun p (hp : p ∈ ps) => r_deep hF d p (deep_of h p hp) (size_of hz p hp) n
    rw [show n + (d + 1) = (n + d) + 1 from rfl, calls_eq hF]
    have key := key_lc (f := fun p => (p.deep : Int)) hz ih
    have hl : 1 + ps.length ≤ 1000 := by have := len_of hz; omega
    have hb : 1 + ps.length ≤ big := by rw [bigN]; omega
    have hi : intsOf (.int 0 :: ps.map fun p => .int (p.deep : Int)) = some ((0 : Int) :: ps.map fun p => (p.deep : Int)) := by
      show (intsOf (ps.map fun p => .int (p.deep : Int))).map ((0 : Int) :: ·) = _
      rw [intsOf_int]; rfl
    rw [deep_nd, tr_nd]
    simp [run, bDeep, key, ck, hb, hi, maxI_deep0]
    omega
theorem c_deep (hF : F[i0]? = some (bDeep i0)) {t : T} {d : Nat} (h : t.deep ≤ d) (hz : t.size ≤ 1000) : callR (calls F w (n + d) i0) [tr t] s = .ok (.int t.deep) s := callR_pure (r_deep hF d t h hz n _) rfl
mutual
def wr : T → List Nat
  | .nd w g ps => w ++ [34] ++ g ++ [34, 123] ++ (wrL ps ++ (if ps.isEmpty then [] else [32])) ++ [125]
def wrL : List T → List Nat
  | [] => []
  | p :: r => 32 :: (wr p ++ wrL r)
end
theorem wrL_eq : ∀ ps : List T, wrL ps = (ps.map fun p => 32 :: wr p).flatten
  | [] => by unfold wrL; rfl
  | p :: r => by unfold wrL; rw [wrL_eq r]; simp
theorem wr_nd (w g : List Nat) (ps : List T) : wr (.nd w g ps) = w ++ [34] ++ g ++ [34, 123] ++ (wrL ps ++ (if ps.isEmpty then [] else [32])) ++ [125] := by conv => lhs; unfold wr
theorem wrL_len : ∀ {ps : List T} {p : T}, p ∈ ps → (wr p).length < (wrL ps).length
  | [], _, h => by cases h
  | q :: r, p, h => by
    unfold wrL
    rcases List.mem_cons.mp h with rfl | h
    · simp; omega
    · have := wrL_len h; simp; omega
theorem wr_of {w g : List Nat} {ps : List T} {k : Nat} (h : (wr (.nd w g ps)).length ≤ k) : ∀ p ∈ ps, (wr p).length ≤ k := fun p hp => by
  have := wrL_len hp
  rw [wr_nd] at h
  simp at h
  omega
theorem sum_wr (ps : List T) : ((ps.map wr).map (·.length)).sum + ps.length = (wrL ps).length := by
  induction ps with
  | nil => rfl
  | cons p r ih => unfold wrL; simp at ih ⊢; omega
def bWrite (i : Nat) : Fn := ⟨1, 5, [
.asg (.tup [.nm 1, .nm 2, .nm 3]) (.var 0), 
.asg (.nm 4) (.ite (.cmp .gt (.bi .len [.var 3]) (.con (.int 0))) (.bin .add (.bin .add (.con (.str [32])) (.bm .join (.con (.str [32])) [.lc (.call i [.var 5]) (.nm 5) (.seq (.var 3)) [] [5]])) (.con (.str [32]))) (.con (.str []))), 
.ret (.bin .add (.bin .add (.bin .add (.bin .add (.bin .add (.var 1) (.con (.str [34]))) (.var 2)) (.con (.str [34, 123]))) (.var 4)) (.con (.str [125])))]⟩
theorem r_write (hF : F[i0]? = some (bWrite i0)) : ∀ (d : Nat) (t : T), t.deep ≤ d → (wr t).length ≤ 10000 → ∀ n s, calls F w (n + d) i0 [tr t] s = .ok (.str (wr t)) s
  | 0, t, h, _, n, s => absurd (deep_pos t) (by omega)
  | d + 1, .nd wd g ps, h, hz, n, s => by
    have ih := fun p (hp : p ∈ ps) => r_write hF d p (deep_of h p hp) (wr_of hz p hp) n
    rw [show n + (d + 1) = (n + d) + 1 from rfl, calls_eq hF]
    have hz2 := hz
    rw [wr_nd] at hz2
    simp only [List.length_append, List.length_cons, List.length_nil] at hz2
    have hsum := sum_wr ps
    have key : ∀ o, lcL (lcT (calls F w (n + d)) (.call i0 [.var 5]) (.nm 5) [] [5] [some (.tup [.str wd, .str g, .tup (ps.map tr)]), some (.str wd), some (.str g), some (.tup (ps.map tr)), o, none]) (ps.map tr) [] s = .ok (.lv true (ps.map fun p => .str (wr p))) s := fun o => by
      rw [lcL_map (h := fun p => .str (wr p)) (by rw [bigN]; simp; omega)]
      · simp
      · intro p hp
        have : callR (calls F w (n + d) i0) [tr p] s = .ok (.str (wr p)) s := callR_pure (ih p hp _) rfl
        simp [lcT, this]
    rw [wr_nd, tr_nd]
    cases hps : ps with
    | nil =>
      have l1 : wd.length + g.length ≤ 10000 := by omega
      simp (disch := (first | (intro _ hh; cases hh; done) | (simp only [List.length_append, List.length_cons, List.length_nil]; omega))) [run, bWrite, wrL, addS_ok, -bin_addS]
    | cons p r =>
      rw [hps] at key hsum hz2
      have hj := join_ok (sep := [32]) (o := false) (xs := (p :: r).map fun p => .str (wr p)) (strsOf_str wr (p :: r)) (by simp at hsum ⊢; omega)
      have hx := joinS_32 ((p :: r).map wr) (by simp)
      have hw : wrL (p :: r) = [32] ++ joinS [32] ((p :: r).map wr) := by rw [hx, wrL_eq]; simp [Function.comp_def]
      have hl : (joinS [32] ((p :: r).map wr)).length + 1 = (wrL (p :: r)).length := by rw [hw]; simp
      generalize joinS [32] ((p :: r).map wr) = J at hj hx hw hl
      have l1 : wd.length + g.length + J.length ≤ 10000 := by omega
      have hp : (0 : Int) < (r.length : Int) + 1 := by omega
      simp only [List.map_cons] at key hj
      simp (disch := (first | (intro _ hh; cases hh; done) | (simp only [List.length_append, List.length_cons, List.length_nil]; omega))) [run, bWrite, hp, key, hj, hw, addS_ok, -bin_addS]
theorem c_write (hF : F[i0]? = some (bWrite i0)) {t : T} {d : Nat} (h : t.deep ≤ d) (hz : (wr t).length ≤ 10000) : callR (calls F w (n + d) i0) [tr t] s = .ok (.str (wr t)) s := callR_pure (r_write hF d t h hz n _) rfl
def bText (i : Nat) : Fn := ⟨1, 2, [
.asg (.nm 1) (.bm .join (.con (.str [])) [.lc (.bin .add (.con (.str [32])) (.call i [.var 2])) (.nm 2) (.seq (.idx (.var 0) (.con (.int 2)))) [] [2]]), 
.ret (.bin .add (.bin .add (.bin .add (.bin .add (.bin .add (.bin .add (.bin .add (.idx (.var 0) (.con (.int 0))) (.con (.str [34]))) (.idx (.var 0) (.con (.int 1)))) (.con (.str [34]))) (.con (.str [123]))) (.var 1)) (.ite (.cmp .ne (.idx (.var 0) (.con (.int 2))) (.tup [])) (.con (.str [32])) (.con (.str [])))) (.con (.str [125])))]⟩
theorem tup_ne (ps : List T) : (cmp2 .ne (.tup (ps.map tr)) (.tup []) = some (!ps.isEmpty)) ∨ ¬ (D.fit 64 (.tup (ps.map tr)) = true) := by
  by_cases h : D.fit 64 (.tup (ps.map tr)) = true
  · refine .inl ?_
    rw [cmp_ne h rfl]
    cases ps <;> rfl
  · exact .inr h
end LG
end

section -- PJ
set_option autoImplicit false
set_option linter.all false
set_option maxRecDepth 10000
namespace LG
open L3
variable {w n : Nat} {s : S} {F : Array Fn} {i0 i1 i2 : Nat}
mutual
def T.ok : T → Bool
  | .nd w g ps => ((okS w && okS g) && (decide (w.length ≤ 1000) && decide (g.length ≤ 1000))) && okL ps
def okL : List T → Bool
  | [] => true
  | p :: r => p.ok && okL r
end
theorem okL_eq : ∀ ps : List T, okL ps = ps.all T.ok
  | [] => rfl
  | p :: r => by conv => lhs; unfold okL
                 rw [okL_eq r]; rfl
theorem ok_nd {w g : List Nat} {ps : List T} (h : (T.nd w g ps).ok = true) : okS w = true ∧ okS g = true ∧ w.length ≤ 1000 ∧ g.length ≤ 1000 ∧ ∀ p ∈ ps, p.ok = true := by
  unfold T.ok at h
  rw [okL_eq] at h
  simp only [Bool.and_eq_true, decide_eq_true_eq, List.all_eq_true] at h
  exact ⟨h.1.1.1, h.1.1.2, h.1.2.1, h.1.2.2, h.2⟩
theorem niceL_all {k : Nat} : ∀ {xs : List D}, (∀ x ∈ xs, x.nice k = true) → D.nice.niceL k xs = true
  | [], _ => rfl
  | x :: xs, h => by simp only [D.nice.niceL, h x List.mem_cons_self, niceL_all fun y hy => h y (List.mem_cons_of_mem _ hy), Bool.and_self]
theorem nice_trD : ∀ (d : Nat) (t : T), t.deep ≤ d → t.ok = true → (tr t).nice (2 * d) = true
  | 0, t, h, _ => absurd (deep_pos t) (by omega)
  | d + 1, .nd wd g ps, h, ho => by
    obtain ⟨h1, h2, h3, h4, h5⟩ := ok_nd ho
    rw [tr_nd, show 2 * (d + 1) = 2 * d + 1 + 1 by omega]
    have : D.nice.niceL (2 * d) (ps.map tr) = true := niceL_all fun x hx => by
      obtain ⟨p, hp, rfl⟩ := List.mem_map.mp hx
      exact nice_trD d p (deep_of h p hp) (h5 p hp)
    simp [D.nice, D.nice.niceL, h1, h2, h3, h4, this]
theorem nice_tr {t : T} {d k : Nat} (h : t.deep ≤ d) (ho : t.ok = true) (hk : 2 * d ≤ k) : (tr t).nice k = true := nice_mono (nice_trD d t h ho) hk
theorem ps_ne {wd g : List Nat} {ps : List T} {d : Nat} (h : (T.nd wd g ps).deep ≤ d) (hd : d ≤ 31) (ho : (T.nd wd g ps).ok = true) : cmp2 .ne (.tup (ps.map tr)) (.tup []) = some (!ps.isEmpty) := by
  have := nice_tr h ho (show 2 * d ≤ 62 by omega)
  rw [tr_nd] at this
  have h2 : D.nice.niceL 61 [.str wd, .str g, .tup (ps.map tr)] = true := this
  have h3 := niceL_mem h2 (.tup (ps.map tr)) (by simp)
  rw [cmp_ne (nice_fit (nice_mono h3 (show 61 ≤ 64 by omega))) rfl]
  cases ps <;> rfl
theorem r_text (hF : F[i0]? = some (bText i0)) : ∀ (d : Nat) (t : T), d ≤ 31 → t.deep ≤ d → t.ok = true → (wr t).length ≤ 10000 → ∀ n s, calls F w (n + d) i0 [tr t] s = .ok (.str (wr t)) s
  | 0, t, _, h, _, _, n, s => absurd (deep_pos t) (by omega)
  | d + 1, .nd wd g ps, hd, h, ho, hz, n, s => by
    have ih := fun p (hp : p ∈ ps) => r_text hF d p (by omega) (deep_of h p hp) ((ok_nd ho).2.2.2.2 p hp) (wr_of hz p hp) n
    have hne := ps_ne h hd ho
    rw [show n + (d + 1) = (n + d) + 1 from rfl, calls_eq hF]
    have hz2 := hz
    rw [wr_nd] at hz2
    simp only [List.length_append, List.length_cons, List.length_nil] at hz2
    have hsum := sum_wr ps
    have key : ∀ o, lcL (lcT (calls F w (n + d)) (.bin .add (.con (.str [32])) (.call i0 [.var 2])) (.nm 2) [] [2] [some (.tup [.str wd, .str g, .tup (ps.map tr)]), o, none]) (ps.map tr) [] s = .ok (.lv true (ps.map fun p => .str (32 :: wr p))) s := fun o => by
      rw [lcL_map (h := fun p => .str (32 :: wr p)) (by rw [bigN]; simp; omega)]
      · simp
      · intro p hp
        have : callR (calls F w (n + d) i0) [tr p] s = .ok (.str (wr p)) s := callR_pure (ih p hp _) rfl
        have hl := wrL_len hp
        have ha := addS_ok (a := [32]) (b := wr p) (by simp; omega)
        simp [lcT, this, ha, -bin_addS]
    have hj := join_ok (sep := []) (o := false) (xs := ps.map fun p => .str (32 :: wr p)) (strsOf_str (fun p => 32 :: wr p) ps) (by
      have : ((ps.map fun p => 32 :: wr p).map (·.length)).sum = (wrL ps).length := by rw [wrL_eq, List.length_flatten]
      rw [this]; simp; omega)
    rw [joinS_nil, ← wrL_eq] at hj
    rw [wr_nd, tr_nd]
    have l1 : wd.length + g.length + (wrL ps).length ≤ 10000 := by omega
    cases hps : ps.isEmpty with
    | true =>
      rw [hps] at hne
      simp (disch := (first | (intro _ hh; cases hh; done) | (simp only [List.length_append, List.length_cons, List.length_nil]; omega))) [run, bText, key, hj, hne, ck, addS_ok, -bin_addS]
    | false =>
      rw [hps] at hne
      simp (disch := (first | (intro _ hh; cases hh; done) | (simp only [List.length_append, List.length_cons, List.length_nil]; omega))) [run, bText, key, hj, hne, ck, addS_ok, -bin_addS]
theorem c_text (hF : F[i0]? = some (bText i0)) {t : T} {d : Nat} (hd : d ≤ 31) (h : t.deep ≤ d) (ho : t.ok = true) (hz : (wr t).length ≤ 10000) : callR (calls F w (n + d) i0) [tr t] s = .ok (.str (wr t)) s := callR_pure (r_text hF d t hd h ho hz n _) rfl
def pD (p : List Nat) : D := .tup (p.map fun (i : Nat) => .int (i : Int))
@[simp] theorem pD_frz (p : List Nat) : (pD p).frz = pD p := rfl
@[simp] theorem pD_rd (p : List Nat) (s : S) : (pD p).rd s = pD p := rfl
def T.sub (t : T) : List T := match t with | .nd _ _ ps => ps
def T.wd (t : T) : List Nat := match t with | .nd w _ _ => w
def T.sg (t : T) : List Nat := match t with | .nd _ g _ => g
theorem tr_eq (t : T) : tr t = .tup [.str t.wd, .str t.sg, .tup (t.sub.map tr)] := by cases t; rw [tr_nd]; rfl
/-- the part at a path -/
def T.at? : T → List Nat → Option T
  | t, [] => some t
  | t, i :: r => match t.sub[i]? with
    | some p => p.at? r
    | none => none
def bPart : Fn := ⟨2, 1, [
.forr (.nm 2) (.seq (.var 1)) [
.asg (.nm 0) (.idx (.idx (.var 0) (.con (.int 2))) (.var 2))], 
.ret (.var 0)]⟩
theorem part_loop {C : Nat → List D → S → R D} : ∀ (p : List Nat) (t u : T) (o1 o2 : Option D), t.at? p = some u → ∃ o2', foL (foT C w (.nm 2) [.asg (.nm 0) (.idx (.idx (.var 0) (.con (.int 2))) (.var 2))]) (p.map fun (i : Nat) => D.int (i : Int)) [some (tr t), o1, o2] s = .nx [some (tr u), o1, o2'] s
  | [], t, u, o1, o2, h => by cases h; exact ⟨o2, rfl⟩
  | i :: r, t, u, o1, o2, h => by
    unfold T.at? at h
    split at h
    · rename_i q hq
      obtain ⟨o, ho⟩ := part_loop (C := C) r q u o1 (some (.int i)) h
      refine ⟨o, ?_⟩
      have e : atI (t.sub.map tr) (i : Int) = some (tr q) := by rw [atI_nat, List.getElem?_map, hq]; rfl
      have h1 : foT C w (.nm 2) [.asg (.nm 0) (.idx (.idx (.var 0) (.con (.int 2))) (.var 2))] (.int (i : Int)) [some (tr t), o1, o2] s = .nx [some (tr q), o1, some (.int i)] s := by
        rw [tr_eq t]
        simp [foT, e]
      rw [List.map_cons]
      unfold foL
      rw [h1]
      exact ho
    · cases h
theorem r_part (hF : F[i0]? = some bPart) {t u : T} {p : List Nat} (h : t.at? p = some u) : calls F w (n + 1) i0 [tr t, pD p] s = .ok (tr u) s := by
  rw [calls_eq hF]
  obtain ⟨o, ho⟩ := part_loop (w := w) (s := s) (C := calls F w n) p t u (some (pD p)) none h
  unfold pD at ho
  simp [run, bPart, pD, ho]
theorem lt_tr {t : T} (ho : t.ok = true) : (tr t).lt 0 = true := nice_lt (nice_tr (Nat.le_refl _) ho (Nat.le_refl _))
theorem at_ok : ∀ {p : List Nat} {t u : T}, t.at? p = some u → t.ok = true → u.ok = true ∧ u.deep + p.length ≤ t.deep ∧ u.size ≤ t.size ∧ (wr u).length ≤ (wr t).length
  | [], t, u, h, ho => by cases h; exact ⟨ho, by simp, Nat.le_refl _, Nat.le_refl _⟩
  | i :: r, t, u, h, ho => by
    unfold T.at? at h
    split at h
    · rename_i q hq
      have hm := List.mem_of_getElem? hq
      cases t with
      | nd wd g ps =>
        obtain ⟨a, b, c, d⟩ := at_ok h ((ok_nd ho).2.2.2.2 q hm)
        have e1 := deepL_mem (show q ∈ ps from hm)
        have e2 := size_mem (show q ∈ ps from hm)
        have e3 := wr_of (w := wd) (g := g) (k := (wr (T.nd wd g ps)).length) (Nat.le_refl _) q (show q ∈ ps from hm)
        rw [deep_nd, size_nd]
        exact ⟨a, by simp; omega, by omega, Nat.le_trans d e3⟩
    · cases h
theorem c_part (hF : F[i0]? = some bPart) {t u : T} {p : List Nat} (h : t.at? p = some u) (ho : t.ok = true) : callR (calls F w (n + 1) i0) [tr t, pD p] s = .ok (tr u) s := callR_pure (r_part hF h) (lt_tr (at_ok h ho).1)
end LG
end

section -- PK
set_option autoImplicit false
set_option linter.all false
set_option maxRecDepth 10000
namespace LG
open L3
variable {w n : Nat} {s : S} {F : Array Fn} {i0 i1 i2 : Nat}
/-- the nodes: path, word, signs -/
abbrev Nd : Type := List Nat × List Nat × List Nat
mutual
def nodesT : T → List Nd
  | .nd w g ps => ([], w, g) :: nodesL ps 0
def nodesL : List T → Nat → List Nd
  | [], _ => []
  | p :: r, i => (nodesT p).map (fun x => (i :: x.1, x.2)) ++ nodesL r (i + 1)
end
theorem nodes_nd (w g : List Nat) (ps : List T) : nodesT (.nd w g ps) = ([], w, g) :: nodesL ps 0 := by conv => lhs; unfold nodesT
theorem nodesL_nil (i : Nat) : nodesL [] i = [] := by conv => lhs; unfold nodesL
theorem nodesL_cons (p : T) (r : List T) (i : Nat) : nodesL (p :: r) i = (nodesT p).map (fun x => (i :: x.1, x.2)) ++ nodesL r (i + 1) := by conv => lhs; unfold nodesL
theorem nodesL_app : ∀ (a b : List T) (i : Nat), nodesL (a ++ b) i = nodesL a i ++ nodesL b (i + a.length)
  | [], b, i => by simp [nodesL_nil]
  | p :: r, b, i => by
    rw [List.cons_append, nodesL_cons, nodesL_cons, nodesL_app r b (i + 1), List.append_assoc, show i + (p :: r).length = i + 1 + r.length by simp; omega]
theorem nodesL_take {ps : List T} {k : Nat} (h : k < ps.length) : nodesL (ps.take (k + 1)) 0 = nodesL (ps.take k) 0 ++ (nodesT ps[k]).map (fun x => (k :: x.1, x.2)) := by
  rw [List.take_add_one, List.getElem?_eq_getElem h, Option.toList_some, nodesL_app, nodesL_cons, nodesL_nil, List.append_nil, List.length_take, Nat.min_eq_left (by omega), Nat.zero_add]
theorem nodes_len : ∀ (d : Nat) (t : T), t.deep ≤ d → (nodesT t).length = t.size
  | 0, t, h => absurd (deep_pos t) (by omega)
  | d + 1, .nd wd g ps, h => by
    have ih := fun p (hp : p ∈ ps) => nodes_len d p (deep_of h p hp)
    have key : ∀ (qs : List T) (i : Nat), (∀ p ∈ qs, p ∈ ps) → (nodesL qs i).length = (qs.map T.size).sum := by
      intro qs
      induction qs with
      | nil => intro i _; rw [nodesL_nil]; rfl
      | cons p r ihr =>
        intro i hq
        rw [nodesL_cons, List.length_append, List.length_map, ih p (hq p List.mem_cons_self), ihr (i + 1) fun q hq' => hq q (List.mem_cons_of_mem _ hq')]
        simp
    rw [nodes_nd, size_nd, List.length_cons, key ps 0 fun _ h => h]
theorem nodes_size (t : T) : (nodesT t).length = t.size := nodes_len _ t (Nat.le_refl _)
/-- what stands at a node's path -/
theorem nodes_at : ∀ (d : Nat) (t : T), t.deep ≤ d → ∀ x ∈ nodesT t, ∃ u, t.at? x.1 = some u ∧ u.wd = x.2.1 ∧ u.sg = x.2.2
  | 0, t, h, _, _ => absurd (deep_pos t) (by omega)
  | d + 1, .nd wd g ps, h, x, hx => by
    have key : ∀ (qs : List T) (i : Nat), (∀ (j : Nat) (p : T), qs[j]? = some p → ps[i + j]? = some p) → ∀ x ∈ nodesL qs i, ∃ u, (T.nd wd g ps).at? x.1 = some u ∧ u.wd = x.2.1 ∧ u.sg = x.2.2 := by
      intro qs
      induction qs with
      | nil => intro i _ x hx; rw [nodesL_nil] at hx; cases hx
      | cons p r ihr =>
        intro i hq x hx
        rw [nodesL_cons] at hx
        rcases List.mem_append.mp hx with hx | hx
        · obtain ⟨y, hy, rfl⟩ := List.mem_map.mp hx
          have hp := hq 0 p rfl
          rw [Nat.add_zero] at hp
          obtain ⟨u, h1, h2, h3⟩ := nodes_at d p (deep_of h p (List.mem_of_getElem? hp)) y hy
          refine ⟨u, ?_, h2, h3⟩
          show (match ps[i]? with | some p => p.at? y.1 | none => none) = _
          rw [hp]
          exact h1
        · exact ihr (i + 1) (fun j q hj => by rw [show i + 1 + j = i + (j + 1) by omega]; exact hq (j + 1) q hj) x hx
    rw [nodes_nd] at hx
    rcases List.mem_cons.mp hx with rfl | hx
    · exact ⟨.nd wd g ps, rfl, rfl, rfl⟩
    · exact key ps 0 (fun j p hj => by rw [Nat.zero_add]; exact hj) x hx
def pthD (t : T) (pre : List Nat) : List D := (nodesT t).map fun x => pD (pre ++ x.1)
def bPaths (i : Nat) : Fn := ⟨2, 2, [
.asg (.nm 2) (.lst [.var 1]), 
.forr (.nm 3) (.rng1 (.bi .len [.idx (.var 0) (.con (.int 2))])) [
.asg (.nm 2) (.bin .add (.var 2) (.call i [.idx (.idx (.var 0) (.con (.int 2))) (.var 3), .bin .add (.var 1) (.tup [.var 3])]))], 
.ret (.var 2)]⟩
theorem lt_pDs {α : Type} (f : α → List Nat) : ∀ xs : List α, D.ltL 0 (xs.map fun x => pD (f x)) = true
  | [] => rfl
  | x :: r => by
    show (D.lt 0 (pD (f x)) && D.ltL 0 (r.map fun x => pD (f x))) = true
    rw [lt_pDs f r, Bool.and_true]
    show D.ltL 0 ((f x).map fun (i : Nat) => D.int (i : Int)) = true
    induction f x with
    | nil => rfl
    | cons a l ih => exact ih
theorem r_paths (hF : F[i0]? = some (bPaths i0)) : ∀ (d : Nat) (t : T) (pre : List Nat), t.deep ≤ d → t.size ≤ 1000 → pre.length + d ≤ 1000 → ∀ n s, calls F w (n + d) i0 [tr t, pD pre] s = .ok (.lv false (pthD t pre)) s
  | 0, t, pre, h, _, _, n, s => absurd (deep_pos t) (by omega)
  | d + 1, .nd wd g ps, pre, h, hz, hp, n, s => by
    have ih := fun p (hp' : p ∈ ps) i => r_paths hF d p (pre ++ [i]) (deep_of h p hp') (size_of hz p hp') (by simp; omega) n
    rw [show n + (d + 1) = (n + d) + 1 from rfl, calls_eq hF]
    have hlen := len_of hz
    have hr := rng1D_nat (k := ps.length) (by omega)
    obtain ⟨e', h1, o3, h2⟩ := foL_keep (f := foT (calls F w (n + d)) w (.nm 3) [.asg (.nm 2) (.bin .add (.var 2) (.call i0 [.idx (.idx (.var 0) (.con (.int 2))) (.var 3), .bin .add (.var 1) (.tup [.var 3])]))]) (s := s)
      (P := fun k e => ∃ o3, e = [some (tr (.nd wd g ps)), some (pD pre), some (.lv false (pD pre :: (nodesL (ps.take k) 0).map fun x => pD (pre ++ x.1))), o3])
      (xs := (List.range ps.length).map fun (j : Nat) => D.int j) (k := 0) (e := [some (tr (.nd wd g ps)), some (pD pre), some (.lv false [pD pre]), none]) ⟨none, by simp [nodesL_nil]⟩ (fun k x e hx he => by
        obtain ⟨o3, rfl⟩ := he
        rw [Nat.zero_add] at *
        obtain ⟨hk, rfl⟩ : k < ps.length ∧ x = .int (k : Int) := by
          rw [List.getElem?_map] at hx
          by_cases hk : k < ps.length
          · rw [List.getElem?_eq_getElem (by simpa using hk)] at hx
            simp at hx
            exact ⟨hk, hx.symm⟩
          · rw [List.getElem?_eq_none (by simpa using hk)] at hx
            cases hx
        have ei : atI (ps.map tr) (k : Int) = some (tr ps[k]) := by rw [atI_nat, List.getElem?_map, List.getElem?_eq_getElem hk]; rfl
        have hc : callR (calls F w (n + d) i0) [tr ps[k], pD (pre ++ [k])] s = .ok (.lv false (pthD ps[k] (pre ++ [k]))) s := callR_pure (ih ps[k] (List.getElem_mem hk) k _) (lt_pDs _ _)
        have b1 : pre.length + 1 ≤ big := by rw [bigN]; omega
        have a1 : bin2 .add (pD pre) (.tup [.int (k : Int)]) = some (pD (pre ++ [k])) := by unfold pD; simp [b1]
        have hsz : (nodesL (ps.take k) 0).length + (nodesT ps[k]).length ≤ 1000 := by
          have h1 : (nodesL (ps.take (k + 1)) 0).length ≤ (nodesT (.nd wd g ps)).length := by
            rw [nodes_nd, List.length_cons]
            have : nodesL ps 0 = nodesL (ps.take (k + 1)) 0 ++ nodesL (ps.drop (k + 1)) (0 + (ps.take (k + 1)).length) := by rw [← nodesL_app, List.take_append_drop]
            rw [this, List.length_append]
            omega
          rw [nodesL_take hk, List.length_append, List.length_map] at h1
          rw [nodes_size (.nd wd g ps)] at h1
          omega
        have b2 : (nodesL (ps.take k) 0).length + 1 + (nodesT ps[k]).length ≤ big := by rw [bigN]; omega
        refine ⟨[some (tr (.nd wd g ps)), some (pD pre), some (.lv false (pD pre :: (nodesL (ps.take (k + 1)) 0).map fun x => pD (pre ++ x.1))), some (.int (k : Int))], ?_, some (.int (k : Int)), rfl⟩
        rw [tr_nd]
        simp [foT, ei, a1, ck, hc, pthD, b2, nodesL_take hk])
    subst h2
    rw [tr_nd] at h1
    simp at h1
    rw [tr_nd]
    simp [run, bPaths, hr, h1, ck, pthD, nodes_nd]
theorem c_paths (hF : F[i0]? = some (bPaths i0)) {t : T} {pre : List Nat} {d : Nat} (h : t.deep ≤ d) (hz : t.size ≤ 1000) (hp : pre.length + d ≤ 1000) : callR (calls F w (n + d) i0) [tr t, pD pre] s = .ok (.lv false (pthD t pre)) s :=
  callR_pure (r_paths hF d t pre h hz hp n _) (lt_pDs _ _)
end LG
end

section -- PL
set_option autoImplicit false
set_option linter.all false
set_option maxRecDepth 10000
namespace LG
open L3
variable {w n : Nat} {s : S} {F : Array Fn} {i0 i1 i2 : Nat} {L M : List D}
/-- the store with one list more -/
def ap (s : S) (L : List D) : S := ⟨s.cells ++ [.lst L], s.base, s.up⟩
theorem ap_at : (ap s L).cells[s.cells.length]? = some (.lst L) := by simp [ap]
theorem ap_rd : (D.ref s.cells.length).rd (ap s L) = .lv false L := by
  show (match (ap s L).cells[s.cells.length]? with | some (.lst xs) => D.lv false xs | _ => D.ref s.cells.length) = _
  rw [ap_at]
theorem ap_cell : cellOf (.ref s.cells.length) (ap s L) = some s.cells.length := by
  unfold cellOf
  simp [ap]
theorem ap_put (h : D.ltL 0 M = true) : (ap s L).put s.cells.length (.lst M) = ap s M := by
  unfold S.put
  rw [if_pos (show (MO.lst M).lt 0 = true from h)]
  simp [ap]
theorem ltL_app : ∀ {L M : List D}, D.ltL 0 L = true → D.ltL 0 M = true → D.ltL 0 (L ++ M) = true
  | [], _, _, h => h
  | x :: r, M, h, h2 => by
    have h : (D.lt 0 x && D.ltL 0 r) = true := h
    rw [Bool.and_eq_true] at h
    show (D.lt 0 x && D.ltL 0 (r ++ M)) = true
    rw [h.1, ltL_app h.2 h2]; rfl
theorem ltL_all : ∀ {L : List D}, (∀ v ∈ L, v.lt 0 = true) → D.ltL 0 L = true
  | [], _ => rfl
  | x :: r, h => by
    show (D.lt 0 x && D.ltL 0 r) = true
    rw [h x List.mem_cons_self, ltL_all fun v hv => h v (List.mem_cons_of_mem _ hv)]; rfl
theorem ap_app {x : D} (h1 : D.ltL 0 L = true) (h2 : x.lt 0 = true) (hl : L.length < 16777216) : mmS .append s.cells.length [x] (ap s L) = .ok .non (ap s (L ++ [x])) := by
  unfold mmS
  rw [ap_at]
  show (if _ then _ else _) = _
  rw [if_pos (by rw [bigN]; exact hl), ap_put (ltL_app h1 (by show (D.lt 0 x && true) = true; rw [h2]; rfl))]
theorem ap_ext {o : Bool} (h1 : D.ltL 0 L = true) (h2 : D.ltL 0 M = true) (hl : L.length + M.length ≤ 16777216) : mmS .extend s.cells.length [.lv o M] (ap s L) = .ok .non (ap s (L ++ M)) := by
  unfold mmS
  rw [ap_at]
  show (if _ then _ else _) = _
  rw [if_pos (by rw [bigN]; exact hl), ap_put (ltL_app h1 h2)]
theorem newCell_ap (L : List D) (s : S) : newCell (.lv true L) s = .ok (.ref s.cells.length) (ap s L) := rfl
/-- a call that hands out the list that it made -/
theorem callR_own {f : List D → S → R D} {vs : List D} (h : f vs s.ent = .ok (.ref s.cells.length) (ap s.ent L)) (hd : D.ltL 0 L = true) : callR f vs s = .ok (.lv true L) s := by
  have h' : f vs ⟨s.cells, s.cells.length, none⟩ = .ok (.ref s.cells.length) (ap s.ent L) := h
  unfold callR
  rw [h']
  have hv : (ap s.ent L).viol = false := rfl
  have hg : S.gone s (ap s.ent L) = s := by unfold S.gone ap S.ent; simp
  have hb : (ap s.ent L).base = s.cells.length := rfl
  have he : s.ent.cells = s.cells := rfl
  have ha : (ap s.ent L).cells[s.cells.length]? = some (.lst L) := by rw [← he]; exact ap_at
  have hl : D.ltL s.cells.length L = true := by
    have : (D.tup L).lt s.cells.length = true := D.lt_of_le (Nat.zero_le _) (show (D.tup L).lt 0 = true from hd)
    exact this
  unfold norm
  simp [hv, hb, ha, hl, hg]
/-- a call whose list goes again -/
theorem callR_ap {f : List D → S → R D} {vs : List D} {d : D} (h : f vs s.ent = .ok d (ap s.ent L)) (hd : d.lt 0 = true) : callR f vs s = .ok d s := by
  have h' : f vs ⟨s.cells, s.cells.length, none⟩ = .ok d (ap s.ent L) := h
  unfold callR
  rw [h']
  have hv : (ap s.ent L).viol = false := rfl
  have hg : S.gone s (ap s.ent L) = s := by unfold S.gone ap S.ent; simp
  have hl : d.lt (ap s.ent L).base = true := D.lt_of_le (Nat.zero_le _) hd
  unfold norm
  simp only [hv, Bool.false_eq_true, if_false]
  cases d with
  | ref m => simp [D.lt] at hd
  | _ => simp [hl, hg]
def ndD (x : Nd) : D := .tup [.str x.2.1, .str x.2.2]
def nodeD (x : Nd) : D := .tup [pD x.1, ndD x]
theorem nodeD_lt (x : Nd) : (nodeD x).lt 0 = true := by
  have := lt_pDs (fun y : Nd => y.1) [x]
  have h2 : (D.lt 0 (pD x.1) && true) = true := this
  show (D.lt 0 (pD x.1) && (D.lt 0 (ndD x) && true)) = true
  rw [Bool.and_true] at h2
  rw [h2]; rfl
theorem nodesD_lt (xs : List Nd) : D.ltL 0 (xs.map nodeD) = true := ltL_all fun v hv => by
  obtain ⟨x, _, rfl⟩ := List.mem_map.mp hv
  exact nodeD_lt x
def bNodes (i : Nat) : Fn := ⟨1, 5, [
.asg (.nm 1) (.cell (.lst [.tup [.tup [], .slc (.var 0) none (some (.con (.int 2)))]])), 
.forr (.tup [.nm 2, .nm 3]) (.enum (.idx (.var 0) (.con (.int 2)))) [
.expr (.mm .extend (.var 1) [.lc (.tup [.tup [.var 2, .star (.var 4)], .var 5]) (.tup [.nm 4, .nm 5]) (.seq (.call i [.var 3])) [] [4, 5]])], 
.ret (.var 1)]⟩
theorem enumL_at {xs : List D} {k : Nat} (h : k < xs.length) : (enumL xs)[k]? = some (.tup [.int (k : Int), xs[k]]) := by
  unfold enumL
  rw [List.getElem?_map, List.getElem?_zipIdx, List.getElem?_eq_getElem h]
  simp
theorem enumL_len (xs : List D) : (enumL xs).length = xs.length := by simp [enumL]
theorem nodesL_le {wd g : List Nat} {ps : List T} {k : Nat} (h : (T.nd wd g ps).size ≤ 1000) (hk : k < ps.length) : (nodesL (ps.take k) 0).length + (nodesT ps[k]).length ≤ 1000 := by
  have h1 : (nodesL (ps.take (k + 1)) 0).length ≤ (nodesT (.nd wd g ps)).length := by
    rw [nodes_nd, List.length_cons]
    have : nodesL ps 0 = nodesL (ps.take (k + 1)) 0 ++ nodesL (ps.drop (k + 1)) (0 + (ps.take (k + 1)).length) := by rw [← nodesL_app, List.take_append_drop]
    rw [this, List.length_append]
    omega
  rw [nodesL_take hk, List.length_append, List.length_map, nodes_size (.nd wd g ps)] at h1
  omega
theorem path_len : ∀ (d : Nat) (t : T), t.deep ≤ d → ∀ x ∈ nodesT t, x.1.length < t.deep := fun d t h x hx => by
  obtain ⟨u, h1, _⟩ := nodes_at d t h x hx
  have key : ∀ (p : List Nat) (t u : T), t.at? p = some u → u.deep + p.length ≤ t.deep := by
    intro p
    induction p with
    | nil => intro t u h; cases h; simp
    | cons i r ih =>
      intro t u h
      unfold T.at? at h
      split at h
      · rename_i q hq
        have := ih q u h
        cases t with
        | nd wd g ps =>
          have e1 := deepL_mem (show q ∈ ps from List.mem_of_getElem? hq)
          rw [deep_nd]
          simp
          omega
      · cases h
  have := key _ _ _ h1
  have := deep_pos u
  omega
theorem r_nodes (hF : F[i0]? = some (bNodes i0)) : ∀ (d : Nat) (t : T), t.deep ≤ d → d ≤ 900 → t.size ≤ 1000 → ∀ n s, calls F w (n + d) i0 [tr t] s = .ok (.ref s.cells.length) (ap s ((nodesT t).map nodeD))
  | 0, t, h, _, _, n, s => absurd (deep_pos t) (by omega)
  | d + 1, .nd wd g ps, h, hd, hz, n, s => by
    have ih := fun p (hp : p ∈ ps) => r_nodes hF d p (deep_of h p hp) (by omega) (size_of hz p hp) n
    rw [show n + (d + 1) = (n + d) + 1 from rfl, calls_eq hF]
    have hlen := len_of hz
    obtain ⟨e', s', h1, o2, o3, h2, h3⟩ := foL_inv (f := foT (calls F w (n + d)) w (.tup [.nm 2, .nm 3]) [.expr (.mm .extend (.var 1) [.lc (.tup [.tup [.var 2, .star (.var 4)], .var 5]) (.tup [.nm 4, .nm 5]) (.seq (.call i0 [.var 3])) [] [4, 5]])])
      (P := fun k e s' => ∃ o2 o3, e = [some (tr (.nd wd g ps)), some (.ref s.cells.length), o2, o3, none, none] ∧ s' = ap s ((([], wd, g) :: nodesL (ps.take k) 0).map nodeD))
      (xs := enumL (ps.map tr)) (k := 0) (e := [some (tr (.nd wd g ps)), some (.ref s.cells.length), none, none, none, none]) (s := ap s ([([], wd, g)].map nodeD)) ⟨none, none, rfl, by rw [List.take_zero, nodesL_nil]⟩ (fun k x e s' hx he => by
        obtain ⟨o2, o3, rfl, rfl⟩ := he
        rw [Nat.zero_add] at *
        have hk : k < ps.length := by
          have := (List.getElem?_eq_some_iff.mp hx).1
          rw [enumL_len, List.length_map] at this
          exact this
        rw [enumL_at (by simpa using hk)] at hx
        have hx := Option.some.inj hx
        rw [List.getElem_map] at hx
        subst hx
        have hc : ∀ s, callR (calls F w (n + d) i0) [tr ps[k]] s = .ok (.lv true ((nodesT ps[k]).map nodeD)) s := fun s => callR_own (ih ps[k] (List.getElem_mem hk) _) (nodesD_lt _)
        have hz2 := nodesL_le hz hk
        have key : ∀ s, lcL (lcT (calls F w (n + d)) (.tup [.tup [.var 2, .star (.var 4)], .var 5]) (.tup [.nm 4, .nm 5]) [] [4, 5] [some (tr (.nd wd g ps)), some (.ref s.cells.length), some (.int (k : Int)), some (tr ps[k]), none, none]) ((nodesT ps[k]).map nodeD) [] (ap s ((([], wd, g) :: nodesL (ps.take k) 0).map nodeD)) = .ok (.lv true (((nodesT ps[k]).map fun x => (k :: x.1, x.2)).map nodeD)) (ap s ((([], wd, g) :: nodesL (ps.take k) 0).map nodeD)) := fun s => by
          rw [lcL_map (h := fun x => nodeD (k :: x.1, x.2)) (by rw [bigN]; simp; omega)]
          · simp [nodeD]
          · intro x hx
            have hl := path_len _ _ (deep_of h ps[k] (List.getElem_mem hk)) x hx
            have hl2 := deep_of h ps[k] (List.getElem_mem hk)
            have b1 : x.1.length + 1 ≤ big := by rw [bigN]; omega
            simp [lcT, nodeD, ndD, pD, b1, ck]
        have hext := ap_ext (s := s) (o := false) (L := (([], wd, g) :: nodesL (ps.take k) 0).map nodeD) (M := ((nodesT ps[k]).map fun x => (k :: x.1, x.2)).map nodeD) (nodesD_lt _) (nodesD_lt _) (by simp; omega)
        refine ⟨_, _, .inl ?_, some (.int (k : Int)), some (tr ps[k]), rfl, rfl⟩
        have hk2 := key s
        rw [nodesL_take hk]
        simp only [List.map_cons] at hk2 hext ⊢
        simp [foT, hc, hk2, ap_cell, hext, -List.map_map])
    rw [Nat.zero_add, enumL_len, List.length_map, List.take_length] at h3
    subst h2 h3
    have hcut : cut [D.str wd, .str g, .tup (ps.map tr)] none (some 2) = [.str wd, .str g] := cut_to [D.str wd, .str g, .tup (ps.map tr)] 2
    have hn := newCell_ap [nodeD ([], wd, g)] s
    have e0 : nodeD ([], wd, g) = .tup [.tup [], .tup [.str wd, .str g]] := rfl
    rw [tr_nd] at h1
    simp only [List.map_cons, List.map_nil] at h1
    rw [e0] at h1 hn
    rw [tr_nd, nodes_nd]
    simp [run, bNodes, hcut, ck, hn, h1, e0]
theorem c_nodes (hF : F[i0]? = some (bNodes i0)) {t : T} {d : Nat} (h : t.deep ≤ d) (hd : d ≤ 900) (hz : t.size ≤ 1000) : callR (calls F w (n + d) i0) [tr t] s = .ok (.lv true ((nodesT t).map nodeD)) s := callR_own (r_nodes hF d t h hd hz n _) (nodesD_lt _)
end LG
end

section -- PM
set_option autoImplicit false
set_option linter.all false
set_option maxRecDepth 10000
namespace LG
open L3
variable {w n : Nat} {s : S} {F : Array Fn} {i0 i1 i2 : Nat} {L M : List D}
def bSays : Fn := ⟨2, 0, [.ret (.and (.isa (.var 0) .bool) (.cmp .eq (.var 0) (.var 1)))]⟩
theorem c_says (hF : F[i0]? = some bSays) (a b : Bool) : callR (calls F w (n + 1) i0) [.bl a, .bl b] s = .ok (.bl (a == b)) s := by
  refine callR_pure ?_ rfl
  rw [calls_eq hF]
  have : cmp2 .eq (.bl a) (.bl b) = some (a == b) := by cases a <;> cases b <;> rfl
  simp [run, bSays, this]
def bAlike (i : Nat) : Fn := ⟨2, 1, [
.ite (.or (.isa (.var 1) .list) (.isa (.var 1) .tuple)) [
.ite (.or (.cmp .ne (.isa (.var 0) .list) (.isa (.var 1) .list)) (.cmp .ne (.isa (.var 0) .tuple) (.isa (.var 1) .tuple))) [
.ret (.con (.bl false))] [], 
.ret (.and (.cmp .eq (.bi .len [.var 0]) (.bi .len [.var 1])) (.cmp .eq (.lc (.var 2) (.nm 2) (.rng1 (.bi .len [.var 1])) [.not (.call i [.idx (.var 0) (.var 2), .idx (.var 1) (.var 2)])] [2]) (.lst [])))] [], 
.ite (.cmp .is (.var 1) (.con .non)) [
.ret (.cmp .is (.var 0) (.con .non))] [], 
.ite (.or (.isa (.var 1) .bool) (.isa (.var 0) .bool)) [
.ret (.and (.isa (.var 0) .bool) (.and (.isa (.var 1) .bool) (.cmp .eq (.var 0) (.var 1))))] [], 
.ite (.isa (.var 1) .int) [
.ret (.and (.isa (.var 0) .int) (.cmp .eq (.var 0) (.var 1)))] [], 
.ret (.and (.isa (.var 0) .str) (.cmp .eq (.var 0) (.var 1)))]⟩
/-- data that the law can hold against itself -/
def al : Nat → D → Bool
  | k + 1, .tup xs => decide (xs.length ≤ 100000) && alL k xs
  | k + 1, .lv _ xs => decide (xs.length ≤ 100000) && alL k xs
  | 0, .tup _ => false
  | 0, .lv _ _ => false
  | _, .ref _ => false
  | _, .scr _ => false
  | _, _ => true
where alL (k : Nat) : List D → Bool
  | [] => true
  | x :: xs => al k x && alL k xs
theorem alL_mem {k : Nat} : ∀ {xs : List D}, al.alL k xs = true → ∀ x ∈ xs, al k x = true
  | [], _, x, hx => by cases hx
  | y :: ys, h, x, hx => by
    simp only [al.alL, Bool.and_eq_true] at h
    rcases List.mem_cons.mp hx with rfl | hx
    · exact h.1
    · exact alL_mem h.2 x hx
theorem alL_all {k : Nat} : ∀ {xs : List D}, (∀ x ∈ xs, al k x = true) → al.alL k xs = true
  | [], _ => rfl
  | x :: xs, h => by simp only [al.alL, h x List.mem_cons_self, alL_all fun y hy => h y (List.mem_cons_of_mem _ hy), Bool.and_self]
theorem al_frz {k : Nat} {d : D} (h : al k d = true) : al k d.frz = true := by cases d <;> first | exact h | (cases k <;> simp_all [al])
theorem alike_lc {C : Nat → List D → S → R D} {xs : List D} {v : D} (hv : ∀ i : Int, idx2 v (.int i) = atI xs i) (hr : ∀ s, v.rd s = v) (h : ∀ x ∈ xs, ∀ s, callR (C i0) [x.frz, x.frz] s = .ok (.bl true) s) (o : Option D) (s : S) :
    lcL (lcT C (.var 2) (.nm 2) [.not (.call i0 [.idx (.var 0) (.var 2), .idx (.var 1) (.var 2)])] [2] [some v, some v, o]) ((List.range xs.length).map fun (i : Nat) => D.int i) [] s = .ok (.lv true []) s := by
  refine lcL_none fun x hx => ?_
  obtain ⟨i, hi, rfl⟩ := List.mem_map.mp hx
  have hi' := List.mem_range.mp hi
  have ei : atI xs (i : Int) = some xs[i] := by rw [atI_nat, List.getElem?_eq_getElem hi']
  simp [lcT, hr, hv, ei, h _ (List.getElem_mem hi')]
theorem r_alike (hF : F[i0]? = some (bAlike i0)) : ∀ (k : Nat) (d : D), al k d = true → ∀ n s, calls F w (n + k + 1) i0 [d, d] s = .ok (.bl true) s := by
  intro k
  induction k with
  | zero =>
    intro d h n s
    rw [calls_eq hF]
    cases d with
    | bl b => have : cmp2 .eq (.bl b) (.bl b) = some true := by cases b <;> rfl
              simp [run, bAlike, this]
    | non => simp [run, bAlike]
    | int i => simp [run, bAlike]
    | str z => simp [run, bAlike]
    | _ => simp [al] at h
  | succ k ih =>
    intro d h n s
    rw [calls_eq hF]
    have hq : cmp2 .eq (.lv true []) (.lv true []) = some true := by decide
    have hn1 : cmp2 .ne (.bl false) (.bl false) = some false := by decide
    have hn2 : cmp2 .ne (.bl true) (.bl true) = some false := by decide
    have go : ∀ x, al k x = true → ∀ s, callR (calls F w (n + (k + 1)) i0) [x.frz, x.frz] s = .ok (.bl true) s := fun x hx s => callR_pure (ih x.frz (al_frz hx) n _) rfl
    cases d with
    | bl b => have : cmp2 .eq (.bl b) (.bl b) = some true := by cases b <;> rfl
              simp [run, bAlike, this]
    | non => simp [run, bAlike]
    | int i => simp [run, bAlike]
    | str z => simp [run, bAlike]
    | ref m => simp [al] at h
    | scr m => simp [al] at h
    | tup xs =>
      simp only [al, Bool.and_eq_true, decide_eq_true_eq] at h
      have hr := rng1D_nat (k := xs.length) (by omega)
      have key := alike_lc (C := calls F w (n + (k + 1))) (i0 := i0) (xs := xs) (v := .tup xs) (fun _ => rfl) (fun _ => rfl) (fun x hx => go x (alL_mem h.2 x hx))
      simp [run, bAlike, hn1, hn2, hr, key, hq]
    | lv o xs =>
      simp only [al, Bool.and_eq_true, decide_eq_true_eq] at h
      have hr := rng1D_nat (k := xs.length) (by omega)
      have key := alike_lc (C := calls F w (n + (k + 1))) (i0 := i0) (xs := xs) (v := .lv o xs) (fun _ => rfl) (fun _ => rfl) (fun x hx => go x (alL_mem h.2 x hx))
      simp [run, bAlike, hn1, hn2, hr, key, hq]
theorem c_alike (hF : F[i0]? = some (bAlike i0)) {k : Nat} {d : D} (h : al k d = true) : callR (calls F w (n + k + 1) i0) [d, d] s = .ok (.bl true) s := callR_pure (r_alike hF k d h n _) rfl
theorem al_tr : ∀ (d : Nat) (t : T), t.deep ≤ d → t.size ≤ 10000 → al (2 * d) (tr t) = true
  | 0, t, h, _ => absurd (deep_pos t) (by omega)
  | d + 1, .nd wd g ps, h, hz => by
    rw [tr_nd, show 2 * (d + 1) = 2 * d + 1 + 1 by omega]
    have hl := len_of hz
    have : al.alL (2 * d) (ps.map tr) = true := alL_all fun x hx => by
      obtain ⟨p, hp, rfl⟩ := List.mem_map.mp hx
      exact al_tr d p (deep_of h p hp) (size_of hz p hp)
    simp [al, al.alL, this]
    omega
def bAt : Fn := ⟨2, 1, [
.forr (.nm 2) (.seq (.var 1)) [
.ite (.cmp .ge (.var 2) (.bi .len [.idx (.var 0) (.con (.int 2))])) [
.raise 3] [], 
.asg (.nm 0) (.idx (.idx (.var 0) (.con (.int 2))) (.var 2))], 
.ret (.var 0)]⟩
def atB : List CS := [
.ite (.cmp .ge (.var 2) (.bi .len [.idx (.var 0) (.con (.int 2))])) [
.raise 3] [], 
.asg (.nm 0) (.idx (.idx (.var 0) (.con (.int 2))) (.var 2))]
theorem at_loop {C : Nat → List D → S → R D} : ∀ (p : List Nat) (t : T) (o1 o2 : Option D), match t.at? p with
    | some u => ∃ o2', foL (foT C w (.nm 2) atB) (p.map fun (i : Nat) => D.int (i : Int)) [some (tr t), o1, o2] s = .nx [some (tr u), o1, o2'] s
    | none => ∃ e', foL (foT C w (.nm 2) atB) (p.map fun (i : Nat) => D.int (i : Int)) [some (tr t), o1, o2] s = .ex 3 e' s
  | [], t, o1, o2 => ⟨o2, rfl⟩
  | i :: r, t, o1, o2 => by
    unfold T.at?
    rw [List.map_cons]
    cases hq : t.sub[i]? with
    | some q =>
      have ih := at_loop (C := C) r q o1 (some (.int i))
      have hi : i < t.sub.length := (List.getElem?_eq_some_iff.mp hq).1
      have e : atI (t.sub.map tr) (i : Int) = some (tr q) := by rw [atI_nat, List.getElem?_map, hq]; rfl
      have hn : ¬ ((t.sub.length : Int) ≤ (i : Int)) := by omega
      have h1 : foT C w (.nm 2) atB (.int (i : Int)) [some (tr t), o1, o2] s = .nx [some (tr q), o1, some (.int i)] s := by
        rw [tr_eq t]
        simp [foT, atB, e, hn]
      unfold foL
      rw [h1]
      exact ih
    | none =>
      have hi : t.sub.length ≤ i := List.getElem?_eq_none_iff.mp hq
      have hn : ((t.sub.length : Int) ≤ (i : Int)) := by omega
      have h1 : foT C w (.nm 2) atB (.int (i : Int)) [some (tr t), o1, o2] s = .ex 3 [some (tr t), o1, some (.int i)] s := by
        rw [tr_eq t]
        simp [foT, atB, hn]
      exact ⟨[some (tr t), o1, some (.int i)], by unfold foL; rw [h1]; rfl⟩
theorem r_at (hF : F[i0]? = some bAt) {t : T} {p : List Nat} : calls F w (n + 1) i0 [tr t, pD p] s = match t.at? p with | some u => .ok (tr u) s | none => .exc 3 s := by
  rw [calls_eq hF]
  have key := at_loop (w := w) (s := s) (C := calls F w n) p t (some (pD p)) none
  unfold atB at key
  cases h : t.at? p with
  | some u =>
    rw [h] at key
    obtain ⟨o, ho⟩ := key
    unfold pD at ho
    simp [run, bAt, pD, ho]
  | none =>
    rw [h] at key
    obtain ⟨o, ho⟩ := key
    unfold pD at ho
    simp [run, bAt, pD, ho]
theorem callR_exc {f : List D → S → R D} {vs : List D} {c : Nat} (h : f vs s.ent = .exc c s.ent) : callR f vs s = .exc c s := by
  have h' : f vs ⟨s.cells, s.cells.length, none⟩ = .exc c s.ent := h
  unfold callR
  rw [h']
  have hg : S.gone s s.ent = s := by unfold S.gone S.ent; simp
  show R.exc c (if s.ent.viol then _ else _) = _
  have hv : s.ent.viol = false := rfl
  rw [hv, if_neg (by simp), hg]
theorem c_at (hF : F[i0]? = some bAt) {t u : T} {p : List Nat} (h : t.at? p = some u) (ho : t.ok = true) : callR (calls F w (n + 1) i0) [tr t, pD p] s = .ok (tr u) s := callR_pure (by rw [r_at hF, h]) (lt_tr (at_ok h ho).1)
theorem c_atN (hF : F[i0]? = some bAt) {t : T} {p : List Nat} (h : t.at? p = none) : callR (calls F w (n + 1) i0) [tr t, pD p] s = .exc 3 s := callR_exc (by rw [r_at hF, h])
end LG
end

section -- PN
set_option autoImplicit false
set_option linter.all false
set_option maxRecDepth 10000
namespace LG
open L3
variable {w n : Nat} {s : S} {F : Array Fn} {i0 i1 i2 : Nat} {L M : List D}
/-- another part put at a path -/
def T.put : T → List Nat → T → Option T
  | _, [], o => some o
  | t, i :: r, o => match t.sub[i]? with
    | some q => (q.put r o).map fun q' => .nd t.wd t.sg (t.sub.set i q')
    | none => none
theorem put_some : ∀ {p : List Nat} {t o : T}, (t.put p o).isSome = (t.at? p).isSome
  | [], t, o => rfl
  | i :: r, t, o => by
    unfold T.put T.at?
    cases t.sub[i]? with
    | none => rfl
    | some q =>
      have := put_some (p := r) (t := q) (o := o)
      simp only [Option.isSome_map]
      exact this
def bPut (i : Nat) : Fn := ⟨3, 1, [
.ite (.cmp .eq (.bi .len [.var 1]) (.con (.int 0))) [
.ret (.var 2)] [], 
.ite (.cmp .ge (.idx (.var 1) (.con (.int 0))) (.bi .len [.idx (.var 0) (.con (.int 2))])) [
.raise 3] [], 
.asg (.nm 3) (.call i [.idx (.idx (.var 0) (.con (.int 2))) (.idx (.var 1) (.con (.int 0))), .slc (.var 1) (some (.con (.int 1))) none, .var 2]), 
.ret (.tup [.idx (.var 0) (.con (.int 0)), .idx (.var 0) (.con (.int 1)), .tup [.star (.slc (.idx (.var 0) (.con (.int 2))) none (some (.idx (.var 1) (.con (.int 0))))), .var 3, .star (.slc (.idx (.var 0) (.con (.int 2))) (some (.bin .add (.idx (.var 1) (.con (.int 0))) (.con (.int 1)))) none)]])]⟩
theorem pD_cons (i : Nat) (r : List Nat) : pD (i :: r) = .tup (.int (i : Int) :: r.map fun (i : Nat) => D.int (i : Int)) := rfl
theorem pD_tail (i : Nat) (r : List Nat) : slc2 (some 1) none (pD (i :: r)) = some (pD r) := by
  show some (D.tup (cut (.int (i : Int) :: r.map fun (i : Nat) => D.int (i : Int)) (some ((1 : Nat) : Int)) none)) = _
  rw [cut_from]; rfl
theorem set_eq {α : Type} : ∀ {xs : List α} {i : Nat} (h : i < xs.length) (y : α), xs.set i y = xs.take i ++ y :: xs.drop (i + 1) := fun {xs i} h y => by
  rw [List.set_eq_take_append_cons_drop, if_pos h]
theorem lt_put : ∀ {p : List Nat} {t o u : T}, t.put p o = some u → t.ok = true → o.ok = true → u.ok = true
  | [], t, o, u, h, ho, h2 => by cases h; exact h2
  | i :: r, t, o, u, h, ho, h2 => by
    unfold T.put at h
    split at h
    · rename_i q hq
      rw [Option.map_eq_some_iff] at h
      obtain ⟨q', h, rfl⟩ := h
      cases t with
      | nd wd g ps =>
        obtain ⟨a, b, c, d, e⟩ := ok_nd ho
        have hq' := lt_put h (e q (List.mem_of_getElem? hq)) h2
        show (T.nd wd g (ps.set i q')).ok = true
        unfold T.ok
        rw [okL_eq]
        simp only [Bool.and_eq_true, decide_eq_true_eq, List.all_eq_true]
        refine ⟨⟨⟨a, b⟩, c, d⟩, fun x hx => ?_⟩
        rcases List.mem_or_eq_of_mem_set hx with hx | rfl
        · exact e x hx
        · exact hq'
    · cases h
theorem r_put (hF : F[i0]? = some (bPut i0)) : ∀ (p : List Nat) (t o : T), t.ok = true → o.ok = true → t.size ≤ 1000 → ∀ n s, calls F w (n + p.length + 1) i0 [tr t, pD p, tr o] s = match t.put p o with | some u => .ok (tr u) s | none => .exc 3 s
  | [], t, o, ho, h2, hz, n, s => by
    rw [calls_eq hF]
    simp [run, bPut, pD, T.put]
  | i :: r, t, o, ho, h2, hz, n, s => by
    rw [List.length_cons, show n + (r.length + 1) + 1 = (n + r.length + 1) + 1 by omega, calls_eq hF]
    have tl := pD_tail i r
    have h0 : ¬ ((r.length : Int) + 1 = 0) := by omega
    unfold T.put
    cases hq : t.sub[i]? with
    | none =>
      have hi : t.sub.length ≤ i := List.getElem?_eq_none_iff.mp hq
      have hn : ((t.sub.length : Int) ≤ (i : Int)) := by omega
      rw [tr_eq t, pD_cons]
      simp [run, bPut, h0, hn]
    | some q =>
      have hi : i < t.sub.length := (List.getElem?_eq_some_iff.mp hq).1
      have e : atI (t.sub.map tr) (i : Int) = some (tr q) := by rw [atI_nat, List.getElem?_map, hq]; rfl
      have hn : ¬ ((t.sub.length : Int) ≤ (i : Int)) := by omega
      have hm := List.mem_of_getElem? hq
      have hqo : q.ok = true ∧ q.size ≤ 1000 ∧ t.sub.length < 1000 := by
        cases t with
        | nd wd g ps => exact ⟨(ok_nd ho).2.2.2.2 q hm, size_of hz q hm, len_of hz⟩
      have ih := r_put hF r q o hqo.1 h2 hqo.2.1 n
      have c1 : cut (t.sub.map tr) none (some (i : Int)) = (t.sub.take i).map tr := by rw [cut_to, List.map_take]
      have c2 : cut (t.sub.map tr) (some ((i : Int) + 1)) none = (t.sub.drop (i + 1)).map tr := by
        rw [show ((i : Int) + 1) = ((i + 1 : Nat) : Int) by omega, cut_from, List.map_drop]
      unfold pD at tl
      simp only [List.map_cons] at tl
      cases hp : q.put r o with
      | none =>
        have hc : callR (calls F w (n + r.length + 1) i0) [tr q, pD r, tr o] s = .exc 3 s := callR_exc (by rw [ih, hp])
        unfold pD at hc
        rw [tr_eq t, pD_cons]
        simp [run, bPut, h0, hn, e, tl, hc, hp]
      | some q' =>
        have hok' := lt_put hp hqo.1 h2
        have hc : callR (calls F w (n + r.length + 1) i0) [tr q, pD r, tr o] s = .ok (tr q') s := callR_pure (by rw [ih, hp]) (lt_tr hok')
        have hlen : (t.sub.take i).length + ((t.sub.drop (i + 1)).length + 1) ≤ 1000 := by simp; omega
        have b1 : min i t.sub.length + (t.sub.length - (i + 1) + 1) ≤ big := by rw [bigN]; simp at hlen; omega
        unfold pD at hc
        rw [tr_eq t, pD_cons]
        simp [run, bPut, h0, hn, e, tl, hc, c1, c2, ck, b1, hp]
        rw [tr_nd, set_eq hi]
        simp
end LG
end

section -- PO
set_option autoImplicit false
set_option linter.all false
set_option maxRecDepth 10000
namespace LG
open L3
variable {w n : Nat} {s : S} {F : Array Fn} {i0 i1 i2 : Nat} {L M : List D}
theorem fitL_ints (p : List Nat) (k : Nat) : D.fit.fitL k (p.map fun (i : Nat) => D.int (i : Int)) = true := by
  induction p with
  | nil => rfl
  | cons a r ih => cases k <;> simpa [D.fit.fitL, D.fit] using ih
theorem pD_fit (p : List Nat) (k : Nat) : (pD p).fit (k + 1) = true := fitL_ints p k
theorem pD_nil (p : List Nat) : cmp2 .eq (pD p) (.tup []) = some p.isEmpty := by
  rw [cmp_eq (pD_fit p 63) rfl]
  cases p <;> rfl
theorem subs_lt {t : T} (ho : t.ok = true) : D.ltL 0 (t.sub.map tr) = true := by
  cases t with
  | nd wd g ps =>
    refine ltL_all fun v hv => ?_
    obtain ⟨p, hp, rfl⟩ := List.mem_map.mp hv
    exact lt_tr ((ok_nd ho).2.2.2.2 p hp)
theorem ex_put {C : Nat → List D → S → R D} {o i x : CE} {e : Env} {d : D} {s1 : S} {m : Nat} {k : Int} {xs : List D} {j : Nat} (h1 : ev C x e s = .ok d s1) (h2 : ev C o e s1 = .ok (.ref m) s1) (h3 : ev C i e s1 = .ok (.int k) s1) (h4 : s1.cells[m]? = some (.lst xs)) (h5 : ixN xs.length k = some j) :
    ex C w (.put o i x) e s = .nx e (s1.put m (.lst (xs.set j d.frz))) := by
  simp only [ex, h1, h2, h3, F.of_ok, h4, h5]
def bWith (i : Nat) : Fn := ⟨3, 1, [
.ite (.cmp .eq (.var 1) (.tup [])) [
.ret (.var 2)] [], 
.asg (.nm 3) (.cell (.bi .list [.idx (.var 0) (.con (.int 2))])), 
.put (.var 3) (.idx (.var 1) (.con (.int 0))) (.call i [.idx (.var 3) (.idx (.var 1) (.con (.int 0))), .slc (.var 1) (some (.con (.int 1))) none, .var 2]), 
.ret (.tup [.idx (.var 0) (.con (.int 0)), .idx (.var 0) (.con (.int 1)), .bi .tuple [.var 3]])]⟩
theorem c_with (hF : F[i0]? = some (bWith i0)) : ∀ (p : List Nat) (t o u : T), t.put p o = some u → t.ok = true → o.ok = true → t.size ≤ 1000 → ∀ n s, callR (calls F w (n + p.length + 1) i0) [tr t, pD p, tr o] s = .ok (tr u) s
  | [], t, o, u, h, ho, h2, hz, n, s => by
    cases h
    refine callR_pure ?_ (lt_tr h2)
    rw [calls_eq hF]
    have := pD_nil []
    simp [run, bWith, this, ck]
  | i :: r, t, o, u, h, ho, h2, hz, n, s => by
    unfold T.put at h
    split at h
    · rename_i q hq
      rw [Option.map_eq_some_iff] at h
      obtain ⟨q', h, rfl⟩ := h
      have hm := List.mem_of_getElem? hq
      have hi : i < t.sub.length := (List.getElem?_eq_some_iff.mp hq).1
      have hqo : q.ok = true ∧ q.size ≤ 1000 ∧ t.sub.length < 1000 := by
        cases t with
        | nd wd g ps => exact ⟨(ok_nd ho).2.2.2.2 q hm, size_of hz q hm, len_of hz⟩
      have ih := c_with hF r q o q' h hqo.1 h2 hqo.2.1 n
      have hq'o := lt_put h hqo.1 h2
      have hl2 : D.ltL 0 ((t.sub.map tr).set i (tr q')) = true := by
        refine ltL_all fun v hv => ?_
        rcases List.mem_or_eq_of_mem_set hv with hv | rfl
        · obtain ⟨p, hp, rfl⟩ := List.mem_map.mp hv
          cases t with
          | nd wd g ps => exact lt_tr ((ok_nd ho).2.2.2.2 p hp)
        · exact lt_tr hq'o
      have es : (t.sub.map tr).set i (tr q') = (t.sub.set i q').map tr := by rw [List.map_set]
      refine callR_ap (L := (t.sub.set i q').map tr) ?_ (by
        have : (T.nd t.wd t.sg (t.sub.set i q')).ok = true := lt_put (p := i :: r) (t := t) (o := o) (by unfold T.put; rw [hq]; simp [h]) ho h2
        exact lt_tr this)
      generalize s.ent = s
      rw [List.length_cons, show n + (r.length + 1) + 1 = (n + r.length + 1) + 1 by omega, calls_eq hF]
      have e1 := pD_nil (i :: r)
      have tl := pD_tail i r
      have e : atI (t.sub.map tr) (i : Int) = some (tr q) := by rw [atI_nat, List.getElem?_map, hq]; rfl
      have ha : (ap s (t.sub.map tr)).cells[s.cells.length]? = some (.lst (t.sub.map tr)) := ap_at
      have hix : ixN (t.sub.map tr).length (i : Int) = some i := by
        unfold ixN
        rw [if_pos (by omega), if_pos (by simpa using hi)]
        simp
      rw [pD_cons] at e1 tl
      have env : ∀ C, (∀ s, callR (C i0) [tr q, pD r, tr o] s = .ok (tr q') s) → ex C w (.put (.var 3) (.idx (.var 1) (.con (.int 0))) (.call i0 [.idx (.var 3) (.idx (.var 1) (.con (.int 0))), .slc (.var 1) (some (.con (.int 1))) none, .var 2])) [some (tr t), some (pD (i :: r)), some (tr o), some (.ref s.cells.length)] (ap s (t.sub.map tr)) =
          .nx [some (tr t), some (pD (i :: r)), some (tr o), some (.ref s.cells.length)] (ap s ((t.sub.set i q').map tr)) := fun C hC => by
        have hr : (D.ref s.cells.length).rd (ap s (t.sub.map tr)) = .lv false (t.sub.map tr) := ap_rd
        have h1 : ev C (.call i0 [.idx (.var 3) (.idx (.var 1) (.con (.int 0))), .slc (.var 1) (some (.con (.int 1))) none, .var 2]) [some (tr t), some (pD (i :: r)), some (tr o), some (.ref s.cells.length)] (ap s (t.sub.map tr)) = .ok (tr q') (ap s (t.sub.map tr)) := by
          rw [pD_cons]
          simp [hr, e, tl, hC]
        rw [ex_put h1 (m := s.cells.length) (k := (i : Int)) (by simp) (by rw [pD_cons]; simp) ha hix, tr_frz, es, ap_put (by rw [← es]; exact hl2)]
      have env := env (calls F w (n + r.length + 1)) ih
      have hr : (D.ref s.cells.length).rd (ap s ((t.sub.set i q').map tr)) = .lv false ((t.sub.set i q').map tr) := ap_rd
      have hn := newCell_ap (t.sub.map tr) s
      have hst : exs (calls F w (n + r.length + 1)) w (bWith i0).body [some (tr t), some (pD (i :: r)), some (tr o), none] s = .rt (tr (.nd t.wd t.sg (t.sub.set i q'))) (ap s ((t.sub.set i q').map tr)) := by
        unfold bWith
        simp only
        rw [exs_cons]
        have s1 : ex (calls F w (n + r.length + 1)) w (.ite (.cmp .eq (.var 1) (.tup [])) [.ret (.var 2)] []) [some (tr t), some (pD (i :: r)), some (tr o), none] s = .nx [some (tr t), some (pD (i :: r)), some (tr o), none] s := by
          rw [pD_cons]
          simp [e1, ck]
        rw [s1, L3.F.next_nx, exs_cons]
        have s2 : ex (calls F w (n + r.length + 1)) w (.asg (.nm 3) (.cell (.bi .list [.idx (.var 0) (.con (.int 2))]))) [some (tr t), some (pD (i :: r)), some (tr o), none] s = .nx [some (tr t), some (pD (i :: r)), some (tr o), some (.ref s.cells.length)] (ap s (t.sub.map tr)) := by
          rw [tr_eq t]
          simp [hn]
        rw [s2, L3.F.next_nx, exs_cons, env, L3.F.next_nx, exs_cons]
        rw [tr_nd, tr_eq t]
        simp [hr, ck, -List.map_set]
      unfold run
      rw [if_pos (show [tr t, pD (i :: r), tr o].length = (bWith i0).par from rfl)]
      show (match exs (calls F w (n + r.length + 1)) w (bWith i0).body [some (tr t), some (pD (i :: r)), some (tr o), none] s with | .nx _ s => _ | .rt d s => _ | .ex c _ s => _ | _ => _) = _
      rw [hst]
    · cases h
end LG
end

section -- PP
set_option autoImplicit false
set_option linter.all false
set_option maxRecDepth 10000
namespace LG
open L3
variable {w n : Nat} {s : S} {F : Array Fn} {i0 i1 i2 i3 : Nat} {L M : List D}
def lineS (x : Nd) : List Nat := (List.replicate x.1.length [32, 32]).flatten ++ x.2.1 ++ (if x.2.2 = [] then [] else [58, 32] ++ x.2.2)
def bLines (i : Nat) : Fn := ⟨1, 4, [
.asg (.nm 1) (.cell (.lst [])), 
.forr (.tup [.nm 2, .tup [.nm 3, .nm 4]]) (.seq (.call i [.var 0])) [
.expr (.mm .append (.var 1) [.bin .add (.bin .add (.bin .mul (.con (.str [32, 32])) (.bi .len [.var 2])) (.var 3)) (.ite (.cmp .ne (.var 4) (.con (.str []))) (.bin .add (.con (.str [58, 32])) (.var 4)) (.con (.str [])))])], 
.ret (.bi .tuple [.var 1])]⟩
def rowsD (xs : List Nd) : List D := xs.map fun x => .str (lineS x)
theorem rows_lt (xs : List Nd) : D.ltL 0 (rowsD xs) = true := ltL_all fun v hv => by
  obtain ⟨x, _, rfl⟩ := List.mem_map.mp hv
  rfl
theorem mulS_ok {a : List Nat} {k : Nat} (h1 : k ≤ 100000) (h2 : a.length ≤ 100) : bin2 .mul (.str a) (.int (k : Int)) = some (.str (List.replicate k a).flatten) := by
  show (if _ then _ else _) = _
  rw [if_pos ⟨by omega, by omega, h2⟩, Int.toNat_natCast]
/-- the nodes' texts are short -/
theorem nodes_ok : ∀ (d : Nat) (t : T), t.deep ≤ d → t.ok = true → ∀ x ∈ nodesT t, x.2.1.length ≤ 1000 ∧ x.2.2.length ≤ 1000 := fun d t h ho x hx => by
  obtain ⟨u, h1, h2, h3⟩ := nodes_at d t h x hx
  have h4 := (at_ok h1 ho).1
  cases u with
  | nd wd g ps =>
    obtain ⟨_, _, a, b, _⟩ := ok_nd h4
    rw [← h2, ← h3]
    exact ⟨a, b⟩
theorem ev_line {C : Nat → List D → S → R D} {o0 o1 : Option D} {x : Nd} (h1 : x.1.length ≤ 1000) (h2 : x.2.1.length ≤ 1000) (h3 : x.2.2.length ≤ 1000) :
    ev C (.bin .add (.bin .add (.bin .mul (.con (.str [32, 32])) (.bi .len [.var 2])) (.var 3)) (.ite (.cmp .ne (.var 4) (.con (.str []))) (.bin .add (.con (.str [58, 32])) (.var 4)) (.con (.str [])))) [o0, o1, some (pD x.1), some (.str x.2.1), some (.str x.2.2)] s = .ok (.str (lineS x)) s := by
  have hm := mulS_ok (a := [32, 32]) (k := x.1.length) (by omega) (by simp)
  have hl : (List.replicate x.1.length [32, 32]).flatten.length = x.1.length * 2 := by simp
  unfold lineS
  generalize (List.replicate x.1.length [32, 32]).flatten = Z at hm hl ⊢
  cases hg : x.2.2 with
  | nil => simp (disch := (first | (intro _ hh; cases hh; done) | ((try simp only [List.length_append, List.length_cons, List.length_nil]); omega))) [pD, hm, addS_ok, -bin_addS, -bin_mulS]
  | cons a r =>
    rw [hg] at h3
    simp only [List.length_cons] at h3
    simp (disch := (first | (intro _ hh; cases hh; done) | ((try simp only [List.length_append, List.length_cons, List.length_nil]); omega))) [pD, hm, addS_ok, -bin_addS, -bin_mulS]
theorem r_lines (hF : F[i0]? = some (bLines i1)) (hN : F[i1]? = some (bNodes i1)) {t : T} {d : Nat} (h : t.deep ≤ d) (hd : d ≤ 900) (hz : t.size ≤ 1000) (ho : t.ok = true) : calls F w (n + d + 1) i0 [tr t] s = .ok (.tup (rowsD (nodesT t))) (ap s (rowsD (nodesT t))) := by
  rw [calls_eq hF]
  have hc : ∀ s, callR (calls F w (n + d) i1) [tr t] s = .ok (.lv true ((nodesT t).map nodeD)) s := fun s => c_nodes hN h hd hz
  obtain ⟨e', s', h1, o2, o3, o4, h2, h3⟩ := foL_inv (f := foT (calls F w (n + d)) w (.tup [.nm 2, .tup [.nm 3, .nm 4]]) [.expr (.mm .append (.var 1) [.bin .add (.bin .add (.bin .mul (.con (.str [32, 32])) (.bi .len [.var 2])) (.var 3)) (.ite (.cmp .ne (.var 4) (.con (.str []))) (.bin .add (.con (.str [58, 32])) (.var 4)) (.con (.str [])))])])
    (P := fun k e s' => ∃ o2 o3 o4, e = [some (tr t), some (.ref s.cells.length), o2, o3, o4] ∧ s' = ap s (rowsD ((nodesT t).take k)))
    (xs := (nodesT t).map nodeD) (k := 0) (e := [some (tr t), some (.ref s.cells.length), none, none, none]) (s := ap s []) ⟨none, none, none, rfl, rfl⟩ (fun k x e s' hx he => by
      obtain ⟨o2, o3, o4, rfl, rfl⟩ := he
      rw [Nat.zero_add] at *
      have hk : k < (nodesT t).length := by
        have := (List.getElem?_eq_some_iff.mp hx).1
        simpa using this
      rw [List.getElem?_map, List.getElem?_eq_getElem hk] at hx
      have hx := Option.some.inj hx
      subst hx
      have hm := List.getElem_mem hk
      have hp := path_len _ _ h _ hm
      obtain ⟨q1, q2⟩ := nodes_ok _ _ h ho _ hm
      have hev := ev_line (s := ap s (rowsD ((nodesT t).take k))) (C := calls F w (n + d)) (o0 := some (tr t)) (o1 := some (.ref s.cells.length)) (x := (nodesT t)[k]) (by omega) q1 q2
      have hsz := nodes_size t
      have happ := ap_app (s := s) (L := rowsD ((nodesT t).take k)) (x := .str (lineS (nodesT t)[k])) (rows_lt _) rfl (by unfold rowsD; rw [List.length_map, List.length_take]; omega)
      have e1 : rowsD ((nodesT t).take k) ++ [.str (lineS (nodesT t)[k])] = rowsD ((nodesT t).take (k + 1)) := by
        unfold rowsD
        rw [List.take_add_one, List.getElem?_eq_getElem hk, Option.toList_some, List.map_append]
        rfl
      rw [e1] at happ
      refine ⟨_, _, .inl ?_, some (pD (nodesT t)[k].1), some (.str (nodesT t)[k].2.1), some (.str (nodesT t)[k].2.2), rfl, rfl⟩
      have ha : asg (.tup [.nm 2, .tup [.nm 3, .nm 4]]) (nodeD (nodesT t)[k]) [some (tr t), some (.ref s.cells.length), o2, o3, o4] = some [some (tr t), some (.ref s.cells.length), some (pD (nodesT t)[k].1), some (.str (nodesT t)[k].2.1), some (.str (nodesT t)[k].2.2)] := by
        unfold nodeD ndD
        simp
      unfold foT
      rw [ha]
      simp only [exs_cons, exs_nil, ex_expr, ev_mm, ev_var, getV_1, R.opt_some, R.bind_ok, ap_cell]
      rw [evs_cons _ _ (by intro _ hh; cases hh), hev]
      simp [happ])
  rw [Nat.zero_add, List.length_map, List.take_length] at h3
  subst h2 h3
  have hn := newCell_ap [] s
  have hr : (D.ref s.cells.length).rd (ap s (rowsD (nodesT t))) = .lv false (rowsD (nodesT t)) := ap_rd
  simp [run, bLines, hn, hc, h1, hr, ck]
theorem c_lines (hF : F[i0]? = some (bLines i1)) (hN : F[i1]? = some (bNodes i1)) {t : T} {d : Nat} (h : t.deep ≤ d) (hd : d ≤ 900) (hz : t.size ≤ 1000) (ho : t.ok = true) : callR (calls F w (n + d + 1) i0) [tr t] s = .ok (.tup (rowsD (nodesT t))) s :=
  callR_ap (r_lines hF hN h hd hz ho) (rows_lt _)
def bBegins : Fn := ⟨2, 0, [.ret (.cmp .eq (.slc (.var 1) none (some (.bi .len [.var 0]))) (.var 0))]⟩
def begB (p q : List Nat) : Bool := (pD (q.take p.length)).eqv (pD p)
theorem pD_take (p q : List Nat) : slc2 none (some (p.length : Int)) (pD q) = some (pD (q.take p.length)) := by
  show some (D.tup (cut (q.map fun (i : Nat) => D.int (i : Int)) none (some (p.length : Int)))) = _
  rw [cut_to, ← List.map_take]; rfl
theorem c_begins (hF : F[i0]? = some bBegins) (p q : List Nat) : callR (calls F w (n + 1) i0) [pD p, pD q] s = .ok (.bl (begB p q)) s := by
  refine callR_pure ?_ rfl
  rw [calls_eq hF]
  have h1 := pD_take p q
  have h2 := cmp_eq (pD_fit (q.take p.length) 63) (pD_fit p 63)
  have h3 : bi .len [pD p] = some (.int (p.length : Int)) := by simp [pD]
  simp [run, bBegins, h1, h2, h3]
  rfl
theorem beg_len {p q : List Nat} (h : q.length < p.length) : begB p q = false := by
  unfold begB pD
  have key : ∀ (xs ys : List D), xs.length ≠ ys.length → D.eqv.eqvL xs ys = false := by
    intro xs
    induction xs with
    | nil => intro ys h; cases ys with | nil => exact absurd rfl h | cons y r => rfl
    | cons x r ih =>
      intro ys h
      cases ys with
      | nil => rfl
      | cons y r2 =>
        simp only [List.length_cons, ne_eq, Nat.add_right_cancel_iff] at h
        simp only [D.eqv.eqvL, ih r2 h, Bool.and_false]
  show D.eqv.eqvL _ _ = false
  refine key _ _ ?_
  simp
  omega
def bIsPath (i : Nat) : Fn := ⟨1, 1, [.ret (.and (.isa (.var 0) .tuple) (.gen true (.call i [.var 1, .con (.int 0), .glob (.int 200)]) (.nm 1) (.seq (.var 0)) [] [1]))]⟩
theorem c_ispath (hF : F[i0]? = some (bIsPath i1)) (hN : F[i1]? = some bNum) {p : List Nat} (h : ∀ i ∈ p, i ≤ 200) : callR (calls F w (n + 2) i0) [pD p] s = .ok (.bl true) s := by
  refine callR_pure ?_ rfl
  rw [calls_eq hF]
  have key : ∀ o s, geL true (geT (calls F w (n + 1)) (.call i1 [.var 1, .con (.int 0), .glob (.int 200)]) (.nm 1) [] [1] [some (pD p), o]) (p.map fun (i : Nat) => D.int (i : Int)) s = .ok (.bl true) s := fun o s => by
    rw [geL_all (p := fun _ => true)]
    · simp
    · intro x hx
      obtain ⟨i, hi, rfl⟩ := List.mem_map.mp hx
      have := h i hi
      have hc : callR (calls F w (n + 1) i1) [.int (i : Int), .int 0, .int 200] s = .ok (.bl true) s := by
        rw [c_num (k := 1) hN rfl]
        have : isNum (.int (i : Int)) 0 200 = true := by simp [isNum]; omega
        rw [this]
      simp [geT, hc]
  unfold pD at key ⊢
  simp [run, bIsPath, key]
end LG
end

section -- PQ
set_option autoImplicit false
set_option linter.all false
set_option maxRecDepth 10000
namespace LG
open L3
variable {w n : Nat} {s : S} {F : Array Fn} {i0 i1 i2 i3 : Nat} {L M : List D}
mutual
def lbT : T → Nat → Nat → Option Nat
  | .nd w g ps, l, dp => if l = 0 ∨ dp = 0 then none else if (isWord (.str w) && areSigns (.str g)) = true then lbL ps (l - 1) (dp - 1) else none
def lbL : List T → Nat → Nat → Option Nat
  | [], l, _ => some l
  | p :: r, l, dp => match lbT p l dp with
    | none => none
    | some l' => lbL r l' dp
end
theorem lbT_nd (w g : List Nat) (ps : List T) (l dp : Nat) : lbT (.nd w g ps) l dp = if l = 0 ∨ dp = 0 then none else if (isWord (.str w) && areSigns (.str g)) = true then lbL ps (l - 1) (dp - 1) else none := by conv => lhs; unfold lbT
theorem lbL_nil (l dp : Nat) : lbL [] l dp = some l := by conv => lhs; unfold lbL
theorem lbL_cons (p : T) (r : List T) (l dp : Nat) : lbL (p :: r) l dp = match lbT p l dp with | none => none | some l' => lbL r l' dp := by conv => lhs; unfold lbL
def oN : Option Nat → D
  | none => .non
  | some k => .int (k : Int)
@[simp] theorem oN_frz (o : Option Nat) : (oN o).frz = oN o := by cases o <;> rfl
@[simp] theorem oN_rd (o : Option Nat) (s : S) : (oN o).rd s = oN o := by cases o <;> rfl
theorem oN_lt (o : Option Nat) : (oN o).lt 0 = true := by cases o <;> rfl
def leftB (i : Nat) : List CS := [
.asg (.nm 1) (.call i [.var 3, .var 1, .bin .sub (.var 2) (.con (.int 1))]), 
.ite (.cmp .is (.var 1) (.con .non)) [
.ret (.con .non)] []]
def bLeft (i iw is : Nat) : Fn := ⟨3, 1, [
.ite (.or (.not (.isa (.var 0) .tuple)) (.or (.cmp .ne (.bi .len [.var 0]) (.con (.int 3))) (.or (.cmp .eq (.var 1) (.con (.int 0))) (.cmp .eq (.var 2) (.con (.int 0)))))) [
.ret (.con .non)] [], 
.ite (.or (.not (.call iw [.idx (.var 0) (.con (.int 0))])) (.or (.not (.call is [.idx (.var 0) (.con (.int 1))])) (.not (.isa (.idx (.var 0) (.con (.int 2))) .tuple)))) [
.ret (.con .non)] [], 
.aug 1 .sub (.con (.int 1)), 
.forr (.nm 3) (.seq (.idx (.var 0) (.con (.int 2)))) [
.asg (.nm 1) (.call i [.var 3, .var 1, .bin .sub (.var 2) (.con (.int 1))]), 
.ite (.cmp .is (.var 1) (.con .non)) [
.ret (.con .non)] []], 
.ret (.var 1)]⟩
theorem left_loop {C : Nat → List D → S → R D} {v : D} {dp : Nat} : ∀ (qs : List T) (l : Nat) (o3 : Option D), (∀ p ∈ qs, ∀ (l : Nat) (s : S), callR (C i0) [tr p, .int (l : Int), .int (dp : Int)] s = .ok (oN (lbT p l dp)) s) → match lbL qs l dp with
    | some l' => ∃ o3', foL (foT C w (.nm 3) (leftB i0)) (qs.map tr) [some v, some (.int (l : Int)), some (.int ((dp : Int) + 1)), o3] s = .nx [some v, some (.int (l' : Int)), some (.int ((dp : Int) + 1)), o3'] s
    | none => foL (foT C w (.nm 3) (leftB i0)) (qs.map tr) [some v, some (.int (l : Int)), some (.int ((dp : Int) + 1)), o3] s = .rt .non s
  | [], l, o3, _ => by rw [lbL_nil]; exact ⟨o3, rfl⟩
  | p :: r, l, o3, h => by
    rw [lbL_cons, List.map_cons]
    have hp := h p List.mem_cons_self l
    have ed : (dp : Int) + 1 - 1 = (dp : Int) := by omega
    cases hq : lbT p l dp with
    | none =>
      rw [hq] at hp
      simp only
      unfold foL
      have h1 : foT C w (.nm 3) (leftB i0) (tr p) [some v, some (.int (l : Int)), some (.int ((dp : Int) + 1)), o3] s = .rt .non s := by
        simp [foT, leftB, ed, hp, oN]
      rw [h1]; rfl
    | some l' =>
      rw [hq] at hp
      have ih := left_loop (v := v) (C := C) r l' (some (tr p)) fun p' hp' => h p' (List.mem_cons_of_mem _ hp')
      have h1 : foT C w (.nm 3) (leftB i0) (tr p) [some v, some (.int (l : Int)), some (.int ((dp : Int) + 1)), o3] s = .nx [some v, some (.int (l' : Int)), some (.int ((dp : Int) + 1)), some (tr p)] s := by
        simp [foT, leftB, ed, hp, oN]
      simp only
      unfold foL
      rw [h1]
      exact ih
theorem r_left (hF : F[i0]? = some (bLeft i0 i1 i2)) (hW : F[i1]? = some bWord) (hS : F[i2]? = some bSigns) : ∀ (d : Nat) (t : T), t.deep ≤ d → t.ok = true → ∀ (l dp n : Nat) (s : S), calls F w (n + d + 1) i0 [tr t, .int (l : Int), .int (dp : Int)] s = .ok (oN (lbT t l dp)) s
  | 0, t, h, _, _, _, n, s => absurd (deep_pos t) (by omega)
  | d + 1, .nd wd g ps, h, ho, l, dp, n, s => by
    obtain ⟨h1, h2, h3, h4, h5⟩ := ok_nd ho
    have ih := fun p (hp : p ∈ ps) => r_left hF hW hS d p (deep_of h p hp) (h5 p hp)
    rw [show n + (d + 1) + 1 = (n + d + 1) + 1 from rfl, calls_eq hF, lbT_nd, tr_nd]
    by_cases hl : l = 0
    · simp [run, bLeft, hl, oN]
    · by_cases hd : dp = 0
      · have e1 : ¬ ((l : Int) = 0) := by omega
        simp [run, bLeft, hl, hd, oN]
      · have e1 : ¬ ((l : Int) = 0) := by omega
        have e2 : ¬ ((dp : Int) = 0) := by omega
        have nw : (D.str wd).nice 1 = true := by simp [D.nice, h1, h3]
        have ng : (D.str g).nice 1 = true := by simp [D.nice, h2, h4]
        have cw : callR (calls F w (n + d + 1) i1) [.str wd] s = .ok (.bl (isWord (.str wd))) s := c_word hW nw
        have cs : callR (calls F w (n + d + 1) i2) [.str g] s = .ok (.bl (areSigns (.str g))) s := c_signs hS ng
        have lp := left_loop (w := w) (s := s) (i0 := i0) (C := calls F w (n + d + 1)) (v := .tup [.str wd, .str g, .tup (ps.map tr)]) (dp := dp - 1) ps (l - 1) none (fun p hp l s => callR_pure (ih p hp l (dp - 1) n _) (oN_lt _))
        have ed : ((dp - 1 : Nat) : Int) + 1 = (dp : Int) := by omega
        have el : ((l - 1 : Nat) : Int) = (l : Int) - 1 := by omega
        rw [ed, el] at lp
        cases hw : isWord (.str wd) with
        | false =>
          rw [hw] at cw
          simp [run, bLeft, e1, e2, cw, hl, hd, oN]
        | true =>
          rw [hw] at cw
          cases hg : areSigns (.str g) with
          | false =>
            rw [hg] at cs
            simp [run, bLeft, e1, e2, cw, cs, hl, hd, oN]
          | true =>
            rw [hg] at cs
            unfold leftB at lp
            cases hq : lbL ps (l - 1) (dp - 1) with
            | none =>
              rw [hq] at lp
              simp only at lp
              simp [run, bLeft, e1, e2, cw, cs, hl, hd, aug2, lp, hq, oN]
            | some l' =>
              rw [hq] at lp
              simp only at lp
              obtain ⟨o3, lp⟩ := lp
              simp [run, bLeft, e1, e2, cw, cs, hl, hd, aug2, lp, hq, oN]
def bIsTree (i : Nat) : Fn := ⟨1, 0, [.ret (.cmp .isnot (.call i [.var 0, .glob (.int 200), .glob (.int 30)]) (.con .non))]⟩
def isTree (t : T) : Bool := (lbT t 200 30).isSome
theorem c_istree (hT : F[i3]? = some (bIsTree i0)) (hF : F[i0]? = some (bLeft i0 i1 i2)) (hW : F[i1]? = some bWord) (hS : F[i2]? = some bSigns) {t : T} {d : Nat} (h : t.deep ≤ d) (ho : t.ok = true) : callR (calls F w (n + d + 2) i3) [tr t] s = .ok (.bl (isTree t)) s := by
  refine callR_pure ?_ rfl
  rw [show n + d + 2 = (n + d + 1) + 1 from rfl, calls_eq hT]
  have hc : ∀ s, callR (calls F w (n + d + 1) i0) [tr t, .int 200, .int 30] s = .ok (oN (lbT t 200 30)) s := fun s => callR_pure (r_left hF hW hS d t h ho 200 30 n _) (oN_lt _)
  unfold isTree
  cases hq : lbT t 200 30 with
  | none => rw [hq] at hc; simp [run, bIsTree, hc, oN]
  | some k => rw [hq] at hc; simp [run, bIsTree, hc, oN]
mutual
def T.good : T → Bool
  | .nd w g ps => (isWord (.str w) && areSigns (.str g)) && goodL ps
def goodL : List T → Bool
  | [] => true
  | p :: r => p.good && goodL r
end
theorem good_nd {w g : List Nat} {ps : List T} : (T.nd w g ps).good = ((isWord (.str w) && areSigns (.str g)) && goodL ps) := by conv => lhs; unfold T.good
theorem goodL_cons (p : T) (r : List T) : goodL (p :: r) = (p.good && goodL r) := by conv => lhs; unfold goodL
theorem lb_good : ∀ (d : Nat) (t : T), t.deep ≤ d → t.good = true → ∀ l dp, t.size ≤ l → t.deep ≤ dp → lbT t l dp = some (l - t.size)
  | 0, t, h, _, _, _, _, _ => absurd (deep_pos t) (by omega)
  | d + 1, .nd wd g ps, h, hg, l, dp, hl, hd => by
    rw [good_nd] at hg
    simp only [Bool.and_eq_true] at hg
    rw [deep_nd] at hd
    rw [size_nd] at hl
    rw [lbT_nd, if_neg (by omega), if_pos (by simp [hg.1])]
    have key : ∀ (qs : List T), (∀ p ∈ qs, p ∈ ps) → goodL qs = true → ∀ l, (qs.map T.size).sum ≤ l → lbL qs l (dp - 1) = some (l - (qs.map T.size).sum) := by
      intro qs
      induction qs with
      | nil => intro _ _ l _; rw [lbL_nil]; simp
      | cons p r ih =>
        intro hq hg l hl
        rw [goodL_cons] at hg
        simp only [Bool.and_eq_true] at hg
        simp only [List.map_cons, List.sum_cons] at hl
        have hp := hq p List.mem_cons_self
        have h1 := deep_of h p hp
        have h2 := deepL_mem hp
        rw [lbL_cons, lb_good d p h1 hg.1 l (dp - 1) (by omega) (by omega)]
        simp only
        rw [ih (fun q hq' => hq q (List.mem_cons_of_mem _ hq')) hg.2 _ (by omega)]
        simp only [List.map_cons, List.sum_cons]
        congr 1
        omega
    rw [key ps (fun _ h => h) hg.2 (l - 1) (by omega), size_nd]
    congr 1
    omega
theorem isTree_good {t : T} (hg : t.good = true) (hs : t.size ≤ 200) (hd : t.deep ≤ 30) : isTree t = true := by
  unfold isTree
  rw [lb_good _ t (Nat.le_refl _) hg 200 30 hs hd]; rfl
end LG
end

section -- PT
set_option autoImplicit false
set_option linter.all false
set_option maxRecDepth 10000
namespace LG
open L3
variable {w n : Nat} {s : S} {F : Array Fn} {i0 i1 i2 i3 : Nat} {L M : List D}
/-- the store whose first list are the draws -/
def dh (ns : List Int) (s : S) : S := ⟨.lst (ns.map .int) :: s.cells, s.base, s.up⟩
theorem ds_dh (ns : List Int) : ds ns = dh ns ⟨[], 0, none⟩ := rfl
theorem ap_dh (ns : List Int) (s : S) (L : List D) : ap (dh ns s) L = dh ns (ap s L) := rfl
theorem dh_rd {ns : List Int} : (D.ref 0).rd (dh ns s) = .lv false (ns.map .int) := rfl
theorem callR_dh {f : List D → S → R D} {vs : List D} {d : D} {ns ms : List Int} {M : List MO} (h : f vs (dh ns s).ent = .ok d ⟨.lst (ms.map .int) :: (s.cells ++ M), s.cells.length + 1, none⟩) (hd : d.lt 0 = true) : callR f vs (dh ns s) = .ok d (dh ms s) := by
  have h' : f vs ⟨(dh ns s).cells, (dh ns s).cells.length, none⟩ = .ok d ⟨.lst (ms.map .int) :: (s.cells ++ M), s.cells.length + 1, none⟩ := h
  unfold callR
  rw [h']
  have hg : S.gone (dh ns s) ⟨.lst (ms.map .int) :: (s.cells ++ M), s.cells.length + 1, none⟩ = dh ms s := by unfold S.gone dh; simp
  have hl : d.lt (s.cells.length + 1) = true := D.lt_of_le (Nat.zero_le _) hd
  unfold norm
  show (if (S.mk (.lst (ms.map .int) :: (s.cells ++ M)) (s.cells.length + 1) none).viol then _ else _) = _
  have hv : (S.mk (.lst (ms.map .int) :: (s.cells ++ M)) (s.cells.length + 1) none).viol = false := rfl
  simp only [hv, Bool.false_eq_true, if_false]
  cases d with
  | ref m => simp [D.lt] at hd
  | _ => simp [hl, hg]
theorem dh_put {ns ms : List Int} : (dh ns s).put 0 (.lst (ms.map .int)) = dh ms s := by
  unfold S.put
  rw [if_pos (show (MO.lst (ms.map .int)).lt 0 = true from ints_lt ms)]
  rfl
theorem dh_pop {ns : List Int} {x : Int} : mmS .pop 0 [] (dh (ns ++ [x]) s) = .ok (.int x) (dh ns s) := by
  have hc : (dh (ns ++ [x]) s).cells[0]? = some (.lst ((ns ++ [x]).map D.int)) := rfl
  unfold mmS
  rw [hc]
  have e : (ns ++ [x]).map D.int = ns.map D.int ++ [D.int x] := by simp
  simp only [e, mutI, List.getLast?_concat, List.dropLast_concat, dh_put]
theorem dh_cell {ns : List Int} : cellOf (.ref 0) (dh ns s) = some 0 := by
  unfold cellOf
  simp [dh]
theorem c_takeH (hF : F[i0]? = some bTake) {ns : List Int} {lim : Int} (hl : 0 < lim) : ∃ (r : Int) (ms : List Int), (∀ n, callR (calls F w (n + 1) i0) [.ref 0, .int lim] (dh ns s) = .ok (.int r) (dh ms s)) ∧ 0 ≤ r ∧ r < lim := by
  rcases List.eq_nil_or_concat ns with rfl | ⟨ms, x, rfl⟩
  · refine ⟨0, [], fun n => ?_, by omega, hl⟩
    refine callR_dh (M := []) ?_ rfl
    rw [calls_eq hF]
    have he : (dh [] s).ent = dh [] ⟨s.cells, s.cells.length + 1, none⟩ := rfl
    rw [he]
    simp [run, bTake, dh_rd]
    rfl
  · rw [List.concat_eq_append]
    refine ⟨x % lim, ms, fun n => ?_, Int.emod_nonneg _ (by omega), Int.emod_lt_of_pos _ hl⟩
    refine callR_dh (M := []) ?_ rfl
    rw [calls_eq hF]
    have he : (dh (ms ++ [x]) s).ent = dh (ms ++ [x]) ⟨s.cells, s.cells.length + 1, none⟩ := rfl
    rw [he]
    have hne : ¬ ((ms.length : Int) + 1 = 0) := by omega
    simp [run, bTake, dh_rd, hne, dh_cell, dh_pop, hl]
    rfl
def wordsL : List D := [.str [97], .str [98], .str [105, 116, 101, 109], .str [108, 105, 115, 116]]
def signsL : List D := [.str [], .str [], .str [120], .str [115, 111, 32, 105, 116, 32, 105, 115], .str [55]]
def whlB (it i isz : Nat) : List CS := [
.asg (.nm 7) (.call i [.var 0, .bin .add (.con (.int 1)) (.call it [.var 0, .var 5]), .bin .sub (.var 2) (.con (.int 1))]), 
.expr (.mm .append (.var 6) [.var 7]), 
.asg (.nm 5) (.bin .sub (.var 5) (.call isz [.var 7]))]
def bTree (it i isz : Nat) : Fn := ⟨3, 5, [
.asg (.tup [.nm 3, .nm 4]) (.tup [.idx (.lst [.con (.str [97]), .con (.str [98]), .con (.str [105, 116, 101, 109]), .con (.str [108, 105, 115, 116])]) (.call it [.var 0, .con (.int 4)]), .idx (.lst [.con (.str []), .con (.str []), .con (.str [120]), .con (.str [115, 111, 32, 105, 116, 32, 105, 115]), .con (.str [55])]) (.call it [.var 0, .con (.int 5)])]), 
.asg (.tup [.nm 5, .nm 6]) (.tup [.bin .sub (.var 1) (.con (.int 1)), .cell (.lst [])]), 
.whl (.and (.cmp .gt (.var 5) (.con (.int 0))) (.and (.cmp .gt (.var 2) (.con (.int 1))) (.cmp .gt (.call it [.var 0, .con (.int 3)]) (.con (.int 0))))) [
.asg (.nm 7) (.call i [.var 0, .bin .add (.con (.int 1)) (.call it [.var 0, .var 5]), .bin .sub (.var 2) (.con (.int 1))]), 
.expr (.mm .append (.var 6) [.var 7]), 
.asg (.nm 5) (.bin .sub (.var 5) (.call isz [.var 7]))], 
.ret (.tup [.var 3, .var 4, .bi .tuple [.var 6]])]⟩
theorem pickW {r : Int} (h0 : 0 ≤ r) (h4 : r < 4) : ∃ z, atI wordsL r = some (.str z) ∧ isWord (.str z) = true ∧ okS z = true ∧ z.length ≤ 4 := by
  have h : r = 0 ∨ r = 1 ∨ r = 2 ∨ r = 3 := by omega
  rcases h with rfl | rfl | rfl | rfl <;> exact ⟨_, rfl, by decide, by decide, by decide⟩
theorem pickS {r : Int} (h0 : 0 ≤ r) (h4 : r < 5) : ∃ z, atI signsL r = some (.str z) ∧ areSigns (.str z) = true ∧ okS z = true ∧ z.length ≤ 8 := by
  have h : r = 0 ∨ r = 1 ∨ r = 2 ∨ r = 3 ∨ r = 4 := by omega
  rcases h with rfl | rfl | rfl | rfl | rfl <;> exact ⟨_, rfl, by decide, by decide, by decide⟩
/-- what is true of a drawn tree -/
structure Drawn (most d : Nat) (t : T) : Prop where
  size : t.size ≤ most
  deep : t.deep ≤ d
  good : t.good = true
  ok : t.ok = true
  len : (wr t).length + 1 ≤ 20 * t.size
/-- parts that are drawn -/
structure DrawnL (left d : Nat) (qs : List T) : Prop where
  size : (qs.map T.size).sum ≤ left
  each : ∀ q ∈ qs, q.deep ≤ d ∧ q.good = true ∧ q.ok = true ∧ (wr q).length + 1 ≤ 20 * q.size
theorem wrL_bound : ∀ {qs : List T}, (∀ q ∈ qs, (wr q).length + 1 ≤ 20 * q.size) → (wrL qs).length ≤ 20 * (qs.map T.size).sum
  | [], _ => by unfold wrL; simp
  | q :: r, h => by
    have h1 := h q List.mem_cons_self
    have h2 := wrL_bound fun p hp => h p (List.mem_cons_of_mem _ hp)
    unfold wrL
    simp
    omega
theorem goodL_all : ∀ {qs : List T}, (∀ q ∈ qs, q.good = true) → goodL qs = true
  | [], _ => by unfold goodL; rfl
  | q :: r, h => by rw [goodL_cons, h q List.mem_cons_self, goodL_all fun p hp => h p (List.mem_cons_of_mem _ hp)]; rfl
theorem deepL_all {d : Nat} : ∀ {qs : List T}, (∀ q ∈ qs, q.deep ≤ d) → deepL qs ≤ d
  | [], _ => by unfold deepL; omega
  | q :: r, h => by
    rw [deepL_cons]
    have h1 := h q List.mem_cons_self
    have h2 := deepL_all fun p hp => h p (List.mem_cons_of_mem _ hp)
    omega
theorem drawn_of {most d : Nat} {qs : List T} {wd g : List Nat} (h : DrawnL (most - 1) d qs) (hm : 0 < most) (h1 : isWord (.str wd) = true) (h2 : areSigns (.str g) = true) (h3 : okS wd = true) (h4 : okS g = true) (h5 : wd.length ≤ 4) (h6 : g.length ≤ 8) : Drawn most (d + 1) (.nd wd g qs) where
  size := by rw [size_nd]; have := h.size; omega
  deep := by rw [deep_nd]; have := deepL_all fun q hq => (h.each q hq).1; omega
  good := by rw [good_nd, h1, h2, goodL_all fun q hq => (h.each q hq).2.1]; rfl
  ok := by
    unfold T.ok
    rw [okL_eq]
    simp only [Bool.and_eq_true, decide_eq_true_eq, List.all_eq_true]
    exact ⟨⟨⟨h3, h4⟩, by omega, by omega⟩, fun q hq => (h.each q hq).2.2.1⟩
  len := by
    have h7 := wrL_bound fun q hq => (h.each q hq).2.2.2
    have h8 := len_size qs
    rw [wr_nd, size_nd]
    have h9 : (if qs.isEmpty then [] else [32] : List Nat).length ≤ 1 := by split <;> simp
    simp only [List.length_append, List.length_cons, List.length_nil]
    omega
end LG
end

section -- PU
set_option autoImplicit false
set_option linter.all false
set_option maxRecDepth 10000
namespace LG
open L3
variable {w n : Nat} {s : S} {F : Array Fn} {i0 i1 i2 i3 : Nat} {L M : List D}
def whlC (it : Nat) : CE := .and (.cmp .gt (.var 5) (.con (.int 0))) (.and (.cmp .gt (.var 2) (.con (.int 1))) (.cmp .gt (.call it [.var 0, .con (.int 3)]) (.con (.int 0))))
/-- a callee that draws a tree -/
def Draws (C : Nat → List D → S → R D) (i d : Nat) : Prop := ∀ (most : Nat) (ns : List Int) (s : S), 0 < most → most ≤ 1000 → ∃ (t : T) (ms : List Int), callR (C i) [.ref 0, .int (most : Int), .int (d : Int)] (dh ns s) = .ok (tr t) (dh ms s) ∧ Drawn most d t
theorem tree_loop {C : Nat → List D → S → R D} {it i isz d most : Nat} {wd g : D} (hm : most ≤ 1000)
    (hT : ∀ (ns : List Int) (s : S) (lim : Int), 0 < lim → ∃ (r : Int) (ms : List Int), callR (C it) [.ref 0, .int lim] (dh ns s) = .ok (.int r) (dh ms s) ∧ 0 ≤ r ∧ r < lim)
    (hR : 0 < d → Draws C i d) (hS : ∀ (t : T) (s : S), t.deep ≤ d → t.size ≤ 1000 → callR (C isz) [tr t] s = .ok (.int (t.size : Int)) s) :
    ∀ (fuel left : Nat) (ns : List Int) (qs : List T) (o7 : Option D), left < fuel → (qs.map T.size).sum + left ≤ most - 1 → (∀ q ∈ qs, q.deep ≤ d ∧ q.good = true ∧ q.ok = true ∧ (wr q).length + 1 ≤ 20 * q.size) →
      ∃ (qs' : List T) (ms : List Int) (o5 o7' : Option D), whI (whC C (whlC it)) (whB C w (whlB it i isz)) fuel [some (.ref 0), some (.int (most : Int)), some (.int ((d : Int) + 1)), some wd, some g, some (.int (left : Int)), some (.ref (s.cells.length + 1)), o7] (dh ns (ap s (qs.map tr))) =
        .nx [some (.ref 0), some (.int (most : Int)), some (.int ((d : Int) + 1)), some wd, some g, o5, some (.ref (s.cells.length + 1)), o7'] (dh ms (ap s (qs'.map tr))) ∧ DrawnL (most - 1) d qs' := by
  intro fuel
  induction fuel with
  | zero => intro left ns qs o7 h; omega
  | succ fuel ih =>
    intro left ns qs o7 hf hl hq
    have stop : ∀ (ms : List Int), whC C (whlC it) [some (.ref 0), some (.int (most : Int)), some (.int ((d : Int) + 1)), some wd, some g, some (.int (left : Int)), some (.ref (s.cells.length + 1)), o7] (dh ns (ap s (qs.map tr))) = .ok false (dh ms (ap s (qs.map tr))) → ∃ (qs' : List T) (ms : List Int) (o5 o7' : Option D), whI (whC C (whlC it)) (whB C w (whlB it i isz)) (fuel + 1) [some (.ref 0), some (.int (most : Int)), some (.int ((d : Int) + 1)), some wd, some g, some (.int (left : Int)), some (.ref (s.cells.length + 1)), o7] (dh ns (ap s (qs.map tr))) =
        .nx [some (.ref 0), some (.int (most : Int)), some (.int ((d : Int) + 1)), some wd, some g, o5, some (.ref (s.cells.length + 1)), o7'] (dh ms (ap s (qs'.map tr))) ∧ DrawnL (most - 1) d qs' := fun ms h => by
      refine ⟨qs, ms, some (.int (left : Int)), o7, ?_, ⟨by omega, hq⟩⟩
      unfold whI
      rw [h]
      rfl
    by_cases h0 : left = 0
    · refine stop ns ?_
      subst h0
      simp [whC, whlC]
    · by_cases hd : d = 0
      · refine stop ns ?_
        subst hd
        have : (0 : Int) < (left : Int) := by omega
        simp [whC, whlC, this]
      · obtain ⟨r, ms1, hr, r0, r3⟩ := hT ns (ap s (qs.map tr)) 3 (by omega)
        have l0 : (0 : Int) < (left : Int) := by omega
        have l0n : 0 < left := by omega
        have d0 : (1 : Int) < (d : Int) + 1 := by omega
        by_cases hr0 : 0 < r
        · have hc : whC C (whlC it) [some (.ref 0), some (.int (most : Int)), some (.int ((d : Int) + 1)), some wd, some g, some (.int (left : Int)), some (.ref (s.cells.length + 1)), o7] (dh ns (ap s (qs.map tr))) = .ok true (dh ms1 (ap s (qs.map tr))) := by
            simp [whC, whlC, l0, l0n, d0, hr, hr0]
          obtain ⟨k, ms2, hk, k0, k1⟩ := hT ms1 (ap s (qs.map tr)) (left : Int) l0
          obtain ⟨t, ms3, ht, D1⟩ := hR (by omega) (1 + k.toNat) ms2 (ap s (qs.map tr)) (by omega) (by omega)
          have ek : (((1 + k.toNat : Nat)) : Int) = 1 + k := by omega
          rw [ek] at ht
          have ts : t.size ≤ left := by have := D1.size; omega
          have hz := hS t (dh ms3 (ap s ((qs ++ [t]).map tr))) D1.deep (by omega)
          have hlL : D.ltL 0 (qs.map tr) = true := ltL_all fun v hv => by
            obtain ⟨q, hq', rfl⟩ := List.mem_map.mp hv
            exact lt_tr (hq q hq').2.2.1
          have hqn := len_size qs
          have happ := ap_app (s := dh ms3 s) (L := qs.map tr) (x := tr t) hlL (lt_tr D1.ok) (by rw [List.length_map]; omega)
          have e1 : qs.map tr ++ [tr t] = (qs ++ [t]).map tr := by simp
          rw [e1, ap_dh, ap_dh] at happ
          have happ : mmS .append (s.cells.length + 1) [tr t] (dh ms3 (ap s (qs.map tr))) = .ok .non (dh ms3 (ap s ((qs ++ [t]).map tr))) := happ
          have hcl : cellOf (.ref (s.cells.length + 1)) (dh ms3 (ap s (qs.map tr))) = some (s.cells.length + 1) := by unfold cellOf; simp [dh, ap]
          have es : (left : Int) - (t.size : Int) = ((left - t.size : Nat) : Int) := by omega
          have ed : (d : Int) + 1 - 1 = (d : Int) := by omega
          have hb : whB C w (whlB it i isz) [some (.ref 0), some (.int (most : Int)), some (.int ((d : Int) + 1)), some wd, some g, some (.int (left : Int)), some (.ref (s.cells.length + 1)), o7] (dh ms1 (ap s (qs.map tr))) =
              .nx [some (.ref 0), some (.int (most : Int)), some (.int ((d : Int) + 1)), some wd, some g, some (.int ((left - t.size : Nat) : Int)), some (.ref (s.cells.length + 1)), some (tr t)] (dh ms3 (ap s ((qs ++ [t]).map tr))) := by
            unfold whB whlB
            rw [exs_cons]
            have s1 : ex C w (.asg (.nm 7) (.call i [.var 0, .bin .add (.con (.int 1)) (.call it [.var 0, .var 5]), .bin .sub (.var 2) (.con (.int 1))])) [some (.ref 0), some (.int (most : Int)), some (.int ((d : Int) + 1)), some wd, some g, some (.int (left : Int)), some (.ref (s.cells.length + 1)), o7] (dh ms1 (ap s (qs.map tr))) =
                .nx [some (.ref 0), some (.int (most : Int)), some (.int ((d : Int) + 1)), some wd, some g, some (.int (left : Int)), some (.ref (s.cells.length + 1)), some (tr t)] (dh ms3 (ap s (qs.map tr))) := by
              simp [hk, ed, ht]
            rw [s1, L3.F.next_nx, exs_cons]
            have s2 : ex C w (.expr (.mm .append (.var 6) [.var 7])) [some (.ref 0), some (.int (most : Int)), some (.int ((d : Int) + 1)), some wd, some g, some (.int (left : Int)), some (.ref (s.cells.length + 1)), some (tr t)] (dh ms3 (ap s (qs.map tr))) =
                .nx [some (.ref 0), some (.int (most : Int)), some (.int ((d : Int) + 1)), some wd, some g, some (.int (left : Int)), some (.ref (s.cells.length + 1)), some (tr t)] (dh ms3 (ap s ((qs ++ [t]).map tr))) := by
              simp [hcl, happ, -List.map_append]
            rw [s2, L3.F.next_nx, exs_cons]
            simp [hz, es, -List.map_append]
          obtain ⟨qs', ms', o5, o7', h1, h2⟩ := ih (left - t.size) ms3 (qs ++ [t]) (some (tr t)) (by have := size_pos t; omega) (by simp; omega) (fun q hq' => by
            rcases List.mem_append.mp hq' with hq' | hq'
            · exact hq q hq'
            · rw [List.mem_singleton.mp hq']
              exact ⟨D1.deep, D1.good, D1.ok, D1.len⟩)
          refine ⟨qs', ms', o5, o7', ?_, h2⟩
          rw [whI, hc]
          simp only [L3.F.of_ok, if_true, hb, L3.F.turn_nx]
          exact h1
        · refine stop ms1 ?_
          simp [whC, whlC, l0, l0n, d0, hr, hr0]
theorem draws_tree (hF : F[i0]? = some (bTree i1 i0 i2)) (hT : F[i1]? = some bTake) (hS : F[i2]? = some (bSize i2)) (hw : 1001 < w) : ∀ (d n : Nat), 0 < d → Draws (calls F w (n + d + 1)) i0 d
  | 0, n, h => absurd h (by omega)
  | d + 1, n, _ => by
    intro most ns s hm hm2
    obtain ⟨r1, m1, h1, a1, b1⟩ := c_takeH (w := w) (s := ⟨s.cells, s.cells.length + 1, none⟩) hT (ns := ns) (lim := 4) (by omega)
    obtain ⟨r2, m2, h2, a2, b2⟩ := c_takeH (w := w) (s := ⟨s.cells, s.cells.length + 1, none⟩) hT (ns := m1) (lim := 5) (by omega)
    obtain ⟨wd, e1, w1, w2, w3⟩ := pickW a1 b1
    obtain ⟨g, e2, g1, g2, g3⟩ := pickS a2 b2
    obtain ⟨qs, ms, o5, o7, hlp, D1⟩ := tree_loop (w := w) (s := ⟨s.cells, s.cells.length + 1, none⟩) (C := calls F w (n + d + 1)) (it := i1) (i := i0) (isz := i2) (d := d) (most := most) (wd := .str wd) (g := .str g) hm2
      (fun ns s lim hl => by obtain ⟨r, ms, h, q⟩ := c_takeH (w := w) (s := s) hT (ns := ns) hl; exact ⟨r, ms, h (n + d), q⟩)
      (fun hd => draws_tree hF hT hS hw d n hd)
      (fun t s h hz => by have := c_size (w := w) (n := n + 1) (s := s) hS h hz; rw [show n + 1 + d = n + d + 1 by omega] at this; exact this)
      w (most - 1) m2 [] none (by omega) (by simp) (fun q hq => by cases hq)
    have D2 := drawn_of (wd := wd) (g := g) D1 hm w1 g1 w2 g2 w3 g3
    refine ⟨.nd wd g qs, ms, ?_, D2⟩
    refine callR_dh (M := [.lst (qs.map tr)]) ?_ (lt_tr D2.ok)
    have he : (dh ns s).ent = dh ns ⟨s.cells, s.cells.length + 1, none⟩ := rfl
    rw [he, show n + (d + 1) + 1 = (n + d + 1) + 1 from rfl, calls_eq hF]
    have hn := newCell_ap [] (dh m2 ⟨s.cells, s.cells.length + 1, none⟩)
    have em : ((most - 1 : Nat) : Int) = (most : Int) - 1 := by omega
    rw [em] at hlp
    have hr : (D.ref (s.cells.length + 1)).rd (dh ms (ap ⟨s.cells, s.cells.length + 1, none⟩ (qs.map tr))) = .lv false (qs.map tr) := by
      show (match (dh ms (ap ⟨s.cells, s.cells.length + 1, none⟩ (qs.map tr))).cells[s.cells.length + 1]? with | some (.lst xs) => D.lv false xs | _ => _) = _
      have : (dh ms (ap ⟨s.cells, s.cells.length + 1, none⟩ (qs.map tr))).cells[s.cells.length + 1]? = some (.lst (qs.map tr)) := by simp [dh, ap]
      rw [this]
    generalize hS0 : (⟨s.cells, s.cells.length + 1, none⟩ : S) = S0 at h1 h2 hlp hn hr ⊢
    have hc0 : S0.cells = s.cells := by rw [← hS0]
    have hfin : dh ms (ap S0 (qs.map tr)) = ⟨.lst (ms.map .int) :: (s.cells ++ [.lst (qs.map tr)]), s.cells.length + 1, none⟩ := by rw [← hS0]; rfl
    rw [← hfin]
    unfold wordsL at e1
    unfold signsL at e2
    have st : exs (calls F w (n + d + 1)) w (bTree i1 i0 i2).body [some (.ref 0), some (.int (most : Int)), some (.int ((d : Int) + 1)), none, none, none, none, none] (dh ns S0) = .rt (tr (.nd wd g qs)) (dh ms (ap S0 (qs.map tr))) := by
      unfold bTree
      simp only
      rw [exs_cons]
      have s1 : ex (calls F w (n + d + 1)) w (.asg (.tup [.nm 3, .nm 4]) (.tup [.idx (.lst [.con (.str [97]), .con (.str [98]), .con (.str [105, 116, 101, 109]), .con (.str [108, 105, 115, 116])]) (.call i1 [.var 0, .con (.int 4)]), .idx (.lst [.con (.str []), .con (.str []), .con (.str [120]), .con (.str [115, 111, 32, 105, 116, 32, 105, 115]), .con (.str [55])]) (.call i1 [.var 0, .con (.int 5)])])) [some (.ref 0), some (.int (most : Int)), some (.int ((d : Int) + 1)), none, none, none, none, none] (dh ns S0) =
          .nx [some (.ref 0), some (.int (most : Int)), some (.int ((d : Int) + 1)), some (.str wd), some (.str g), none, none, none] (dh m2 S0) := by
        simp [ck, h1 (n + d), h2 (n + d), e1, e2]
      rw [s1, L3.F.next_nx, exs_cons]
      have s2 : ex (calls F w (n + d + 1)) w (.asg (.tup [.nm 5, .nm 6]) (.tup [.bin .sub (.var 1) (.con (.int 1)), .cell (.lst [])])) [some (.ref 0), some (.int (most : Int)), some (.int ((d : Int) + 1)), some (.str wd), some (.str g), none, none, none] (dh m2 S0) =
          .nx [some (.ref 0), some (.int (most : Int)), some (.int ((d : Int) + 1)), some (.str wd), some (.str g), some (.int ((most : Int) - 1)), some (.ref (s.cells.length + 1)), none] (dh m2 (ap S0 [])) := by
        have hn2 : newCell (.lv true []) (dh m2 S0) = .ok (.ref (s.cells.length + 1)) (dh m2 (ap S0 [])) := by rw [hn, ← hc0]; rfl
        simp [ck, hn2]
      rw [s2, L3.F.next_nx, exs_cons]
      have hl2 : whI (whC (calls F w (n + d + 1)) (whlC i1)) (whB (calls F w (n + d + 1)) w (whlB i1 i0 i2)) w [some (.ref 0), some (.int (most : Int)), some (.int ((d : Int) + 1)), some (.str wd), some (.str g), some (.int ((most : Int) - 1)), some (.ref (s.cells.length + 1)), none] (dh m2 (ap S0 [])) = .nx [some (.ref 0), some (.int (most : Int)), some (.int ((d : Int) + 1)), some (.str wd), some (.str g), o5, some (.ref (s.cells.length + 1)), o7] (dh ms (ap S0 (qs.map tr))) := by
        rw [hc0] at hlp
        exact hlp
      rw [ex_whl]
      unfold whlC whlB at hl2
      rw [hl2, L3.F.next_nx, exs_cons, tr_nd]
      simp [hr, ck]
    unfold run
    rw [if_pos (show [D.ref 0, .int (most : Int), .int ((d + 1 : Nat) : Int)].length = (bTree i1 i0 i2).par from rfl)]
    have ee : ([D.ref 0, .int (most : Int), .int ((d + 1 : Nat) : Int)].map some ++ List.replicate (bTree i1 i0 i2).more none) = [some (.ref 0), some (.int (most : Int)), some (.int ((d : Int) + 1)), none, none, none, none, none] := by
      have : ((d + 1 : Nat) : Int) = (d : Int) + 1 := by omega
      rw [this]; rfl
    rw [ee, st]
end LG
end

section -- PV
set_option autoImplicit false
set_option linter.all false
set_option maxRecDepth 10000
namespace LG
open L3
theorem wrL_cons (p : T) (r : List T) : wrL (p :: r) = 32 :: (wr p ++ wrL r) := by conv => lhs; unfold wrL
theorem wrL_nil : wrL [] = [] := by unfold wrL; rfl
theorem tw_mem {p : Nat → Bool} {x : Nat} : ∀ {xs : List Nat}, x ∈ xs.takeWhile p → p x = true
  | [], h => by simp at h
  | y :: r, h => by
    by_cases hy : p y = true
    · rw [List.takeWhile_cons, if_pos hy] at h
      rcases List.mem_cons.mp h with rfl | h
      · exact hy
      · exact tw_mem h
    · rw [List.takeWhile_cons, if_neg hy] at h
      cases h
def letr (c : Nat) : Bool := letters.contains c
def wordP (xs : List Nat) : Option (List Nat × List Nat) := if xs.takeWhile letr = [] then none else some (xs.takeWhile letr, xs.dropWhile letr)
def expP (c : Nat) (xs : List Nat) : Option (List Nat) := if xs.take 1 = [c] then some (xs.drop 1) else none
def signsP (xs : List Nat) : Option (List Nat × List Nat) := if 34 ∈ xs then some (xs.takeWhile (· != 34), xs.dropWhile (· != 34)) else none
/-- the parts, one by one -/
def rl (P : List Nat → Option (T × List Nat)) : Nat → List Nat → Option (List T × List Nat)
  | 0, xs => none
  | k + 1, xs => if xs.take 1 = [32] ∧ xs.take 2 ≠ [32, 125] then (match P (xs.drop 1) with
      | none => none
      | some (t, r) => (rl P k r).map fun q => (t :: q.1, q.2)) else some ([], xs)
def rf : Nat → List Nat → Option (T × List Nat)
  | 0, _ => none
  | dp + 1, xs => (wordP xs).bind fun a => (expP 34 a.2).bind fun x2 => (signsP x2).bind fun b => (expP 123 (b.2.drop 1)).bind fun x4 => (rl (rf dp) (x4.length + 1) x4).bind fun q =>
      (if q.1.isEmpty then some q.2 else expP 32 q.2).bind fun x5 => (expP 125 x5).bind fun x6 => some (.nd a.1 b.1 q.1, x6)
theorem wordP_eq {xs : List Nat} {a : List Nat × List Nat} (h : wordP xs = some a) : xs = a.1 ++ a.2 ∧ a.1 ≠ [] ∧ a.1.all letr = true := by
  unfold wordP at h
  split at h
  · cases h
  · rename_i hn
    cases h
    refine ⟨(List.takeWhile_append_dropWhile).symm, hn, ?_⟩
    simp only [List.all_eq_true]
    exact fun x hx => tw_mem hx
theorem expP_eq {c : Nat} {xs r : List Nat} (h : expP c xs = some r) : xs = c :: r := by
  unfold expP at h
  split at h
  · rename_i q
    cases h
    cases xs with
    | nil => simp at q
    | cons x r => simp at q; subst q; rfl
  · cases h
theorem dw_head {xs : List Nat} (h : 34 ∈ xs) : ∃ r, xs.dropWhile (· != 34) = 34 :: r := by
  induction xs with
  | nil => cases h
  | cons x r ih =>
    by_cases hx : x = 34
    · subst hx; exact ⟨r, by simp⟩
    · rcases List.mem_cons.mp h with h | h
      · exact absurd h.symm hx
      · obtain ⟨q, hq⟩ := ih h
        exact ⟨q, by rw [List.dropWhile_cons, if_pos (by simpa using hx), hq]⟩
theorem signsP_eq {xs : List Nat} {b : List Nat × List Nat} (h : signsP xs = some b) : xs = b.1 ++ 34 :: b.2.drop 1 ∧ 34 ∉ b.1 := by
  unfold signsP at h
  split at h
  · rename_i hm
    cases h
    obtain ⟨r, hr⟩ := dw_head hm
    refine ⟨?_, fun hq => ?_⟩
    · conv => lhs; rw [← List.takeWhile_append_dropWhile (p := (· != 34)) (l := xs), hr]
      simp [hr]
    · have := tw_mem hq
      simp at this
  · cases h
theorem rl_eq {P : List Nat → Option (T × List Nat)} {d : Nat} (hP : ∀ xs t r, P xs = some (t, r) → xs = wr t ++ r ∧ t.deep ≤ d) : ∀ (k : Nat) (xs : List Nat) (q : List T × List Nat), rl P k xs = some q → xs = wrL q.1 ++ q.2 ∧ ∀ t ∈ q.1, t.deep ≤ d
  | 0, xs, q, h => by cases h
  | k + 1, xs, q, h => by
    unfold rl at h
    split at h
    · rename_i hc
      split at h
      · cases h
      · rename_i t r hp
        rw [Option.map_eq_some_iff] at h
        obtain ⟨q2, h, rfl⟩ := h
        obtain ⟨h1, h2⟩ := hP _ _ _ hp
        obtain ⟨h3, h4⟩ := rl_eq hP k r q2 h
        have hx : xs = 32 :: xs.drop 1 := by
          cases xs with
          | nil => simp at hc
          | cons x l => simp at hc; rw [hc.1]; rfl
        refine ⟨?_, fun u hu => ?_⟩
        · rw [hx, h1, h3]
          rw [wrL_cons]
          simp
        · rcases List.mem_cons.mp hu with rfl | hu
          · exact h2
          · exact h4 u hu
    · cases h
      exact ⟨by unfold wrL; rfl, fun t ht => by cases ht⟩
theorem rf_eq : ∀ (dp : Nat) (xs : List Nat) (t : T) (r : List Nat), rf dp xs = some (t, r) → xs = wr t ++ r ∧ t.deep ≤ dp
  | 0, xs, t, r, h => by cases h
  | dp + 1, xs, t, r, h => by
    unfold rf at h
    simp only [Option.bind_eq_some_iff] at h
    obtain ⟨a, ha, x2, h2, b, hb, x4, h4, q, hq, x5, h5, x6, h6, h⟩ := h
    cases h
    obtain ⟨e1, _, _⟩ := wordP_eq ha
    have e2 := expP_eq h2
    obtain ⟨e3, _⟩ := signsP_eq hb
    have e4 := expP_eq h4
    obtain ⟨e5, e5'⟩ := rl_eq (rf_eq dp) _ _ _ hq
    have e6 := expP_eq h6
    refine ⟨?_, ?_⟩
    · rw [wr_nd]
      cases hn : q.1.isEmpty with
      | true =>
        rw [hn] at h5
        simp only [if_true, Option.some.injEq] at h5
        rw [e1, e2, e3, e4, e5, h5, e6]
        simp
      | false =>
        rw [hn] at h5
        simp only [Bool.false_eq_true, if_false] at h5
        have e7 := expP_eq h5
        rw [e1, e2, e3, e4, e5, e7, e6]
        simp
    · rw [deep_nd]
      have := deepL_all e5'
      omega
theorem tw_app {p : Nat → Bool} {a : List Nat} {c : Nat} {r : List Nat} (h1 : a.all p = true) (h2 : p c = false) : (a ++ c :: r).takeWhile p = a ∧ (a ++ c :: r).dropWhile p = c :: r := by
  induction a with
  | nil => simp [h2]
  | cons x l ih =>
    simp only [List.all_cons, Bool.and_eq_true] at h1
    obtain ⟨i1, i2⟩ := ih h1.2
    simp [h1.1, i1, i2]
theorem good_word {wd : List Nat} (h : isWord (.str wd) = true) : wd ≠ [] ∧ wd.all letr = true := by
  unfold isWord at h
  simp only [Bool.and_eq_true, decide_eq_true_eq] at h
  refine ⟨fun e => by rw [e] at h; simp at h, h.2.2⟩
theorem good_signs {g : List Nat} (h : areSigns (.str g) = true) : g.all (· != 34) = true := by
  unfold areSigns at h
  simp only [Bool.and_eq_true, decide_eq_true_eq, List.all_eq_true] at h
  simp only [List.all_eq_true]
  intro x hx
  have := h.2 x hx
  unfold signOk at this
  simp at this
  simp
  exact this.2.2.2
theorem wr_head {t : T} (h : t.good = true) : ∃ c r, wr t = c :: r ∧ letr c = true := by
  cases t with
  | nd wd g ps =>
    rw [good_nd] at h
    simp only [Bool.and_eq_true] at h
    obtain ⟨h1, h2⟩ := good_word h.1.1
    cases wd with
    | nil => exact absurd rfl h1
    | cons c r =>
      simp only [List.all_cons, Bool.and_eq_true] at h2
      exact ⟨c, _, by rw [wr_nd]; rfl, h2.1⟩
theorem rl_ok {P : List Nat → Option (T × List Nat)} : ∀ (ps : List T) (k : Nat) (r : List Nat), (∀ p ∈ ps, ∀ r, P (wr p ++ r) = some (p, r)) → (∀ p ∈ ps, p.good = true) → ps.length < k → ¬ (r.take 1 = [32] ∧ r.take 2 ≠ [32, 125]) → rl P k (wrL ps ++ r) = some (ps, r)
  | [], k + 1, r, _, _, _, hr => by
    unfold rl wrL
    rw [List.nil_append, if_neg hr]
  | p :: q, k + 1, r, hP, hg, hk, hr => by
    have ih := rl_ok q k r (fun t ht => hP t (List.mem_cons_of_mem _ ht)) (fun t ht => hg t (List.mem_cons_of_mem _ ht)) (by simpa using hk) hr
    obtain ⟨c, l, hw, hc⟩ := wr_head (hg p List.mem_cons_self)
    have hc2 : c ≠ 125 := fun e => by rw [e] at hc; revert hc; decide
    have e : wrL (p :: q) ++ r = 32 :: (wr p ++ (wrL q ++ r)) := by rw [wrL_cons]; simp
    rw [e]
    unfold rl
    rw [if_pos (by rw [hw]; simp [hc2])]
    show (match P (wr p ++ (wrL q ++ r)) with | none => none | some (t, r) => (rl P k r).map fun (q : List T × List Nat) => (t :: q.1, q.2)) = _
    rw [hP p List.mem_cons_self]
    simp only
    rw [ih]; rfl
  | _, 0, _, _, _, hk, _ => absurd hk (by omega)
theorem rf_ok : ∀ (dp : Nat) (t : T) (r : List Nat), t.deep ≤ dp → t.good = true → rf dp (wr t ++ r) = some (t, r)
  | 0, t, r, h, _ => absurd (deep_pos t) (by omega)
  | dp + 1, .nd wd g ps, r, h, hg => by
    rw [good_nd] at hg
    simp only [Bool.and_eq_true] at hg
    obtain ⟨⟨g1, g2⟩, g3⟩ := hg
    have gps : ∀ p ∈ ps, p.good = true := by
      have : ∀ qs : List T, goodL qs = true → ∀ p ∈ qs, p.good = true := by
        intro qs
        induction qs with
        | nil => intro _ p hp; cases hp
        | cons q l ih =>
          intro h p hp
          rw [goodL_cons] at h
          simp only [Bool.and_eq_true] at h
          rcases List.mem_cons.mp hp with rfl | hp
          · exact h.1
          · exact ih h.2 p hp
      exact this ps g3
    obtain ⟨w1, w2⟩ := good_word g1
    have s1 := good_signs g2
    have e : wr (.nd wd g ps) ++ r = wd ++ 34 :: (g ++ 34 :: 123 :: (wrL ps ++ ((if ps.isEmpty then [] else [32]) ++ 125 :: r))) := by rw [wr_nd]; simp
    rw [e]
    unfold rf
    obtain ⟨a1, a2⟩ := tw_app (p := letr) (c := 34) (r := g ++ 34 :: 123 :: (wrL ps ++ ((if ps.isEmpty then [] else [32]) ++ 125 :: r))) w2 (by decide)
    have hwP : wordP (wd ++ 34 :: (g ++ 34 :: 123 :: (wrL ps ++ ((if ps.isEmpty then [] else [32]) ++ 125 :: r)))) = some (wd, 34 :: (g ++ 34 :: 123 :: (wrL ps ++ ((if ps.isEmpty then [] else [32]) ++ 125 :: r)))) := by
      unfold wordP
      rw [a1, a2, if_neg w1]
    rw [hwP]
    obtain ⟨b1, b2⟩ := tw_app (p := (· != 34)) (c := 34) (r := 123 :: (wrL ps ++ ((if ps.isEmpty then [] else [32]) ++ 125 :: r))) s1 (by decide)
    have hsP : signsP (g ++ 34 :: 123 :: (wrL ps ++ ((if ps.isEmpty then [] else [32]) ++ 125 :: r))) = some (g, 34 :: 123 :: (wrL ps ++ ((if ps.isEmpty then [] else [32]) ++ 125 :: r))) := by
      unfold signsP
      rw [b1, b2, if_pos (by simp)]
    have hx : ∀ c xs, expP c (c :: xs) = some xs := fun c xs => by unfold expP; simp
    have hlen : ps.length < (wrL ps ++ ((if ps.isEmpty then [] else [32]) ++ 125 :: r)).length + 1 := by
      have : ∀ qs : List T, qs.length ≤ (wrL qs).length := by
        intro qs
        induction qs with
        | nil => simp
        | cons q l ih => rw [wrL_cons]; simp; omega
      have := this ps
      simp only [List.length_append]
      omega
    have hrl := rl_ok (P := rf dp) ps _ ((if ps.isEmpty then [] else [32]) ++ 125 :: r) (fun p hp r => rf_ok dp p r (deep_of h p hp) (gps p hp)) gps hlen (by cases ps.isEmpty <;> simp)
    simp only [Option.bind_some, hx, hsP, List.drop_succ_cons, List.drop_zero, hrl]
    cases hn : ps.isEmpty with
    | true => simp [hx]
    | false => simp [hx]
end LG
end

section -- PX
set_option autoImplicit false
set_option linter.all false
set_option maxRecDepth 10000
namespace L3
theorem cut_mid {α : Type} (xs : List α) (a b : Nat) : cut xs (some (a : Int)) (some (b : Int)) = (xs.drop a).take (b - a) := by
  unfold cut
  rw [sIx_nat, sIx_nat]
  by_cases h : a ≤ xs.length
  · rw [Nat.min_eq_left h]
    by_cases h2 : b ≤ xs.length
    · rw [Nat.min_eq_left h2]
    · rw [Nat.min_eq_right (by omega), List.take_of_length_le (by simp), List.take_of_length_le (by simp; omega)]
  · rw [Nat.min_eq_right (show xs.length ≤ a by omega), List.drop_of_length_le (Nat.le_refl _), List.drop_of_length_le (show xs.length ≤ a by omega)]
    simp
theorem slcS {z : List Nat} {lo hi : Option Int} (h : z.length ≤ 16777216) : slc2 lo hi (.str z) = some (.str (cut z lo hi)) := by
  show (if _ then _ else _) = _
  rw [if_pos (by rw [bigN]; exact h)]
theorem lenS {z : List Nat} (h : z.length ≤ 16777216) : bi .len [.str z] = some (.int (z.length : Int)) := by
  rw [bi_len_str, if_pos (by rw [bigN]; exact h)]
theorem idxS {z : List Nat} {k c : Nat} (h : z.length ≤ 16777216) (hk : z[k]? = some c) : idx2 (.str z) (.int (k : Int)) = some (.str [c]) := by
  show (if _ then _ else _) = _
  rw [if_pos (by rw [bigN]; exact h), atI_nat, hk]; rfl
theorem findS {z : List Nat} {c k : Nat} (h : z.length ≤ 16777216) (hk : k ≤ z.length) : bm .find (.str z) [.str [c], .int (k : Int)] = some (.int (findFrom c (z.drop k) k)) := by
  show (if _ then _ else _) = _
  rw [if_pos ⟨by omega, by omega, by rw [bigN]; exact h⟩]
  simp
theorem findFrom_tw (c : Nat) : ∀ (xs : List Nat) (k : Nat), findFrom c xs k = if c ∈ xs then ((k + (xs.takeWhile (· != c)).length : Nat) : Int) else -1
  | [], k => by simp [findFrom]
  | x :: r, k => by
    unfold findFrom
    by_cases h : x = c
    · subst h; simp
    · rw [if_neg h, findFrom_tw c r (k + 1)]
      have h2 : (x != c) = true := by simpa using h
      have h3 : ¬ c = x := fun e => h e.symm
      simp only [List.mem_cons, h3, false_or, List.takeWhile_cons, h2, if_true, List.length_cons]
      split
      · congr 1; omega
      · rfl
end L3
namespace LG
open L3
variable {w n : Nat} {s : S} {F : Array Fn} {i0 i1 i2 i3 : Nat} {L M : List D}
theorem lt_trD : ∀ (d : Nat) (t : T), t.deep ≤ d → (tr t).lt 0 = true
  | 0, t, h => absurd (deep_pos t) (by omega)
  | d + 1, .nd wd g ps, h => by
    rw [tr_nd]
    have : D.ltL 0 (ps.map tr) = true := ltL_all fun v hv => by
      obtain ⟨p, hp, rfl⟩ := List.mem_map.mp hv
      exact lt_trD d p (deep_of h p hp)
    show (true && (true && (D.ltL 0 (ps.map tr) && true))) = true
    rw [this]; rfl
theorem lt_trA (t : T) : (tr t).lt 0 = true := lt_trD _ t (Nat.le_refl _)
theorem ltL_trA (ps : List T) : D.ltL 0 (ps.map tr) = true := ltL_all fun v hv => by
  obtain ⟨p, hp, rfl⟩ := List.mem_map.mp hv
  exact lt_trA p
theorem tw_get {p : Nat → Bool} : ∀ {xs : List Nat} {j : Nat}, j < (xs.takeWhile p).length → ∃ c, xs[j]? = some c ∧ p c = true
  | [], j, h => by simp at h
  | x :: r, j, h => by
    by_cases hx : p x = true
    · rw [List.takeWhile_cons, if_pos hx] at h
      cases j with
      | zero => exact ⟨x, rfl, hx⟩
      | succ j =>
        obtain ⟨c, h1, h2⟩ := tw_get (xs := r) (j := j) (by simpa using h)
        exact ⟨c, by simpa using h1, h2⟩
    · rw [List.takeWhile_cons, if_neg hx] at h
      simp at h
theorem tw_end {p : Nat → Bool} : ∀ {xs : List Nat}, xs[(xs.takeWhile p).length]? = none ∨ ∃ c, xs[(xs.takeWhile p).length]? = some c ∧ p c = false
  | [] => .inl rfl
  | x :: r => by
    by_cases hx : p x = true
    · rw [List.takeWhile_cons, if_pos hx]
      rcases tw_end (p := p) (xs := r) with h | ⟨c, h1, h2⟩
      · exact .inl (by simpa using h)
      · exact .inr ⟨c, by simpa using h1, h2⟩
    · rw [List.takeWhile_cons, if_neg hx]
      exact .inr ⟨x, rfl, by simpa using hx⟩
theorem tw_len (p : Nat → Bool) (xs : List Nat) : (xs.takeWhile p).length ≤ xs.length := by
  have := congrArg List.length (List.takeWhile_append_dropWhile (p := p) (l := xs))
  rw [List.length_append] at this
  omega
def bWordAt : Fn := ⟨2, 1, [
.asg (.nm 2) (.var 1), 
.whl (.and (.cmp .lt (.var 1) (.bi .len [.var 0])) (.cmp .inn (.idx (.var 0) (.var 1)) (.glob (.str [97, 98, 99, 100, 101, 102, 103, 104, 105, 106, 107, 108, 109, 110, 111, 112, 113, 114, 115, 116, 117, 118, 119, 120, 121, 122])))) [
.aug 1 .add (.con (.int 1))], 
.ite (.cmp .eq (.var 1) (.var 2)) [
.raise 2] [], 
.ret (.var 1)]⟩
theorem r_wordat (hF : F[i0]? = some bWordAt) {Z : List Nat} {p : Nat} (hz : Z.length ≤ 10000) (hw : 10001 < w) (hp : p ≤ Z.length) : calls F w (n + 1) i0 [.str Z, .int (p : Int)] s = match wordP (Z.drop p) with
    | none => .exc 2 s
    | some a => .ok (.int ((p + a.1.length : Nat) : Int)) s := by
  rw [calls_eq hF]
  have hl := lenS (z := Z) (by omega)
  obtain ⟨e', s', h1, h2, h3⟩ := whI_count (c := whC (calls F w n) (.and (.cmp .lt (.var 1) (.bi .len [.var 0])) (.cmp .inn (.idx (.var 0) (.var 1)) (.glob (.str letters))))) (b := whB (calls F w n) w [.aug 1 .add (.con (.int 1))])
    (P := fun j e s' => e = [some (.str Z), some (.int ((p + j : Nat) : Int)), some (.int (p : Int))] ∧ s' = s) (m := ((Z.drop p).takeWhile letr).length)
    (fun j e s' hj hP => by
      obtain ⟨rfl, rfl⟩ := hP
      obtain ⟨c, hc, hc2⟩ := tw_get hj
      rw [List.getElem?_drop] at hc
      have hlt : p + j < Z.length := (List.getElem?_eq_some_iff.mp hc).1
      have hi := idxS (z := Z) (by omega) hc
      have hlt2 : ((p + j : Nat) : Int) < (Z.length : Int) := by omega
      have hm : cmp2 .inn (.str [c]) (.str letters) = some true := by rw [cmp_inS]; exact congrArg some hc2
      refine ⟨?_, [some (.str Z), some (.int ((p + (j + 1) : Nat) : Int)), some (.int (p : Int))], s', ?_, rfl, rfl⟩
      · simp [whC, hl, hlt, hlt2, hi, hm, -cmp_inS, -Int.natCast_add, -bi_len_str]
      · have : ((p + j : Nat) : Int) + 1 = ((p + (j + 1) : Nat) : Int) := by omega
        simp [whB, aug2, this, -Int.natCast_add])
    (fun e s' hP => by
      obtain ⟨rfl, rfl⟩ := hP
      by_cases hlt : p + ((Z.drop p).takeWhile letr).length < Z.length
      · have hlt2 : ((p + ((Z.drop p).takeWhile letr).length : Nat) : Int) < (Z.length : Int) := by omega
        rcases tw_end (p := letr) (xs := Z.drop p) with h | ⟨c, hc, hc2⟩
        · rw [List.getElem?_drop, List.getElem?_eq_none_iff] at h
          omega
        · rw [List.getElem?_drop] at hc
          have hi := idxS (z := Z) (by omega) hc
          have hm : cmp2 .inn (.str [c]) (.str letters) = some false := by rw [cmp_inS]; exact congrArg some hc2
          simp [whC, hl, hlt, hlt2, hi, hm, -cmp_inS, -Int.natCast_add, -bi_len_str]
      · have hlt2 : ¬ ((p + ((Z.drop p).takeWhile letr).length : Nat) : Int) < (Z.length : Int) := by omega
        simp [whC, hl, hlt, hlt2, -Int.natCast_add, -bi_len_str])
    ((Z.drop p).takeWhile letr).length 0 w [some (.str Z), some (.int (p : Int)), some (.int (p : Int))] s (by omega) (by
      have := tw_len letr (Z.drop p)
      rw [List.length_drop] at this
      omega) ⟨by simp, rfl⟩
  subst h2 h3
  unfold letters at h1
  unfold wordP
  by_cases hk : (Z.drop p).takeWhile letr = []
  · rw [if_pos hk]
    rw [hk] at h1
    simp [run, bWordAt, h1]
  · rw [if_neg hk]
    have hk0 : ¬ ((Z.drop p).takeWhile letr).length = 0 := fun e => hk (List.eq_nil_of_length_eq_zero e)
    have hne : ¬ ((p + ((Z.drop p).takeWhile letr).length : Nat) : Int) = (p : Int) := by omega
    simp [run, bWordAt, h1, hne, -Int.natCast_add]
theorem c_wordat (hF : F[i0]? = some bWordAt) {Z : List Nat} {p : Nat} (hz : Z.length ≤ 10000) (hw : 10001 < w) (hp : p ≤ Z.length) : callR (calls F w (n + 1) i0) [.str Z, .int (p : Int)] s = match wordP (Z.drop p) with
    | none => .exc 2 s
    | some a => .ok (.int ((p + a.1.length : Nat) : Int)) s := by
  have h := r_wordat (n := n) (s := s.ent) hF hz hw hp
  cases q : wordP (Z.drop p) with
  | none => rw [q] at h; exact callR_exc h
  | some a => rw [q] at h; exact callR_pure h rfl
def bExp : Fn := ⟨3, 0, [
.ite (.cmp .ne (.slc (.var 0) (some (.var 1)) (some (.bin .add (.var 1) (.con (.int 1))))) (.var 2)) [
.raise 2] [], 
.ret (.bin .add (.var 1) (.con (.int 1)))]⟩
theorem c_exp (hF : F[i0]? = some bExp) {Z : List Nat} {p c : Nat} (hz : Z.length ≤ 10000) : callR (calls F w (n + 1) i0) [.str Z, .int (p : Int), .str [c]] s = match expP c (Z.drop p) with
    | none => .exc 2 s
    | some _ => .ok (.int ((p + 1 : Nat) : Int)) s := by
  have hc := cut_mid Z p (p + 1)
  rw [Nat.add_sub_cancel_left] at hc
  have hc : cut Z (some (p : Int)) (some ((p : Int) + 1)) = (Z.drop p).take 1 := by rw [← hc]; rfl
  have hs := slcS (z := Z) (lo := some (p : Int)) (hi := some ((p : Int) + 1)) (by omega)
  rw [hc] at hs
  unfold expP
  by_cases h : (Z.drop p).take 1 = [c]
  · rw [if_pos h]
    refine callR_pure ?_ rfl
    rw [calls_eq hF]
    rw [h] at hs
    simp [run, bExp, hs]
  · rw [if_neg h]
    refine callR_exc ?_
    rw [calls_eq hF]
    have hb : ((Z.drop p).take 1 == [c]) = false := by rw [beq_eq_false_iff_ne]; exact h
    simp [run, bExp, hs, hb]
end LG
end

section -- PY
set_option autoImplicit false
set_option linter.all false
set_option maxRecDepth 10000
namespace LG
open L3
variable {w n : Nat} {s : S} {F : Array Fn} {i0 i1 i2 i3 : Nat} {L M : List D}
theorem suf_drop {Z a r : List Nat} {p : Nat} (h : Z.drop p = a ++ r) (hp : p ≤ Z.length) : Z.drop (Z.length - r.length) = r ∧ Z.length - r.length = p + a.length := by
  have hl := congrArg List.length h
  rw [List.length_drop, List.length_append] at hl
  have e : Z.length - r.length = p + a.length := by omega
  refine ⟨?_, e⟩
  rw [e, ← List.drop_drop, h, List.drop_left]
theorem wr_pos (t : T) : 0 < (wr t).length := by
  cases t
  rw [wr_nd]
  simp only [List.length_append, List.length_cons, List.length_nil]
  omega
def rdC : CE := .and (.cmp .eq (.slc (.var 0) (some (.var 1)) (some (.bin .add (.var 1) (.con (.int 1))))) (.con (.str [32]))) (.cmp .ne (.slc (.var 0) (some (.var 1)) (some (.bin .add (.var 1) (.con (.int 2))))) (.con (.str [32, 125])))
def rdB (i : Nat) : List CS := [
.asg (.tup [.nm 8, .nm 1]) (.call i [.var 0, .bin .add (.var 1) (.con (.int 1)), .bin .sub (.var 2) (.con (.int 1))]), 
.expr (.mm .append (.var 7) [.var 8])]
/-- what a reader answers -/
def rdAns (Z : List Nat) (o : Option (T × List Nat)) (s : S) : L3.R D := match o with
  | none => .exc 2 s
  | some (t, r) => .ok (.tup [tr t, .int ((Z.length - r.length : Nat) : Int)]) s
theorem rd_cond {C : Nat → List D → S → R D} {Z : List Nat} {p : Nat} (hz : Z.length ≤ 10000) {o2 o3 o4 o5 o6 o7 o8 : Option D} (s : S) :
    whC C rdC [some (.str Z), some (.int (p : Int)), o2, o3, o4, o5, o6, o7, o8] s = .ok (decide ((Z.drop p).take 1 = [32] ∧ (Z.drop p).take 2 ≠ [32, 125])) s := by
  have c1 := cut_mid Z p (p + 1)
  have c2 := cut_mid Z p (p + 2)
  rw [Nat.add_sub_cancel_left] at c1 c2
  have c1 : cut Z (some (p : Int)) (some ((p : Int) + 1)) = (Z.drop p).take 1 := by rw [← c1]; rfl
  have c2 : cut Z (some (p : Int)) (some ((p : Int) + 2)) = (Z.drop p).take 2 := by rw [← c2]; rfl
  have s1 := slcS (z := Z) (lo := some (p : Int)) (hi := some ((p : Int) + 1)) (by omega)
  have s2 := slcS (z := Z) (lo := some (p : Int)) (hi := some ((p : Int) + 2)) (by omega)
  rw [c1] at s1
  rw [c2] at s2
  generalize (Z.drop p).take 1 = A at s1
  generalize (Z.drop p).take 2 = B at s2
  by_cases h1 : A = [32]
  · subst h1
    by_cases h2 : B = [32, 125]
    · subst h2
      simp [whC, rdC, s1, s2]
    · have hb : (B == [32, 125]) = false := by rw [beq_eq_false_iff_ne]; exact h2
      simp [whC, rdC, s1, s2, hb, h2]
  · have hb : (A == [32]) = false := by rw [beq_eq_false_iff_ne]; exact h1
    simp [whC, rdC, s1, hb, h1]
theorem read_loop {C : Nat → List D → S → R D} {Z : List Nat} {i dp : Nat} (hz : Z.length ≤ 10000) {o3 o4 o5 o6 : Option D} (hC : ∀ p, p ≤ Z.length → ∀ s, callR (C i) [.str Z, .int (p : Int), .int (dp : Int)] s = rdAns Z (rf dp (Z.drop p)) s) :
    ∀ (k fuel p : Nat) (qs : List T) (o8 : Option D), p ≤ Z.length → (Z.drop p).length < k → k ≤ fuel → qs.length + (Z.drop p).length ≤ Z.length → match rl (rf dp) k (Z.drop p) with
      | none => ∃ (e' : Env) (qs' : List T), whI (whC C rdC) (whB C w (rdB i)) fuel [some (.str Z), some (.int (p : Int)), some (.int ((dp : Int) + 1)), o3, o4, o5, o6, some (.ref s.cells.length), o8] (ap s (qs.map tr)) = .ex 2 e' (ap s (qs'.map tr))
      | some q => ∃ o8', whI (whC C rdC) (whB C w (rdB i)) fuel [some (.str Z), some (.int (p : Int)), some (.int ((dp : Int) + 1)), o3, o4, o5, o6, some (.ref s.cells.length), o8] (ap s (qs.map tr)) =
          .nx [some (.str Z), some (.int ((Z.length - q.2.length : Nat) : Int)), some (.int ((dp : Int) + 1)), o3, o4, o5, o6, some (.ref s.cells.length), o8'] (ap s ((qs ++ q.1).map tr)) := by
  intro k
  induction k with
  | zero => intro fuel p qs o8 _ h; omega
  | succ k ih =>
    intro fuel p qs o8 hp hk hf hq
    obtain ⟨fuel, rfl⟩ : ∃ f, fuel = f + 1 := ⟨fuel - 1, by omega⟩
    have hc := rd_cond (C := C) hz (p := p) (o2 := some (.int ((dp : Int) + 1))) (o3 := o3) (o4 := o4) (o5 := o5) (o6 := o6) (o7 := some (.ref s.cells.length)) (o8 := o8) (ap s (qs.map tr))
    unfold rl
    by_cases hcond : (Z.drop p).take 1 = [32] ∧ (Z.drop p).take 2 ≠ [32, 125]
    · rw [if_pos hcond]
      rw [decide_eq_true hcond] at hc
      have hpl : p < Z.length := by
        by_cases h : p < Z.length
        · exact h
        · rw [List.drop_of_length_le (by omega)] at hcond
          simp at hcond
      have e1 : (p : Int) + 1 = ((p + 1 : Nat) : Int) := by omega
      have e2 : (dp : Int) + 1 - 1 = (dp : Int) := by omega
      have hcl := hC (p + 1) (by omega)
      rw [List.drop_drop]
      cases hrf : rf dp (Z.drop (p + 1)) with
      | none =>
        have hcl := hcl (ap s (qs.map tr))
        rw [hrf] at hcl
        simp only [rdAns] at hcl
        simp only
        refine ⟨[some (.str Z), some (.int (p : Int)), some (.int ((dp : Int) + 1)), o3, o4, o5, o6, some (.ref s.cells.length), o8], qs, ?_⟩
        have hb : whB C w (rdB i) [some (.str Z), some (.int (p : Int)), some (.int ((dp : Int) + 1)), o3, o4, o5, o6, some (.ref s.cells.length), o8] (ap s (qs.map tr)) = .ex 2 [some (.str Z), some (.int (p : Int)), some (.int ((dp : Int) + 1)), o3, o4, o5, o6, some (.ref s.cells.length), o8] (ap s (qs.map tr)) := by
          simp [whB, rdB, e1, e2, hcl, -Int.natCast_add]
        rw [whI, hc]
        simp only [L3.F.of_ok, if_true, hb, L3.F.turn_ex]
      | some a =>
        obtain ⟨t, r⟩ := a
        have hcl := hcl (ap s (qs.map tr))
        rw [hrf] at hcl
        simp only [rdAns] at hcl
        obtain ⟨h1, _⟩ := rf_eq dp _ _ _ hrf
        obtain ⟨h2, h3⟩ := suf_drop h1 (by omega)
        have hlen := congrArg List.length h1
        rw [List.length_drop, List.length_append] at hlen
        rw [List.length_drop] at hk hq
        have happ := ap_app (s := s) (L := qs.map tr) (x := tr t) (ltL_trA qs) (lt_trA t) (by rw [List.length_map]; omega)
        have e3 : qs.map tr ++ [tr t] = (qs ++ [t]).map tr := by simp
        rw [e3] at happ
        have hb : whB C w (rdB i) [some (.str Z), some (.int (p : Int)), some (.int ((dp : Int) + 1)), o3, o4, o5, o6, some (.ref s.cells.length), o8] (ap s (qs.map tr)) = .nx [some (.str Z), some (.int ((Z.length - r.length : Nat) : Int)), some (.int ((dp : Int) + 1)), o3, o4, o5, o6, some (.ref s.cells.length), some (tr t)] (ap s ((qs ++ [t]).map tr)) := by
          unfold whB rdB
          rw [exs_cons]
          have s1 : ex C w (.asg (.tup [.nm 8, .nm 1]) (.call i [.var 0, .bin .add (.var 1) (.con (.int 1)), .bin .sub (.var 2) (.con (.int 1))])) [some (.str Z), some (.int (p : Int)), some (.int ((dp : Int) + 1)), o3, o4, o5, o6, some (.ref s.cells.length), o8] (ap s (qs.map tr)) =
              .nx [some (.str Z), some (.int ((Z.length - r.length : Nat) : Int)), some (.int ((dp : Int) + 1)), o3, o4, o5, o6, some (.ref s.cells.length), some (tr t)] (ap s (qs.map tr)) := by
            simp [e1, e2, hcl, -Int.natCast_add, -Int.natCast_sub]
          rw [s1, L3.F.next_nx, exs_cons]
          simp [ap_cell, happ, -List.map_append]
        have ih2 := ih fuel (Z.length - r.length) (qs ++ [t]) (some (tr t)) (by omega) (by rw [h2]; have := wr_pos t; omega) (by omega) (by rw [h2, List.length_append]; have := wr_pos t; simp; omega)
        rw [h2] at ih2
        simp only
        cases hrl : rl (rf dp) k r with
        | none =>
          rw [hrl] at ih2
          obtain ⟨e', qs', h4⟩ := ih2
          refine ⟨e', qs', ?_⟩
          rw [whI, hc]
          simp only [L3.F.of_ok, if_true, hb, L3.F.turn_nx]
          exact h4
        | some q =>
          rw [hrl] at ih2
          obtain ⟨o8', h4⟩ := ih2
          refine ⟨o8', ?_⟩
          rw [whI, hc]
          simp only [L3.F.of_ok, if_true, hb, L3.F.turn_nx]
          rw [h4]
          simp
    · rw [if_neg hcond]
      rw [decide_eq_false hcond] at hc
      refine ⟨o8, ?_⟩
      rw [whI, hc]
      have e : Z.length - (Z.drop p).length = p := by rw [List.length_drop]; omega
      simp only [L3.F.of_ok, Bool.false_eq_true, if_false, List.append_nil, e]
end LG
end

section -- PZ
set_option autoImplicit false
set_option linter.all false
set_option maxRecDepth 10000
namespace LG
open L3
variable {w n : Nat} {s : S} {F : Array Fn} {i0 i1 i2 i3 : Nat} {L M : List D}
def bRead (iw ie i : Nat) : Fn := ⟨3, 6, [
.ite (.cmp .eq (.var 2) (.con (.int 0))) [
.raise 2] [], 
.asg (.nm 3) (.call iw [.var 0, .var 1]), 
.asg (.nm 4) (.slc (.var 0) (some (.var 1)) (some (.var 3))), 
.asg (.nm 5) (.call ie [.var 0, .var 3, .con (.str [34])]), 
.asg (.nm 6) (.bm .find (.var 0) [.con (.str [34]), .var 5]), 
.ite (.cmp .lt (.var 6) (.con (.int 0))) [
.raise 2] [], 
.asg (.nm 1) (.call ie [.var 0, .bin .add (.var 6) (.con (.int 1)), .con (.str [123])]), 
.asg (.nm 7) (.cell (.lst [])), 
.whl (.and (.cmp .eq (.slc (.var 0) (some (.var 1)) (some (.bin .add (.var 1) (.con (.int 1))))) (.con (.str [32]))) (.cmp .ne (.slc (.var 0) (some (.var 1)) (some (.bin .add (.var 1) (.con (.int 2))))) (.con (.str [32, 125])))) [
.asg (.tup [.nm 8, .nm 1]) (.call i [.var 0, .bin .add (.var 1) (.con (.int 1)), .bin .sub (.var 2) (.con (.int 1))]), 
.expr (.mm .append (.var 7) [.var 8])], 
.ite (.cmp .gt (.bi .len [.var 7]) (.con (.int 0))) [
.asg (.nm 1) (.call ie [.var 0, .var 1, .con (.str [32])])] [], 
.ret (.tup [.tup [.var 4, .slc (.var 0) (some (.var 5)) (some (.var 6)), .bi .tuple [.var 7]], .call ie [.var 0, .var 1, .con (.str [125])]])]⟩
/-- an exception leaves; the list that was made may stand there -/
def Bad (f : L3.F) (s : S) : Prop := (∃ e, f = .ex 2 e s) ∨ ∃ e L, f = .ex 2 e (ap s L)
theorem next_ex {f : L3.F} {c : Nat} {e : Env} {t : S} {k : Env → S → L3.F} (h : f = .ex c e t) : f.next k = .ex c e t := by rw [h]; rfl
theorem read_body {C : Nat → List D → S → R D} {Z : List Nat} {dp p : Nat} (hz : Z.length ≤ 10000) (hw : 10001 < w) (hp : p ≤ Z.length)
    (hW : ∀ p, p ≤ Z.length → ∀ s, callR (C i1) [.str Z, .int (p : Int)] s = match wordP (Z.drop p) with | none => .exc 2 s | some a => .ok (.int ((p + a.1.length : Nat) : Int)) s)
    (hE : ∀ (p c : Nat) (s : S), callR (C i2) [.str Z, .int (p : Int), .str [c]] s = match expP c (Z.drop p) with | none => .exc 2 s | some _ => .ok (.int ((p + 1 : Nat) : Int)) s)
    (hC : ∀ p, p ≤ Z.length → ∀ s, callR (C i0) [.str Z, .int (p : Int), .int (dp : Int)] s = rdAns Z (rf dp (Z.drop p)) s) :
    match rf (dp + 1) (Z.drop p) with
    | none => Bad (exs C w (bRead i1 i2 i0).body [some (.str Z), some (.int (p : Int)), some (.int ((dp : Int) + 1)), none, none, none, none, none, none] s) s
    | some (t, r) => ∃ L, exs C w (bRead i1 i2 i0).body [some (.str Z), some (.int (p : Int)), some (.int ((dp : Int) + 1)), none, none, none, none, none, none] s = .rt (.tup [tr t, .int ((Z.length - r.length : Nat) : Int)]) (ap s L) := by
  unfold bRead
  simp only
  rw [exs_cons]
  have hd0 : ¬ ((dp : Int) + 1 = 0) := by omega
  have s1 : ex C w (.ite (.cmp .eq (.var 2) (.con (.int 0))) [.raise 2] []) [some (.str Z), some (.int (p : Int)), some (.int ((dp : Int) + 1)), none, none, none, none, none, none] s = .nx [some (.str Z), some (.int (p : Int)), some (.int ((dp : Int) + 1)), none, none, none, none, none, none] s := by simp [hd0]
  rw [s1, L3.F.next_nx, exs_cons]
  have h2 := hW p hp s
  unfold rf
  cases ha : wordP (Z.drop p) with
  | none =>
    rw [ha] at h2
    refine .inl ⟨[some (.str Z), some (.int (p : Int)), some (.int ((dp : Int) + 1)), none, none, none, none, none, none], next_ex ?_⟩
    simp [h2]
  | some a =>
    rw [ha] at h2
    obtain ⟨e1, _, _⟩ := wordP_eq ha
    obtain ⟨d1, l1⟩ := suf_drop e1 hp
    have hlen1 := congrArg List.length e1
    rw [List.length_drop, List.length_append] at hlen1
    have d1 : Z.drop (p + a.1.length) = a.2 := by rw [← l1]; exact d1
    have s2 : ex C w (.asg (.nm 3) (.call i1 [.var 0, .var 1])) [some (.str Z), some (.int (p : Int)), some (.int ((dp : Int) + 1)), none, none, none, none, none, none] s = .nx [some (.str Z), some (.int (p : Int)), some (.int ((dp : Int) + 1)), some (.int ((p + a.1.length : Nat) : Int)), none, none, none, none, none] s := by
      simp [h2, -Int.natCast_add]
    rw [s2, L3.F.next_nx, exs_cons]
    have c1 := cut_mid Z p (p + a.1.length)
    rw [Nat.add_sub_cancel_left, e1, List.take_left] at c1
    have sl1 := slcS (z := Z) (lo := some (p : Int)) (hi := some ((p + a.1.length : Nat) : Int)) (by omega)
    rw [c1] at sl1
    have s3 : ex C w (.asg (.nm 4) (.slc (.var 0) (some (.var 1)) (some (.var 3)))) [some (.str Z), some (.int (p : Int)), some (.int ((dp : Int) + 1)), some (.int ((p + a.1.length : Nat) : Int)), none, none, none, none, none] s = .nx [some (.str Z), some (.int (p : Int)), some (.int ((dp : Int) + 1)), some (.int ((p + a.1.length : Nat) : Int)), some (.str a.1), none, none, none, none] s := by
      simp [sl1, -Int.natCast_add]
    rw [s3, L3.F.next_nx, exs_cons]
    have h4 := hE (p + a.1.length) 34 s
    rw [d1] at h4
    simp only [Option.bind_some]
    cases hb : expP 34 a.2 with
    | none =>
      rw [hb] at h4
      refine .inl ⟨[some (.str Z), some (.int (p : Int)), some (.int ((dp : Int) + 1)), some (.int ((p + a.1.length : Nat) : Int)), some (.str a.1), none, none, none, none], next_ex ?_⟩
      simp [h4, -Int.natCast_add]
    | some x2 =>
      rw [hb] at h4
      have e2 := expP_eq hb
      have d2 : Z.drop (p + a.1.length + 1) = x2 := by rw [← List.drop_drop, d1, e2]; rfl
      have hlen2 := congrArg List.length e2
      rw [List.length_cons] at hlen2
      generalize hp2 : p + a.1.length + 1 = p2 at h4 d2
      have s4 : ex C w (.asg (.nm 5) (.call i2 [.var 0, .var 3, .con (.str [34])])) [some (.str Z), some (.int (p : Int)), some (.int ((dp : Int) + 1)), some (.int ((p + a.1.length : Nat) : Int)), some (.str a.1), none, none, none, none] s = .nx [some (.str Z), some (.int (p : Int)), some (.int ((dp : Int) + 1)), some (.int ((p + a.1.length : Nat) : Int)), some (.str a.1), some (.int (p2 : Int)), none, none, none] s := by
        simp [h4, -Int.natCast_add]
      rw [s4, L3.F.next_nx, exs_cons]
      have hf := findS (z := Z) (c := 34) (k := p2) (by omega) (by omega)
      rw [d2, findFrom_tw] at hf
      simp only [Option.bind_some]
      cases hs : signsP x2 with
      | none =>
        have hn : ¬ 34 ∈ x2 := fun h => by unfold signsP at hs; rw [if_pos h] at hs; cases hs
        rw [if_neg hn] at hf
        have s5 : ex C w (.asg (.nm 6) (.bm .find (.var 0) [.con (.str [34]), .var 5])) [some (.str Z), some (.int (p : Int)), some (.int ((dp : Int) + 1)), some (.int ((p + a.1.length : Nat) : Int)), some (.str a.1), some (.int (p2 : Int)), none, none, none] s = .nx [some (.str Z), some (.int (p : Int)), some (.int ((dp : Int) + 1)), some (.int ((p + a.1.length : Nat) : Int)), some (.str a.1), some (.int (p2 : Int)), some (.int (-1)), none, none] s := by
          simp [hf, -Int.natCast_add]
        rw [s5, L3.F.next_nx, exs_cons]
        refine .inl ⟨[some (.str Z), some (.int (p : Int)), some (.int ((dp : Int) + 1)), some (.int ((p + a.1.length : Nat) : Int)), some (.str a.1), some (.int (p2 : Int)), some (.int (-1)), none, none], next_ex ?_⟩
        simp [-Int.natCast_add]
      | some b =>
        have hm : 34 ∈ x2 := by
          unfold signsP at hs
          split at hs
          · assumption
          · cases hs
        obtain ⟨e3, _⟩ := signsP_eq hs
        have eb : b.1 = x2.takeWhile (· != 34) := by
          unfold signsP at hs
          rw [if_pos hm] at hs
          cases hs; rfl
        rw [if_pos hm, ← eb] at hf
        have hlen3 := congrArg List.length e3
        rw [List.length_append, List.length_cons] at hlen3
        have d3 : Z.drop (p2 + b.1.length + 1) = b.2.drop 1 := by
          rw [Nat.add_assoc, ← List.drop_drop, d2]
          conv => lhs; rw [e3]
          rw [← List.drop_drop, List.drop_left]; rfl
        have s5 : ex C w (.asg (.nm 6) (.bm .find (.var 0) [.con (.str [34]), .var 5])) [some (.str Z), some (.int (p : Int)), some (.int ((dp : Int) + 1)), some (.int ((p + a.1.length : Nat) : Int)), some (.str a.1), some (.int (p2 : Int)), none, none, none] s = .nx [some (.str Z), some (.int (p : Int)), some (.int ((dp : Int) + 1)), some (.int ((p + a.1.length : Nat) : Int)), some (.str a.1), some (.int (p2 : Int)), some (.int ((p2 + b.1.length : Nat) : Int)), none, none] s := by
          simp [hf, -Int.natCast_add]
        rw [s5, L3.F.next_nx, exs_cons]
        have hneg : ¬ ((p2 + b.1.length : Nat) : Int) < 0 := by omega
        have s6 : ex C w (.ite (.cmp .lt (.var 6) (.con (.int 0))) [.raise 2] []) [some (.str Z), some (.int (p : Int)), some (.int ((dp : Int) + 1)), some (.int ((p + a.1.length : Nat) : Int)), some (.str a.1), some (.int (p2 : Int)), some (.int ((p2 + b.1.length : Nat) : Int)), none, none] s = .nx [some (.str Z), some (.int (p : Int)), some (.int ((dp : Int) + 1)), some (.int ((p + a.1.length : Nat) : Int)), some (.str a.1), some (.int (p2 : Int)), some (.int ((p2 + b.1.length : Nat) : Int)), none, none] s := by
          simp [hneg, -Int.natCast_add]
        rw [s6, L3.F.next_nx, exs_cons]
        have h7 := hE (p2 + b.1.length + 1) 123 s
        rw [d3] at h7
        have ep3 : ((p2 + b.1.length : Nat) : Int) + 1 = ((p2 + b.1.length + 1 : Nat) : Int) := by omega
        simp only [Option.bind_some]
        cases hx : expP 123 (b.2.drop 1) with
        | none =>
          rw [hx] at h7
          refine .inl ⟨[some (.str Z), some (.int (p : Int)), some (.int ((dp : Int) + 1)), some (.int ((p + a.1.length : Nat) : Int)), some (.str a.1), some (.int (p2 : Int)), some (.int ((p2 + b.1.length : Nat) : Int)), none, none], next_ex ?_⟩
          simp [ep3, h7, -Int.natCast_add]
        | some x4 =>
          rw [hx] at h7
          have e4 := expP_eq hx
          have d4 : Z.drop (p2 + b.1.length + 1 + 1) = x4 := by rw [← List.drop_drop, d3, e4]; rfl
          have hlen4 := congrArg List.length e4
          rw [List.length_cons] at hlen4
          generalize hp4 : p2 + b.1.length + 1 + 1 = p4 at h7 d4
          have s7 : ex C w (.asg (.nm 1) (.call i2 [.var 0, .bin .add (.var 6) (.con (.int 1)), .con (.str [123])])) [some (.str Z), some (.int (p : Int)), some (.int ((dp : Int) + 1)), some (.int ((p + a.1.length : Nat) : Int)), some (.str a.1), some (.int (p2 : Int)), some (.int ((p2 + b.1.length : Nat) : Int)), none, none] s = .nx [some (.str Z), some (.int (p4 : Int)), some (.int ((dp : Int) + 1)), some (.int ((p + a.1.length : Nat) : Int)), some (.str a.1), some (.int (p2 : Int)), some (.int ((p2 + b.1.length : Nat) : Int)), none, none] s := by
            simp [ep3, h7, -Int.natCast_add]
          rw [s7, L3.F.next_nx, exs_cons]
          have hn := newCell_ap [] s
          have s8 : ex C w (.asg (.nm 7) (.cell (.lst []))) [some (.str Z), some (.int (p4 : Int)), some (.int ((dp : Int) + 1)), some (.int ((p + a.1.length : Nat) : Int)), some (.str a.1), some (.int (p2 : Int)), some (.int ((p2 + b.1.length : Nat) : Int)), none, none] s = .nx [some (.str Z), some (.int (p4 : Int)), some (.int ((dp : Int) + 1)), some (.int ((p + a.1.length : Nat) : Int)), some (.str a.1), some (.int (p2 : Int)), some (.int ((p2 + b.1.length : Nat) : Int)), some (.ref s.cells.length), none] (ap s []) := by
            simp [ck, hn, -Int.natCast_add]
          rw [s8, L3.F.next_nx, exs_cons, ex_whl]
          have hp4l : p4 ≤ Z.length := by rw [← hp4]; omega
          have lp := read_loop (w := w) (s := s) (i := i0) (o3 := some (.int ((p + a.1.length : Nat) : Int))) (o4 := some (.str a.1)) (o5 := some (.int (p2 : Int))) (o6 := some (.int ((p2 + b.1.length : Nat) : Int))) hz hC (x4.length + 1) w p4 [] none hp4l (by rw [d4]; omega) (by have := congrArg List.length d4; rw [List.length_drop] at this; omega) (by rw [List.length_drop]; simp)
          rw [d4] at lp
          simp only [Option.bind_some]
          unfold rdC rdB at lp
          cases hq : rl (rf dp) (x4.length + 1) x4 with
          | none =>
            rw [hq] at lp
            obtain ⟨e', qs', lp⟩ := lp
            exact .inr ⟨e', qs'.map tr, next_ex lp⟩
          | some q =>
            rw [hq] at lp
            obtain ⟨o8, lp⟩ := lp
            have lp := lp
            rw [List.nil_append] at lp
            simp only [List.map_nil] at lp
            rw [lp, L3.F.next_nx, exs_cons]
            obtain ⟨e5, _⟩ := rl_eq (rf_eq dp) _ _ _ hq
            obtain ⟨d5, l5⟩ := suf_drop (d4.trans e5) hp4l
            have hlen5 := congrArg List.length (d4.trans e5)
            rw [List.length_drop, List.length_append] at hlen5
            generalize hp5 : Z.length - q.2.length = p5 at lp d5 ⊢
            have hrd : (D.ref s.cells.length).rd (ap s (q.1.map tr)) = .lv false (q.1.map tr) := ap_rd
            have c3 := cut_mid Z p2 (p2 + b.1.length)
            rw [Nat.add_sub_cancel_left, d2, e3, List.take_left] at c3
            have sl3 := slcS (z := Z) (lo := some (p2 : Int)) (hi := some ((p2 + b.1.length : Nat) : Int)) (by omega)
            rw [c3] at sl3
            simp only [Option.bind_some]
            -- the last statement, at any place behind the parts
            have fin : ∀ (p6 : Nat) (x5 : List Nat), Z.drop p6 = x5 → p6 ≤ Z.length → match expP 125 x5 with
                | none => Bad (ex C w (.ret (.tup [.tup [.var 4, .slc (.var 0) (some (.var 5)) (some (.var 6)), .bi .tuple [.var 7]], .call i2 [.var 0, .var 1, .con (.str [125])]])) [some (.str Z), some (.int (p6 : Int)), some (.int ((dp : Int) + 1)), some (.int ((p + a.1.length : Nat) : Int)), some (.str a.1), some (.int (p2 : Int)), some (.int ((p2 + b.1.length : Nat) : Int)), some (.ref s.cells.length), o8] (ap s (q.1.map tr))) s
                | some x6 => ex C w (.ret (.tup [.tup [.var 4, .slc (.var 0) (some (.var 5)) (some (.var 6)), .bi .tuple [.var 7]], .call i2 [.var 0, .var 1, .con (.str [125])]])) [some (.str Z), some (.int (p6 : Int)), some (.int ((dp : Int) + 1)), some (.int ((p + a.1.length : Nat) : Int)), some (.str a.1), some (.int (p2 : Int)), some (.int ((p2 + b.1.length : Nat) : Int)), some (.ref s.cells.length), o8] (ap s (q.1.map tr)) =
                    .rt (.tup [tr (.nd a.1 b.1 q.1), .int ((Z.length - x6.length : Nat) : Int)]) (ap s (q.1.map tr)) := fun p6 x5 h6 hl6 => by
              have h8 := hE p6 125 (ap s (q.1.map tr))
              rw [h6] at h8
              cases hx6 : expP 125 x5 with
              | none =>
                rw [hx6] at h8
                refine .inr ⟨[some (.str Z), some (.int (p6 : Int)), some (.int ((dp : Int) + 1)), some (.int ((p + a.1.length : Nat) : Int)), some (.str a.1), some (.int (p2 : Int)), some (.int ((p2 + b.1.length : Nat) : Int)), some (.ref s.cells.length), o8], q.1.map tr, ?_⟩
                simp [sl3, hrd, ck, h8, -Int.natCast_add]
              | some x6 =>
                rw [hx6] at h8
                have e6 := expP_eq hx6
                have hl := congrArg List.length (h6.trans e6)
                rw [List.length_drop, List.length_cons] at hl
                have ep : p6 + 1 = Z.length - x6.length := by omega
                rw [ep] at h8
                simp only
                rw [tr_nd]
                simp [sl3, hrd, ck, h8, -Int.natCast_add, -Int.natCast_sub]
            cases hn0 : q.1.isEmpty with
            | true =>
              have hnil : q.1 = [] := by simpa using hn0
              have s10 : ex C w (.ite (.cmp .gt (.bi .len [.var 7]) (.con (.int 0))) [.asg (.nm 1) (.call i2 [.var 0, .var 1, .con (.str [32])])] []) [some (.str Z), some (.int (p5 : Int)), some (.int ((dp : Int) + 1)), some (.int ((p + a.1.length : Nat) : Int)), some (.str a.1), some (.int (p2 : Int)), some (.int ((p2 + b.1.length : Nat) : Int)), some (.ref s.cells.length), o8] (ap s (q.1.map tr)) =
                  .nx [some (.str Z), some (.int (p5 : Int)), some (.int ((dp : Int) + 1)), some (.int ((p + a.1.length : Nat) : Int)), some (.str a.1), some (.int (p2 : Int)), some (.int ((p2 + b.1.length : Nat) : Int)), some (.ref s.cells.length), o8] (ap s (q.1.map tr)) := by
                have hrd2 : (D.ref s.cells.length).rd (ap s []) = .lv false [] := ap_rd
                rw [hnil]
                simp [hrd2, -Int.natCast_add]
              rw [s10, L3.F.next_nx, exs_cons]
              have f := fin p5 q.2 d5 (by omega)
              simp only [if_true, Option.bind_some]
              cases hx6 : expP 125 q.2 with
              | none =>
                rw [hx6] at f
                simp only [Option.bind_none]
                rcases f with ⟨e, f⟩ | ⟨e, L, f⟩
                · exact .inl ⟨e, next_ex f⟩
                · exact .inr ⟨e, L, next_ex f⟩
              | some x6 =>
                rw [hx6] at f
                simp only at f
                exact ⟨_, by rw [f]; rfl⟩
            | false =>
              have hpos : (0 : Int) < (q.1.length : Int) := by
                have : q.1 ≠ [] := by simpa using hn0
                have := List.length_pos_iff.mpr this
                omega
              have hposn : 0 < q.1.length := by omega
              have h9 := hE p5 32 (ap s (q.1.map tr))
              rw [d5] at h9
              simp only [Bool.false_eq_true, if_false]
              cases hx5 : expP 32 q.2 with
              | none =>
                rw [hx5] at h9
                simp only [Option.bind_none]
                refine .inr ⟨[some (.str Z), some (.int (p5 : Int)), some (.int ((dp : Int) + 1)), some (.int ((p + a.1.length : Nat) : Int)), some (.str a.1), some (.int (p2 : Int)), some (.int ((p2 + b.1.length : Nat) : Int)), some (.ref s.cells.length), o8], q.1.map tr, next_ex ?_⟩
                simp [hrd, hpos, hposn, h9, -Int.natCast_add]
              | some x5 =>
                rw [hx5] at h9
                have e7 := expP_eq hx5
                have d6 : Z.drop (p5 + 1) = x5 := by rw [← List.drop_drop, d5, e7]; rfl
                have hl7 := congrArg List.length e7
                rw [List.length_cons] at hl7
                have s10 : ex C w (.ite (.cmp .gt (.bi .len [.var 7]) (.con (.int 0))) [.asg (.nm 1) (.call i2 [.var 0, .var 1, .con (.str [32])])] []) [some (.str Z), some (.int (p5 : Int)), some (.int ((dp : Int) + 1)), some (.int ((p + a.1.length : Nat) : Int)), some (.str a.1), some (.int (p2 : Int)), some (.int ((p2 + b.1.length : Nat) : Int)), some (.ref s.cells.length), o8] (ap s (q.1.map tr)) =
                    .nx [some (.str Z), some (.int ((p5 + 1 : Nat) : Int)), some (.int ((dp : Int) + 1)), some (.int ((p + a.1.length : Nat) : Int)), some (.str a.1), some (.int (p2 : Int)), some (.int ((p2 + b.1.length : Nat) : Int)), some (.ref s.cells.length), o8] (ap s (q.1.map tr)) := by
                  simp [hrd, hpos, hposn, h9, -Int.natCast_add]
                rw [s10, L3.F.next_nx, exs_cons]
                have f := fin (p5 + 1) x5 d6 (by omega)
                simp only [Option.bind_some]
                cases hx6 : expP 125 x5 with
                | none =>
                  rw [hx6] at f
                  simp only [Option.bind_none]
                  rcases f with ⟨e, f⟩ | ⟨e, L, f⟩
                  · exact .inl ⟨e, next_ex f⟩
                  · exact .inr ⟨e, L, next_ex f⟩
                | some x6 =>
                  rw [hx6] at f
                  simp only at f
                  exact ⟨_, by rw [f]; rfl⟩
theorem callR_bad {f : List D → S → L3.R D} {vs : List D} (h : (f vs s.ent = .exc 2 s.ent) ∨ ∃ L, f vs s.ent = .exc 2 (ap s.ent L)) : callR f vs s = .exc 2 s := by
  rcases h with h | ⟨L, h⟩
  · exact callR_exc h
  · have h' : f vs ⟨s.cells, s.cells.length, none⟩ = .exc 2 (ap s.ent L) := h
    unfold callR
    rw [h']
    have hv : (ap s.ent L).viol = false := rfl
    have hg : S.gone s (ap s.ent L) = s := by unfold S.gone ap S.ent; simp
    show L3.R.exc 2 (if (ap s.ent L).viol then _ else _) = _
    rw [hv, if_neg (by simp), hg]
theorem c_read (hF : F[i0]? = some (bRead i1 i2 i0)) (hW : F[i1]? = some bWordAt) (hE : F[i2]? = some bExp) {Z : List Nat} (hz : Z.length ≤ 10000) (hw : 10001 < w) : ∀ (dp p : Nat), p ≤ Z.length → ∀ (n : Nat) (s : S), callR (calls F w (n + dp + 2) i0) [.str Z, .int (p : Int), .int (dp : Int)] s = rdAns Z (rf dp (Z.drop p)) s
  | 0, p, hp, n, s => by
    refine callR_exc ?_
    rw [show n + 0 + 2 = (n + 1) + 1 from rfl, calls_eq hF]
    simp [run, bRead]
  | dp + 1, p, hp, n, s => by
    have ih := c_read hF hW hE hz hw dp
    have key := read_body (w := w) (s := s.ent) (i0 := i0) (i1 := i1) (i2 := i2) (C := calls F w (n + dp + 2)) hz hw hp (fun p hp s => c_wordat (n := n + dp + 1) hW hz hw hp) (fun p c s => c_exp (n := n + dp + 1) hE hz) (fun p hp s => ih p hp n s)
    have ee : ([D.str Z, .int (p : Int), .int ((dp + 1 : Nat) : Int)].map some ++ List.replicate (bRead i1 i2 i0).more none) = [some (.str Z), some (.int (p : Int)), some (.int ((dp : Int) + 1)), none, none, none, none, none, none] := by
      rw [show ((dp + 1 : Nat) : Int) = (dp : Int) + 1 by omega]; rfl
    have hr : ∀ t, calls F w (n + (dp + 1) + 2) i0 [.str Z, .int (p : Int), .int ((dp + 1 : Nat) : Int)] t = match exs (calls F w (n + dp + 2)) w (bRead i1 i2 i0).body [some (.str Z), some (.int (p : Int)), some (.int ((dp : Int) + 1)), none, none, none, none, none, none] t with
        | .nx _ s => .ok .non s
        | .rt d s => .ok d s
        | .ex c _ s => .exc c s
        | _ => .bad := fun t => by
      rw [show n + (dp + 1) + 2 = (n + dp + 2) + 1 by omega, calls_eq hF, run_eq (show [D.str Z, .int (p : Int), .int ((dp + 1 : Nat) : Int)].length = (bRead i1 i2 i0).par from rfl), ee]
      try rfl
    cases hq : rf (dp + 1) (Z.drop p) with
    | none =>
      rw [hq] at key
      refine callR_bad ?_
      rw [hr]
      rcases key with ⟨e, key⟩ | ⟨e, L, key⟩
      · rw [key]; exact .inl rfl
      · rw [key]; exact .inr ⟨L, rfl⟩
    | some a =>
      obtain ⟨t, r⟩ := a
      rw [hq] at key
      obtain ⟨L, key⟩ := key
      refine callR_ap (L := L) ?_ ?_
      · rw [hr, key]
      · show (D.lt 0 (tr t) && true) = true
        rw [lt_trA]; rfl
end LG
end

section -- QA
set_option autoImplicit false
set_option linter.all false
set_option maxRecDepth 10000
namespace L3
theorem ex_tryy {C : Nat → List D → S → R D} {w : Nat} {e : Env} {s : S} (b : List CS) (c : Nat) (i : Option Nat) (h : Suite) : ex C w (.tryy b c i h) e s = match exs C w b e s with
      | .ex k e' s' => if k ≤ 5 then (if subX k c then (match suite h k e' s' with
          | .nx e s => .nx (clr i e) s
          | .ct e s => .ct (clr i e) s
          | f => f) else .ex k e' s') else .bad
      | f => f := by simp only [ex] <;> rfl
end L3
namespace LG
open L3
variable {w n : Nat} {s : S} {F : Array Fn} {i0 i1 i2 i3 i4 i5 i6 i7 i8 : Nat} {L M : List D}
theorem okS_app {a b : List Nat} : okS (a ++ b) = (okS a && okS b) := by unfold okS; rw [List.all_append]
/-- parts of a common text are common -/
theorem ok_wr : ∀ (d : Nat) (t : T), t.deep ≤ d → okS (wr t) = true → (wr t).length ≤ 1000 → t.ok = true
  | 0, t, h, _, _ => absurd (deep_pos t) (by omega)
  | d + 1, .nd wd g ps, h, ho, hl => by
    rw [wr_nd] at ho hl
    simp only [List.length_append, List.length_cons, List.length_nil] at hl
    simp only [okS_app] at ho
    simp only [Bool.and_eq_true] at ho
    obtain ⟨⟨⟨⟨⟨h1, _⟩, h2⟩, _⟩, h3, _⟩, _⟩ := ho
    have key : ∀ qs : List T, (∀ q ∈ qs, q ∈ ps) → okS (wrL qs) = true → (wrL qs).length ≤ 1000 → ∀ q ∈ qs, q.ok = true := by
      intro qs
      induction qs with
      | nil => intro _ _ _ q hq; cases hq
      | cons p r ih =>
        intro hm h3 h4 q hq
        rw [wrL_cons, show 32 :: (wr p ++ wrL r) = [32] ++ (wr p ++ wrL r) from rfl, okS_app, okS_app] at h3
        rw [wrL_cons, List.length_cons, List.length_append] at h4
        simp only [Bool.and_eq_true] at h3
        rcases List.mem_cons.mp hq with rfl | hq
        · exact ok_wr d q (deep_of h q (hm q List.mem_cons_self)) h3.2.1 (by omega)
        · exact ih (fun x hx => hm x (List.mem_cons_of_mem _ hx)) h3.2.2 (by omega) q hq
    unfold T.ok
    rw [okL_eq]
    simp only [Bool.and_eq_true, decide_eq_true_eq, List.all_eq_true]
    exact ⟨⟨⟨h1, h2⟩, by omega, by omega⟩, key ps (fun _ h => h) h3 (by omega)⟩
def bReadA (ir it iw : Nat) : Fn := ⟨1, 2, [
.ite (.or (.not (.isa (.var 0) .str)) (.cmp .gt (.bi .len [.var 0]) (.glob (.int 8000)))) [
.raise 2] [], 
.asg (.tup [.nm 1, .nm 2]) (.call ir [.var 0, .con (.int 0), .glob (.int 30)]), 
.ite (.or (.cmp .ne (.var 2) (.bi .len [.var 0])) (.or (.not (.call it [.var 1])) (.cmp .ne (.call iw [.var 1]) (.var 0)))) [
.raise 2] [], 
.ret (.var 1)]⟩
/-- what reading a text whole gives -/
def readT (Z : List Nat) : Option T := match rf 30 Z with
  | some (t, []) => if isTree t then some t else none
  | _ => none
theorem readT_eq {Z : List Nat} {t : T} (h : readT Z = some t) : Z = wr t ∧ isTree t = true ∧ t.deep ≤ 30 := by
  unfold readT at h
  split at h
  · rename_i u hu
    split at h
    · rename_i hi
      cases h
      obtain ⟨h1, h2⟩ := rf_eq 30 _ _ _ hu
      rw [List.append_nil] at h1
      exact ⟨h1, hi, h2⟩
    · cases h
  · cases h
theorem readT_ok {t : T} (hg : t.good = true) (hd : t.deep ≤ 30) (hs : t.size ≤ 200) : readT (wr t) = some t := by
  unfold readT
  have := rf_ok 30 t [] hd hg
  rw [List.append_nil] at this
  rw [this]
  simp only
  rw [if_pos (isTree_good hg hs hd)]
theorem c_readA (hF : F[i0]? = some (bReadA i1 i2 i3)) (hR : F[i1]? = some (bRead i4 i5 i1)) (hW : F[i4]? = some bWordAt) (hE : F[i5]? = some bExp) (hT : F[i2]? = some (bIsTree i6)) (hL : F[i6]? = some (bLeft i6 i7 i8)) (hN : F[i7]? = some bWord) (hS : F[i8]? = some bSigns) (hwr : F[i3]? = some (bWrite i3)) (hw : 10001 < w)
    {Z : List Nat} (hz : Z.length ≤ 1000) (ho : okS Z = true) : callR (calls F w (n + 33) i0) [.str Z] s = match readT Z with | none => .exc 2 s | some t => .ok (tr t) s := by
  have hl := lenS (z := Z) (by omega)
  have h8 : ¬ (8000 : Int) < (Z.length : Int) := by omega
  have hc : ∀ s, callR (calls F w (n + 32) i1) [.str Z, .int 0, .int 30] s = rdAns Z (rf 30 Z) s := fun s => by
    have := c_read (w := w) hR hW hE (Z := Z) (by omega) hw 30 0 (by omega) n s
    rw [List.drop_zero] at this
    exact this
  have main : calls F w (n + 33) i0 [.str Z] s.ent = match readT Z with | none => .exc 2 s.ent | some t => .ok (tr t) s.ent := by
    rw [show n + 33 = (n + 32) + 1 from rfl, calls_eq hF]
    have hc := hc s.ent
    unfold readT
    cases hq : rf 30 Z with
    | none =>
      rw [hq] at hc
      simp only [rdAns] at hc
      simp [run, bReadA, hl, h8, hc, -bi_len_str]
    | some a =>
      obtain ⟨t, r⟩ := a
      rw [hq] at hc
      simp only [rdAns] at hc
      obtain ⟨h1, h2⟩ := rf_eq 30 _ _ _ hq
      have hlen := congrArg List.length h1
      rw [List.length_append] at hlen
      cases r with
      | cons x l =>
        have hne : ¬ (((Z.length - (x :: l).length : Nat) : Int) = (Z.length : Int)) := by
          simp only [List.length_cons] at hlen ⊢
          omega
        generalize Z.length - (x :: l).length = pp at hc hne
        simp [run, bReadA, hl, h8, hc, hne, -bi_len_str]
      | nil =>
        rw [List.append_nil] at h1
        have e0 : ((Z.length - ([] : List Nat).length : Nat) : Int) = (Z.length : Int) := by simp
        rw [e0] at hc
        have tok := ok_wr _ t (Nat.le_refl _) (by rw [← h1]; exact ho) (by rw [← h1]; exact hz)
        have hT2 : ∀ s, callR (calls F w (n + 32) i2) [tr t] s = .ok (.bl (isTree t)) s := fun s => c_istree (n := n) (d := 30) hT hL hN hS h2 tok
        have hW2 : ∀ s, callR (calls F w (n + 32) i3) [tr t] s = .ok (.str (wr t)) s := fun s => c_write (n := n + 2) (d := 30) hwr h2 (by rw [← h1]; omega)
        simp only
        cases hi : isTree t with
        | false =>
          rw [hi] at hT2
          simp [run, bReadA, hl, h8, hc, hT2, -bi_len_str]
        | true =>
          rw [hi] at hT2
          simp [run, bReadA, hl, h8, hc, hT2, hW2, ← h1, -bi_len_str]
  cases hq : readT Z with
  | none => rw [hq] at main; exact callR_exc main
  | some t => rw [hq] at main; exact callR_pure main (lt_trA t)
def bTold (ia ip ir iw : Nat) : Fn := ⟨4, 1, [
.tryy [
.ite (.cmp .eq (.var 0) (.con (.int 0))) [
.ret (.call ia [.var 1, .var 2])] [], 
.ret (.ite (.cmp .eq (.var 0) (.con (.int 1))) (.call ip [.var 1, .var 2, .var 3]) (.call ir [.var 1]))] 0 (some 4) (.word iw)]⟩
theorem told0 (hF : F[i0]? = some (bTold i1 i2 i3 i4)) {a b c d : D} (ha : a.frz = a) (hb : b.frz = b) (h : ∀ s, callR (calls F w n i1) [a, b] s = .ok d s) (hd : d.lt 0 = true) : callR (calls F w (n + 1) i0) [.int 0, a, b, c] s = .ok d s := by
  refine callR_pure ?_ hd
  rw [calls_eq hF]
  simp [run, bTold, ex_tryy, ha, hb, h]
theorem told0N (hF : F[i0]? = some (bTold i1 i2 i3 i4)) {a b c : D} {k : Nat} (ha : a.frz = a) (hb : b.frz = b) (hk : k ≤ 5) (h : ∀ s, callR (calls F w n i1) [a, b] s = .exc k s) : callR (calls F w (n + 1) i0) [.int 0, a, b, c] s = .ok (.str (wordX k)) s := by
  refine callR_pure ?_ rfl
  rw [calls_eq hF]
  simp [run, bTold, ex_tryy, ha, hb, h, hk, subX, suite]
theorem told1 (hF : F[i0]? = some (bTold i1 i2 i3 i4)) {a b c d : D} (ha : a.frz = a) (hb : b.frz = b) (hc : c.frz = c) (h : ∀ s, callR (calls F w n i2) [a, b, c] s = .ok d s) (hd : d.lt 0 = true) : callR (calls F w (n + 1) i0) [.int 1, a, b, c] s = .ok d s := by
  refine callR_pure ?_ hd
  rw [calls_eq hF]
  simp [run, bTold, ex_tryy, ha, hb, hc, h]
theorem told1N (hF : F[i0]? = some (bTold i1 i2 i3 i4)) {a b c : D} {k : Nat} (ha : a.frz = a) (hb : b.frz = b) (hc : c.frz = c) (hk : k ≤ 5) (h : ∀ s, callR (calls F w n i2) [a, b, c] s = .exc k s) : callR (calls F w (n + 1) i0) [.int 1, a, b, c] s = .ok (.str (wordX k)) s := by
  refine callR_pure ?_ rfl
  rw [calls_eq hF]
  simp [run, bTold, ex_tryy, ha, hb, hc, h, hk, subX, suite]
theorem told2 (hF : F[i0]? = some (bTold i1 i2 i3 i4)) {a b c d : D} (ha : a.frz = a) (h : ∀ s, callR (calls F w n i3) [a] s = .ok d s) (hd : d.lt 0 = true) : callR (calls F w (n + 1) i0) [.int 2, a, b, c] s = .ok d s := by
  refine callR_pure ?_ hd
  rw [calls_eq hF]
  simp [run, bTold, ex_tryy, ha, h]
theorem told2N (hF : F[i0]? = some (bTold i1 i2 i3 i4)) {a b c : D} {k : Nat} (ha : a.frz = a) (hk : k ≤ 5) (h : ∀ s, callR (calls F w n i3) [a] s = .exc k s) : callR (calls F w (n + 1) i0) [.int 2, a, b, c] s = .ok (.str (wordX k)) s := by
  refine callR_pure ?_ rfl
  rw [calls_eq hF]
  simp [run, bTold, ex_tryy, ha, h, hk, subX, suite]
end LG
end

section -- QB
set_option autoImplicit false
set_option linter.all false
set_option maxRecDepth 10000
namespace LG
open L3
variable {w n : Nat} {s : S} {F : Array Fn} {i0 i1 i2 i3 i4 i5 i6 i7 i8 : Nat} {L M : List D}
theorem sum_set : ∀ {xs : List T} {i : Nat} {q : T} (y : T), xs[i]? = some q → ((xs.set i y).map T.size).sum + q.size = (xs.map T.size).sum + y.size
  | [], i, q, y, h => by cases h
  | x :: r, 0, q, y, h => by cases h; simp; omega
  | x :: r, i + 1, q, y, h => by
    have := sum_set (xs := r) (i := i) y h
    simp only [List.set_cons_succ, List.map_cons, List.sum_cons] at this ⊢
    omega
theorem deep_set : ∀ {xs : List T} {i : Nat} (y : T), deepL (xs.set i y) ≤ max (deepL xs) y.deep
  | [], i, y => by show deepL [] ≤ _; unfold deepL; omega
  | x :: r, 0, y => by simp only [List.set_cons_zero, deepL_cons]; omega
  | x :: r, i + 1, y => by
    have := deep_set (xs := r) (i := i) y
    simp only [List.set_cons_succ, deepL_cons]
    omega
theorem get_mem {xs : List T} {i : Nat} {q : T} (h : xs[i]? = some q) : q ∈ xs := List.mem_of_getElem? h
theorem put_sz : ∀ {p : List Nat} {t o u : T}, t.put p o = some u → u.size ≤ t.size + o.size ∧ u.deep ≤ t.deep + o.deep
  | [], t, o, u, h => by cases h; omega
  | i :: r, .nd wd g ps, o, u, h => by
    unfold T.put at h
    split at h
    · rename_i q hq
      simp only [Option.map_eq_some_iff] at h
      obtain ⟨q', h1, rfl⟩ := h
      have ih := put_sz h1
      have hq : ps[i]? = some q := hq
      have h2 := sum_set (xs := ps) q' hq
      have h3 := deep_set (xs := ps) (i := i) q'
      have h4 := deepL_mem (get_mem hq)
      simp only [T.wd, T.sg, T.sub, size_nd, deep_nd] at h2 h3 h4 ⊢
      omega
    · cases h
theorem at_app : ∀ {p r : List Nat} {t u : T}, t.at? p = some u → t.at? (p ++ r) = u.at? r
  | [], r, t, u, h => by cases h; rfl
  | i :: p, r, t, u, h => by
    unfold T.at? at h
    rw [List.cons_append]
    conv => lhs; unfold T.at?
    split at h
    · rename_i q hq
      exact at_app h
    · cases h
theorem at_bad {p : List Nat} {t u : T} (h : t.at? p = some u) : t.at? (p ++ [u.sub.length]) = none := by
  rw [at_app h]
  unfold T.at?
  simp
theorem put_bad {p : List Nat} {t o : T} (h : t.at? p = none) : t.put p o = none := by
  have := put_some (p := p) (t := t) (o := o)
  rw [h] at this
  cases h2 : t.put p o with
  | none => rfl
  | some u => rw [h2] at this; cases this
theorem put_at {p : List Nat} {t o u : T} (h : t.at? p = some u) : ∃ v, t.put p o = some v := by
  have := put_some (p := p) (t := t) (o := o)
  rw [h] at this
  exact Option.isSome_iff_exists.mp this
theorem at_lt : ∀ {p : List Nat} {t u : T}, t.at? p = some u → ∀ i ∈ p, i < t.size
  | [], t, u, h, i, hi => by cases hi
  | j :: r, .nd wd g ps, u, h, i, hi => by
    unfold T.at? at h
    split at h
    · rename_i q hq
      have hq : ps[j]? = some q := hq
      have h1 : j < ps.length := (List.getElem?_eq_some_iff.mp hq).1
      have h2 := len_size ps
      have h3 := size_mem (get_mem hq)
      rw [size_nd]
      rcases List.mem_cons.mp hi with rfl | hi
      · omega
      · have := at_lt h i hi
        omega
    · cases h
theorem al_two {k : Nat} {a b : D} (ha : al k a = true) (hb : al k b = true) : al (k + 1) (.lv false [a, b]) = true := by
  simp [al, al.alL, ha, hb]
theorem c_put (hF : F[i0]? = some (bPut i0)) {p : List Nat} {t o u : T} (h : t.put p o = some u) (ho : t.ok = true) (h2 : o.ok = true) (hz : t.size ≤ 1000) : callR (calls F w (n + p.length + 1) i0) [tr t, pD p, tr o] s = .ok (tr u) s := callR_pure (by rw [r_put hF p t o ho h2 hz, h]) (lt_trA _)
theorem c_putN (hF : F[i0]? = some (bPut i0)) {p : List Nat} {t o : T} (h : t.put p o = none) (ho : t.ok = true) (h2 : o.ok = true) (hz : t.size ≤ 1000) : callR (calls F w (n + p.length + 1) i0) [tr t, pD p, tr o] s = .exc 3 s := callR_exc (by rw [r_put hF p t o ho h2 hz, h])
/-- does one path begin another, as the law asks it -/
theorem ev_beg {C : Nat → List D → S → R D} (hC : ∀ (p q : List Nat) (s : S), callR (C i0) [pD p, pD q] s = .ok (.bl (begB p q)) s) (hS : ∀ (a b : Bool) (s : S), callR (C i1) [.bl a, .bl b] s = .ok (.bl (a == b)) s)
    {p q : List Nat} (hp : p.length ≤ 1000) (hq : q.length ≤ 1000) {e : Env} {a b : Nat} (ha : getV e a = some (pD p)) (hb : getV e b = some (pD q)) :
    ev C (.not (.call i1 [.call i0 [.var a, .var b], .and (.cmp .le (.bi .len [.var a]) (.bi .len [.var b])) (.cmp .eq (.slc (.var b) none (some (.bi .len [.var a]))) (.var a))])) e s = .ok (.bl false) s := by
  have h1 := pD_take p q
  have h2 := cmp_eq (pD_fit (q.take p.length) 63) (pD_fit p 63)
  have l1 : bi .len [pD p] = some (.int (p.length : Int)) := by unfold pD; simp
  have l2 : bi .len [pD q] = some (.int (q.length : Int)) := by unfold pD; simp
  by_cases hl : p.length ≤ q.length
  · have hi : (p.length : Int) ≤ (q.length : Int) := by omega
    have h3 : (pD (q.take p.length)).eqv (pD p) = begB p q := rfl
    simp [ha, hb, hC, l1, l2, hi, hl, h1, h2, h3, hS]
  · have hi : ¬ (p.length : Int) ≤ (q.length : Int) := by omega
    have h3 := beg_len (p := p) (q := q) (by omega)
    simp [ha, hb, hC, l1, l2, hi, hl, h3, hS]
end LG
end

section -- KA
set_option autoImplicit false
set_option linter.all false
set_option maxRecDepth 10000
namespace L3
section
variable {C : Nat → List D → S → R D} {w : Nat} {e : Env} {s : S}
@[simp] theorem ex_augp (o i x : CE) (op : Op2) : ex C w (.augp o i op x) e s = F.of (ev C o e s) e fun a s => F.of (ev C i e s) e fun k s => match getC s a k with
      | some old => F.of (ev C x e s) e fun d s => match (aug2 op old d).bind fun r => putC s r a k with
        | some s => .nx e s
        | none => .bad
      | none => .bad := by simp only [ex] <;> rfl
end
end L3
namespace LG
open L3
inductive KT where | nd (k : D) (w g : List Nat) (ps : List KT)
mutual
def kt : KT → D
  | .nd k w g ps => .tup [k, .str w, .str g, .tup (ktL ps)]
def ktL : List KT → List D
  | [] => []
  | p :: r => kt p :: ktL r
end
theorem ktL_eq : ∀ ps : List KT, ktL ps = ps.map kt
  | [] => by unfold ktL; rfl
  | p :: r => by unfold ktL; rw [ktL_eq r]; rfl
theorem kt_nd (k : D) (w g : List Nat) (ps : List KT) : kt (.nd k w g ps) = .tup [k, .str w, .str g, .tup (ps.map kt)] := by unfold kt; rw [ktL_eq]
@[simp] theorem kt_frz (t : KT) : (kt t).frz = kt t := by cases t; rw [kt_nd]; rfl
@[simp] theorem kt_rd (t : KT) (s : S) : (kt t).rd s = kt t := by cases t; rw [kt_nd]; rfl
mutual
def KT.pl : KT → T
  | .nd _ w g ps => .nd w g (plL ps)
def plL : List KT → List T
  | [] => []
  | p :: r => p.pl :: plL r
end
theorem plL_eq : ∀ ps : List KT, plL ps = ps.map KT.pl
  | [] => by unfold plL; rfl
  | p :: r => by unfold plL; rw [plL_eq r]; rfl
theorem pl_nd (k : D) (w g : List Nat) (ps : List KT) : (KT.nd k w g ps).pl = .nd w g (ps.map KT.pl) := by unfold KT.pl; rw [plL_eq]
mutual
def KT.ks : KT → List D
  | .nd k _ _ ps => k :: ksL ps
def ksL : List KT → List D
  | [] => []
  | p :: r => p.ks ++ ksL r
end
theorem ks_nd (k : D) (w g : List Nat) (ps : List KT) : (KT.nd k w g ps).ks = k :: ksL ps := by conv => lhs; unfold KT.ks
theorem ksL_nil : ksL [] = [] := by conv => lhs; unfold ksL
theorem ksL_cons (p : KT) (r : List KT) : ksL (p :: r) = p.ks ++ ksL r := by conv => lhs; unfold ksL
theorem ksL_app : ∀ a b : List KT, ksL (a ++ b) = ksL a ++ ksL b
  | [], b => by rw [ksL_nil]; rfl
  | p :: r, b => by rw [List.cons_append, ksL_cons, ksL_cons, ksL_app r b, List.append_assoc]
theorem ksL_mem {ps : List KT} {p : KT} (h : p ∈ ps) : ∀ k ∈ p.ks, k ∈ ksL ps := by
  induction ps with
  | nil => cases h
  | cons q r ih =>
    intro k hk
    rw [ksL_cons]
    rcases List.mem_cons.mp h with rfl | h
    · exact List.mem_append_left _ hk
    · exact List.mem_append_right _ (ih h k hk)
def KT.key : KT → D | .nd k _ _ _ => k
def KT.sub : KT → List KT | .nd _ _ _ ps => ps
def KT.w : KT → List Nat | .nd _ w _ _ => w
def KT.g : KT → List Nat | .nd _ _ g _ => g
theorem kt_eq (t : KT) : kt t = .tup [t.key, .str t.w, .str t.g, .tup (t.sub.map kt)] := by cases t; rw [kt_nd]; rfl
theorem ks_eq (t : KT) : t.ks = t.key :: ksL t.sub := by cases t; rw [ks_nd]; rfl
theorem kdeep_of {k : D} {w g : List Nat} {ps : List KT} {d : Nat} (h : (KT.nd k w g ps).pl.deep ≤ d + 1) : ∀ p ∈ ps, p.pl.deep ≤ d := fun p hp => by
  rw [pl_nd] at h
  exact deep_of h _ (List.mem_map_of_mem hp)
theorem ksize_of {k : D} {w g : List Nat} {ps : List KT} {m : Nat} (h : (KT.nd k w g ps).pl.size ≤ m) : ∀ p ∈ ps, p.pl.size ≤ m := fun p hp => by
  rw [pl_nd] at h
  exact size_of h _ (List.mem_map_of_mem hp)
theorem klen_of {k : D} {w g : List Nat} {ps : List KT} {m : Nat} (h : (KT.nd k w g ps).pl.size ≤ m) : ps.length < m := by
  rw [pl_nd] at h
  have := len_of h
  simpa using this
theorem ks_len : ∀ (d : Nat) (t : KT), t.pl.deep ≤ d → t.ks.length = t.pl.size
  | 0, t, h => absurd (deep_pos t.pl) (by omega)
  | d + 1, .nd k w g ps, h => by
    have ih := fun p (hp : p ∈ ps) => ks_len d p (kdeep_of h p hp)
    have key : ∀ qs : List KT, (∀ q ∈ qs, q ∈ ps) → (ksL qs).length = ((qs.map KT.pl).map T.size).sum := by
      intro qs
      induction qs with
      | nil => intro _; rw [ksL_nil]; rfl
      | cons q r ihr =>
        intro hq
        rw [ksL_cons, List.length_append, ih q (hq q (by simp)), ihr fun x hx => hq x (by simp [hx])]
        simp
    rw [ks_nd, pl_nd, size_nd, List.length_cons, key ps fun _ h => h]
theorem ks_size (t : KT) : t.ks.length = t.pl.size := ks_len _ t (Nat.le_refl _)
theorem ksL_size (ps : List KT) : (ksL ps).length = ((ps.map KT.pl).map T.size).sum := by
  have := ks_size (.nd .non [] [] ps)
  rw [ks_nd, pl_nd, size_nd, List.length_cons] at this
  omega
/-- common keys -/
def KT.kn (t : KT) : Prop := ∀ k ∈ t.ks, k.frz = k ∧ k.nice 2 = true
theorem kn_sub {t : KT} (h : t.kn) {p : KT} (hp : p ∈ t.sub) : p.kn := fun k hk => h k (by rw [ks_eq]; exact List.mem_cons_of_mem _ (ksL_mem hp k hk))
theorem kn_key {t : KT} (h : t.kn) : t.key.frz = t.key ∧ t.key.nice 2 = true := h _ (by rw [ks_eq]; exact List.mem_cons_self)
theorem nice_kt : ∀ (d : Nat) (t : KT), t.pl.deep ≤ d → t.pl.ok = true → t.kn → (kt t).nice (2 * d + 2) = true
  | 0, t, h, _, _ => absurd (deep_pos t.pl) (by omega)
  | d + 1, .nd k w g ps, h, ho, hk => by
    rw [pl_nd] at ho
    obtain ⟨h1, h2, h3, h4, h5⟩ := ok_nd ho
    have e : D.nice.niceL (2 * d + 2) (ps.map kt) = true := niceL_all fun x hx => by
      obtain ⟨p, hp, rfl⟩ := List.mem_map.mp hx
      exact nice_kt d p (kdeep_of h p hp) (h5 _ (List.mem_map_of_mem hp)) (kn_sub (t := .nd k w g ps) hk hp)
    have ek : k.nice (2 * d + 3) = true := nice_mono (kn_key hk).2 (by omega)
    rw [kt_nd, show 2 * (d + 1) + 2 = 2 * d + 2 + 1 + 1 by omega]
    simp [D.nice, D.nice.niceL, h1, h2, h3, h4, e, ek]
theorem lt_kt {t : KT} (ho : t.pl.ok = true) (hk : t.kn) : (kt t).lt 0 = true := nice_lt (nice_kt _ t (Nat.le_refl _) ho hk)
theorem ks_lt {t : KT} (hk : t.kn) : D.ltL 0 t.ks = true := ltL_all fun v hv => nice_lt (hk v hv).2
theorem kfit {t : KT} (ho : t.pl.ok = true) (hk : t.kn) (hd : t.pl.deep ≤ 30) {m : Nat} (hm : 62 ≤ m) : (kt t).fit m = true := nice_fit (nice_mono (nice_kt 30 t hd ho hk) (by omega))
variable {w n : Nat} {s : S} {F : Array Fn} {i0 i1 i2 i3 : Nat}
def bPlain (i : Nat) : Fn := ⟨1, 1, [
.ret (.tup [.idx (.var 0) (.con (.int 1)), .idx (.var 0) (.con (.int 2)), .bi .tuple [.lc (.call i [.var 1]) (.nm 1) (.seq (.idx (.var 0) (.con (.int 3)))) [] [1]]])]⟩
theorem r_plain (hF : F[i0]? = some (bPlain i0)) : ∀ (d : Nat) (t : KT), t.pl.deep ≤ d → t.pl.size ≤ 1000 → t.pl.ok = true → ∀ n s, calls F w (n + d) i0 [kt t] s = .ok (tr t.pl) s
  | 0, t, h, _, _, n, s => absurd (deep_pos t.pl) (by omega)
  | d + 1, .nd k wd g ps, h, hz, ho, n, s => by
    have ho' := ho
    rw [pl_nd] at ho'
    have h5 := (ok_nd ho').2.2.2.2
    have ih := fun p (hp : p ∈ ps) => r_plain hF d p (kdeep_of h p hp) (ksize_of hz p hp) (h5 _ (List.mem_map_of_mem hp)) n
    rw [show n + (d + 1) = (n + d) + 1 from rfl, calls_eq hF]
    have hl := klen_of hz
    have key : ∀ o, lcL (lcT (calls F w (n + d)) (.call i0 [.var 1]) (.nm 1) [] [1] [some (.tup [k, .str wd, .str g, .tup (ps.map kt)]), o]) (ps.map kt) [] s = .ok (.lv true (ps.map fun p => tr p.pl)) s := fun o => by
      rw [lcL_map (h := fun p => tr p.pl) (by rw [bigN]; simp; omega)]
      · simp
      · intro p hp
        have : callR (calls F w (n + d) i0) [kt p] s = .ok (tr p.pl) s := callR_pure (ih p hp _) (lt_tr (h5 _ (List.mem_map_of_mem hp)))
        simp [lcT, this]
    rw [kt_nd, pl_nd, tr_nd]
    have e1 : ∀ xs : List D, idx2 (.tup [k, .str wd, .str g, .tup xs]) (.int 3) = some (.tup xs) := fun _ => rfl
    simp [run, bPlain, key, ck, Function.comp_def]
theorem c_plain (hF : F[i0]? = some (bPlain i0)) {t : KT} {d : Nat} (h : t.pl.deep ≤ d) (hz : t.pl.size ≤ 1000) (ho : t.pl.ok = true) : callR (calls F w (n + d) i0) [kt t] s = .ok (tr t.pl) s := callR_pure (r_plain hF d t h hz ho n _) (lt_tr ho)
def bKeysOf (i : Nat) : Fn := ⟨1, 2, [
.asg (.nm 1) (.cell (.lst [.idx (.var 0) (.con (.int 0))])), 
.forr (.nm 2) (.seq (.idx (.var 0) (.con (.int 3)))) [
.expr (.mm .extend (.var 1) [.call i [.var 2]])], 
.ret (.var 1)]⟩
theorem r_keysof (hF : F[i0]? = some (bKeysOf i0)) : ∀ (d : Nat) (t : KT), t.pl.deep ≤ d → t.pl.size ≤ 1000 → t.kn → ∀ n s, calls F w (n + d) i0 [kt t] s = .ok (.ref s.cells.length) (ap s t.ks)
  | 0, t, h, _, _, n, s => absurd (deep_pos t.pl) (by omega)
  | d + 1, .nd k wd g ps, h, hz, hk, n, s => by
    have ih := fun p (hp : p ∈ ps) (s : S) => callR_own (r_keysof hF d p (kdeep_of h p hp) (ksize_of hz p hp) (kn_sub (t := .nd k wd g ps) hk hp) n s.ent) (ks_lt (kn_sub (t := .nd k wd g ps) hk hp))
    rw [show n + (d + 1) = (n + d) + 1 from rfl, calls_eq hF]
    have hl := klen_of hz
    have hkl : ∀ qs : List KT, (∀ q ∈ qs, q ∈ ps) → D.ltL 0 (k :: ksL qs) = true := fun qs hq => ltL_all fun v hv => nice_lt (hk v (by
      rw [ks_nd]
      rcases List.mem_cons.mp hv with rfl | hv
      · exact List.mem_cons_self
      · refine List.mem_cons_of_mem _ ?_
        have : ∀ qs : List KT, (∀ q ∈ qs, q ∈ ps) → v ∈ ksL qs → v ∈ ksL ps := by
          intro qs
          induction qs with
          | nil => intro _ h; rw [ksL_nil] at h; cases h
          | cons q r ihr =>
            intro hq h
            rw [ksL_cons] at h
            rcases List.mem_append.mp h with h | h
            · exact ksL_mem (hq q (by simp)) _ h
            · exact ihr (fun x hx => hq x (by simp [hx])) h
        exact this qs hq hv)).2
    have hlen : (ksL ps).length + 1 ≤ 1000 := by
      have := ks_size (.nd k wd g ps)
      rw [ks_nd] at this
      simp at this
      omega
    obtain ⟨e', s', h1, o2, h2, h3⟩ := foL_inv (f := foT (calls F w (n + d)) w (.nm 2) [.expr (.mm .extend (.var 1) [.call i0 [.var 2]])])
      (P := fun j e s' => ∃ o2, e = [some (kt (.nd k wd g ps)), some (.ref s.cells.length), o2] ∧ s' = ap s (k :: ksL (ps.take j)))
      (xs := ps.map kt) (k := 0) (e := [some (kt (.nd k wd g ps)), some (.ref s.cells.length), none]) (s := ap s [k]) ⟨none, rfl, by rw [List.take_zero, ksL_nil]⟩ (fun j x e s' hx he => by
        obtain ⟨o2, rfl, rfl⟩ := he
        rw [Nat.zero_add] at *
        rw [List.getElem?_map, Option.map_eq_some_iff] at hx
        obtain ⟨p, hp, rfl⟩ := hx
        have hpm := List.mem_of_getElem? hp
        have htk : ps.take (j + 1) = ps.take j ++ [p] := by rw [List.take_add_one, hp]; rfl
        have hle : (ksL (ps.take j)).length + p.ks.length ≤ (ksL ps).length := by
          have e : ps = ps.take (j + 1) ++ ps.drop (j + 1) := (List.take_append_drop _ _).symm
          have := congrArg (fun z => (ksL z).length) e
          simp only [ksL_app, List.length_append, htk, ksL_cons, ksL_nil, List.append_nil] at this
          omega
        have hc := ih p hpm
        have hext := ap_ext (s := s) (o := false) (hkl (ps.take j) fun q hq => List.mem_of_mem_take hq) (ks_lt (kn_sub (t := .nd k wd g ps) hk hpm)) (by simp; omega)
        refine ⟨_, _, .inl ?_, some (kt p), rfl, rfl⟩
        rw [htk, ksL_app, ksL_cons, ksL_nil, List.append_nil]
        simp only [List.cons_append] at hext
        simp [foT, hc, ap_cell, hext])
    rw [Nat.zero_add, List.length_map, List.take_length] at h3
    subst h2 h3
    have hn := newCell_ap [k] s
    have hkf := (kn_key hk).1
    have hkf : k.frz = k := hkf
    rw [kt_nd] at h1
    rw [kt_nd, ks_nd]
    simp [run, bKeysOf, hkf, ck, hn, h1]
theorem c_keysof (hF : F[i0]? = some (bKeysOf i0)) {t : KT} {d : Nat} (h : t.pl.deep ≤ d) (hz : t.pl.size ≤ 1000) (hk : t.kn) : callR (calls F w (n + d) i0) [kt t] s = .ok (.lv true t.ks) s := callR_own (r_keysof hF d t h hz hk n _) (ks_lt hk)
end LG
end

section -- KB
set_option autoImplicit false
set_option linter.all false
set_option maxRecDepth 10000
namespace LG
open L3
variable {w n : Nat} {s : S} {F : Array Fn} {i0 i1 i2 i3 i4 i5 : Nat}
theorem goodL_mem : ∀ {ps : List T}, goodL ps = true → ∀ p ∈ ps, p.good = true
  | [], _, p, hp => by cases hp
  | q :: r, h, p, hp => by
    rw [goodL_cons, Bool.and_eq_true] at h
    rcases List.mem_cons.mp hp with rfl | hp
    · exact h.1
    · exact goodL_mem h.2 p hp
theorem tgood {wd g : List Nat} {ps : List T} (h : (T.nd wd g ps).good = true) : isWord (.str wd) = true ∧ areSigns (.str g) = true ∧ ∀ p ∈ ps, p.good = true := by
  rw [good_nd, Bool.and_eq_true, Bool.and_eq_true] at h
  exact ⟨h.1.1, h.1.2, goodL_mem h.2⟩
def rootD : D := .tup [.int 0, .str []]
def isKeyD : D → Bool
  | .tup [.int i, .str z] => (decide (i = 0) && z.isEmpty) || (isNum (.int i) 1 1000000 && isWord (.str z))
  | _ => false
def bIsKey (i0 i1 : Nat) : Fn := ⟨1, 0, [
.ite (.and (.cmp .eq (.var 0) (.glob (.tup [.int 0, .str []]))) (.isa (.var 0) .tuple)) [
.ret (.not (.isa (.idx (.var 0) (.con (.int 0))) .bool))] [], 
.ite (.or (.not (.isa (.var 0) .tuple)) (.cmp .ne (.bi .len [.var 0]) (.con (.int 2)))) [
.ret (.con (.bl false))] [], 
.ret (.and (.call i0 [.idx (.var 0) (.con (.int 0)), .con (.int 1), .glob (.int 1000000)]) (.call i1 [.idx (.var 0) (.con (.int 1))]))]⟩
theorem eqv_root2 (a b : D) : (D.tup [a, b]).eqv rootD = (a.eqv (.int 0) && b.eqv (.str [])) := by
  simp [rootD, D.eqv, D.eqv.eqvL]
theorem isNum_frz (v : D) (a b : Int) : isNum v.frz a b = isNum v a b := by cases v <;> rfl
theorem isWord_frz (v : D) : isWord v.frz = isWord v := by cases v <;> rfl
theorem rd_nice {k : Nat} {v : D} (h : v.nice k = true) (s : S) : v.rd s = v := nice_rd h
theorem r_iskey (hF : F[i2]? = some (bIsKey i0 i1)) (hN : F[i0]? = some bNum) (hW : F[i1]? = some bWord) {v : D} {k : Nat} (hv : v.nice k = true) (hk : k ≤ 64) (hk0 : 1 ≤ k) : calls F w (n + 2) i2 [v] s = .ok (.bl (isKeyD v)) s := by
  rw [show n + 2 = (n + 1) + 1 from rfl, calls_eq hF]
  have hf : v.fit 64 = true := nice_fit (nice_mono hv hk)
  have he : cmp2 .eq v (.tup [.int 0, .str []]) = some (v.eqv rootD) := by
    have : (cmp2 .eq v (.tup [.int 0, .str []])) = if v.fit 64 && rootD.fit 64 then some (v.eqv rootD) else none := by cases v <;> rfl
    rw [this, hf]
    rfl
  have hr := fun s => rd_nice hv s
  cases v with
  | tup xs =>
    match xs, hv, hf, he with
    | [], _, _, he =>
      have e : (D.tup []).eqv rootD = false := rfl
      rw [e] at he
      simp [run, bIsKey, he, isKeyD]
    | [a], _, _, he =>
      have e : (D.tup [a]).eqv rootD = false := by simp [rootD, D.eqv, D.eqv.eqvL]
      rw [e] at he
      simp [run, bIsKey, he, isKeyD]
    | a :: b :: c :: r, _, _, he =>
      have e : (D.tup (a :: b :: c :: r)).eqv rootD = false := by simp [rootD, D.eqv, D.eqv.eqvL]
      rw [e] at he
      have hne : ¬ ((r.length : Int) + 1 + 1 + 1 = 2) := by omega
      simp [run, bIsKey, he, isKeyD, hne]
    | [a, b], hv, hf, he =>
      obtain ⟨m, rfl⟩ : ∃ m, k = m + 1 := ⟨k - 1, by omega⟩
      have h2 : a.nice m = true ∧ b.nice m = true := by simpa [D.nice, D.nice.niceL] using hv
      rw [eqv_root2] at he
      have n1 := fun s => c_num (w := w) (n := n) (s := s) hN (v := a.frz) (a := 1) (b := 1000000) (nice_frz h2.1)
      have n2 := fun s => c_word (w := w) (n := n) (s := s) hW (v := b.frz) (nice_frz h2.2)
      simp only [isNum_frz] at n1
      simp only [isWord_frz] at n2
      have ra := fun s => rd_nice h2.1 s
      have rb := fun s => rd_nice h2.2 s
      by_cases hab : a.eqv (.int 0) = true ∧ b.eqv (.str []) = true
      · rw [hab.1, hab.2] at he
        have hb : b = .str [] := by
          have h := hab.2
          cases b <;> simp [D.eqv] at h
          rw [h]
        subst hb
        cases a with
        | int i =>
          have hi : i = 0 := by simpa [D.eqv] using hab.1
          subst hi
          simp [run, bIsKey, he, isKeyD]
        | bl t => simp [run, bIsKey, he, isKeyD]
        | _ => simp [D.eqv] at hab
      · have hab' : (a.eqv (.int 0) && b.eqv (.str [])) = false := by
          cases h1 : a.eqv (.int 0) <;> cases h2 : b.eqv (.str []) <;> simp_all
        rw [hab'] at he
        have e : isKeyD (.tup [a, b]) = (isNum a 1 1000000 && isWord b) := by
          cases a with
          | int i =>
            cases b with
            | str z =>
              have : (decide (i = 0) && z.isEmpty) = false := by
                cases z with
                | nil => simpa [D.eqv] using hab'
                | cons _ _ => simp
              simp [isKeyD, this]
            | _ => simp [isKeyD, isWord]
          | _ => simp [isKeyD, isNum]
        rw [e]
        cases h3 : isNum a 1 1000000 <;> simp [run, bIsKey, he, n1, n2, h3]
  | ref m => cases k <;> simp [D.nice] at hv
  | scr m => cases k <;> simp [D.nice] at hv
  | _ =>
    simp only [rootD, D.eqv] at he
    simp [run, bIsKey, he, isKeyD]
theorem c_iskey (hF : F[i2]? = some (bIsKey i0 i1)) (hN : F[i0]? = some bNum) (hW : F[i1]? = some bWord) {v : D} {k : Nat} (hv : v.nice k = true) (hk : k ≤ 64) (hk0 : 1 ≤ k) : callR (calls F w (n + 2) i2) [v] s = .ok (.bl (isKeyD v)) s := callR_pure (r_iskey hF hN hW hv hk hk0) rfl

def kbB (i i2 i1 is : Nat) : List CS := [
.asg (.nm 4) (.call i [.var 3, .bin .sub (.var 1) (.con (.int 1))]), 
.ite (.or (.cmp .is (.var 4) (.con .non)) (.cmp .gt (.bin .add (.bi .len [.var 2]) (.bi .len [.var 4])) (.glob (.int 200)))) [
.ret (.con .non)] [], 
.expr (.mm .extend (.var 2) [.var 4])]
def bKeysBehind (i i2 i1 is : Nat) : Fn := ⟨2, 3, [
.ite (.or (.not (.isa (.var 0) .tuple)) (.or (.cmp .ne (.bi .len [.var 0]) (.con (.int 4))) (.cmp .eq (.var 1) (.con (.int 0))))) [
.ret (.con .non)] [], 
.ite (.or (.not (.call i2 [.idx (.var 0) (.con (.int 0))])) (.or (.not (.call i1 [.idx (.var 0) (.con (.int 1))])) (.or (.not (.call is [.idx (.var 0) (.con (.int 2))])) (.not (.isa (.idx (.var 0) (.con (.int 3))) .tuple))))) [
.ret (.con .non)] [], 
.asg (.nm 2) (.cell (.lst [.idx (.var 0) (.con (.int 0))])), 
.forr (.nm 3) (.seq (.idx (.var 0) (.con (.int 3)))) [
.asg (.nm 4) (.call i [.var 3, .bin .sub (.var 1) (.con (.int 1))]), 
.ite (.or (.cmp .is (.var 4) (.con .non)) (.cmp .gt (.bin .add (.bi .len [.var 2]) (.bi .len [.var 4])) (.glob (.int 200)))) [
.ret (.con .non)] [], 
.expr (.mm .extend (.var 2) [.var 4])], 
.ret (.var 2)]⟩
/-- the keys, or nothing -/
def kbR (t : KT) : D := if t.ks.all isKeyD then .lv true t.ks else .non
theorem kb_loop {C : Nat → List D → S → L3.R D} {dp : Nat} {x : D} : ∀ (qs : List KT) (acc : List D) (o3 o4 : Option D), (∀ q ∈ qs, ∀ s, callR (C i0) [kt q, .int ((dp : Int) - 1)] s = .ok (kbR q) s) → (∀ q ∈ qs, q.kn) → D.ltL 0 acc = true → acc.length + (ksL qs).length ≤ 200 →
    (((ksL qs).all isKeyD = true) ∧ ∃ o3' o4', foL (foT C w (.nm 3) (kbB i0 i1 i2 i3)) (qs.map kt) [some x, some (.int dp), some (.ref s.cells.length), o3, o4] (ap s acc) = .nx [some x, some (.int dp), some (.ref s.cells.length), o3', o4'] (ap s (acc ++ ksL qs))) ∨
    (((ksL qs).all isKeyD = false) ∧ ∃ L, foL (foT C w (.nm 3) (kbB i0 i1 i2 i3)) (qs.map kt) [some x, some (.int dp), some (.ref s.cells.length), o3, o4] (ap s acc) = .rt .non (ap s L))
  | [], acc, o3, o4, _, _, _, _ => .inl ⟨by rw [ksL_nil]; rfl, o3, o4, by rw [ksL_nil, List.append_nil]; rfl⟩
  | q :: r, acc, o3, o4, hc, hk, ha, hl => by
    have h1 := hc q (by simp)
    have hkq := hk q (by simp)
    rw [ksL_cons, List.length_append] at hl
    rw [List.map_cons, ksL_cons, List.all_append]
    by_cases hq : q.ks.all isKeyD = true
    · have e : kbR q = .lv true q.ks := if_pos hq
      rw [e] at h1
      have hext := ap_ext (s := s) (o := false) ha (ks_lt hkq) (by omega)
      have hn : ¬ ((200 : Int) < (acc.length : Int) + q.ks.length) := by omega
      have hstep : foT C w (.nm 3) (kbB i0 i1 i2 i3) (kt q) [some x, some (.int dp), some (.ref s.cells.length), o3, o4] (ap s acc) = .nx [some x, some (.int dp), some (.ref s.cells.length), some (kt q), some (.lv false q.ks)] (ap s (acc ++ q.ks)) := by
        have e2 : cmp2 .is (.lv false q.ks) .non = some false := rfl
        simp [foT, kbB, h1, e2, ap_rd, hn, ap_cell, hext]
      rw [hq, Bool.true_and]
      have ih := kb_loop (C := C) (dp := dp) (x := x) r (acc ++ q.ks) (some (kt q)) (some (.lv false q.ks)) (fun z hz => hc z (by simp [hz])) (fun z hz => hk z (by simp [hz])) (ltL_app ha (ks_lt hkq)) (by simp; omega)
      unfold foL
      rw [hstep, ← List.append_assoc]
      exact ih
    · have hq : q.ks.all isKeyD = false := by simpa using hq
      have e : kbR q = .non := by unfold kbR; rw [hq]; rfl
      rw [e] at h1
      refine .inr ⟨by rw [hq]; rfl, acc, ?_⟩
      unfold foL
      have hstep : foT C w (.nm 3) (kbB i0 i1 i2 i3) (kt q) [some x, some (.int dp), some (.ref s.cells.length), o3, o4] (ap s acc) = .rt .non (ap s acc) := by
        have e2 : cmp2 .is .non .non = some true := rfl
        simp [foT, kbB, h1, e2]
      rw [hstep]
      rfl
theorem c_kb (hF : F[i0]? = some (bKeysBehind i0 i3 i1 i2)) (hN : F[i4]? = some bNum) (hW : F[i1]? = some bWord) (hS : F[i2]? = some bSigns) (hK : F[i3]? = some (bIsKey i4 i1)) :
    ∀ (d : Nat) (t : KT), t.pl.deep ≤ d → t.pl.size ≤ 200 → t.pl.ok = true → t.pl.good = true → t.kn → ∀ (dp n : Nat) (s : S), d ≤ dp → callR (calls F w (n + d + 2) i0) [kt t, .int (dp : Int)] s = .ok (kbR t) s
  | 0, t, h, _, _, _, _, _, _, _, _ => absurd (deep_pos t.pl) (by omega)
  | d + 1, .nd k wd g ps, h, hz, ho, hg, hk, dp, n, s, hdp => by
    have ho' := ho
    have hg' := hg
    rw [pl_nd] at ho' hg'
    obtain ⟨w1, w2, w3, w4, h5⟩ := ok_nd ho'
    obtain ⟨g1, g2, g3⟩ := tgood hg'
    have hsub : ∀ p ∈ ps, p.kn := fun p hp => kn_sub (t := .nd k wd g ps) hk hp
    have ih := fun p (hp : p ∈ ps) (s : S) => c_kb hF hN hW hS hK d p (kdeep_of h p hp) (ksize_of hz p hp) (h5 _ (List.mem_map_of_mem hp)) (g3 _ (List.mem_map_of_mem hp)) (hsub p hp) (dp - 1) n s (by omega)
    have edp : ((dp - 1 : Nat) : Int) = (dp : Int) - 1 := by omega
    simp only [edp] at ih
    obtain ⟨hkf, hkn⟩ : k.frz = k ∧ k.nice 2 = true := kn_key hk
    have hlen : (ksL ps).length + 1 ≤ 200 := by
      have := ks_size (.nd k wd g ps)
      rw [ks_nd] at this
      simp at this
      omega
    have k1 := fun s => c_iskey (w := w) (n := n + d) (s := s) hK hN hW hkn (by omega) (by omega)
    have k2 : ∀ s, callR (calls F w (n + d + 2) i1) [.str wd] s = .ok (.bl true) s := fun s => by
      rw [c_word (w := w) (n := n + d + 1) hW (v := .str wd) (k := 1) (by simp [D.nice, w1, w3])]
      have g1 : isWord (.str wd) = true := g1
      rw [g1]
    have k3 : ∀ s, callR (calls F w (n + d + 2) i2) [.str g] s = .ok (.bl true) s := fun s => by
      rw [c_signs (w := w) (n := n + d + 1) hS (v := .str g) (k := 1) (by simp [D.nice, w2, w4])]
      have g2 : areSigns (.str g) = true := g2
      rw [g2]
    have hdp0 : cmp2 .eq (.int (dp : Int)) (.int 0) = some false := by
      have h0 : ¬ (dp = 0) := by omega
      simp [h0]
    have hn := newCell_ap [k] s.ent
    have hloop := kb_loop (C := calls F w (n + d + 2)) (s := s.ent) (w := w) (i0 := i0) (i1 := i3) (i2 := i1) (i3 := i2) (dp := dp) (x := kt (.nd k wd g ps)) ps [k] none none ih hsub (by show (D.lt 0 k && true) = true; rw [nice_lt hkn]; rfl) (by simp; omega)
    have hall : (KT.nd k wd g ps).ks.all isKeyD = (isKeyD k && (ksL ps).all isKeyD) := by rw [ks_nd]; rfl
    have hent : s.ent.cells = s.cells := rfl
    have k1 : ∀ s, callR (calls F w (n + d + 2) i3) [k] s = .ok (.bl (isKeyD k)) s := k1
    cases hik : isKeyD k with
    | false =>
      have e : kbR (.nd k wd g ps) = .non := by unfold kbR; rw [hall, hik]; rfl
      rw [e]
      refine callR_pure ?_ rfl
      rw [show n + (d + 1) + 2 = (n + d + 2) + 1 by omega, calls_eq hF, kt_nd]
      simp [run, bKeysBehind, hdp0, hkf, k1, hik]
    | true =>
      rcases hloop with ⟨ha, o3, o4, hl⟩ | ⟨ha, L, hl⟩
      · have e : kbR (.nd k wd g ps) = .lv true (k :: ksL ps) := by unfold kbR; rw [hall, hik, ha]; rw [ks_nd]; rfl
        rw [e]
        refine callR_own ?_ (by rw [← ks_nd k wd g]; exact ks_lt hk)
        rw [show n + (d + 1) + 2 = (n + d + 2) + 1 by omega, calls_eq hF]
        unfold kbB at hl
        rw [kt_nd] at hl ⊢
        simp only [hent, List.singleton_append] at hl hn
        simp [run, bKeysBehind, hdp0, hkf, k1, k2, k3, hik, hn, hl, ck]
      · have e : kbR (.nd k wd g ps) = .non := by unfold kbR; rw [hall, hik, ha]; rfl
        rw [e]
        refine callR_ap (L := L) ?_ rfl
        rw [show n + (d + 1) + 2 = (n + d + 2) + 1 by omega, calls_eq hF]
        unfold kbB at hl
        rw [kt_nd] at hl ⊢
        simp only [hent] at hl hn
        simp [run, bKeysBehind, hdp0, hkf, k1, k2, k3, hik, hn, hl, ck]
end LG
end

section -- KC
set_option autoImplicit false
set_option linter.all false
set_option maxRecDepth 10000
namespace LG
open L3
variable {w n : Nat} {s : S} {F : Array Fn} {i0 i1 i2 i3 i4 i5 : Nat}
abbrev Kp : Type := Int × List Nat
def kd (x : Kp) : D := .tup [.int x.1, .str x.2]
@[simp] theorem kd_frz (x : Kp) : (kd x).frz = kd x := rfl
@[simp] theorem kd_rd (x : Kp) (s : S) : (kd x).rd s = kd x := rfl
theorem kd_inj {x y : Kp} (h : kd x = kd y) : x = y := by
  unfold kd at h
  simp only [D.tup.injEq, List.cons.injEq, D.int.injEq, D.str.injEq, and_true] at h
  exact Prod.ext h.1 h.2
theorem kd_eqv (x y : Kp) : (kd x).eqv (kd y) = decide (x = y) := by
  have : (kd x).eqv (kd y) = (decide (x.1 = y.1) && (x.2 == y.2)) := by simp [kd, D.eqv, D.eqv.eqvL]
  rw [this]
  by_cases h : x = y
  · subst h; simp
  · rw [decide_eq_false h]
    have : ¬ (x.1 = y.1 ∧ x.2 = y.2) := fun e => h (Prod.ext e.1 e.2)
    by_cases h1 : x.1 = y.1
    · have : ¬ x.2 = y.2 := fun e => this ⟨h1, e⟩
      simp [this]
    · simp [h1]
theorem good_kd {v : D} (h : isKeyD v = true) : ∃ x, v = kd x := by
  unfold isKeyD at h
  split at h
  · exact ⟨(_, _), rfl⟩
  · cases h
theorem good_kds : ∀ {vs : List D}, vs.all isKeyD = true → ∃ kk : List Kp, vs = kk.map kd
  | [], _ => ⟨[], rfl⟩
  | v :: r, h => by
    rw [List.all_cons, Bool.and_eq_true] at h
    obtain ⟨x, rfl⟩ := good_kd h.1
    obtain ⟨kk, rfl⟩ := good_kds h.2
    exact ⟨x :: kk, rfl⟩
def kT (x : Kp) : List Ky := [.inl x.1, .inr x.2]
theorem keysT_kd : ∀ kk : List Kp, keysT (kk.map kd) = some (kk.map kT)
  | [] => rfl
  | x :: r => by
    show ((keysD [.int x.1, .str x.2]).bind fun k => (keysT (r.map kd)).map (k :: ·)) = _
    rw [keysT_kd r]
    rfl
theorem ndis_kT : ∀ kk : List Kp, ndis (kk.map kT) = ndis kk
  | [] => rfl
  | x :: r => by
    have e : kT x ∈ r.map kT ↔ x ∈ r := by
      rw [List.mem_map]
      refine ⟨fun ⟨y, hy, e⟩ => ?_, fun h => ⟨x, h, rfl⟩⟩
      unfold kT at e
      simp only [List.cons.injEq, Sum.inl.injEq, Sum.inr.injEq, and_true] at e
      have : y = x := Prod.ext e.1 e.2
      exact this ▸ hy
    rw [List.map_cons, ndis, ndis, ndis_kT r]
    by_cases hx : x ∈ r
    · rw [if_pos hx, if_pos (e.mpr hx)]
    · rw [if_neg hx, if_neg fun h => hx (e.mp h)]
theorem ndis_nodup {α : Type} [DecidableEq α] : ∀ {l : List α}, l.Nodup → ndis l = l.length
  | [], _ => rfl
  | x :: r, h => by
    obtain ⟨h1, h2⟩ := List.nodup_cons.mp h
    rw [ndis, if_neg h1, ndis_nodup h2, List.length_cons]
    omega
theorem ndis_le {α : Type} [DecidableEq α] : ∀ l : List α, ndis l ≤ l.length
  | [] => Nat.le_refl _
  | x :: r => by
    have := ndis_le r
    rw [ndis, List.length_cons]
    split <;> omega
theorem ndis_dup {α : Type} [DecidableEq α] : ∀ {l : List α}, ¬ l.Nodup → ndis l < l.length
  | [], h => absurd List.nodup_nil h
  | x :: r, h => by
    have h0 := ndis_le r
    rw [ndis, List.length_cons]
    by_cases hx : x ∈ r
    · rw [if_pos hx]; omega
    · rw [if_neg hx]
      have := ndis_dup (l := r) fun e => h (List.nodup_cons.mpr ⟨hx, e⟩)
      omega
def bIsKeyed (i : Nat) : Fn := ⟨1, 1, [
.asg (.nm 1) (.call i [.var 0, .glob (.int 30)]), 
.ret (.and (.cmp .isnot (.var 1) (.con .non)) (.and (.cmp .eq (.idx (.var 1) (.con (.int 0))) (.glob (.tup [.int 0, .str []]))) (.cmp .eq (.lset (.var 1)) (.bi .len [.var 1]))))]⟩
theorem c_iskeyedN (hF : F[i0]? = some (bIsKeyed i1)) {v : D} (hf : v.frz = v) (h : ∀ s, callR (calls F w n i1) [v, .int 30] s = .ok .non s) : callR (calls F w (n + 1) i0) [v] s = .ok (.bl false) s := by
  refine callR_pure ?_ rfl
  rw [calls_eq hF]
  have e : cmp2 .isnot .non .non = some false := rfl
  simp [run, bIsKeyed, hf, h, e]
theorem c_iskeyedY (hF : F[i0]? = some (bIsKeyed i1)) {v : D} {x : Kp} {kk : List Kp} (hf : v.frz = v) (h : ∀ s, callR (calls F w n i1) [v, .int 30] s = .ok (.lv true ((x :: kk).map kd)) s) (hn : okS x.2 = true) (hl : kk.length < 60) :
    callR (calls F w (n + 1) i0) [v] s = .ok (.bl (decide (x = (0, [])) && decide ((x :: kk).Nodup))) s := by
  refine callR_pure ?_ rfl
  rw [calls_eq hF]
  have e1 : cmp2 .isnot (.lv false ((x :: kk).map kd)) .non = some true := rfl
  have e2 : cmp2 .eq (kd x) (.tup [.int 0, .str []]) = some (decide (x = (0, []))) := by
    rw [← kd_eqv x (0, [])]
    have hx : (kd x).fit 64 = true := by simp [kd, D.fit, D.fit.fitL, hn]
    show (if (kd x).fit 64 && (D.tup [.int 0, .str []]).fit 64 then some ((kd x).eqv (.tup [.int 0, .str []])) else none) = _
    rw [hx]
    rfl
  have e3 : lsetOf (.lv false ((x :: kk).map kd)) = some (.int (ndis (x :: kk))) := by
    show (keysT ((x :: kk).map kd)).bind _ = _
    rw [keysT_kd, Option.bind_some, if_pos (by simp; omega), ndis_kT]
  have e4 : decide ((ndis (x :: kk) : Int) = ((x :: kk).length : Int)) = decide ((x :: kk).Nodup) := by
    by_cases h : (x :: kk).Nodup
    · rw [ndis_nodup h]; simp [h]
    · have := ndis_dup h
      rw [decide_eq_false h, decide_eq_false]
      omega
  have e0 : atI ((x :: kk).map kd) 0 = some (kd x) := by
    show atI _ ((0 : Nat) : Int) = _
    rw [atI_nat]; rfl
  have e5 : cmp2 .eq (.int ((ndis (x :: kk) : Nat) : Int)) (.int (((x :: kk).map kd).length : Int)) = some (decide ((x :: kk).Nodup)) := by
    rw [List.length_map, ← e4]
    simp
  have hm : (x :: kk).map kd = kd x :: kk.map kd := rfl
  generalize hL : (x :: kk).map kd = L at *
  cases hd : decide (x = (0, [])) with
  | false =>
    rw [hd] at e2
    simp [run, bIsKeyed, hf, h, e1, e0, e2]
  | true =>
    rw [hd] at e2
    have e6 : bi .len [.lv false L] = some (.int (L.length : Int)) := by simp
    simp only [Bool.true_and]
    simp [run, bIsKeyed, hf, h, e1, e0, e2, e3, e5]
end LG
end

section -- KD
set_option autoImplicit false
set_option linter.all false
set_option maxRecDepth 10000
namespace LG
open L3
variable {w n : Nat} {s : S} {F : Array Fn} {i0 i1 i2 i3 i4 i5 : Nat}
def KT.at? : KT → List Nat → Option KT
  | t, [] => some t
  | t, i :: r => match t.sub[i]? with
    | some p => p.at? r
    | none => none
termination_by _ p => p.length
theorem kat_cons (t : KT) (i : Nat) (r : List Nat) : t.at? (i :: r) = match t.sub[i]? with | some p => p.at? r | none => none := by
  conv => lhs; unfold KT.at?
theorem kat_nil (t : KT) : t.at? [] = some t := by unfold KT.at?; rfl
def katB : List CS := [
.ite (.cmp .ge (.var 2) (.bi .len [.idx (.var 0) (.con (.int 3))])) [
.raise 3] [], 
.asg (.nm 0) (.idx (.idx (.var 0) (.con (.int 3))) (.var 2))]
def bKeyAt : Fn := ⟨2, 1, [
.forr (.nm 2) (.seq (.var 1)) [
.ite (.cmp .ge (.var 2) (.bi .len [.idx (.var 0) (.con (.int 3))])) [
.raise 3] [], 
.asg (.nm 0) (.idx (.idx (.var 0) (.con (.int 3))) (.var 2))], 
.ret (.idx (.var 0) (.con (.int 0)))]⟩
theorem kat_loop {C : Nat → List D → S → L3.R D} : ∀ (p : List Nat) (t : KT) (o1 o2 : Option D), match t.at? p with
    | some u => ∃ o2', foL (foT C w (.nm 2) katB) (p.map fun (i : Nat) => D.int (i : Int)) [some (kt t), o1, o2] s = .nx [some (kt u), o1, o2'] s
    | none => ∃ e', foL (foT C w (.nm 2) katB) (p.map fun (i : Nat) => D.int (i : Int)) [some (kt t), o1, o2] s = .ex 3 e' s
  | [], t, o1, o2 => by rw [kat_nil]; exact ⟨o2, rfl⟩
  | i :: r, t, o1, o2 => by
    rw [kat_cons, List.map_cons]
    cases hq : t.sub[i]? with
    | some q =>
      have ih := kat_loop (C := C) r q o1 (some (.int i))
      have hi : i < t.sub.length := (List.getElem?_eq_some_iff.mp hq).1
      have e : atI (t.sub.map kt) (i : Int) = some (kt q) := by rw [atI_nat, List.getElem?_map, hq]; rfl
      have hn : ¬ ((t.sub.length : Int) ≤ (i : Int)) := by omega
      have h1 : foT C w (.nm 2) katB (.int (i : Int)) [some (kt t), o1, o2] s = .nx [some (kt q), o1, some (.int i)] s := by
        rw [kt_eq t]
        simp [foT, katB, e, hn]
      unfold foL
      rw [h1]
      exact ih
    | none =>
      have hi : t.sub.length ≤ i := List.getElem?_eq_none_iff.mp hq
      have hn : ((t.sub.length : Int) ≤ (i : Int)) := by omega
      have h1 : foT C w (.nm 2) katB (.int (i : Int)) [some (kt t), o1, o2] s = .ex 3 [some (kt t), o1, some (.int i)] s := by
        rw [kt_eq t]
        simp [foT, katB, hn]
      exact ⟨[some (kt t), o1, some (.int i)], by unfold foL; rw [h1]; rfl⟩
theorem c_keyat (hF : F[i0]? = some bKeyAt) {t u : KT} {p : List Nat} (h : t.at? p = some u) (hu : u.key.lt 0 = true) : callR (calls F w (n + 1) i0) [kt t, pD p] s = .ok u.key s := by
  refine callR_pure ?_ hu
  rw [calls_eq hF]
  have key := kat_loop (w := w) (s := s.ent) (C := calls F w n) p t (some (pD p)) none
  unfold katB at key
  rw [h] at key
  obtain ⟨o, ho⟩ := key
  rw [kt_eq u] at ho
  unfold pD at ho
  simp [run, bKeyAt, pD, ho]
theorem c_keyatN (hF : F[i0]? = some bKeyAt) {t : KT} {p : List Nat} (h : t.at? p = none) : callR (calls F w (n + 1) i0) [kt t, pD p] s = .exc 3 s := by
  refine callR_exc ?_
  rw [calls_eq hF]
  have key := kat_loop (w := w) (s := s.ent) (C := calls F w n) p t (some (pD p)) none
  unfold katB at key
  rw [h] at key
  obtain ⟨o, ho⟩ := key
  unfold pD at ho
  simp [run, bKeyAt, pD, ho]
mutual
def KT.pth : KT → D → Option (List Nat)
  | .nd k _ _ ps, x => if k.eqv x then some [] else pthL ps x 0
def pthL : List KT → D → Nat → Option (List Nat)
  | [], _, _ => none
  | p :: r, x, i => if p.ks.any (fun k => k.eqv x) then (p.pth x).map (i :: ·) else pthL r x (i + 1)
end
theorem pth_nd (k : D) (w g : List Nat) (ps : List KT) (x : D) : (KT.nd k w g ps).pth x = if k.eqv x then some [] else pthL ps x 0 := by conv => lhs; unfold KT.pth
theorem pthL_nil (x : D) (i : Nat) : pthL [] x i = none := by conv => lhs; unfold pthL
theorem pthL_cons (p : KT) (r : List KT) (x : D) (i : Nat) : pthL (p :: r) x i = if p.ks.any (fun k => k.eqv x) then (p.pth x).map (i :: ·) else pthL r x (i + 1) := by conv => lhs; unfold pthL
def poB (i ik : Nat) : List CS := [
.ite (.cmp .inn (.var 1) (.call ik [.var 3])) [
.ret (.tup [.var 2, .star (.call i [.var 3, .var 1])])] []]
def bPathOf (i ik : Nat) : Fn := ⟨2, 2, [
.ite (.cmp .eq (.idx (.var 0) (.con (.int 0))) (.var 1)) [
.ret (.tup [])] [], 
.forr (.tup [.nm 2, .nm 3]) (.enum (.idx (.var 0) (.con (.int 3)))) [
.ite (.cmp .inn (.var 1) (.call ik [.var 3])) [
.ret (.tup [.var 2, .star (.call i [.var 3, .var 1])])] []], 
.raise 3]⟩
theorem fitL_nice : ∀ {ks : List D}, (∀ k ∈ ks, k.nice 2 = true) → D.fitL 63 ks = true
  | [], _ => rfl
  | k :: r, h => by
    show (D.fit 63 k && D.fitL 63 r) = true
    rw [nice_fit (nice_mono (h k (by simp)) (by omega)), fitL_nice fun q hq => h q (by simp [hq])]; rfl
theorem inn_lv {x : D} {o : Bool} {ks : List D} (hx : x.nice 2 = true) (hk : ∀ k ∈ ks, k.nice 2 = true) : cmp2 .inn x (.lv o ks) = some (ks.any fun k => k.eqv x) := by
  have e : cmp2 .inn x (.lv o ks) = if x.fit 64 && D.fitL 63 ks then some (ks.any fun k => k.eqv x) else none := by
    cases x with
    | str z =>
      cases z with
      | nil => rfl
      | cons c r => cases r <;> rfl
    | _ => rfl
  rw [e, nice_fit (nice_mono hx (by omega)), fitL_nice hk]
  rfl
theorem eq_nice {x y : D} (hx : x.nice 2 = true) (hy : y.nice 2 = true) : cmp2 .eq x y = some (x.eqv y) := by
  cases x with
  | str a =>
    cases y with
    | str b => rfl
    | _ => show (if D.fit 64 _ && D.fit 64 _ then _ else _) = _; rw [nice_fit (nice_mono hx (by omega)), nice_fit (nice_mono hy (by omega))]; rfl
  | ref m => simp [D.nice] at hx
  | scr m => simp [D.nice] at hx
  | _ => 
    show (if D.fit 64 _ && D.fit 64 _ then _ else _) = _
    rw [nice_fit (nice_mono hx (by omega)), nice_fit (nice_mono hy (by omega))]; rfl
/-- what path_of answers -/
def poR (o : Option (List Nat)) (s : S) : L3.R D := match o with | some p => .ok (pD p) s | none => .exc 3 s
theorem po_loop {C : Nat → List D → S → L3.R D} {t x : D} (hx : x.nice 2 = true) (hf : x.frz = x) : ∀ (qs : List KT) (i : Nat) (o2 o3 : Option D), (∀ q ∈ qs, ∀ s, callR (C i1) [kt q] s = .ok (.lv true q.ks) s) → (∀ q ∈ qs, q.kn) → (∀ q ∈ qs, ∀ s, callR (C i0) [kt q, x] s = poR (q.pth x) s) →
    (∀ q ∈ qs, ∀ p, q.pth x = some p → p.length ≤ 1000) →
    match pthL qs x i with
    | some p => foL (foT C w (.tup [.nm 2, .nm 3]) (poB i0 i1)) (((qs.map kt).zipIdx i).map fun p => D.tup [.int p.2, p.1]) [some t, some x, o2, o3] s = .rt (pD p) s
    | none => (∃ e', foL (foT C w (.tup [.nm 2, .nm 3]) (poB i0 i1)) (((qs.map kt).zipIdx i).map fun p => D.tup [.int p.2, p.1]) [some t, some x, o2, o3] s = .nx e' s) ∨
        ∃ e', foL (foT C w (.tup [.nm 2, .nm 3]) (poB i0 i1)) (((qs.map kt).zipIdx i).map fun p => D.tup [.int p.2, p.1]) [some t, some x, o2, o3] s = .ex 3 e' s
  | [], i, o2, o3, _, _, _, _ => by rw [pthL_nil]; exact .inl ⟨_, rfl⟩
  | q :: r, i, o2, o3, h1, h2, h3, h4 => by
    have c1 := h1 q (by simp)
    have c3 := h3 q (by simp)
    have hin := inn_lv (o := true) hx fun k hk => (h2 q (by simp) k hk).2
    have hr := nice_rd (s := s) hx
    rw [pthL_cons, List.map_cons, List.zipIdx_cons, List.map_cons]
    unfold foL
    cases ha : q.ks.any (fun k => k.eqv x) with
    | false =>
      rw [ha] at hin
      have hstep : foT C w (.tup [.nm 2, .nm 3]) (poB i0 i1) (D.tup [.int (i : Int), kt q]) [some t, some x, o2, o3] s = .nx [some t, some x, some (.int i), some (kt q)] s := by
        simp [foT, poB, c1, hin, hr]
      rw [hstep]
      exact po_loop hx hf r (i + 1) _ _ (fun z hz => h1 z (by simp [hz])) (fun z hz => h2 z (by simp [hz])) (fun z hz => h3 z (by simp [hz])) fun z hz => h4 z (by simp [hz])
    | true =>
      rw [ha] at hin
      cases hp : q.pth x with
      | some p =>
        have hl := h4 q (by simp) p hp
        rw [hp] at c3
        have c3 : ∀ s, callR (C i0) [kt q, x] s = .ok (pD p) s := c3
        have hstep : foT C w (.tup [.nm 2, .nm 3]) (poB i0 i1) (D.tup [.int (i : Int), kt q]) [some t, some x, o2, o3] s = .rt (pD (i :: p)) s := by
          have b1 : p.length + 1 ≤ big := by rw [bigN]; omega
          have c4 : ∀ s, callR (C i0) [kt q, x] s = .ok (.tup (p.map fun (i : Nat) => D.int (i : Int))) s := c3
          simp [foT, poB, c1, hin, hr, hf, c4, pD, ck, b1]
        rw [hstep]
        rfl
      | none =>
        rw [hp] at c3
        have c3 : ∀ s, callR (C i0) [kt q, x] s = .exc 3 s := c3
        have hstep : foT C w (.tup [.nm 2, .nm 3]) (poB i0 i1) (D.tup [.int (i : Int), kt q]) [some t, some x, o2, o3] s = .ex 3 [some t, some x, some (.int i), some (kt q)] s := by
          simp [foT, poB, c1, hin, hr, hf, c3]
        rw [hstep]
        exact .inr ⟨_, rfl⟩
theorem pth_len : ∀ (d : Nat) (t : KT), t.pl.deep ≤ d → ∀ x p, t.pth x = some p → p.length < d
  | 0, t, h, _, _, _ => absurd (deep_pos t.pl) (by omega)
  | d + 1, .nd k wd g ps, h, x, p, hp => by
    have key : ∀ (qs : List KT) (i : Nat), (∀ q ∈ qs, q ∈ ps) → ∀ p, pthL qs x i = some p → p.length < d + 1 := by
      intro qs
      induction qs with
      | nil => intro i _ p h; rw [pthL_nil] at h; cases h
      | cons q r ih =>
        intro i hq p h1
        rw [pthL_cons] at h1
        split at h1
        · rw [Option.map_eq_some_iff] at h1
          obtain ⟨p', h2, rfl⟩ := h1
          have := pth_len d q (kdeep_of h q (hq q (by simp))) x p' h2
          simp; omega
        · exact ih (i + 1) (fun z hz => hq z (by simp [hz])) p h1
    rw [pth_nd] at hp
    split at hp
    · cases hp; simp
    · exact key ps 0 (fun _ h => h) p hp
theorem pD_lt (p : List Nat) : (pD p).lt 0 = true := by
  have := lt_pDs (fun y : List Nat => y) [p]
  have h : (D.lt 0 (pD p) && true) = true := this
  rwa [Bool.and_true] at h
theorem c_pathof (hF : F[i0]? = some (bPathOf i0 i1)) (hK : F[i1]? = some (bKeysOf i1)) {x : D} (hx : x.nice 2 = true) (hf : x.frz = x) : ∀ (d : Nat) (t : KT), d ≤ 900 → t.pl.deep ≤ d → t.pl.size ≤ 1000 → t.kn → ∀ (n : Nat) (s : S), callR (calls F w (n + d) i0) [kt t, x] s = poR (t.pth x) s
  | 0, t, _, h, _, _, _, _ => absurd (deep_pos t.pl) (by omega)
  | d + 1, .nd k wd g ps, hd, h, hz, hk, n, s => by
    have hsub : ∀ p ∈ ps, p.kn := fun p hp => kn_sub (t := .nd k wd g ps) hk hp
    have ih := fun p (hp : p ∈ ps) (s : S) => c_pathof hF hK hx hf d p (by omega) (kdeep_of h p hp) (ksize_of hz p hp) (hsub p hp) n s
    have hks := fun p (hp : p ∈ ps) (s : S) => c_keysof (w := w) (n := n) (s := s) hK (kdeep_of h p hp) (ksize_of hz p hp) (hsub p hp)
    obtain ⟨hkf, hkn⟩ : k.frz = k ∧ k.nice 2 = true := kn_key hk
    have he := eq_nice hkn hx
    have hr := fun s => nice_rd (s := s) hx
    have hkr := fun s => nice_rd (s := s) hkn
    have hl := klen_of hz
    have hloop := po_loop (w := w) (C := calls F w (n + d)) (s := s.ent) (i0 := i0) (i1 := i1) (t := kt (.nd k wd g ps)) hx hf ps 0 none none hks hsub ih fun q hq p hp => by have := pth_len d q (kdeep_of h q hq) x p hp; omega
    rw [pth_nd]
    cases hkx : k.eqv x with
    | true =>
      rw [hkx] at he
      show _ = L3.R.ok (pD []) s
      refine callR_pure ?_ (pD_lt [])
      rw [show n + (d + 1) = (n + d) + 1 from rfl, calls_eq hF, kt_nd]
      simp [run, bPathOf, he, hf, hr, hkr, ck, pD]
    | false =>
      rw [hkx] at he
      simp only [Bool.false_eq_true, if_false]
      unfold poB at hloop
      rw [kt_nd] at hloop
      have e0 : enumL (ps.map kt) = ((ps.map kt).zipIdx 0).map fun p => D.tup [.int p.2, p.1] := rfl
      cases hp : pthL ps x 0 with
      | some p =>
        rw [hp] at hloop
        refine callR_pure ?_ (pD_lt p)
        rw [show n + (d + 1) = (n + d) + 1 from rfl, calls_eq hF, kt_nd]
        rw [← e0] at hloop
        simp only [] at hloop
        simp [run, bPathOf, he, hf, hr, hkr, ck, hloop]
      | none =>
        rw [hp] at hloop
        refine callR_exc ?_
        rw [show n + (d + 1) = (n + d) + 1 from rfl, calls_eq hF, kt_nd]
        rw [← e0] at hloop
        rcases hloop with ⟨e', hl'⟩ | ⟨e', hl'⟩
        · simp [run, bPathOf, he, hf, hr, hkr, ck, hl']
        · simp [run, bPathOf, he, hf, hr, hkr, ck, hl']
mutual
def KT.pk : KT → List (List Nat × D)
  | .nd k _ _ ps => ([], k) :: pkL ps 0
def pkL : List KT → Nat → List (List Nat × D)
  | [], _ => []
  | p :: r, i => p.pk.map (fun y => (i :: y.1, y.2)) ++ pkL r (i + 1)
end
theorem pk_nd (k : D) (w g : List Nat) (ps : List KT) : (KT.nd k w g ps).pk = ([], k) :: pkL ps 0 := by conv => lhs; unfold KT.pk
theorem pkL_nil (i : Nat) : pkL [] i = [] := by conv => lhs; unfold pkL
theorem pkL_cons (p : KT) (r : List KT) (i : Nat) : pkL (p :: r) i = p.pk.map (fun y => (i :: y.1, y.2)) ++ pkL r (i + 1) := by conv => lhs; unfold pkL
theorem pk_keys : ∀ (d : Nat) (t : KT), t.pl.deep ≤ d → t.pk.map (·.2) = t.ks ∧ t.pk.map (·.1) = (nodesT t.pl).map (·.1)
  | 0, t, h => absurd (deep_pos t.pl) (by omega)
  | d + 1, .nd k wd g ps, h => by
    have ih := fun p (hp : p ∈ ps) => pk_keys d p (kdeep_of h p hp)
    have key : ∀ (qs : List KT) (i : Nat), (∀ q ∈ qs, q ∈ ps) → (pkL qs i).map (·.2) = ksL qs ∧ (pkL qs i).map (·.1) = (nodesL (qs.map KT.pl) i).map (·.1) := by
      intro qs
      induction qs with
      | nil => intro i _; simp [pkL_nil, ksL_nil, nodesL_nil]
      | cons q r ihr =>
        intro i hq
        obtain ⟨a1, a2⟩ := ih q (hq q (by simp))
        obtain ⟨b1, b2⟩ := ihr (i + 1) fun z hz => hq z (by simp [hz])
        rw [pkL_cons, ksL_cons, List.map_cons, nodesL_cons, List.map_append, List.map_append, List.map_append, b1, b2, ← a1, List.map_map, List.map_map, List.map_map]
        refine ⟨rfl, ?_⟩
        congr 1
        have := congrArg (List.map (i :: ·)) a2
        rw [List.map_map, List.map_map] at this
        exact this
    obtain ⟨c1, c2⟩ := key ps 0 fun _ h => h
    rw [pk_nd, ks_nd, pl_nd, nodes_nd, List.map_cons, List.map_cons, List.map_cons, c1, c2]
    exact ⟨rfl, rfl⟩
theorem pk_at : ∀ (d : Nat) (t : KT), t.pl.deep ≤ d → ∀ y ∈ t.pk, ∃ u, t.at? y.1 = some u ∧ u.key = y.2 ∧ y.2 ∈ t.ks
  | 0, t, h, _, _ => absurd (deep_pos t.pl) (by omega)
  | d + 1, .nd k wd g ps, h, y, hy => by
    have hmem : y.2 ∈ (KT.nd k wd g ps).ks := by
      rw [← (pk_keys _ _ h).1]
      exact List.mem_map_of_mem hy
    have key : ∀ (qs : List KT) (i : Nat), (∀ (j : Nat) (p : KT), qs[j]? = some p → ps[i + j]? = some p) → ∀ y ∈ pkL qs i, ∃ u, (KT.nd k wd g ps).at? y.1 = some u ∧ u.key = y.2 := by
      intro qs
      induction qs with
      | nil => intro i _ y hy; rw [pkL_nil] at hy; cases hy
      | cons q r ihr =>
        intro i hq y hy
        rw [pkL_cons] at hy
        rcases List.mem_append.mp hy with hy | hy
        · obtain ⟨z, hz, rfl⟩ := List.mem_map.mp hy
          have hp := hq 0 q rfl
          rw [Nat.add_zero] at hp
          obtain ⟨u, h1, h2, _⟩ := pk_at d q (kdeep_of h q (List.mem_of_getElem? hp)) z hz
          refine ⟨u, ?_, h2⟩
          rw [kat_cons]
          show (match ps[i]? with | some p => p.at? z.1 | none => none) = _
          rw [hp]
          exact h1
        · exact ihr (i + 1) (fun j q hj => by rw [show i + 1 + j = i + (j + 1) by omega]; exact hq (j + 1) q hj) y hy
    have hy' := hy
    rw [pk_nd] at hy
    rcases List.mem_cons.mp hy with rfl | hy
    · exact ⟨.nd k wd g ps, by rw [kat_nil], rfl, hmem⟩
    · obtain ⟨u, h1, h2⟩ := key ps 0 (fun j p hj => by rw [Nat.zero_add]; exact hj) y hy
      exact ⟨u, h1, h2, hmem⟩
/-- all keys differ -/
def Dis (ks : List D) : Prop := ks.Pairwise (fun a b => a.eqv b = false) ∧ ∀ a ∈ ks, a.eqv a = true
theorem Dis.kds {kk : List Kp} (h : kk.Nodup) : Dis (kk.map kd) := by
  refine ⟨?_, fun a ha => ?_⟩
  · rw [List.pairwise_map]
    exact h.imp fun hab => by rw [kd_eqv]; simpa using hab
  · obtain ⟨x, _, rfl⟩ := List.mem_map.mp ha
    rw [kd_eqv]; simp
theorem pth_of : ∀ (d : Nat) (t : KT), t.pl.deep ≤ d → Dis t.ks → ∀ y ∈ t.pk, t.pth y.2 = some y.1
  | 0, t, h, _, _, _ => absurd (deep_pos t.pl) (by omega)
  | d + 1, .nd k wd g ps, h, hD, y, hy => by
    have key : ∀ (qs : List KT) (i : Nat), (∀ q ∈ qs, q ∈ ps) → Dis (ksL qs) → ∀ y ∈ pkL qs i, pthL qs y.2 i = some y.1 ∧ y.2 ∈ ksL qs := by
      intro qs
      induction qs with
      | nil => intro i _ _ y hy; rw [pkL_nil] at hy; cases hy
      | cons q r ihr =>
        intro i hq hD y hy
        rw [ksL_cons] at hD ⊢
        obtain ⟨hD1, hD2⟩ := hD
        rw [List.pairwise_append] at hD1
        obtain ⟨p1, p2, p3⟩ := hD1
        rw [pkL_cons] at hy
        rw [pthL_cons]
        rcases List.mem_append.mp hy with hy | hy
        · obtain ⟨z, hz, rfl⟩ := List.mem_map.mp hy
          have hm : z.2 ∈ q.ks := by rw [← (pk_keys _ q (Nat.le_refl _)).1]; exact List.mem_map_of_mem hz
          have ha : q.ks.any (fun k => k.eqv z.2) = true := List.any_eq_true.mpr ⟨z.2, hm, hD2 _ (List.mem_append_left _ hm)⟩
          rw [if_pos ha, pth_of d q (kdeep_of h q (hq q (by simp))) ⟨p1, fun a ha => hD2 a (List.mem_append_left _ ha)⟩ z hz]
          exact ⟨rfl, List.mem_append_left _ hm⟩
        · obtain ⟨e1, e2⟩ := ihr (i + 1) (fun z hz => hq z (by simp [hz])) ⟨p2, fun a ha => hD2 a (List.mem_append_right _ ha)⟩ y hy
          have ha : ¬ q.ks.any (fun k => k.eqv y.2) = true := fun ha => by
            obtain ⟨b, hb, e⟩ := List.any_eq_true.mp ha
            rw [p3 b hb y.2 e2] at e
            cases e
          rw [if_neg ha]
          exact ⟨e1, List.mem_append_right _ e2⟩
    rw [ks_nd] at hD
    obtain ⟨hD1, hD2⟩ := hD
    rw [List.pairwise_cons] at hD1
    rw [pk_nd] at hy
    rw [pth_nd]
    rcases List.mem_cons.mp hy with rfl | hy
    · rw [if_pos (hD2 k (by simp))]
    · obtain ⟨e1, e2⟩ := key ps 0 (fun _ h => h) ⟨hD1.2, fun a ha => hD2 a (by simp [ha])⟩ y hy
      rw [if_neg (by rw [hD1.1 _ e2]; simp), e1]
theorem pth_none : ∀ (t : KT) (x : D), (∀ k ∈ t.ks, k.eqv x = false) → t.pth x = none
  | .nd k wd g ps, x, h => by
    rw [ks_nd] at h
    rw [pth_nd, if_neg (by rw [h k (by simp)]; simp)]
    have key : ∀ (qs : List KT) (i : Nat), (∀ k ∈ ksL qs, k.eqv x = false) → pthL qs x i = none := by
      intro qs
      induction qs with
      | nil => intro i _; rw [pthL_nil]
      | cons q r ih =>
        intro i h
        rw [ksL_cons] at h
        rw [pthL_cons, if_neg, ih (i + 1) fun k hk => h k (List.mem_append_right _ hk)]
        intro ha
        obtain ⟨b, hb, e⟩ := List.any_eq_true.mp ha
        rw [h b (List.mem_append_left _ hb)] at e
        cases e
    exact key ps 0 fun k hk => h k (by simp [hk])
end LG
end

section -- KF
set_option autoImplicit false
set_option linter.all false
set_option maxRecDepth 10000
namespace LG
open L3
variable {w n : Nat} {s : S} {F : Array Fn} {i0 i1 i2 i3 i4 i5 m : Nat} {L M A B : List D}
def pu (s : S) (m : Nat) (M : List D) : S := ⟨s.cells.set m (.lst M), s.base, s.up⟩
theorem put_pu (h : D.ltL 0 M = true) : s.put m (.lst M) = pu s m M := by
  unfold S.put pu
  rw [if_pos (show (MO.lst M).lt 0 = true from h)]
theorem pu_at (h : m < s.cells.length) : (pu s m M).cells[m]? = some (.lst M) := by
  unfold pu
  rw [List.getElem?_set_self h]
theorem pu_pu : pu (pu s m A) m B = pu s m B := by unfold pu; simp
theorem pu_len : (pu s m M).cells.length = s.cells.length := by unfold pu; simp
theorem ap_len : (ap s L).cells.length = s.cells.length + 1 := by unfold ap; simp
theorem ap_pu (h : m < s.cells.length) : pu (ap s L) m M = ap (pu s m M) L := by
  unfold pu ap
  rw [List.set_append_left _ _ h]
theorem ap_pu_last : pu (ap s L) s.cells.length M = ap s M := by
  unfold pu ap
  rw [List.set_append_right _ _ (Nat.le_refl _), Nat.sub_self]
  rfl
theorem ap_get (h : m < s.cells.length) : (ap s L).cells[m]? = s.cells[m]? := by
  unfold ap
  rw [List.getElem?_append_left h]
theorem get_lt (h : s.cells[m]? = some (.lst L)) : m < s.cells.length := (List.getElem?_eq_some_iff.mp h).1
theorem pu_self (h : s.cells[m]? = some (.lst L)) : pu s m L = s := by
  obtain ⟨h1, h2⟩ := List.getElem?_eq_some_iff.mp h
  unfold pu
  rw [← h2, List.set_getElem_self]
theorem callR_ap_pu {f : List D → S → L3.R D} {vs : List D} {d : D} (h : f vs s.ent = .ok d (ap (pu s.ent m M) L)) (hd : d.lt 0 = true) : callR f vs s = .ok d (pu s m M) := by
  have h' : f vs ⟨s.cells, s.cells.length, none⟩ = .ok d (ap (pu s.ent m M) L) := h
  unfold callR
  rw [h']
  have hv : (ap (pu s.ent m M) L).viol = false := rfl
  have hg : S.gone s (ap (pu s.ent m M) L) = pu s m M := by
    unfold S.gone ap S.ent pu
    have : (s.cells.set m (.lst M) ++ [MO.lst L]).take s.cells.length = s.cells.set m (.lst M) := by
      rw [List.take_append_of_le_length (by simp)]
      rw [List.take_of_length_le (by simp)]
    simp [this]
  have hl : d.lt (ap (pu s.ent m M) L).base = true := D.lt_of_le (Nat.zero_le _) hd
  unfold norm
  simp only [hv, Bool.false_eq_true, if_false]
  cases d with
  | ref m => simp [D.lt] at hd
  | _ => simp [hl, hg]
theorem callR_pu {f : List D → S → L3.R D} {vs : List D} {d : D} (h : f vs s.ent = .ok d (pu s.ent m M)) (hd : d.lt 0 = true) : callR f vs s = .ok d (pu s m M) := by
  have h' : f vs ⟨s.cells, s.cells.length, none⟩ = .ok d (pu s.ent m M) := h
  unfold callR
  rw [h']
  have hv : (pu s.ent m M).viol = false := rfl
  have hg : S.gone s (pu s.ent m M) = pu s m M := by
    unfold S.gone S.ent pu
    have : (s.cells.set m (.lst M)).take s.cells.length = s.cells.set m (.lst M) := List.take_of_length_le (by simp)
    simp [this]
  have hl : d.lt (pu s.ent m M).base = true := D.lt_of_le (Nat.zero_le _) hd
  unfold norm
  simp only [hv, Bool.false_eq_true, if_false]
  cases d with
  | ref m => simp [D.lt] at hd
  | _ => simp [hl, hg]
theorem cell_at (h : s.cells[m]? = some (.lst L)) : cellOf (.ref m) s = some m := by
  unfold cellOf
  simp [h]
theorem mm_pop0 {k : D} {r : List D} (h : s.cells[m]? = some (.lst (k :: r))) (hr : D.ltL 0 r = true) : mmS .pop m [.int 0] s = .ok k (pu s m r) := by
  unfold mmS
  rw [h]
  have e : ixN (k :: r).length 0 = some 0 := by
    unfold ixN
    simp
  show (match ixN (k :: r).length 0 with | some j => _ | none => _) = _
  rw [e]
  show L3.R.ok k (s.put m (.lst r)) = _
  rw [put_pu hr]
theorem ltL_nice : ∀ {ks : List D}, (∀ k ∈ ks, k.frz = k ∧ k.nice 2 = true) → D.ltL 0 ks = true := fun h => ltL_all fun v hv => nice_lt (h v hv).2
def lkB (i : Nat) : List CS := [.expr (.mm .append (.var 3) [.call i [.var 4, .var 1]])]
def bLKeyed (i : Nat) : Fn := ⟨2, 3, [
.asg (.tup [.nm 2, .nm 3]) (.tup [.mm .pop (.var 1) [.con (.int 0)], .cell (.lst [])]), 
.forr (.nm 4) (.seq (.idx (.var 0) (.con (.int 2)))) [
.expr (.mm .append (.var 3) [.call i [.var 4, .var 1]])], 
.ret (.tup [.var 2, .idx (.var 0) (.con (.int 0)), .idx (.var 0) (.con (.int 1)), .bi .tuple [.var 3]])]⟩
theorem split_len {ks : List D} {a b : Nat} (h : ks.length = a + b) : ∃ xs ys, ks = xs ++ ys ∧ xs.length = a ∧ ys.length = b :=
  ⟨ks.take a, ks.drop a, (List.take_append_drop _ _).symm, by simp; omega, by simp; omega⟩
theorem lk_loop {C : Nat → List D → S → L3.R D} {x k : D} {s : S} (hm : m < s.cells.length) : ∀ (ps : List T) (kps rest : List D) (qs0 : List KT) (o4 : Option D), kps.length = (ps.map T.size).sum → (∀ k ∈ kps, k.frz = k ∧ k.nice 2 = true) → D.ltL 0 rest = true → qs0.length + ps.length ≤ 1000 →
    (∀ q ∈ qs0, (kt q).lt 0 = true) →
    (∀ p ∈ ps, ∀ (ks rest : List D), ks.length = p.size → (∀ k ∈ ks, k.frz = k ∧ k.nice 2 = true) → D.ltL 0 rest = true → ∀ s : S, s.cells[m]? = some (.lst (ks ++ rest)) → ∃ q : KT, q.pl = p ∧ q.ks = ks ∧ (kt q).lt 0 = true ∧ callR (C i0) [tr p, .ref m] s = .ok (kt q) (pu s m rest)) →
    ∃ (qs : List KT) (o4' : Option D), qs.map KT.pl = ps ∧ ksL qs = kps ∧ (∀ q ∈ qs, (kt q).lt 0 = true) ∧
      foL (foT C w (.nm 4) (lkB i0)) (ps.map tr) [some x, some (.ref m), some k, some (.ref s.cells.length), o4] (ap (pu s m (kps ++ rest)) (qs0.map kt)) =
        .nx [some x, some (.ref m), some k, some (.ref s.cells.length), o4'] (ap (pu s m rest) ((qs0 ++ qs).map kt))
  | [], kps, rest, qs0, o4, hl, _, _, _, _, _ => by
    have : kps = [] := List.eq_nil_of_length_eq_zero (by simpa using hl)
    subst this
    exact ⟨[], o4, rfl, ksL_nil, by simp, by simp [foL]⟩
  | p :: r, kps, rest, qs0, o4, hl, hk, hr, hz, hq0, hC => by
    rw [List.map_cons, List.sum_cons] at hl
    obtain ⟨k1, k2, rfl, l1, l2⟩ := split_len hl
    have hk1 : ∀ k ∈ k1, k.frz = k ∧ k.nice 2 = true := fun k h => hk k (List.mem_append_left _ h)
    have hk2 : ∀ k ∈ k2, k.frz = k ∧ k.nice 2 = true := fun k h => hk k (List.mem_append_right _ h)
    have hr2 : D.ltL 0 (k2 ++ rest) = true := ltL_app (ltL_nice hk2) hr
    have hm2 : m < (pu s m (k1 ++ (k2 ++ rest))).cells.length := by rw [pu_len]; exact hm
    obtain ⟨q, e1, e2, e3, e4⟩ := hC p (by simp) k1 (k2 ++ rest) l1 hk1 hr2 (ap (pu s m (k1 ++ (k2 ++ rest))) (qs0.map kt)) (by rw [ap_get hm2, pu_at hm])
    rw [ap_pu hm2, pu_pu] at e4
    have hq0l : D.ltL 0 (qs0.map kt) = true := ltL_all fun v hv => by
      obtain ⟨z, hz, rfl⟩ := List.mem_map.mp hv
      exact hq0 z hz
    have happ := ap_app (s := pu s m (k2 ++ rest)) hq0l e3 (by simp; simp at hz; omega)
    rw [pu_len] at happ
    have hcell : ∀ M L, cellOf (.ref s.cells.length) (ap (pu s m M) L) = some s.cells.length := fun M L => by
      have := ap_cell (s := pu s m M) (L := L)
      rwa [pu_len] at this
    obtain ⟨qs, o4', f1, f2, f3, f4⟩ := lk_loop (C := C) (x := x) (k := k) hm r k2 rest (qs0 ++ [q]) (some (tr p)) l2 hk2 hr (by simp; simp at hz; omega) (fun z hz => by
      rcases List.mem_append.mp hz with hz | hz
      · exact hq0 z hz
      · rw [List.mem_singleton.mp hz]; exact e3) fun z hz => hC z (by simp [hz])
    refine ⟨q :: qs, o4', by rw [List.map_cons, e1, f1], by rw [ksL_cons, e2, f2], fun z hz => by
      rcases List.mem_cons.mp hz with rfl | hz
      · exact e3
      · exact f3 z hz, ?_⟩
    rw [List.map_cons, List.append_assoc]
    unfold foL
    have hstep : foT C w (.nm 4) (lkB i0) (tr p) [some x, some (.ref m), some k, some (.ref s.cells.length), o4] (ap (pu s m (k1 ++ (k2 ++ rest))) (qs0.map kt)) = .nx [some x, some (.ref m), some k, some (.ref s.cells.length), some (tr p)] (ap (pu s m (k2 ++ rest)) ((qs0 ++ [q]).map kt)) := by
      have e5 : (qs0 ++ [q]).map kt = qs0.map kt ++ [kt q] := by simp
      rw [e5]
      have hfm : (D.ref m).frz = .ref m := rfl
      simp [foT, lkB, hcell, e4, happ, hfm]
    rw [hstep, L3.F.turn_nx, f4]
    simp
theorem c_lkeyed (hF : F[i0]? = some (bLKeyed i0)) : ∀ (d : Nat) (t : T), t.deep ≤ d → t.size ≤ 900 → t.ok = true → ∀ (ks rest : List D), ks.length = t.size → (∀ k ∈ ks, k.frz = k ∧ k.nice 2 = true) → D.ltL 0 rest = true → ∀ (n m : Nat) (s : S), s.cells[m]? = some (.lst (ks ++ rest)) →
    ∃ q : KT, q.pl = t ∧ q.ks = ks ∧ (kt q).lt 0 = true ∧ callR (calls F w (n + d) i0) [tr t, .ref m] s = .ok (kt q) (pu s m rest)
  | 0, t, h, _, _, _, _, _, _, _, _, _, _, _ => absurd (deep_pos t) (by omega)
  | d + 1, .nd wd g ps, h, hz, ho, ks, rest, hl, hk, hr, n, m, s, hs => by
    obtain ⟨w1, w2, w3, w4, h5⟩ := ok_nd ho
    have hlen := len_of hz
    rw [size_nd] at hl
    cases ks with
    | nil => simp at hl
    | cons k kps =>
      have hl' : kps.length = (ps.map T.size).sum := by simpa using hl
      have hm := get_lt hs
      have hkk := hk k (by simp)
      have hk' : ∀ k ∈ kps, k.frz = k ∧ k.nice 2 = true := fun z hz => hk z (by simp [hz])
      obtain ⟨qs, o4, f1, f2, f3, f4⟩ := lk_loop (w := w) (m := m) (C := calls F w (n + d)) (i0 := i0) (x := tr (.nd wd g ps)) (k := k) (s := s.ent) hm ps kps rest [] none hl' hk' hr (by simp; omega) (by simp)
        fun p hp ks' rest' a1 a2 a3 s' a4 => c_lkeyed hF d p (deep_of h p hp) (size_of hz p hp) (h5 p hp) ks' rest' a1 a2 a3 n m s' a4
      have hkt : kt (.nd k wd g qs) = .tup [k, .str wd, .str g, .tup (qs.map kt)] := kt_nd _ _ _ _
      have hpl : (KT.nd k wd g qs).pl = .nd wd g ps := by rw [pl_nd, f1]
      have hks : (KT.nd k wd g qs).ks = k :: kps := by rw [ks_nd, f2]
      have hlt : (kt (.nd k wd g qs)).lt 0 = true := lt_kt (by rw [hpl]; exact ho) (by unfold KT.kn; rw [hks]; exact hk)
      refine ⟨.nd k wd g qs, hpl, hks, hlt, callR_ap_pu (L := qs.map kt) ?_ hlt⟩
      rw [show n + (d + 1) = (n + d) + 1 from rfl, calls_eq hF, hkt]
      have hs' : s.ent.cells[m]? = some (.lst (k :: (kps ++ rest))) := hs
      have hcell := cell_at hs'
      have hpop := mm_pop0 hs' (ltL_app (ltL_nice hk') hr)
      have hn := newCell_ap [] (pu s.ent m (kps ++ rest))
      rw [pu_len] at hn
      have hrd : ∀ M, (D.ref s.ent.cells.length).rd (ap (pu s.ent m rest) M) = .lv false M := fun M => by
        have := ap_rd (s := pu s.ent m rest) (L := M)
        rwa [pu_len] at this
      unfold lkB at f4
      rw [tr_nd] at f4
      simp only [List.nil_append, List.map_nil] at f4
      rw [tr_nd]
      have hfm : (D.ref m).frz = .ref m := rfl
      have hfn : (D.ref s.ent.cells.length).frz = .ref s.ent.cells.length := rfl
      have hent : s.ent.cells.length = s.cells.length := rfl
      have hql : qs.length ≤ big := by
        have := congrArg List.length f1
        rw [List.length_map] at this
        rw [bigN]; omega
      simp [run, bLKeyed, hcell, hpop, hn, hkk.1, f4, hrd, ck, hfn]
end LG
end

section -- KG
set_option autoImplicit false
set_option linter.all false
set_option maxRecDepth 10000
namespace LG
open L3
variable {w n : Nat} {s : S} {F : Array Fn} {i0 i1 i2 i3 i4 i5 m : Nat} {L M A B : List D}
/-- counts of a site, from one on -/
def cnt (z : List Nat) : Int → Nat → List Kp
  | _, 0 => []
  | c, k + 1 => (c, z) :: cnt z (c + 1) k
theorem cnt_len (z : List Nat) : ∀ (k : Nat) (c : Int), (cnt z c k).length = k
  | 0, _ => rfl
  | k + 1, c => by unfold cnt; rw [List.length_cons, cnt_len z k]
theorem cnt_app (z : List Nat) : ∀ (a b : Nat) (c : Int), cnt z c (a + b) = cnt z c a ++ cnt z (c + a) b
  | 0, b, c => by simp [cnt]
  | a + 1, b, c => by
    rw [show a + 1 + b = (a + b) + 1 by omega]
    unfold cnt
    rw [cnt_app z a b (c + 1), List.cons_append, show c + 1 + (a : Int) = c + ((a + 1 : Nat) : Int) by omega]
    cases b <;> rfl
def bKeyedFrom (i : Nat) : Fn := ⟨4, 3, [
.asg (.nm 4) (.glob (.tup [.int 0, .str []])), 
.ite (.not (.var 3)) [
.asg (.nm 4) (.tup [.idx (.var 2) (.con (.int 0)), .var 1]), 
.augp (.var 2) (.con (.int 0)) .add (.con (.int 1))] [], 
.asg (.nm 5) (.lc (.call i [.var 6, .var 1, .var 2, .con (.bl false)]) (.nm 6) (.seq (.idx (.var 0) (.con (.int 2)))) [] [6]), 
.ret (.tup [.var 4, .idx (.var 0) (.con (.int 0)), .idx (.var 0) (.con (.int 1)), .bi .tuple [.var 5]])]⟩
theorem ltL_int (c : Int) : D.ltL 0 [.int c] = true := rfl
theorem kf_loop {C : Nat → List D → S → L3.R D} {t k o5 o6 : Option D} {b : Option D} {z : List Nat} {s : S} : ∀ (ps : List T) (c : Int) (qs0 : List KT), qs0.length + ps.length ≤ 1000 →
    (∀ p ∈ ps, ∀ (c : Int) (s : S), s.cells[m]? = some (.lst [.int c]) → ∃ q : KT, q.pl = p ∧ q.ks = (cnt z c p.size).map kd ∧ callR (C i0) [tr p, .str z, .ref m, .bl false] s = .ok (kt q) (pu s m [.int (c + p.size)])) →
    s.cells[m]? = some (.lst [.int c]) →
    ∃ (qs : List KT), qs.map KT.pl = ps ∧ ksL qs = (cnt z c (ps.map T.size).sum).map kd ∧
      lcL (lcT C (.call i0 [.var 6, .var 1, .var 2, .con (.bl false)]) (.nm 6) [] [6] [t, some (.str z), some (.ref m), b, k, o5, o6]) (ps.map tr) (qs0.map kt) s = .ok (.lv true ((qs0 ++ qs).map kt)) (pu s m [.int (c + ((ps.map T.size).sum : Nat))])
  | [], c, qs0, _, _, hs => ⟨[], rfl, by rw [ksL_nil]; rfl, by simp [lcL, pu_self hs]⟩
  | p :: r, c, qs0, hz, hC, hs => by
    obtain ⟨q, e1, e2, e3⟩ := hC p (by simp) c s hs
    have hm := get_lt hs
    have hs2 : (pu s m [.int (c + p.size)]).cells[m]? = some (.lst [.int (c + p.size)]) := pu_at hm
    obtain ⟨qs, f1, f2, f3⟩ := kf_loop r (c + p.size) (qs0 ++ [q]) (by simp; simp at hz; omega) (fun p hp => hC p (by simp [hp])) hs2
    refine ⟨q :: qs, by rw [List.map_cons, e1, f1], by rw [ksL_cons, e2, f2, List.map_cons, List.sum_cons, cnt_app, List.map_append], ?_⟩
    have hb : qs0.length < big := by rw [bigN]; simp at hz; omega
    have hfm : (D.ref m).frz = .ref m := rfl
    have hstep : lcT C (.call i0 [.var 6, .var 1, .var 2, .con (.bl false)]) (.nm 6) [] [6] [t, some (.str z), some (.ref m), b, k, o5, o6] (tr p) s = .ok (some (kt q)) (pu s m [.int (c + p.size)]) := by
      simp [lcT, e3, hfm]
    rw [List.map_cons]
    simp only [lcL, hstep, R.bind_ok, List.length_map, if_pos hb]
    have e5 : qs0.map kt ++ [(kt q).frz] = (qs0 ++ [q]).map kt := by simp
    rw [e5, f3, pu_pu, List.map_cons, List.sum_cons]
    have e6 : c + (p.size : Int) + ((r.map T.size).sum : Nat) = c + ((p.size + (r.map T.size).sum : Nat) : Int) := by omega
    rw [e6]
    simp
def rootK : Kp := (0, [])
theorem c_keyedfrom (hF : F[i0]? = some (bKeyedFrom i0)) {z : List Nat} (hz : okS z = true ∧ z.length ≤ 1000) : ∀ (d : Nat) (t : T), t.deep ≤ d → t.size ≤ 900 → t.ok = true → ∀ (c : Int) (n m : Nat) (s : S), s.cells[m]? = some (.lst [.int c]) →
    ∃ q : KT, q.pl = t ∧ q.ks = (cnt z c t.size).map kd ∧ callR (calls F w (n + d) i0) [tr t, .str z, .ref m, .bl false] s = .ok (kt q) (pu s m [.int (c + t.size)])
  | 0, t, h, _, _, _, _, _, _, _ => absurd (deep_pos t) (by omega)
  | d + 1, .nd wd g ps, h, hs, ho, c, n, m, s, hc => by
    obtain ⟨w1, w2, w3, w4, h5⟩ := ok_nd ho
    have hlen := len_of hs
    have hm := get_lt hc
    have hc' : s.ent.cells[m]? = some (.lst [.int c]) := hc
    have hc2 : (pu s.ent m [.int (c + 1)]).cells[m]? = some (.lst [.int (c + 1)]) := pu_at hm
    obtain ⟨qs, f1, f2, f3⟩ := kf_loop (m := m) (C := calls F w (n + d)) (i0 := i0) (t := some (tr (.nd wd g ps))) (k := some (kd (c, z))) (o5 := none) (o6 := none) (b := some (.bl false)) (z := z) (s := pu s.ent m [.int (c + 1)]) ps (c + 1) [] (by simp; omega)
      (fun p hp c s hs' => c_keyedfrom hF hz d p (deep_of h p hp) (size_of hs p hp) (h5 p hp) c n m s hs') hc2
    have hkt : kt (.nd (kd (c, z)) wd g qs) = .tup [kd (c, z), .str wd, .str g, .tup (qs.map kt)] := kt_nd _ _ _ _
    have hpl : (KT.nd (kd (c, z)) wd g qs).pl = .nd wd g ps := by rw [pl_nd, f1]
    have hks : (KT.nd (kd (c, z)) wd g qs).ks = (cnt z c (T.nd wd g ps).size).map kd := by
      rw [ks_nd, f2, size_nd]; rfl
    have hkn : (KT.nd (kd (c, z)) wd g qs).kn := by
      unfold KT.kn
      rw [hks]
      intro k hk
      obtain ⟨x, hx, rfl⟩ := List.mem_map.mp hk
      have : ∀ (k : Nat) (c : Int), x ∈ cnt z c k → x.2 = z := by
        intro k
        induction k with
        | zero => intro c h; cases h
        | succ k ih =>
          intro c h
          unfold cnt at h
          rcases List.mem_cons.mp h with rfl | h
          · rfl
          · exact ih _ h
      have e := this _ _ hx
      refine ⟨rfl, ?_⟩
      simp [kd, D.nice, D.nice.niceL, e, hz]
    have hlt : (kt (.nd (kd (c, z)) wd g qs)).lt 0 = true := lt_kt (by rw [hpl]; exact ho) hkn
    refine ⟨_, hpl, hks, callR_pu ?_ hlt⟩
    rw [show n + (d + 1) = (n + d) + 1 from rfl, calls_eq hF, hkt]
    have hfm : (D.ref m).frz = .ref m := rfl
    have hrd : (D.ref m).rd s.ent = .lv false [.int c] := by
      show (match s.ent.cells[m]? with | some (.lst xs) => D.lv false xs | _ => D.ref m) = _
      rw [hc']
    have hg : getC s.ent (.ref m) (.int 0) = some (.int c) := by
      unfold getC
      simp only [hc']
      rfl
    have hp : putC s.ent (.int (c + 1)) (.ref m) (.int 0) = some (pu s.ent m [.int (c + 1)]) := by
      unfold putC
      simp only [hc']
      show some (s.ent.put m (.lst [.int (c + 1)])) = _
      rw [put_pu (ltL_int _)]
    have hat : atI [D.int c] 0 = some (.int c) := rfl
    rw [pu_pu] at f3
    rw [tr_nd] at f3
    simp only [List.nil_append, List.map_nil] at f3
    rw [tr_nd]
    have e7 : c + 1 + ((ps.map T.size).sum : Nat) = c + (((T.nd wd g ps).size : Nat) : Int) := by rw [size_nd]; omega
    rw [e7] at f3
    unfold kd at f3
    have hk4 : (kd (c, z)) = .tup [.int c, .str z] := rfl
    rw [hk4]
    have hql : qs.length ≤ big := by
      have := congrArg List.length f1
      rw [List.length_map] at this
      rw [bigN]; omega
    have ha : aug2 .add (.int c) (.int 1) = some (.int (c + 1)) := rfl
    simp [run, bKeyedFrom, hrd, hg, hp, hat, ha, ck, f3]
theorem c_keyedroot (hF : F[i0]? = some (bKeyedFrom i0)) {z : List Nat} (hz : okS z = true ∧ z.length ≤ 1000) {d : Nat} {t : T} (h : t.deep ≤ d + 1) (hs : t.size ≤ 900) (ho : t.ok = true) (c : Int) (n m : Nat) (s : S) (hc : s.cells[m]? = some (.lst [.int c])) :
    ∃ q : KT, q.pl = t ∧ q.ks = (rootK :: cnt z c (t.size - 1)).map kd ∧ callR (calls F w (n + d + 1) i0) [tr t, .str z, .ref m, .bl true] s = .ok (kt q) (pu s m [.int (c + ((t.size - 1 : Nat) : Int))]) := by
  cases t with
  | nd wd g ps =>
    obtain ⟨w1, w2, w3, w4, h5⟩ := ok_nd ho
    have hlen := len_of hs
    have hm := get_lt hc
    have hc' : s.ent.cells[m]? = some (.lst [.int c]) := hc
    obtain ⟨qs, f1, f2, f3⟩ := kf_loop (m := m) (C := calls F w (n + d)) (i0 := i0) (t := some (tr (.nd wd g ps))) (k := some (kd rootK)) (o5 := none) (o6 := none) (b := some (.bl true)) (z := z) (s := s.ent) ps c [] (by simp; omega)
      (fun p hp c s hs' => c_keyedfrom hF hz d p (deep_of h p hp) (size_of hs p hp) (h5 p hp) c n m s hs') hc'
    have hkt : kt (.nd (kd rootK) wd g qs) = .tup [kd rootK, .str wd, .str g, .tup (qs.map kt)] := kt_nd _ _ _ _
    have hpl : (KT.nd (kd rootK) wd g qs).pl = .nd wd g ps := by rw [pl_nd, f1]
    have hsz : (T.nd wd g ps).size - 1 = (ps.map T.size).sum := by rw [size_nd]; omega
    have hks : (KT.nd (kd rootK) wd g qs).ks = (rootK :: cnt z c ((T.nd wd g ps).size - 1)).map kd := by
      rw [ks_nd, f2, hsz]; rfl
    have hkn : (KT.nd (kd rootK) wd g qs).kn := by
      unfold KT.kn
      rw [hks]
      intro k hk
      obtain ⟨x, hx, rfl⟩ := List.mem_map.mp hk
      refine ⟨rfl, ?_⟩
      rcases List.mem_cons.mp hx with rfl | hx
      · rfl
      have : ∀ (k : Nat) (c : Int), x ∈ cnt z c k → x.2 = z := by
        intro k
        induction k with
        | zero => intro c h; cases h
        | succ k ih =>
          intro c h
          unfold cnt at h
          rcases List.mem_cons.mp h with rfl | h
          · rfl
          · exact ih _ h
      have e := this _ _ hx
      simp [kd, D.nice, D.nice.niceL, e, hz]
    have hlt : (kt (.nd (kd rootK) wd g qs)).lt 0 = true := lt_kt (by rw [hpl]; exact ho) hkn
    refine ⟨_, hpl, hks, callR_pu ?_ hlt⟩
    rw [show n + d + 1 = (n + d) + 1 from rfl, calls_eq hF, hkt]
    rw [tr_nd] at f3
    simp only [List.nil_append, List.map_nil] at f3
    rw [tr_nd, hsz]
    have hk4 : (kd rootK) = .tup [.int 0, .str []] := rfl
    rw [hk4] at f3 ⊢
    have hql : qs.length ≤ big := by
      have := congrArg List.length f1
      rw [List.length_map] at this
      rw [bigN]; omega
    simp [run, bKeyedFrom, ck, f3]
def bKeyedAnew (i : Nat) : Fn := ⟨3, 0, [
.ret (.call i [.var 0, .var 1, .cell (.lst [.var 2]), .con (.bl true)])]⟩
theorem kt_uniq : ∀ (d : Nat) (a b : KT), a.pl.deep ≤ d → a.pl = b.pl → a.ks = b.ks → a = b
  | 0, a, _, h, _, _ => absurd (deep_pos a.pl) (by omega)
  | d + 1, .nd k w g ps, .nd k' w' g' qs, h, hp, hk => by
    rw [pl_nd, pl_nd, T.nd.injEq] at hp
    obtain ⟨rfl, rfl, hp⟩ := hp
    rw [ks_nd, ks_nd, List.cons.injEq] at hk
    obtain ⟨rfl, hk⟩ := hk
    have key : ∀ (xs ys : List KT), (∀ x ∈ xs, x ∈ ps) → xs.map KT.pl = ys.map KT.pl → ksL xs = ksL ys → xs = ys := by
      intro xs
      induction xs with
      | nil =>
        intro ys _ e _
        cases ys with
        | nil => rfl
        | cons y ys => simp at e
      | cons x xs ih =>
        intro ys hx e e2
        cases ys with
        | nil => simp at e
        | cons y ys =>
          rw [List.map_cons, List.map_cons, List.cons.injEq] at e
          rw [ksL_cons, ksL_cons] at e2
          obtain ⟨a1, a2⟩ := List.append_inj e2 (by rw [ks_size, ks_size, e.1])
          rw [kt_uniq d x y (kdeep_of h x (hx x (by simp))) e.1 a1, ih ys (fun z hz => hx z (by simp [hz])) e.2 a2]
    rw [key ps qs (fun _ h => h) hp hk]
theorem kt_same {a b : KT} (h : a.pl = b.pl) (h2 : a.ks = b.ks) : a = b := kt_uniq _ a b (Nat.le_refl _) h h2
theorem c_keyedanew (hA : F[i1]? = some (bKeyedAnew i0)) (hF : F[i0]? = some (bKeyedFrom i0)) {z : List Nat} (hz : okS z = true ∧ z.length ≤ 1000) {d : Nat} {t : T} (h : t.deep ≤ d + 1) (hs : t.size ≤ 900) (ho : t.ok = true) (c : Int) (n : Nat) {q : KT} (hq : q.pl = t) (hk : q.ks = (rootK :: cnt z c (t.size - 1)).map kd) (hn : q.kn) (s : S) :
    callR (calls F w (n + d + 2) i1) [tr t, .str z, .int c] s = .ok (kt q) s := by
  have hlt : (kt q).lt 0 = true := lt_kt (by rw [hq]; exact ho) hn
  obtain ⟨q', e1, e2, e3⟩ := c_keyedroot (w := w) hF hz h hs ho c n s.ent.cells.length (ap s.ent [.int c]) ap_at
  obtain rfl : q' = q := kt_same (e1.trans hq.symm) (e2.trans hk.symm)
  rw [ap_pu_last] at e3
  refine callR_ap (L := [.int (c + ((t.size - 1 : Nat) : Int))]) ?_ hlt
  rw [show n + d + 2 = (n + d + 1) + 1 from rfl, calls_eq hA]
  have hnc := newCell_ap [.int c] s.ent
  have hfn : (D.ref s.ent.cells.length).frz = .ref s.ent.cells.length := rfl
  simp [run, bKeyedAnew, hnc, e3, ck, hfn]
def bSwapped (i : Nat) : Fn := ⟨3, 2, [
.asg (.nm 3) (.ite (.cmp .eq (.idx (.var 0) (.con (.int 0))) (.var 1)) (.var 2) (.idx (.var 0) (.con (.int 0)))), 
.ret (.tup [.var 3, .idx (.var 0) (.con (.int 1)), .idx (.var 0) (.con (.int 2)), .bi .tuple [.lc (.call i [.var 4, .var 1, .var 2]) (.nm 4) (.seq (.idx (.var 0) (.con (.int 3)))) [] [4]]])]⟩
def sw1 (a b k : D) : D := if k.eqv a then b else k
mutual
def KT.sw (a b : D) : KT → KT
  | .nd k w g ps => .nd (sw1 a b k) w g (swL a b ps)
def swL (a b : D) : List KT → List KT
  | [] => []
  | p :: r => p.sw a b :: swL a b r
end
theorem swL_eq (a b : D) : ∀ ps : List KT, swL a b ps = ps.map (KT.sw a b)
  | [] => by unfold swL; rfl
  | p :: r => by unfold swL; rw [swL_eq a b r]; rfl
theorem sw_nd (a b k : D) (w g : List Nat) (ps : List KT) : (KT.nd k w g ps).sw a b = .nd (sw1 a b k) w g (ps.map (KT.sw a b)) := by unfold KT.sw; rw [swL_eq]
theorem sw_is (a b : D) : ∀ (d : Nat) (t : KT), t.pl.deep ≤ d → (t.sw a b).pl = t.pl ∧ (t.sw a b).ks = t.ks.map (sw1 a b)
  | 0, t, h => absurd (deep_pos t.pl) (by omega)
  | d + 1, .nd k w g ps, h => by
    have ih := fun p (hp : p ∈ ps) => sw_is a b d p (kdeep_of h p hp)
    have key : ∀ qs : List KT, (∀ q ∈ qs, q ∈ ps) → (qs.map (KT.sw a b)).map KT.pl = qs.map KT.pl ∧ ksL (qs.map (KT.sw a b)) = (ksL qs).map (sw1 a b) := by
      intro qs
      induction qs with
      | nil => intro _; exact ⟨rfl, by rw [List.map_nil, ksL_nil]; rfl⟩
      | cons q r ihr =>
        intro hq
        obtain ⟨a1, a2⟩ := ih q (hq q (by simp))
        obtain ⟨b1, b2⟩ := ihr fun z hz => hq z (by simp [hz])
        rw [List.map_cons, List.map_cons, List.map_cons, a1, b1, ksL_cons, ksL_cons, a2, b2, List.map_append]
        exact ⟨rfl, rfl⟩
    obtain ⟨c1, c2⟩ := key ps fun _ h => h
    rw [sw_nd, pl_nd, pl_nd, ks_nd, ks_nd, c1, c2]
    exact ⟨rfl, rfl⟩
theorem sw_pl (a b : D) (t : KT) : (t.sw a b).pl = t.pl := (sw_is a b _ t (Nat.le_refl _)).1
theorem sw_ks (a b : D) (t : KT) : (t.sw a b).ks = t.ks.map (sw1 a b) := (sw_is a b _ t (Nat.le_refl _)).2
theorem sw_kn {a b : D} {t : KT} (h : t.kn) (hb : b.frz = b ∧ b.nice 2 = true) : (t.sw a b).kn := by
  unfold KT.kn
  rw [sw_ks]
  intro k hk
  obtain ⟨x, hx, rfl⟩ := List.mem_map.mp hk
  unfold sw1
  split
  · exact hb
  · exact h x hx
theorem c_swapped (hF : F[i0]? = some (bSwapped i0)) {a b : D} (ha : a.frz = a ∧ a.nice 2 = true) (hb : b.frz = b ∧ b.nice 2 = true) : ∀ (d : Nat) (t : KT), t.pl.deep ≤ d → t.pl.size ≤ 900 → t.pl.ok = true → t.kn → ∀ (n : Nat) (s : S),
    callR (calls F w (n + d) i0) [kt t, a, b] s = .ok (kt (t.sw a b)) s
  | 0, t, h, _, _, _, _, _ => absurd (deep_pos t.pl) (by omega)
  | d + 1, .nd k wd g ps, h, hz, ho, hk, n, s => by
    have ho' := ho
    rw [pl_nd] at ho'
    have h5 := (ok_nd ho').2.2.2.2
    have hsub : ∀ p ∈ ps, p.kn := fun p hp => kn_sub (t := .nd k wd g ps) hk hp
    have ih := fun p (hp : p ∈ ps) (s : S) => c_swapped hF ha hb d p (kdeep_of h p hp) (ksize_of hz p hp) (h5 _ (List.mem_map_of_mem hp)) (hsub p hp) n s
    obtain ⟨hkf, hkn⟩ : k.frz = k ∧ k.nice 2 = true := kn_key hk
    have he := eq_nice hkn ha.2
    have hra := fun s => nice_rd (s := s) ha.2
    have hrk := fun s => nice_rd (s := s) hkn
    have hl := klen_of hz
    refine callR_pure ?_ (lt_kt (by rw [sw_pl]; exact ho) (sw_kn hk hb))
    rw [show n + (d + 1) = (n + d) + 1 from rfl, calls_eq hF, sw_nd, kt_nd, kt_nd]
    have key : ∀ (o3 o4 : Option D), lcL (lcT (calls F w (n + d)) (.call i0 [.var 4, .var 1, .var 2]) (.nm 4) [] [4] [some (.tup [k, .str wd, .str g, .tup (ps.map kt)]), some a, some b, o3, o4]) (ps.map kt) [] s.ent = .ok (.lv true (ps.map fun p => kt (p.sw a b))) s.ent := fun o3 o4 => by
      rw [lcL_map (h := fun p => kt (p.sw a b)) (by rw [bigN]; simp; omega)]
      · simp
      · intro p hp
        simp [lcT, ih p hp, ha.1, hb.1]
    cases hka : k.eqv a with
    | true =>
      rw [hka] at he
      simp [run, bSwapped, he, hra, hrk, key, ck, hb.1, sw1, hka, Function.comp_def]
    | false =>
      rw [hka] at he
      simp [run, bSwapped, he, hra, hrk, key, ck, hkf, sw1, hka, Function.comp_def]
end LG
end

section -- KH
set_option autoImplicit false
set_option linter.all false
set_option maxRecDepth 10000
namespace LG
open L3
variable {w n : Nat} {s : S} {F : Array Fn} {i0 i1 i2 i3 i4 i5 m : Nat} {L M A B : List D}
theorem ref_rd (h : s.cells[m]? = some (.lst L)) : (D.ref m).rd s = .lv false L := by
  show (match s.cells[m]? with | some (.lst xs) => D.lv false xs | _ => D.ref m) = _
  rw [h]
theorem lc_alikeR {C : Nat → List D → S → L3.R D} {xs ys : List D} {u v : D} {s : S} (hl : ys.length = xs.length) (hu : u.rd s = .lv false xs) (hv : v.rd s = .lv false ys) (h : ∀ i, (hi : i < xs.length) → callR (C i0) [(xs[i]).frz, (ys[i]'(by omega)).frz] s = .ok (.bl true) s) (o : Option D) :
    lcL (lcT C (.var 2) (.nm 2) [.not (.call i0 [.idx (.var 0) (.var 2), .idx (.var 1) (.var 2)])] [2] [some u, some v, o]) ((List.range xs.length).map fun (i : Nat) => D.int i) [] s = .ok (.lv true []) s := by
  refine lcL_none fun x hx => ?_
  obtain ⟨i, hi, rfl⟩ := List.mem_map.mp hx
  have hi' := List.mem_range.mp hi
  have e1 : atI xs (i : Int) = some xs[i] := by rw [atI_nat, List.getElem?_eq_getElem hi']
  have e2 : atI ys (i : Int) = some (ys[i]'(by omega)) := by rw [atI_nat, List.getElem?_eq_getElem]
  have e3 := h i hi'
  simp [lcT, hu, hv, e1, e2, e3]
theorem r_alikeL (hF : F[i0]? = some (bAlike i0)) {xs ys : List D} {u v : D} (hz : xs.length ≤ 100000) (hl : ys.length = xs.length) (fu : u.frz = u) (fv : v.frz = v) (hu : u.rd s = .lv false xs) (hv : v.rd s = .lv false ys) (h : ∀ i, (hi : i < xs.length) → callR (calls F w n i0) [(xs[i]).frz, (ys[i]'(by omega)).frz] s = .ok (.bl true) s) :
    calls F w (n + 1) i0 [u, v] s = .ok (.bl true) s := by
  rw [calls_eq hF]
  have hq : cmp2 .eq (.lv true []) (.lv true []) = some true := by decide
  have hn1 : cmp2 .ne (.bl false) (.bl false) = some false := by decide
  have hn2 : cmp2 .ne (.bl true) (.bl true) = some false := by decide
  have hr := rng1D_nat (k := xs.length) (by omega)
  have key := fun o => lc_alikeR (C := calls F w n) (i0 := i0) hl hu hv h o
  have hr' : rng1D (.int (ys.length : Int)) = some (.fix ((List.range xs.length).map fun (j : Nat) => .int j)) := by rw [hl]; exact hr
  simp [run, bAlike, fu, fv, hu, hv, hn1, hn2, hr, hl, key, hq]
/-- a pair, of which the second is a list in the store -/
theorem c_alike2 (hF : F[i0]? = some (bAlike i0)) {k : Nat} {a : D} (ha : al k a = true) (hf : a.frz = a) (hL : al (k + 1) (.lv false L) = true) (h : s.cells[m]? = some (.lst L)) :
    callR (calls F w (n + k + 3) i0) [.lv false [a, .lv false L], .lv false [a, .ref m]] s = .ok (.bl true) s := by
  simp only [al, Bool.and_eq_true, decide_eq_true_eq] at hL
  have h' : s.ent.cells[m]? = some (.lst L) := h
  refine callR_pure ?_ rfl
  refine r_alikeL (xs := [a, .lv false L]) (ys := [a, .ref m]) hF (by simp) rfl rfl rfl rfl rfl fun i hi => ?_
  match i, hi with
  | 0, _ =>
    show callR _ [a.frz, a.frz] _ = _
    rw [hf, show n + k + 2 = (n + 1) + k + 1 by omega]
    exact c_alike hF ha
  | 1, _ =>
    show callR _ [.lv false L, .ref m] _ = _
    refine callR_pure ?_ rfl
    rw [show n + k + 2 = (n + k + 1) + 1 by omega]
    refine r_alikeL (xs := L) (ys := L) hF hL.1 rfl rfl rfl rfl (ref_rd h') fun i hi => ?_
    exact c_alike hF (al_frz (alL_mem hL.2 _ (List.getElem_mem hi)))
theorem al_kd (k : Nat) (x : Kp) : al (k + 1) (kd x) = true := by cases k <;> rfl
theorem al_str (k : Nat) (z : List Nat) : al k (.str z) = true := by cases k <;> rfl
theorem al_kds {k : Nat} (o : Bool) : ∀ {kk : List Kp}, kk.length ≤ 100000 → al (k + 2) (.lv o (kk.map kd)) = true := fun {kk} h => by
  have : al.alL (k + 1) (kk.map kd) = true := alL_all fun x hx => by
    obtain ⟨y, _, rfl⟩ := List.mem_map.mp hx
    exact al_kd k y
  show (decide ((kk.map kd).length ≤ 100000) && al.alL (k + 1) (kk.map kd)) = true
  rw [this, decide_eq_true (by simpa using h)]; rfl
theorem al_kt : ∀ (d : Nat) (t : KT), t.pl.deep ≤ d → t.pl.size ≤ 10000 → (∀ k ∈ t.ks, ∃ x, k = kd x) → al (2 * d) (kt t) = true
  | 0, t, h, _, _ => absurd (deep_pos t.pl) (by omega)
  | d + 1, .nd k wd g ps, h, hz, hk => by
    have hkk : ∃ x, k = kd x := hk k (by rw [ks_nd]; simp)
    obtain ⟨x, rfl⟩ := hkk
    have e : al.alL (2 * d) (ps.map kt) = true := alL_all fun v hv => by
      obtain ⟨p, hp, rfl⟩ := List.mem_map.mp hv
      exact al_kt d p (kdeep_of h p hp) (ksize_of hz p hp) fun k hk' => hk k (by rw [ks_nd]; exact List.mem_cons_of_mem _ (ksL_mem hp k hk'))
    have hl := klen_of hz
    have e2 : al (2 * d + 1) (kd x) = true := al_kd _ x
    rw [kt_nd, show 2 * (d + 1) = 2 * d + 1 + 1 by omega]
    show (decide (([kd x, .str wd, .str g, .tup (ps.map kt)] : List D).length ≤ 100000) && (al (2 * d + 1) (kd x) && (al (2 * d + 1) (.str wd) && (al (2 * d + 1) (.str g) && ((decide ((ps.map kt).length ≤ 100000) && al.alL (2 * d) (ps.map kt)) && true))))) = true
    rw [e, e2, al_str, al_str, decide_eq_true (by simp), decide_eq_true (by simp; omega)]
    rfl
def bTold7 (ia ib iw : Nat) : Fn := ⟨3, 1, [
.tryy [
.ret (.ite (.cmp .eq (.var 0) (.con (.int 0))) (.call ia [.var 1, .var 2]) (.call ib [.var 1, .var 2]))] 0 (some 3) (.word iw)]⟩
theorem told7a (hF : F[i0]? = some (bTold7 i1 i2 i3)) {a b d : D} (ha : a.frz = a) (hb : b.frz = b) (h : ∀ s, callR (calls F w n i1) [a, b] s = .ok d s) (hd : d.lt 0 = true) : callR (calls F w (n + 1) i0) [.int 0, a, b] s = .ok d s := by
  refine callR_pure ?_ hd
  rw [calls_eq hF]
  simp [run, bTold7, ex_tryy, ha, hb, h]
theorem told7b (hF : F[i0]? = some (bTold7 i1 i2 i3)) {a b d : D} (ha : a.frz = a) (hb : b.frz = b) (h : ∀ s, callR (calls F w n i2) [a, b] s = .ok d s) (hd : d.lt 0 = true) : callR (calls F w (n + 1) i0) [.int 1, a, b] s = .ok d s := by
  refine callR_pure ?_ hd
  rw [calls_eq hF]
  simp [run, bTold7, ex_tryy, ha, hb, h]
theorem told7aN (hF : F[i0]? = some (bTold7 i1 i2 i3)) {a b : D} {k : Nat} (ha : a.frz = a) (hb : b.frz = b) (hk : k ≤ 5) (h : ∀ s, callR (calls F w n i1) [a, b] s = .exc k s) : callR (calls F w (n + 1) i0) [.int 0, a, b] s = .ok (.str (wordX k)) s := by
  refine callR_pure ?_ rfl
  rw [calls_eq hF]
  simp [run, bTold7, ex_tryy, ha, hb, h, hk, subX, suite]
theorem told7bN (hF : F[i0]? = some (bTold7 i1 i2 i3)) {a b : D} {k : Nat} (ha : a.frz = a) (hb : b.frz = b) (hk : k ≤ 5) (h : ∀ s, callR (calls F w n i2) [a, b] s = .exc k s) : callR (calls F w (n + 1) i0) [.int 1, a, b] s = .ok (.str (wordX k)) s := by
  refine callR_pure ?_ rfl
  rw [calls_eq hF]
  simp [run, bTold7, ex_tryy, ha, hb, h, hk, subX, suite]
end LG
end

section -- QF07
set_option autoImplicit false
namespace LW
open L3
def fs : Array Fn := #[b0, b1, b2, b3, b4, b5, b6, b7, b8, b9, b10, b11, b12, b13, b14, b15, b16, b17, b18, b19, b20, b21, b22, b23, b24]
end LW
end

section -- R70
set_option autoImplicit false
set_option linter.all false
set_option maxRecDepth 10000
set_option maxHeartbeats 1000000
namespace LW
open L3 LG
abbrev C0 : Nat → List D → S → L3.R D := calls fs 100000 114
theorem F_num : fs[0]? = some bNum := rfl
theorem F_word : fs[1]? = some bWord := rfl
theorem F_signs : fs[2]? = some bSigns := rfl
theorem F_iskey : fs[3]? = some (bIsKey 0 1) := rfl
theorem F_kb : fs[4]? = some (bKeysBehind 4 3 1 2) := rfl
theorem F_iskeyed : fs[5]? = some (bIsKeyed 4) := rfl
theorem F_plain : fs[6]? = some (bPlain 6) := rfl
theorem F_keysof : fs[7]? = some (bKeysOf 7) := rfl
theorem F_pathof : fs[8]? = some (bPathOf 8 7) := rfl
theorem F_keyat : fs[9]? = some bKeyAt := rfl
theorem F_anew : fs[10]? = some (bKeyedAnew 11) := rfl
theorem F_from : fs[11]? = some (bKeyedFrom 11) := rfl
theorem F_draws : fs[12]? = some bDraws := rfl
theorem F_take : fs[13]? = some bTake := rfl
theorem F_alike : fs[14]? = some (bAlike 14) := rfl
theorem F_says : fs[15]? = some bSays := rfl
theorem F_tree : fs[17]? = some (bTree 13 17 18) := rfl
theorem F_size : fs[18]? = some (bSize 18) := rfl
theorem F_paths : fs[19]? = some (bPaths 19) := rfl
theorem F_told : fs[21]? = some (bTold7 8 9 16) := rfl
theorem F_lkeyed : fs[22]? = some (bLKeyed 22) := rfl
theorem F_swapped : fs[23]? = some (bSwapped 23) := rfl
theorem hw2 : 1001 < 100000 := by decide
theorem k_tree (most d : Nat) (ns : List Int) (s : S) (h0 : 0 < most) (hm : most ≤ 1000) (hd : 0 < d) (hd2 : d ≤ 100) : ∃ (t : T) (ms : List Int), callR (calls fs 100000 114 17) [.ref 0, .int (most : Int), .int (d : Int)] (dh ns s) = .ok (tr t) (dh ms s) ∧ Drawn most d t := by
  have := draws_tree (w := 100000) F_tree F_take F_size hw2 d (113 - d) hd most ns s h0 hm
  rw [show 113 - d + d + 1 = 114 by omega] at this
  exact this
/-- what is known of the tree -/
structure Ok (t : T) : Prop where
  good : t.good = true
  ok : t.ok = true
  sz : t.size ≤ 14
  deep : t.deep ≤ 5
structure OkK (q : KT) : Prop where
  t : Ok q.pl
  kn : q.kn
theorem k_paths {t : T} (ht : Ok t) (s : S) : callR (calls fs 100000 114 19) [tr t, .tup []] s = .ok (.lv false (pthD t [])) s :=
  c_paths (n := 109) (pre := []) F_paths ht.deep (by have := ht.sz; omega) (by simp)
theorem k_says (b c : Bool) (s : S) : callR (calls fs 100000 114 15) [.bl b, .bl c] s = .ok (.bl (b == c)) s := c_says (n := 113) F_says b c
theorem k_alike {k : Nat} {d : D} (hk : k ≤ 113) (h : al k d = true) (s : S) : callR (calls fs 100000 114 14) [d, d] s = .ok (.bl true) s := by
  have := c_alike (w := 100000) (n := 113 - k) (s := s) F_alike h
  rwa [show 113 - k + k + 1 = 114 by omega] at this
theorem k_alike2 {m : Nat} {L : List D} {k : Nat} {a : D} {s : S} (hk : k ≤ 111) (ha : al k a = true) (hf : a.frz = a) (hL : al (k + 1) (.lv false L) = true) (h : s.cells[m]? = some (.lst L)) :
    callR (calls fs 100000 114 14) [.lv false [a, .lv false L], .lv false [a, .ref m]] s = .ok (.bl true) s := by
  have := c_alike2 (w := 100000) (n := 111 - k) F_alike ha hf hL h
  rwa [show 111 - k + k + 3 = 114 by omega] at this
theorem k_iskey {v : D} (h : v.nice 2 = true) (s : S) : callR (calls fs 100000 114 3) [v] s = .ok (.bl (isKeyD v)) s := c_iskey (n := 112) F_iskey F_num F_word h (by omega) (by omega)
theorem k_kb {q : KT} (hq : OkK q) (s : S) : callR (calls fs 100000 113 4) [kt q, .int 30] s = .ok (kbR q) s :=
  c_kb F_kb F_num F_word F_signs F_iskey 5 q hq.t.deep (by have := hq.t.sz; omega) hq.t.ok hq.t.good hq.kn 30 106 s (by omega)
theorem k_iskeyedN {q : KT} (hq : OkK q) (h : q.ks.all isKeyD = false) (s : S) : callR (calls fs 100000 114 5) [kt q] s = .ok (.bl false) s :=
  c_iskeyedN (n := 113) F_iskeyed (kt_frz q) fun s => by
    rw [k_kb hq]
    unfold kbR
    rw [h]; rfl
theorem k_iskeyed {q : KT} (hq : OkK q) {x : Kp} {kk : List Kp} (hk : q.ks = (x :: kk).map kd) (h : ∀ y ∈ x :: kk, isKeyD (kd y) = true) (s : S) : callR (calls fs 100000 114 5) [kt q] s = .ok (.bl (decide (x = (0, [])) && decide ((x :: kk).Nodup))) s := by
  have hl : (x :: kk).length ≤ 14 := by
    have := ks_size q
    rw [hk, List.length_map] at this
    have := hq.t.sz
    omega
  have hx : okS x.2 = true := by
    have := (hq.kn (kd x) (by rw [hk]; simp)).2
    simp [kd, D.nice, D.nice.niceL] at this
    exact this.1
  refine c_iskeyedY (n := 113) F_iskeyed (kt_frz q) (fun s => ?_) hx (by simp at hl; omega)
  rw [k_kb hq]
  unfold kbR
  rw [if_pos, hk]
  rw [hk, List.all_eq_true]
  intro v hv
  obtain ⟨y, hy, rfl⟩ := List.mem_map.mp hv
  exact h y hy
theorem k_plain {q : KT} (hq : OkK q) (s : S) : callR (calls fs 100000 114 6) [kt q] s = .ok (tr q.pl) s := c_plain (n := 109) F_plain hq.t.deep (by have := hq.t.sz; omega) hq.t.ok
theorem k_keysof {q : KT} (hq : OkK q) (s : S) : callR (calls fs 100000 114 7) [kt q] s = .ok (.lv true q.ks) s := c_keysof (n := 109) F_keysof hq.t.deep (by have := hq.t.sz; omega) hq.kn
theorem k_pathof {q : KT} (hq : OkK q) {x : D} (hx : x.nice 2 = true) (hf : x.frz = x) (s : S) : callR (calls fs 100000 113 8) [kt q, x] s = poR (q.pth x) s :=
  c_pathof F_pathof F_keysof hx hf 5 q (by omega) hq.t.deep (by have := hq.t.sz; omega) hq.kn 108 s
theorem k_told0 {q : KT} (hq : OkK q) {x : D} {p : List Nat} (hx : x.nice 2 = true) (hf : x.frz = x) (h : q.pth x = some p) (s : S) : callR (calls fs 100000 114 21) [.int 0, kt q, x] s = .ok (pD p) s :=
  told7a (n := 113) F_told (kt_frz q) hf (fun s => by rw [k_pathof hq hx hf, h]; rfl) (pD_lt p)
theorem k_told0N {q : KT} (hq : OkK q) {x : D} (hx : x.nice 2 = true) (hf : x.frz = x) (h : q.pth x = none) (s : S) : callR (calls fs 100000 114 21) [.int 0, kt q, x] s = .ok (.str [110, 111, 110, 101]) s :=
  told7aN (n := 113) (k := 3) F_told (kt_frz q) hf (by omega) (fun s => by rw [k_pathof hq hx hf, h]; rfl)
theorem k_told1 {q u : KT} {p : List Nat} (h : q.at? p = some u) (hu : u.key.lt 0 = true) (s : S) : callR (calls fs 100000 114 21) [.int 1, kt q, pD p] s = .ok u.key s :=
  told7b (n := 113) F_told (kt_frz q) rfl (fun s => c_keyat (n := 112) F_keyat h hu) hu
theorem k_told1N {q : KT} {p : List Nat} (h : q.at? p = none) (s : S) : callR (calls fs 100000 114 21) [.int 1, kt q, pD p] s = .ok (.str [110, 111, 110, 101]) s :=
  told7bN (n := 113) (k := 3) F_told (kt_frz q) rfl (by omega) (fun s => c_keyatN (n := 112) F_keyat h)
theorem k_anew {q : KT} (hq : OkK q) {z : List Nat} (hz : okS z = true ∧ z.length ≤ 1000) {c : Int} (hk : q.ks = (rootK :: cnt z c (q.pl.size - 1)).map kd) (s : S) : callR (calls fs 100000 114 10) [tr q.pl, .str z, .int c] s = .ok (kt q) s :=
  c_keyedanew (d := 4) F_anew F_from hz hq.t.deep (by have := hq.t.sz; omega) hq.t.ok c 108 rfl hk hq.kn s
theorem k_lkeyed {t : T} (ht : Ok t) {ks : List D} (hl : ks.length = t.size) (hk : ∀ k ∈ ks, k.frz = k ∧ k.nice 2 = true) (m : Nat) (s : S) (hs : s.cells[m]? = some (.lst ks)) :
    ∃ q : KT, q.pl = t ∧ q.ks = ks ∧ callR (calls fs 100000 114 22) [tr t, .ref m] s = .ok (kt q) (pu s m []) := by
  obtain ⟨q, e1, e2, _, e4⟩ := c_lkeyed (w := 100000) F_lkeyed 5 t ht.deep (by have := ht.sz; omega) ht.ok ks [] hl hk rfl 109 m s (by rw [List.append_nil]; exact hs)
  exact ⟨q, e1, e2, e4⟩
theorem k_swapped {q : KT} (hq : OkK q) {a b : D} (ha : a.frz = a ∧ a.nice 2 = true) (hb : b.frz = b ∧ b.nice 2 = true) (s : S) : callR (calls fs 100000 114 23) [kt q, a, b] s = .ok (kt (q.sw a b)) s :=
  c_swapped F_swapped ha hb 5 q hq.t.deep (by have := hq.t.sz; omega) hq.t.ok hq.kn 109 s
theorem OkK.sw {q : KT} (hq : OkK q) {a b : D} (hb : b.frz = b ∧ b.nice 2 = true) : OkK (q.sw a b) := ⟨by rw [sw_pl]; exact hq.t, sw_kn hq.kn hb⟩
theorem OkK.ok {q : KT} (hq : OkK q) : q.pl.ok = true := hq.t.ok
end LW
end

section -- R71
set_option autoImplicit false
set_option linter.all false
set_option maxRecDepth 10000
set_option maxHeartbeats 2000000
namespace LW
open L3 LG
variable {t : T} {s : S} {ns : List Int} {e : Env} {z : List Nat} {f : Nat}
theorem getV_set (e : Env) (i j : Nat) (o : Option D) : getV (e.set i o) j = if i = j then (if i < e.length then o else none) else getV e j := by
  unfold getV
  rw [List.getElem?_set]
  by_cases h : i = j
  · subst h
    by_cases h2 : i < e.length
    · simp [h2]; cases o <;> rfl
    · simp [h2]
  · simp [h]
theorem exs_app7 {C : Nat → List D → S → L3.R D} {w : Nat} : ∀ {a b : List CS} {e : Env} {s : S} {e' : Env} {s' : S}, exs C w a e s = .nx e' s' → exs C w (a ++ b) e s = exs C w b e' s'
  | [], b, e, s, e', s', h => by rw [exs_nil] at h; cases h; rfl
  | x :: a, b, e, s, e', s', h => by
    rw [List.cons_append, exs_cons]
    rw [exs_cons] at h
    cases hx : ex C w x e s with
    | nx e1 s1 =>
      rw [hx, L3.F.next_nx] at h
      rw [L3.F.next_nx]
      exact exs_app7 h
    | _ => rw [hx] at h; cases h
abbrev s0 : S := ⟨[], 0, none⟩
/-- the sites -/
def Site (z : List Nat) : Prop := z = [97, 110, 110] ∨ z = [98, 111]
theorem Site.ok (h : Site z) : okS z = true ∧ z.length ≤ 1000 := by rcases h with rfl | rfl <;> exact ⟨by decide, by decide⟩
theorem Site.word (h : Site z) : isWord (.str z) = true := by rcases h with rfl | rfl <;> decide
structure Kn (e : Env) (t : T) (z : List Nat) (f : Nat) : Prop where
  len : e.length = 18
  v1 : getV e 1 = some (.ref 0)
  v2 : getV e 2 = some (tr t)
  v3 : getV e 3 = some (.lv false (pthD t []))
  v4 : getV e 4 = some (.str z)
  v5 : getV e 5 = some (.int f)
theorem Kn.set (h : Kn e t z f) {i : Nat} {o : Option D} (hi : 5 < i) : Kn (e.set i o) t z f :=
  ⟨by rw [List.length_set]; exact h.len, by rw [getV_set, if_neg (by omega)]; exact h.v1, by rw [getV_set, if_neg (by omega)]; exact h.v2, by rw [getV_set, if_neg (by omega)]; exact h.v3, by rw [getV_set, if_neg (by omega)]; exact h.v4, by rw [getV_set, if_neg (by omega)]; exact h.v5⟩
def env0 (dd : D) : Env := some dd :: List.replicate 17 none
theorem st03 {is : List Int} {dd : D} (hd : dd = .scr is ∨ dd = .lv false (is.map .int)) (hz : is.length ≤ 1000) : ∃ (t : T) (z : List Nat) (f : Nat) (ns : List Int) (e : Env), Ok t ∧ Site z ∧ 1 ≤ f ∧ f ≤ 50 ∧ Kn e t z f ∧
    exs C0 100000 [.asg (.nm 1) (.cell (.call 12 [.var 0])), .asg (.nm 2) (.call 17 [.var 1, .bin .add (.con (.int 1)) (.call 13 [.var 1, .con (.int 14)]), .con (.int 5)]), .asg (.nm 3) (.call 19 [.var 2, .tup []]), .asg (.tup [.nm 4, .nm 5]) (.tup [.idx (.lst [.con (.str [97, 110, 110]), .con (.str [98, 111])]) (.call 13 [.var 1, .con (.int 2)]), .bin .add (.con (.int 1)) (.call 13 [.var 1, .con (.int 50)])])] (env0 dd) s0 = .nx e (dh ns s0) := by
  obtain ⟨ns0, c0⟩ := c_draws (w := 100000) (n := 113) (s := s0) F_draws hd hz
  obtain ⟨r, m1, c1, r0, r1⟩ := c_takeH (w := 100000) (s := s0) F_take (ns := ns0) (lim := 14) (by omega)
  obtain ⟨R, rfl⟩ : ∃ R : Nat, r = (R : Int) := ⟨r.toNat, by omega⟩
  obtain ⟨t, m2, c2, D1⟩ := k_tree (1 + R) 5 m1 s0 (by omega) (by omega) (by omega) (by omega)
  obtain ⟨r2, m3, c3, a3, b3⟩ := c_takeH (w := 100000) (s := s0) F_take (ns := m2) (lim := 2) (by omega)
  obtain ⟨r3, m4, c4, a4, b4⟩ := c_takeH (w := 100000) (s := s0) F_take (ns := m3) (lim := 50) (by omega)
  obtain ⟨R3, rfl⟩ : ∃ R : Nat, r3 = (R : Int) := ⟨r3.toNat, by omega⟩
  have c1 := c1 113
  have c3 := c3 113
  have c4 := c4 113
  have ht : Ok t := ⟨D1.good, D1.ok, by have := D1.size; omega, D1.deep⟩
  obtain ⟨z, hz1, hz2⟩ : ∃ z, Site z ∧ atI [D.str [97, 110, 110], .str [98, 111]] r2 = some (.str z) := by
    have h : r2 = 0 ∨ r2 = 1 := by omega
    rcases h with rfl | rfl
    · exact ⟨_, .inl rfl, rfl⟩
    · exact ⟨_, .inr rfl, rfl⟩
  have hfr : dd.frz = dd := by rcases hd with rfl | rfl <;> rfl
  have hn : newCell (.lv true (ns0.map .int)) s0 = .ok (.ref 0) (dh ns0 s0) := rfl
  refine ⟨t, z, 1 + R3, m4, [some dd, some (.ref 0), some (tr t), some (.lv false (pthD t [])), some (.str z), some (.int ((1 + R3 : Nat) : Int)), none, none, none, none, none, none, none, none, none, none, none, none], ht, hz1, by omega, by omega, ⟨rfl, rfl, rfl, rfl, rfl, rfl⟩, ?_⟩
  have he : env0 dd = [some dd, none, none, none, none, none, none, none, none, none, none, none, none, none, none, none, none, none] := rfl
  rw [he]
  have hp := k_paths ht
  have e5 : ((1 + R3 : Nat) : Int) = 1 + (R3 : Int) := by omega
  have c2 : callR (calls fs 100000 114 17) [.ref 0, .int (1 + (R : Int)), .int 5] (dh m1 s0) = .ok (tr t) (dh m2 s0) := by
    have : ((1 + R : Nat) : Int) = 1 + (R : Int) := by omega
    rw [this] at c2
    exact c2
  have f0 : (D.ref 0).frz = .ref 0 := rfl
  rw [e5]
  simp only [exs_cons, exs_nil, ex_asg, ev_cell, ev_call, evs_cons, ev_var, evs_nil]
  simp [hfr, c0, hn, c1, c2, c3, c4, hp, hz2, ck, f0]
abbrev keyL (t : T) (z : List Nat) (f : Nat) : List Kp := rootK :: cnt z f (t.size - 1)
theorem keyL_len (t : T) (z : List Nat) (f : Nat) : (keyL t z f).length = t.size := by
  have := size_pos t
  simp [cnt_len]
  omega
theorem cnt_mem : ∀ (k : Nat) (c : Int) (x : Kp), x ∈ cnt z c k → x.2 = z ∧ c ≤ x.1 ∧ x.1 < c + k
  | 0, _, x, h => by cases h
  | k + 1, c, x, h => by
    unfold cnt at h
    rcases List.mem_cons.mp h with rfl | h
    · exact ⟨rfl, by simp, by simp; omega⟩
    · obtain ⟨h1, h2, h3⟩ := cnt_mem k (c + 1) x h
      exact ⟨h1, by omega, by omega⟩
theorem cnt_nodup : ∀ (k : Nat) (c : Int), (cnt z c k).Nodup
  | 0, _ => List.nodup_nil
  | k + 1, c => by
    unfold cnt
    refine List.nodup_cons.mpr ⟨fun h => ?_, cnt_nodup k (c + 1)⟩
    have := (cnt_mem k (c + 1) _ h).2.1
    simp at this
    omega
/-- a key with a count and a site's word -/
theorem key_ok {x : Kp} (h1 : 1 ≤ x.1) (h2 : x.1 ≤ 1000000) (h : isWord (.str x.2) = true) : isKeyD (kd x) = true := by
  unfold isKeyD kd
  simp [isNum, h1, h2, h]
theorem kd_nice {x : Kp} (h : okS x.2 = true ∧ x.2.length ≤ 1000) : (kd x).frz = kd x ∧ (kd x).nice 2 = true := ⟨rfl, by simp [kd, D.nice, D.nice.niceL, h]⟩
theorem keyL_key (ht : Ok t) (hz : Site z) (h1 : 1 ≤ f) (h2 : f ≤ 50) : ∀ y ∈ keyL t z f, isKeyD (kd y) = true ∧ (kd y).frz = kd y ∧ (kd y).nice 2 = true := by
  intro y hy
  rcases List.mem_cons.mp hy with rfl | hy
  · exact ⟨by decide, kd_nice ⟨by decide, by decide⟩⟩
  · obtain ⟨a, b, c⟩ := cnt_mem _ _ _ hy
    have := ht.sz
    exact ⟨key_ok (by omega) (by omega) (by rw [a]; exact hz.word), kd_nice (by rw [a]; exact hz.ok)⟩
theorem keyL_nodup (h1 : 1 ≤ f) : (keyL t z f).Nodup := by
  refine List.nodup_cons.mpr ⟨fun h => ?_, cnt_nodup _ _⟩
  have := (cnt_mem _ _ _ h).2.1
  simp [rootK] at this
  omega
/-- the tree with these keys -/
theorem told_ex (ht : Ok t) (hz : Site z) (h1 : 1 ≤ f) (h2 : f ≤ 50) : ∃ q : KT, OkK q ∧ q.pl = t ∧ q.ks = (keyL t z f).map kd := by
  obtain ⟨q, e1, e2, _⟩ := k_lkeyed ht (ks := (keyL t z f).map kd) (by rw [List.length_map, keyL_len]) (fun k hk => by
    obtain ⟨y, hy, rfl⟩ := List.mem_map.mp hk
    exact (keyL_key ht hz h1 h2 y hy).2) 0 ⟨[.lst ((keyL t z f).map kd)], 0, none⟩ rfl
  refine ⟨q, ⟨by rw [e1]; exact ht, ?_⟩, e1, e2⟩
  unfold KT.kn
  rw [e2]
  intro k hk
  obtain ⟨y, hy, rfl⟩ := List.mem_map.mp hk
  exact (keyL_key ht hz h1 h2 y hy).2
theorem st4 (hk : Kn e t z f) {q : KT} (hq : OkK q) (e1 : q.pl = t) (e2 : q.ks = (keyL t z f).map kd) (hz : Site z) : ex C0 100000 (.asg (.nm 6) (.call 10 [.var 2, .var 4, .var 5])) e s = .nx (e.set 6 (some (kt q))) s := by
  have h := k_anew hq (z := z) (c := f) hz.ok (by rw [e1]; exact e2) s
  rw [e1] at h
  simp [hk.v2, hk.v4, hk.v5, h]
theorem pth_len7 (t : T) : (pthD t []).length = t.size := by unfold pthD; rw [List.length_map, nodes_size]
theorem cnt_map (z : List Nat) : ∀ (k : Nat) (c : Int), (cnt z c k).map kd = (List.range k).map fun (j : Nat) => kd (c + (j : Int), z)
  | 0, _ => rfl
  | k + 1, c => by
    unfold cnt
    rw [List.map_cons, cnt_map z k (c + 1), List.range_succ_eq_map, List.map_cons, List.map_map]
    simp only [Int.natCast_zero, Int.add_zero, List.cons.injEq, true_and]
    congr 1
    funext j
    simp only [Function.comp_def]
    congr 2
    omega
theorem st5 (hk : Kn e t z f) (ht : Ok t) : ex C0 100000 (.asg (.nm 7) (.bin .add (.lst [.tup [.con (.int 0), .con (.str [])]]) (.lc (.tup [.bin .add (.var 5) (.var 8), .var 4]) (.nm 8) (.rng1 (.bin .sub (.bi .len [.var 3]) (.con (.int 1)))) [] [8]))) e s = .nx (e.set 7 (some (.lv false ((keyL t z f).map kd)))) s := by
  have hl := pth_len7 t
  have hs := size_pos t
  have hsz := ht.sz
  have hr : rng1D (.int (((pthD t []).length : Int) - 1)) = some (.fix ((List.range (t.size - 1)).map fun (j : Nat) => .int j)) := by
    rw [hl, show (t.size : Int) - 1 = ((t.size - 1 : Nat) : Int) by omega]
    exact rng1D_nat (by omega)
  have key : lcL (lcT C0 (.tup [.bin .add (.var 5) (.var 8), .var 4]) (.nm 8) [] [8] e) ((List.range (t.size - 1)).map fun (j : Nat) => D.int j) [] s = .ok (.lv true ((cnt z f (t.size - 1)).map kd)) s := by
    rw [lcL_map (h := fun (j : Nat) => kd ((f : Int) + j, z)) (by rw [bigN]; simp; omega)]
    · rw [cnt_map]; simp
    · intro j hj
      have g5 : getV ((wipe e [8]).set 8 (some (.int j))) 5 = some (.int f) := by simp [wipe, getV_set, hk.v5]
      have g4 : getV ((wipe e [8]).set 8 (some (.int j))) 4 = some (.str z) := by simp [wipe, getV_set, hk.v4]
      have g8 : getV ((wipe e [8]).set 8 (some (.int j))) 8 = some (.int j) := by simp [wipe, getV_set, hk.len]
      unfold lcT
      simp only [asg_nm]
      have hf : (D.int (j : Int)).frz = .int j := rfl
      rw [hf]
      generalize (wipe e [8]).set 8 (some (.int (j : Int))) = e6 at *
      simp [g4, g5, g8, ck, kd]
  have hadd : bin2 .add (.lv true [kd rootK]) (.lv true ((cnt z f (t.size - 1)).map kd)) = some (.lv true ((keyL t z f).map kd)) := by
    show (if _ then _ else _) = _
    rw [if_pos (by rw [bigN]; simp [cnt_len]; omega)]
    rfl
  have hadd : bin2 .add (.lv true [D.tup [.int 0, .str []]]) (.lv true ((cnt z f (t.size - 1)).map kd)) = some (.lv true ((keyL t z f).map kd)) := hadd
  generalize (cnt z f (t.size - 1)).map kd = CK at *
  generalize (keyL t z f).map kd = KL at *
  simp [hk.v3, hr, key, hadd, ck]
theorem st6 (hk : Kn e t z f) {q : KT} (hq : OkK q) (e1 : q.pl = t) (e2 : q.ks = (keyL t z f).map kd) (hz : Site z) (h1 : 1 ≤ f) (h2 : f ≤ 50) (h6 : getV e 6 = some (kt q)) (h7 : getV e 7 = some (.lv false ((keyL t z f).map kd))) :
    ex C0 100000 (.ite (.or (.not (.call 14 [.var 6, .call 22 [.var 2, .cell (.bi .list [.var 7])]])) (.or (.not (.call 15 [.call 5 [.var 6], .con (.bl true)])) (.not (.call 14 [.lst [.call 6 [.var 6], .call 7 [.var 6]], .lst [.var 2, .var 7]])))) [ .ret (.con (.bl false))] []) e (dh ns s0) = .nx e ⟨[.lst (ns.map .int), .lst []], 0, none⟩ := by
  have ht : Ok t := by rw [← e1]; exact hq.t
  have hkk := keyL_key ht hz h1 h2
  obtain ⟨q', a1, a2, a3⟩ := k_lkeyed ht (ks := (keyL t z f).map kd) (by rw [List.length_map, keyL_len]) (fun k hk => by
    obtain ⟨y, hy, rfl⟩ := List.mem_map.mp hk
    exact (hkk y hy).2) 1 ⟨[.lst (ns.map .int), .lst ((keyL t z f).map kd)], 0, none⟩ rfl
  obtain rfl : q' = q := kt_same (a1.trans e1.symm) (a2.trans e2.symm)
  have a3 : callR (calls fs 100000 114 22) [tr t, .ref 1] ⟨[.lst (ns.map .int), .lst ((keyL t z f).map kd)], 0, none⟩ = .ok (kt q') ⟨[.lst (ns.map .int), .lst []], 0, none⟩ := a3
  have hall : ∀ k ∈ q'.ks, ∃ x, k = kd x := fun k hk => by
    rw [e2] at hk
    obtain ⟨x, _, rfl⟩ := List.mem_map.mp hk
    exact ⟨x, rfl⟩
  have g1 := k_alike (k := 2 * 5) (by omega) (al_kt 5 q' hq.t.deep (by have := hq.t.sz; omega) hall)
  have g2 := k_iskeyed hq (x := rootK) (kk := cnt z f (t.size - 1)) e2 (fun y hy => (hkk y hy).1)
  have hnd : (decide (rootK = (0, [])) && decide ((rootK :: cnt z f (t.size - 1)).Nodup)) = true := by
    rw [decide_eq_true (show rootK = (0, []) from rfl), decide_eq_true (keyL_nodup h1)]; rfl
  rw [hnd] at g2
  have g3 := k_plain hq
  have g4 := k_keysof hq
  rw [e1] at g3
  rw [e2] at g4
  have hal : al 11 (.lv false [tr t, .lv false ((keyL t z f).map kd)]) = true := by
    have b1 : al 10 (tr t) = true := al_tr 5 t ht.deep (by have := ht.sz; omega)
    have b2 : al 10 (.lv false ((keyL t z f).map kd)) = true := al_kds (k := 8) false (by rw [keyL_len]; have := ht.sz; omega)
    show (decide (([tr t, .lv false ((keyL t z f).map kd)] : List D).length ≤ 100000) && (al 10 (tr t) && (al 10 (.lv false ((keyL t z f).map kd)) && true))) = true
    rw [b1, b2]; rfl
  have g5 := k_alike (k := 11) (by omega) hal
  have hn : newCell (.lv true ((keyL t z f).map kd)) (dh ns s0) = .ok (.ref 1) ⟨[.lst (ns.map .int), .lst ((keyL t z f).map kd)], 0, none⟩ := rfl
  have hls : bi .list [.lv false ((keyL t z f).map kd)] = some (.lv true ((keyL t z f).map kd)) := rfl
  have f1 : (D.ref 1).frz = .ref 1 := rfl
  generalize (keyL t z f).map kd = KL at *
  simp [hk.v2, h6, h7, hn, hls, a3, f1, g1, g2, g3, g4, g5, k_says, ck]
end LW
end

section -- R72
set_option autoImplicit false
set_option linter.all false
set_option maxRecDepth 10000
set_option maxHeartbeats 2000000
namespace LW
open L3 LG
variable {t : T} {s : S} {ns : List Int} {e : Env} {z : List Nat} {f : Nat}
def Site3 (z : List Nat) : Prop := z = [97, 110, 110] ∨ z = [98, 111] ∨ z = [99, 121]
theorem Site3.ok (h : Site3 z) : okS z = true ∧ z.length ≤ 1000 := by rcases h with rfl | rfl | rfl <;> exact ⟨by decide, by decide⟩
theorem Site3.word (h : Site3 z) : isWord (.str z) = true := by rcases h with rfl | rfl | rfl <;> decide
/-- keys from the a-th on -/
structure Ls (a m : Nat) (ls : List Kp) : Prop where
  len : ls.length = m
  each : ∀ x ∈ ls, 9 * (a : Int) + 1 ≤ x.1 ∧ x.1 ≤ 9 * ((a + m : Nat) : Int) ∧ Site3 x.2
  up : ls.Pairwise (fun x y => x.1 < y.1)
def elt : CE := .tup [.bin .add (.bin .add (.con (.int 1)) (.call 13 [.var 1, .con (.int 3)])) (.bin .mul (.con (.int 9)) (.var 8)), .idx (.lst [.con (.str [97, 110, 110]), .con (.str [98, 111]), .con (.str [99, 121])]) (.call 13 [.var 1, .con (.int 3)])]
theorem elt_turn (hk : Kn e t z f) (j : Nat) (ns : List Int) (s : S) : ∃ (x : Kp) (ms : List Int), 9 * (j : Int) + 1 ≤ x.1 ∧ x.1 ≤ 9 * (j : Int) + 3 ∧ Site3 x.2 ∧ lcT C0 elt (.nm 8) [] [8] e (.int j) (dh ns s) = .ok (some (kd x)) (dh ms s) := by
  obtain ⟨r, m1, c1, r0, r1⟩ := c_takeH (w := 100000) (s := s) F_take (ns := ns) (lim := 3) (by omega)
  obtain ⟨r2, m2, c2, a2, b2⟩ := c_takeH (w := 100000) (s := s) F_take (ns := m1) (lim := 3) (by omega)
  have c1 := c1 113
  have c2 := c2 113
  obtain ⟨z', hz1, hz2⟩ : ∃ z, Site3 z ∧ atI [D.str [97, 110, 110], .str [98, 111], .str [99, 121]] r2 = some (.str z) := by
    have h : r2 = 0 ∨ r2 = 1 ∨ r2 = 2 := by omega
    rcases h with rfl | rfl | rfl
    · exact ⟨_, .inl rfl, rfl⟩
    · exact ⟨_, .inr (.inl rfl), rfl⟩
    · exact ⟨_, .inr (.inr rfl), rfl⟩
  refine ⟨(1 + r + 9 * j, z'), m2, by simp; omega, by simp; omega, hz1, ?_⟩
  have g1 : getV ((wipe e [8]).set 8 (some (.int j))) 1 = some (.ref 0) := by simp [wipe, getV_set, hk.v1]
  have g8 : getV ((wipe e [8]).set 8 (some (.int j))) 8 = some (.int j) := by simp [wipe, getV_set, hk.len]
  have f0 : (D.ref 0).frz = .ref 0 := rfl
  have hm : bin2 .mul (.int 9) (.int j) = some (.int (9 * j)) := by
    show (if (wide 9 || wide j) = true then _ else none) = _
    rw [show wide (9 : Int) = true from rfl]; rfl
  have hf : (D.int (j : Int)).frz = .int j := rfl
  unfold lcT elt
  simp only [asg_nm, hf]
  generalize (wipe e [8]).set 8 (some (.int (j : Int))) = e6 at *
  simp [g1, g8, c1, c2, hz2, f0, hm, ck, kd]
theorem lc_keys (hk : Kn e t z f) (s : S) : ∀ (m a : Nat) (acc : List D) (ns : List Int), acc.length + m ≤ 1000 → ∃ (ls : List Kp) (ms : List Int), Ls a m ls ∧
    lcL (lcT C0 elt (.nm 8) [] [8] e) ((List.range' a m).map fun (j : Nat) => D.int j) acc (dh ns s) = .ok (.lv true (acc ++ ls.map kd)) (dh ms s)
  | 0, a, acc, ns, _ => ⟨[], ns, ⟨rfl, by simp, List.Pairwise.nil⟩, by simp [lcL]⟩
  | m + 1, a, acc, ns, h => by
    obtain ⟨x, m1, h1, h2, h3, h4⟩ := elt_turn hk a ns s
    obtain ⟨ls, ms, L, h5⟩ := lc_keys hk s m (a + 1) (acc ++ [kd x]) m1 (by simp; omega)
    refine ⟨x :: ls, ms, ⟨by simp [L.len], fun y hy => ?_, List.pairwise_cons.mpr ⟨fun y hy => ?_, L.up⟩⟩, ?_⟩
    · rcases List.mem_cons.mp hy with rfl | hy
      · exact ⟨h1, by omega, h3⟩
      · obtain ⟨a1, a2, a3⟩ := L.each y hy
        exact ⟨by omega, by omega, a3⟩
    · have := (L.each y hy).1
      omega
    · rw [List.range'_succ, List.map_cons]
      simp only [lcL, h4, R.bind_ok, if_pos (show acc.length < big by rw [bigN]; omega), kd_frz]
      rw [h5]
      simp
abbrev st2 (ns : List Int) : S := ⟨[.lst (ns.map .int), .lst []], 0, none⟩
abbrev stL (ns : List Int) (ll M : List Kp) : S := ⟨[.lst (ns.map .int), .lst [], .lst (ll.map kd), .lst (M.map kd)], 0, none⟩
abbrev stM (ns : List Int) (M : List Kp) : S := ⟨[.lst (ns.map .int), .lst [], .lst [], .lst (M.map kd), .lst []], 0, none⟩
theorem stL_dh (ns : List Int) (ll M : List Kp) : stL ns ll M = dh ns ⟨[.lst [], .lst (ll.map kd), .lst (M.map kd)], 0, none⟩ := rfl
theorem stM_dh (ns : List Int) (M : List Kp) : stM ns M = dh ns ⟨[.lst [], .lst [], .lst (M.map kd), .lst []], 0, none⟩ := rfl
theorem st7 (hk : Kn e t z f) (ht : Ok t) (ns : List Int) : ∃ (ls : List Kp) (ms : List Int), Ls 0 (t.size - 1) ls ∧ ex C0 100000 (.asg (.tup [.nm 9, .nm 10]) (.tup [.cell (.lc (.tup [.bin .add (.bin .add (.con (.int 1)) (.call 13 [.var 1, .con (.int 3)])) (.bin .mul (.con (.int 9)) (.var 8)), .idx (.lst [.con (.str [97, 110, 110]), .con (.str [98, 111]), .con (.str [99, 121])]) (.call 13 [.var 1, .con (.int 3)])]) (.nm 8) (.rng1 (.bin .sub (.bi .len [.var 3]) (.con (.int 1)))) [] [8]), .cell (.lst [.tup [.con (.int 0), .con (.str [])]])])) e (st2 ns) = .nx ((e.set 9 (some (.ref 2))).set 10 (some (.ref 3))) (stL ms ls [rootK]) := by
  have hsz := ht.sz
  have hs := size_pos t
  obtain ⟨ls, ms, L, h5⟩ := lc_keys hk ⟨[.lst []], 0, none⟩ (t.size - 1) 0 [] ns (by simp; omega)
  refine ⟨ls, ms, L, ?_⟩
  have hl := pth_len7 t
  have hr : rng1D (.int (((pthD t []).length : Int) - 1)) = some (.fix ((List.range' 0 (t.size - 1)).map fun (j : Nat) => .int j)) := by
    rw [hl, show (t.size : Int) - 1 = ((t.size - 1 : Nat) : Int) by omega, ← List.range_eq_range']
    exact rng1D_nat (by omega)
  unfold elt at h5
  have hd : dh ns ⟨[.lst []], 0, none⟩ = st2 ns := rfl
  rw [hd] at h5
  have hn : newCell (.lv true (ls.map kd)) (dh ms ⟨[.lst []], 0, none⟩) = .ok (.ref 2) ⟨[.lst (ms.map .int), .lst [], .lst (ls.map kd)], 0, none⟩ := rfl
  have hn2 : newCell (.lv true [.tup [.int 0, .str []]]) ⟨[.lst (ms.map .int), .lst [], .lst (ls.map kd)], 0, none⟩ = .ok (.ref 3) (stL ms ls [rootK]) := rfl
  have f2 : (D.ref 2).frz = .ref 2 := rfl
  have f3 : (D.ref 3).frz = .ref 3 := rfl
  simp only [List.nil_append] at h5
  generalize ls.map kd = LK at *
  generalize (List.range' 0 (t.size - 1)).map (fun (j : Nat) => D.int j) = RR at *
  simp [hk.v3, hr, h5, hn, hn2, ck, f2, f3]
theorem fit_kds : ∀ {ll : List Kp} {k : Nat}, (∀ x ∈ ll, okS x.2 = true) → D.fit.fitL (k + 1) (ll.map kd) = true
  | [], _, _ => rfl
  | x :: r, k, h => by
    have h1 := h x (by simp)
    have h2 := fit_kds (ll := r) (k := k) fun y hy => h y (by simp [hy])
    show (D.fit (k + 1) (kd x) && D.fit.fitL (k + 1) (r.map kd)) = true
    rw [h2, Bool.and_true]
    show (D.fit k (.int x.1) && (D.fit k (.str x.2) && true)) = true
    cases k <;> simp [D.fit, h1]
theorem ne_nil {ll : List Kp} {o o' : Bool} (h : ∀ x ∈ ll, okS x.2 = true) : cmp2 .ne (.lv o (ll.map kd)) (.lv o' []) = some (!ll.isEmpty) := by
  show (if (D.lv o (ll.map kd)).fit 64 && (D.lv o' []).fit 64 then some (!(D.lv o (ll.map kd)).eqv (.lv o' [])) else none) = _
  have : (D.lv o (ll.map kd)).fit 64 = true := fit_kds (k := 62) h
  rw [this]
  cases ll <;> rfl
theorem erase_map {α β : Type} (g : α → β) (l : List α) (i : Nat) : (l.map g).eraseIdx i = (l.eraseIdx i).map g := by
  rw [List.eraseIdx_eq_take_drop_succ, List.eraseIdx_eq_take_drop_succ, List.map_append, List.map_take, List.map_drop]
theorem get_erase {α : Type} : ∀ (l : List α) (i : Nat) (h : i < l.length), (l[i] :: l.eraseIdx i).Perm l
  | x :: l, 0, _ => .refl _
  | x :: l, i + 1, h => (List.Perm.swap x (l[i]'(by simpa using h)) _).trans ((get_erase l i (by simpa using h)).cons x)
theorem kds_lt (ll : List Kp) : D.ltL 0 (ll.map kd) = true := ltL_all fun v hv => by
  obtain ⟨x, _, rfl⟩ := List.mem_map.mp hv
  rfl
theorem wh_turn (h1 : getV e 1 = some (.ref 0)) (h9 : getV e 9 = some (.ref 2)) (h10 : getV e 10 = some (.ref 3)) (ns : List Int) {ll M : List Kp} (h0 : 0 < ll.length) (hM : M.length < 1000) :
    ∃ (r : Nat) (hr : r < ll.length) (ms : List Int), ex C0 100000 (.expr (.mm .append (.var 10) [.mm .pop (.var 9) [.call 13 [.var 1, .bi .len [.var 9]]]])) e (stL ns ll M) = .nx e (stL ms (ll.eraseIdx r) (M ++ [ll[r]])) := by
  obtain ⟨r, ms, c1, r0, r1⟩ := c_takeH (w := 100000) (s := ⟨[.lst [], .lst (ll.map kd), .lst (M.map kd)], 0, none⟩) F_take (ns := ns) (lim := ll.length) (by omega)
  obtain ⟨R, rfl⟩ : ∃ R : Nat, r = (R : Int) := ⟨r.toNat, by omega⟩
  have hR : R < ll.length := by omega
  have c1 := c1 113
  rw [← stL_dh, ← stL_dh] at c1
  refine ⟨R, hR, ms, ?_⟩
  have k10 : cellOf (.ref 3) (stL ns ll M) = some 3 := rfl
  have k9 : cellOf (.ref 2) (stL ns ll M) = some 2 := rfl
  have hrd : (D.ref 2).rd (stL ns ll M) = .lv false (ll.map kd) := rfl
  have hpop : mmS .pop 2 [.int (R : Int)] (stL ms ll M) = .ok (kd ll[R]) (stL ms (ll.eraseIdx R) M) := by
    have hx : ixN (ll.map kd).length (R : Int) = some R := by
      unfold ixN
      rw [if_pos (by omega), if_pos (by simp; omega)]
      simp
    have hg : (ll.map kd)[R]? = some (kd ll[R]) := by simp [hR]
    show (match ixN (ll.map kd).length (R : Int) with
      | some k => match (ll.map kd)[k]? with
        | some x => L3.R.ok x ((stL ms ll M).put 2 (.lst ((ll.map kd).eraseIdx k)))
        | none => .bad
      | none => .bad) = _
    rw [hx]
    simp only [hg]
    rw [put_pu (by rw [erase_map]; exact kds_lt _), erase_map]
    rfl
  have happ : mmS .append 3 [kd ll[R]] (stL ms (ll.eraseIdx R) M) = .ok .non (stL ms (ll.eraseIdx R) (M ++ [ll[R]])) := by
    show (if (M.map kd).length < big then L3.R.ok D.non ((stL ms (ll.eraseIdx R) M).put 3 (.lst (M.map kd ++ [kd ll[R]]))) else .bad) = _
    have e : M.map kd ++ [kd ll[R]] = (M ++ [ll[R]]).map kd := by simp
    rw [if_pos (by rw [bigN, List.length_map]; omega), e, put_pu (kds_lt _)]
    rfl
  have f0 : (D.ref 0).frz = .ref 0 := rfl
  have f2 : (D.ref 2).frz = .ref 2 := rfl
  generalize hS1 : stL ns ll M = S1 at *
  generalize hS2 : stL ms ll M = S2 at *
  simp [h1, h9, h10, k10, k9, hrd, f0, f2, c1, hpop, happ]
theorem st8 (h1 : getV e 1 = some (.ref 0)) (h9 : getV e 9 = some (.ref 2)) (h10 : getV e 10 = some (.ref 3)) : ∀ (m : Nat) (ll M : List Kp) (ns : List Int) (w : Nat), ll.length = m → m < w → M.length + m ≤ 1000 → (∀ x ∈ ll, okS x.2 = true) →
    ∃ (l2 : List Kp) (ms : List Int), l2.Perm ll ∧ whI (whC C0 (.cmp .ne (.var 9) (.lst []))) (whB C0 100000 [.expr (.mm .append (.var 10) [.mm .pop (.var 9) [.call 13 [.var 1, .bi .len [.var 9]]]])]) w e (stL ns ll M) = .nx e (stL ms [] (M ++ l2))
  | 0, ll, M, ns, w, hl, hw, hM, ho => by
    have : ll = [] := List.eq_nil_of_length_eq_zero hl
    subst this
    obtain ⟨w, rfl⟩ : ∃ w', w = w' + 1 := ⟨w - 1, by omega⟩
    refine ⟨[], ns, .nil, ?_⟩
    have hc : whC C0 (.cmp .ne (.var 9) (.lst [])) e (stL ns [] M) = .ok false (stL ns [] M) := by
      have hrd : (D.ref 2).rd (stL ns [] M) = .lv false (([] : List Kp).map kd) := rfl
      have hne := ne_nil (ll := []) (o := false) (o' := true) (by simp)
      unfold whC
      generalize stL ns [] M = S1 at *
      simp at hne
      simp [h9, hrd, hne, ck]
    unfold whI
    rw [hc]
    simp
  | m + 1, ll, M, ns, w, hl, hw, hM, ho => by
    obtain ⟨w, rfl⟩ : ∃ w', w = w' + 1 := ⟨w - 1, by omega⟩
    obtain ⟨r, hr, ms, h⟩ := wh_turn h1 h9 h10 ns (ll := ll) (M := M) (by omega) (by omega)
    obtain ⟨l2, ms2, p, h2⟩ := st8 h1 h9 h10 m (ll.eraseIdx r) (M ++ [ll[r]]) ms w (by rw [List.length_eraseIdx, if_pos hr]; omega) (by omega) (by simp; omega) fun x hx => ho x (List.mem_of_mem_eraseIdx hx)
    refine ⟨ll[r] :: l2, ms2, (List.Perm.cons _ p).trans (get_erase ll r hr), ?_⟩
    have hc : whC C0 (.cmp .ne (.var 9) (.lst [])) e (stL ns ll M) = .ok true (stL ns ll M) := by
      have hrd : (D.ref 2).rd (stL ns ll M) = .lv false (ll.map kd) := rfl
      have hne := ne_nil (ll := ll) (o := false) (o' := true) ho
      have he : ll.isEmpty = false := by
        cases ll with
        | nil => simp at hl
        | cons _ _ => rfl
      rw [he] at hne
      unfold whC
      generalize stL ns ll M = S1 at *
      generalize ll.map kd = LK at *
      simp [h9, hrd, hne, ck]
    unfold whI
    rw [hc]
    have hb : whB C0 100000 [.expr (.mm .append (.var 10) [.mm .pop (.var 9) [.call 13 [.var 1, .bi .len [.var 9]]]])] e (stL ns ll M) = .nx e (stL ms (ll.eraseIdx r) (M ++ [ll[r]])) := by
      unfold whB
      rw [exs_cons, h]
      rfl
    simp only [L3.F.of_ok, if_true, hb, L3.F.turn_nx]
    rw [h2, List.append_assoc]
    rfl
end LW
end

section -- R73
set_option autoImplicit false
set_option linter.all false
set_option maxRecDepth 10000
set_option maxHeartbeats 2000000
namespace LW
open L3 LG
variable {t : T} {s : S} {ns : List Int} {e : Env} {z : List Nat} {f : Nat} {q : KT} {l2 : List Kp}
structure Mx (t : T) (l2 : List Kp) : Prop where
  len : l2.length = t.size - 1
  each : ∀ x ∈ l2, 1 ≤ x.1 ∧ x.1 ≤ 200 ∧ Site3 x.2
  nd : l2.Nodup
theorem mx_of (ht : Ok t) {ls : List Kp} (h : Ls 0 (t.size - 1) ls) (p : l2.Perm ls) : Mx t l2 := by
  have hsz := ht.sz
  refine ⟨by rw [p.length_eq, h.len], fun x hx => ?_, p.nodup_iff.mpr (h.up.imp fun hab e => by subst e; omega)⟩
  obtain ⟨a, b, c⟩ := h.each x (p.mem_iff.mp hx)
  exact ⟨by omega, by omega, c⟩
theorem Mx.key (h : Mx t l2) : ∀ y ∈ rootK :: l2, isKeyD (kd y) = true ∧ (kd y).frz = kd y ∧ (kd y).nice 2 = true := by
  intro y hy
  rcases List.mem_cons.mp hy with rfl | hy
  · exact ⟨by decide, kd_nice ⟨by decide, by decide⟩⟩
  · obtain ⟨a, b, c⟩ := h.each y hy
    exact ⟨key_ok (by omega) (by omega) c.word, kd_nice c.ok⟩
theorem Mx.nodup (h : Mx t l2) : (rootK :: l2).Nodup := by
  refine List.nodup_cons.mpr ⟨fun hm => ?_, h.nd⟩
  have := (h.each _ hm).1
  simp [rootK] at this
/-- the other keyed tree -/
structure Oth (t : T) (l2 : List Kp) (q : KT) : Prop where
  ok : OkK q
  pl : q.pl = t
  ks : q.ks = (rootK :: l2).map kd
  mx : Mx t l2
theorem Oth.okt (h : Oth t l2 q) : Ok t := by rw [← h.pl]; exact h.ok.t
theorem st9 (hk : Kn e t z f) (ht : Ok t) (hm : Mx t l2) (h10 : getV e 10 = some (.ref 3)) (ns : List Int) : ∃ q : KT, Oth t l2 q ∧ ex C0 100000 (.asg (.nm 11) (.call 22 [.var 2, .cell (.bi .list [.var 10])])) e (stL ns [] (rootK :: l2)) = .nx (e.set 11 (some (kt q))) (stM ns (rootK :: l2)) := by
  have hs := size_pos t
  have hnice : ∀ k ∈ (rootK :: l2).map kd, k.frz = k ∧ k.nice 2 = true := fun k hk => by
    obtain ⟨y, hy, rfl⟩ := List.mem_map.mp hk
    exact (hm.key y hy).2
  obtain ⟨q, a1, a2, a3⟩ := k_lkeyed ht (ks := (rootK :: l2).map kd) (by have := hm.len; simp; omega) hnice 4 ⟨[.lst (ns.map .int), .lst [], .lst [], .lst ((rootK :: l2).map kd), .lst ((rootK :: l2).map kd)], 0, none⟩ rfl
  refine ⟨q, ⟨⟨by rw [a1]; exact ht, by unfold KT.kn; rw [a2]; exact hnice⟩, a1, a2, hm⟩, ?_⟩
  have a3 : callR (calls fs 100000 114 22) [tr t, .ref 4] ⟨[.lst (ns.map .int), .lst [], .lst [], .lst ((rootK :: l2).map kd), .lst ((rootK :: l2).map kd)], 0, none⟩ = .ok (kt q) (stM ns (rootK :: l2)) := a3
  have hrd : (D.ref 3).rd (stL ns [] (rootK :: l2)) = .lv false ((rootK :: l2).map kd) := rfl
  have hn : newCell (.lv true ((rootK :: l2).map kd)) (stL ns [] (rootK :: l2)) = .ok (.ref 4) ⟨[.lst (ns.map .int), .lst [], .lst [], .lst ((rootK :: l2).map kd), .lst ((rootK :: l2).map kd)], 0, none⟩ := rfl
  have hls : bi .list [.lv false ((rootK :: l2).map kd)] = some (.lv true ((rootK :: l2).map kd)) := rfl
  have f3 : (D.ref 3).frz = .ref 3 := rfl
  have f4 : (D.ref 4).frz = .ref 4 := rfl
  generalize (rootK :: l2).map kd = KL at *
  generalize stL ns [] (rootK :: l2) = S1 at *
  simp [hk.v2, h10, hrd, hn, hls, a3, f3, f4, ck]
structure Kq (e : Env) (t : T) (q : KT) : Prop where
  len : e.length = 18
  v1 : getV e 1 = some (.ref 0)
  v2 : getV e 2 = some (tr t)
  v3 : getV e 3 = some (.lv false (pthD t []))
  v10 : getV e 10 = some (.ref 3)
  v11 : getV e 11 = some (kt q)
theorem Kq.set (h : Kq e t q) {i : Nat} {o : Option D} (hi : i = 8 ∨ 11 < i) : Kq (e.set i o) t q :=
  ⟨by rw [List.length_set]; exact h.len, by rw [getV_set, if_neg (by omega)]; exact h.v1, by rw [getV_set, if_neg (by omega)]; exact h.v2, by rw [getV_set, if_neg (by omega)]; exact h.v3, by rw [getV_set, if_neg (by omega)]; exact h.v10, by rw [getV_set, if_neg (by omega)]; exact h.v11⟩
theorem al_lv2 {k : Nat} {a b : D} (ha : al k a = true) (hb : al k b = true) : al (k + 1) (.lv false [a, b]) = true := by
  show (decide (([a, b] : List D).length ≤ 100000) && (al k a && (al k b && true))) = true
  rw [ha, hb]; rfl
theorem st10 (hk : Kq e t q) (ho : Oth t l2 q) (ns : List Int) : ex C0 100000 (.ite (.or (.not (.call 15 [.call 5 [.var 11], .con (.bl true)])) (.not (.call 14 [.lst [.call 6 [.var 11], .call 7 [.var 11]], .lst [.var 2, .var 10]]))) [ .ret (.con (.bl false))] []) e (stM ns (rootK :: l2)) = .nx e (stM ns (rootK :: l2)) := by
  have ht := ho.okt
  have hs := size_pos t
  have g2 := k_iskeyed ho.ok (x := rootK) (kk := l2) ho.ks (fun y hy => (ho.mx.key y hy).1)
  have hnd : (decide (rootK = (0, [])) && decide ((rootK :: l2).Nodup)) = true := by
    rw [decide_eq_true (show rootK = (0, []) from rfl), decide_eq_true ho.mx.nodup]; rfl
  rw [hnd] at g2
  have g3 := k_plain ho.ok
  have g4 := k_keysof ho.ok
  rw [ho.pl] at g3
  rw [ho.ks] at g4
  have b1 : al 10 (tr t) = true := al_tr 5 t ht.deep (by have := ht.sz; omega)
  have b2 : al 11 (.lv false ((rootK :: l2).map kd)) = true := al_kds (k := 9) false (by have := ho.mx.len; have := ht.sz; simp; omega)
  have g5 := k_alike2 (m := 3) (s := stM ns (rootK :: l2)) (by omega) b1 (tr_frz t) b2 rfl
  have f3 : (D.ref 3).frz = .ref 3 := rfl
  generalize stM ns (rootK :: l2) = S1 at *
  generalize (rootK :: l2).map kd = KL at *
  simp [hk.v2, hk.v10, hk.v11, g2, g3, g4, g5, k_says, ck, f3]
theorem pk_get (ho : Oth t l2 q) {k : Nat} (hk : k < t.size) : ∃ (y : List Nat × D) (x : Kp), q.pk[k]? = some y ∧ (pthD t [])[k]? = some (pD y.1) ∧ (rootK :: l2)[k]? = some x ∧ y.2 = kd x := by
  obtain ⟨p1, p2⟩ := pk_keys _ q (Nat.le_refl _)
  have hlen : q.pk.length = t.size := by
    have := congrArg List.length p1
    rw [List.length_map, ks_size, ho.pl] at this
    exact this
  have hy := List.getElem?_eq_getElem (l := q.pk) (i := k) (by omega)
  have e1 := congrArg (fun l => l[k]?) p1
  have e2 := congrArg (fun l => l[k]?) p2
  simp only [List.getElem?_map, hy, ho.ks, ho.pl, Option.map_some] at e1 e2
  cases hx : (rootK :: l2)[k]? with
  | none => rw [hx] at e1; cases e1
  | some x =>
    rw [hx] at e1
    cases hn : (nodesT t)[k]? with
    | none => rw [hn] at e2; cases e2
    | some w =>
      rw [hn] at e2
      refine ⟨q.pk[k], x, hy, ?_, rfl, by simpa using e1⟩
      unfold pthD
      rw [List.getElem?_map, hn]
      simp at e2 ⊢
      rw [e2]
def body11 : List CS := [.ite (.or (.not (.call 15 [.call 3 [.idx (.var 10) (.var 8)], .con (.bl true)])) (.not (.call 14 [.lst [.call 21 [.con (.int 0), .var 11, .idx (.var 10) (.var 8)], .call 21 [.con (.int 1), .var 11, .idx (.var 3) (.var 8)]], .lst [.idx (.var 3) (.var 8), .idx (.var 10) (.var 8)]]))) [ .ret (.con (.bl false))] []]
theorem turn11 (hk : Kq e t q) (ho : Oth t l2 q) (ns : List Int) {k : Nat} (hks : k < t.size) : ∃ e', foT C0 100000 (.nm 8) body11 (.int k) e (stM ns (rootK :: l2)) = .nx e' (stM ns (rootK :: l2)) ∧ Kq e' t q := by
  obtain ⟨y, x, h1, h2, h3, h4⟩ := pk_get ho hks
  have hm := List.mem_of_getElem? h1
  have hxm := List.mem_of_getElem? h3
  obtain ⟨x1, x2, x3⟩ := ho.mx.key x hxm
  have hD : Dis q.ks := by rw [ho.ks]; exact Dis.kds ho.mx.nodup
  have hp := pth_of _ q (Nat.le_refl _) hD y hm
  obtain ⟨u, u1, u2, _⟩ := pk_at _ q (Nat.le_refl _) y hm
  rw [h4] at hp u2
  have c0 := k_iskey x3
  have c1 := k_told0 ho.ok x3 x2 hp
  have c2 := k_told1 u1 (by rw [u2]; exact nice_lt x3)
  rw [u2] at c2
  rw [x1] at c0
  have hlen : y.1.length ≤ 1000 := by
    have e1 := pth_len 5 q ho.ok.t.deep _ _ hp
    omega
  have hal : al 3 (.lv false [pD y.1, kd x]) = true := by
    refine al_lv2 ?_ (al_kd _ _)
    have : al.alL 1 (y.1.map fun (i : Nat) => D.int (i : Int)) = true := alL_all fun v hv => by
      obtain ⟨i, _, rfl⟩ := List.mem_map.mp hv
      rfl
    show (decide ((y.1.map fun (i : Nat) => D.int (i : Int)).length ≤ 100000) && al.alL 1 (y.1.map fun (i : Nat) => D.int (i : Int))) = true
    rw [this, decide_eq_true (by simp; omega)]; rfl
  have c3 := k_alike (k := 3) (by omega) hal
  have hk8 : Kq (e.set 8 (some (.int k))) t q := hk.set (.inl rfl)
  have w8 : getV (e.set 8 (some (.int k))) 8 = some (.int k) := by simp [getV_set, hk.len]
  refine ⟨e.set 8 (some (.int k)), ?_, hk8⟩
  have hf : (D.int (k : Int)).frz = .int k := rfl
  unfold foT body11
  simp only [asg_nm, hf]
  generalize e.set 8 (some (.int (k : Int))) = e8 at *
  have hrd : (D.ref 3).rd (stM ns (rootK :: l2)) = .lv false ((rootK :: l2).map kd) := rfl
  have i1 : atI ((rootK :: l2).map kd) (k : Int) = some (kd x) := by rw [atI_nat, List.getElem?_map, h3]; rfl
  have i2 : atI (pthD t []) (k : Int) = some (pD y.1) := by rw [atI_nat, h2]
  have fp : (pD y.1).frz = pD y.1 := rfl
  generalize stM ns (rootK :: l2) = S1 at *
  generalize (rootK :: l2).map kd = KL at *
  generalize pD y.1 = PY at *
  generalize kd x = KX at *
  simp [hk8.v3, hk8.v10, hk8.v11, w8, hrd, i1, i2, c0, c1, c2, c3, k_says, ck, x2, fp]
theorem st11 (hk : Kq e t q) (ho : Oth t l2 q) (ns : List Int) : ∃ e', ex C0 100000 (.forr (.nm 8) (.rng1 (.bi .len [.var 3])) body11) e (stM ns (rootK :: l2)) = .nx e' (stM ns (rootK :: l2)) ∧ Kq e' t q := by
  have hsz := ho.okt.sz
  obtain ⟨e', h1, h2⟩ := foL_keep (f := foT C0 100000 (.nm 8) body11) (s := stM ns (rootK :: l2)) (P := fun _ e => Kq e t q) (xs := (List.range t.size).map fun (j : Nat) => D.int j) (k := 0) (e := e) hk (fun k x e hx he => by
    obtain ⟨j, hj, rfl⟩ := List.mem_map.mp (List.mem_of_getElem? hx)
    exact turn11 he ho ns (List.mem_range.mp hj))
  have hr : rng1D (.int ((pthD t []).length : Int)) = some (.fix ((List.range t.size).map fun (j : Nat) => .int j)) := by
    rw [pth_len7]
    exact rng1D_nat (by omega)
  refine ⟨e', ?_, h2⟩
  generalize stM ns (rootK :: l2) = S1 at *
  have v3 := hk.v3
  generalize (List.range t.size).map (fun (j : Nat) => D.int j) = RR at *
  simp [v3, hr, h1]
theorem eqv_kd_non (x : Kp) : (kd x).eqv .non = false := rfl
theorem st12 (hk : Kq e t q) (ho : Oth t l2 q) (ns : List Int) : ex C0 100000 (.ite (.or (.cmp .ne (.lc (.call 21 [.con (.int 0), .var 11, .var 12]) (.nm 12) (.seq (.lst [.tup [.con (.int 99999), .con (.str [97, 110, 110])], .tup [.con (.int 1), .con (.str [122, 122])], .con .non])) [] [12]) (.bin .mul (.lst [.con (.str [110, 111, 110, 101])]) (.con (.int 3)))) (.cmp .ne (.call 21 [.con (.int 1), .var 11, .tup [.con (.int 99)]]) (.con (.str [110, 111, 110, 101])))) [ .ret (.con (.bl false))] []) e (stM ns (rootK :: l2)) = .nx e (stM ns (rootK :: l2)) := by
  have no : ∀ v : D, (∀ x ∈ rootK :: l2, (kd x).eqv v = false) → q.pth v = none := fun v h => pth_none q v fun k hk' => by
    rw [ho.ks] at hk'
    obtain ⟨x, hx, rfl⟩ := List.mem_map.mp hk'
    exact h x hx
  have n1 : q.pth (kd (99999, [97, 110, 110])) = none := no _ fun x hx => by
    rw [kd_eqv, decide_eq_false]
    intro e
    rcases List.mem_cons.mp hx with rfl | hx
    · cases e
    · have := (ho.mx.each x hx).2.1
      rw [e] at this
      simp at this
  have n2 : q.pth (kd (1, [122, 122])) = none := no _ fun x hx => by
    rw [kd_eqv, decide_eq_false]
    intro e
    rcases List.mem_cons.mp hx with rfl | hx
    · cases e
    · have := (ho.mx.each x hx).2.2
      rw [e] at this
      rcases this with h | h | h <;> cases h
  have n3 : q.pth .non = none := no _ fun x _ => eqv_kd_non x
  have c1 := k_told0N ho.ok (x := kd (99999, [97, 110, 110])) rfl rfl n1
  have c2 := k_told0N ho.ok (x := kd (1, [122, 122])) rfl rfl n2
  have c3 := k_told0N ho.ok (x := .non) rfl rfl n3
  have n4 : q.at? [99] = none := by
    rw [kat_cons]
    have : q.sub.length ≤ 99 := by
      have := ho.ok.t.sz
      cases q with
      | nd k w g ps =>
        have := klen_of this
        show ps.length ≤ 99
        omega
    rw [List.getElem?_eq_none this]
  have c4 := k_told1N n4
  have c4 : ∀ s, callR (calls fs 100000 114 21) [.int 1, kt q, .tup [.int 99]] s = .ok (.str [110, 111, 110, 101]) s := c4
  have key : lcL (lcT C0 (.call 21 [.con (.int 0), .var 11, .var 12]) (.nm 12) [] [12] e) [.tup [.int 99999, .str [97, 110, 110]], .tup [.int 1, .str [122, 122]], .non] [] (stM ns (rootK :: l2)) = .ok (.lv true [.str [110, 111, 110, 101], .str [110, 111, 110, 101], .str [110, 111, 110, 101]]) (stM ns (rootK :: l2)) := by
    have := lcL_map (f := lcT C0 (.call 21 [.con (.int 0), .var 11, .var 12]) (.nm 12) [] [12] e) (emb := fun x : D => x) (h := fun _ => D.str [110, 111, 110, 101]) (s := stM ns (rootK :: l2)) (xs := [kd (99999, [97, 110, 110]), kd (1, [122, 122]), .non]) (acc := []) (by rw [bigN]; simp) (fun x hx => by
      have g11 : getV ((wipe e [12]).set 12 (some x.frz)) 11 = some (kt q) := by simp [wipe, getV_set, hk.v11]
      have g12 : getV ((wipe e [12]).set 12 (some x.frz)) 12 = some x.frz := by simp [wipe, getV_set, hk.len]
      unfold lcT
      simp only [asg_nm]
      generalize (wipe e [12]).set 12 (some x.frz) = e6 at *
      simp only [List.mem_cons, List.not_mem_nil, or_false] at hx
      rcases hx with rfl | rfl | rfl
      · have g12 : getV e6 12 = some (kd (99999, [97, 110, 110])) := g12
        simp [g11, g12, c1]
      · have g12 : getV e6 12 = some (kd (1, [122, 122])) := g12
        simp [g11, g12, c2]
      · have g12 : getV e6 12 = some .non := g12
        have fz : (D.non).frz = .non := rfl
        simp [g11, g12, c3, fz])
    simpa [kd] using this
  have hmul : bin2 .mul (.lv true [.str [110, 111, 110, 101]]) (.int 3) = some (.lv true [.str [110, 111, 110, 101], .str [110, 111, 110, 101], .str [110, 111, 110, 101]]) := rfl
  have hne : cmp2 .ne (.lv true [.str [110, 111, 110, 101], .str [110, 111, 110, 101], .str [110, 111, 110, 101]]) (.lv true [.str [110, 111, 110, 101], .str [110, 111, 110, 101], .str [110, 111, 110, 101]]) = some false := by decide
  have fz : (D.non).frz = .non := rfl
  generalize stM ns (rootK :: l2) = S1 at *
  simp [hk.v11, key, hmul, hne, c4, ck, fz]
end LW
end

section -- R74
set_option autoImplicit false
set_option linter.all false
set_option maxRecDepth 10000
set_option maxHeartbeats 2000000
namespace LW
open L3 LG
variable {t : T} {s : S} {ns : List Int} {e : Env} {z : List Nat} {f : Nat} {q : KT} {l2 : List Kp}
theorem lcL_filt {α : Type} {f : D → S → L3.R (Option D)} {emb h : α → D} {p : α → Bool} {s : S} : ∀ {xs : List α} {acc : List D}, acc.length + xs.length ≤ big → (∀ x ∈ xs, f (emb x) s = .ok (if p x then some (h x) else none) s) → lcL f (xs.map emb) acc s = .ok (.lv true (acc ++ (xs.filter p).map (fun x => (h x).frz))) s
  | [], acc, _, _ => by simp [lcL]
  | x :: r, acc, hl, hx => by
    have hl' : acc.length + (r.length + 1) ≤ big := hl
    have h1 := hx x List.mem_cons_self
    cases hp : p x with
    | true =>
      rw [hp] at h1
      simp only [List.map_cons, lcL, h1, R.bind_ok, if_true, if_pos (show acc.length < big by omega)]
      rw [lcL_filt (by simp; omega) fun y hy => hx y (List.mem_cons_of_mem _ hy)]
      simp [hp]
    | false =>
      rw [hp] at h1
      simp only [List.map_cons, lcL, h1, R.bind_ok, Bool.false_eq_true, if_false]
      rw [lcL_filt (by omega) fun y hy => hx y (List.mem_cons_of_mem _ hy)]
      simp [hp]
theorem nodup_inj {α β : Type} {g : α → β} : ∀ {L : List α}, (L.map g).Nodup → ∀ a ∈ L, ∀ b ∈ L, g a = g b → a = b
  | [], _, a, ha, _, _, _ => by cases ha
  | x :: r, h, a, ha, b, hb, e => by
    rw [List.map_cons] at h
    obtain ⟨h1, h2⟩ := List.nodup_cons.mp h
    rcases List.mem_cons.mp ha with e1 | ha
    · rcases List.mem_cons.mp hb with e2 | hb
      · rw [e1, e2]
      · exact (h1 (by rw [← e1, e]; exact List.mem_map_of_mem hb)).elim
    · rcases List.mem_cons.mp hb with e2 | hb
      · exact (h1 (by rw [← e2, ← e]; exact List.mem_map_of_mem ha)).elim
      · exact nodup_inj h2 a ha b hb e
/-- no keyed tree behind the swap -/
def NoK (q : KT) (a v : D) : Prop := v.frz = v ∧ v.nice 2 = true ∧ ∀ s, callR (calls fs 100000 114 5) [kt (q.sw a v)] s = .ok (.bl false) s
theorem nok_bad (ho : Oth t l2 q) {x : Kp} (hx : x ∈ rootK :: l2) {v : D} (h1 : v.frz = v) (h2 : v.nice 2 = true) (h : isKeyD v = false) : NoK q (kd x) v := by
  refine ⟨h1, h2, fun s => k_iskeyedN (ho.ok.sw ⟨h1, h2⟩) ?_ s⟩
  rw [sw_ks, List.all_eq_false]
  refine ⟨v, List.mem_map.mpr ⟨kd x, by rw [ho.ks]; exact List.mem_map_of_mem hx, ?_⟩, by rw [h]; simp⟩
  unfold sw1
  rw [kd_eqv, decide_eq_true rfl, if_pos rfl]
def sub1 (x y u : Kp) : Kp := if u = x then y else u
theorem sw1_kd (x y u : Kp) : sw1 (kd x) (kd y) (kd u) = kd (sub1 x y u) := by
  unfold sw1 sub1
  rw [kd_eqv]
  by_cases h : u = x
  · rw [decide_eq_true h, if_pos rfl, if_pos h]
  · rw [decide_eq_false h, if_neg (by simp), if_neg h]
theorem sw_kds (ho : Oth t l2 q) (x y : Kp) : (q.sw (kd x) (kd y)).ks = (((rootK :: l2).map (sub1 x y))).map kd := by
  rw [sw_ks, ho.ks, List.map_map, List.map_map]
  congr 1
  funext u
  exact sw1_kd x y u
theorem nok_dup (ho : Oth t l2 q) {x y : Kp} (hx : x ∈ l2) (hy : y ∈ rootK :: l2) (hne : y ≠ x) : NoK q (kd x) (kd y) := by
  obtain ⟨y1, y2, y3⟩ := ho.mx.key y hy
  have hxm : x ∈ rootK :: l2 := List.mem_cons_of_mem _ hx
  refine ⟨y2, y3, fun s => ?_⟩
  have hroot : sub1 x y rootK = rootK := by
    unfold sub1
    rw [if_neg]
    intro e
    rw [← e] at hx
    exact (List.nodup_cons.mp ho.mx.nodup).1 hx
  have hk := sw_kds ho x y
  rw [List.map_cons, hroot] at hk
  have h := k_iskeyed (ho.ok.sw ⟨y2, y3⟩) (x := rootK) (kk := l2.map (sub1 x y)) hk (fun u hu => by
    rcases List.mem_cons.mp hu with rfl | hu
    · decide
    · obtain ⟨v, hv, rfl⟩ := List.mem_map.mp hu
      unfold sub1
      split
      · exact y1
      · exact (ho.mx.key v (List.mem_cons_of_mem _ hv)).1) s
  rw [h]
  have hn : ¬ (rootK :: l2.map (sub1 x y)).Nodup := by
    intro hN
    have hN : ((rootK :: l2).map (sub1 x y)).Nodup := by rw [List.map_cons, hroot]; exact hN
    have e1 : sub1 x y x = y := by unfold sub1; rw [if_pos rfl]
    have e2 : sub1 x y y = y := by unfold sub1; rw [if_neg hne]
    exact hne (nodup_inj hN y hy x hxm (by rw [e1, e2]))
  rw [decide_eq_false hn, Bool.and_false]
def bad9 : List D := [kd rootK, kd rootK, .tup [.int 0, .str [97, 110, 110]], .tup [.int 1000001, .str [97, 110, 110]], .tup [.int 1, .str []], .non, .lv false [.int 1, .str [97, 110, 110]], .tup [.bl true, .str [97, 110, 110]], .tup [.int 1, .str [97, 110, 110], .int 2]]
def badX (l2 : List Kp) (x : Kp) : List D := bad9 ++ ((l2.filter fun y => decide (y ≠ x)).map kd).take 1
theorem bad_all (ho : Oth t l2 q) {x : Kp} (hx : x ∈ l2) : ∀ v ∈ badX l2 x, NoK q (kd x) v := by
  have hxm : x ∈ rootK :: l2 := List.mem_cons_of_mem _ hx
  have hr : rootK ≠ x := fun e => (List.nodup_cons.mp ho.mx.nodup).1 (by rw [e]; exact hx)
  intro v hv
  rcases List.mem_append.mp hv with hv | hv
  · simp only [bad9, List.mem_cons, List.not_mem_nil, or_false] at hv
    rcases hv with rfl | rfl | rfl | rfl | rfl | rfl | rfl | rfl | rfl
    · exact nok_dup ho hx (by simp) hr
    · exact nok_dup ho hx (by simp) hr
    · exact nok_bad ho hxm rfl rfl (by decide)
    · exact nok_bad ho hxm rfl rfl (by decide)
    · exact nok_bad ho hxm rfl rfl (by decide)
    · exact nok_bad ho hxm rfl rfl rfl
    · exact nok_bad ho hxm rfl rfl rfl
    · exact nok_bad ho hxm rfl rfl rfl
    · exact nok_bad ho hxm rfl rfl rfl
  · obtain ⟨y, hy, rfl⟩ := List.mem_map.mp (List.mem_of_mem_take hv)
    obtain ⟨h1, h2⟩ := List.mem_filter.mp hy
    exact nok_dup ho hx (List.mem_cons_of_mem _ h1) (by simpa using h2)
theorem k_swap (ho : Oth t l2 q) {x : Kp} (hx : x ∈ rootK :: l2) {v : D} (h1 : v.frz = v) (h2 : v.nice 2 = true) (s : S) : callR (calls fs 100000 114 23) [kt q, kd x, v] s = .ok (kt (q.sw (kd x) v)) s :=
  k_swapped ho.ok (ho.mx.key x hx).2 ⟨h1, h2⟩ s
theorem st13a (hk : Kq e t q) (ho : Oth t l2 q) (h2 : 2 ≤ t.size) (ns : List Int) : ∃ (x : Kp) (ms : List Int), x ∈ l2 ∧ ex C0 100000 (.asg (.nm 12) (.idx (.var 10) (.bin .add (.con (.int 1)) (.call 13 [.var 1, .bin .sub (.bi .len [.var 10]) (.con (.int 1))])))) e (stM ns (rootK :: l2)) = .nx (e.set 12 (some (kd x))) (stM ms (rootK :: l2)) := by
  have hl := ho.mx.len
  obtain ⟨r, ms, c1, r0, r1⟩ := c_takeH (w := 100000) (s := ⟨[.lst [], .lst [], .lst ((rootK :: l2).map kd), .lst []], 0, none⟩) F_take (ns := ns) (lim := l2.length) (by omega)
  obtain ⟨R, rfl⟩ : ∃ R : Nat, r = (R : Int) := ⟨r.toNat, by omega⟩
  have hR : R < l2.length := by omega
  have c2 : callR (calls fs 100000 114 13) [.ref 0, .int (l2.length : Int)] (stM ns (rootK :: l2)) = .ok (.int (R : Int)) (stM ms (rootK :: l2)) := c1 113
  refine ⟨l2[R], ms, List.getElem_mem hR, ?_⟩
  have hrd : ∀ ns, (D.ref 3).rd (stM ns (rootK :: l2)) = .lv false ((rootK :: l2).map kd) := fun _ => rfl
  have hlen : (((rootK :: l2).map kd).length : Int) - 1 = (l2.length : Int) := by simp
  have hat : atI ((rootK :: l2).map kd) (1 + (R : Int)) = some (kd l2[R]) := by
    rw [show (1 : Int) + R = ((R + 1 : Nat) : Int) by omega, atI_nat]
    simp [hR]
  have f0 : (D.ref 0).frz = .ref 0 := rfl
  have f3 : (D.ref 3).frz = .ref 3 := rfl
  have r1 := hrd ns
  have r2 := hrd ms
  generalize stM ns (rootK :: l2) = S1 at *
  generalize stM ms (rootK :: l2) = S2 at *
  generalize (rootK :: l2).map kd = KL at *
  simp [hk.v1, hk.v10, r1, r2, hlen, c2, hat, f0, f3]
theorem st13b (hk : Kq e t q) (ho : Oth t l2 q) {x : Kp} (hx : x ∈ l2) (h12 : getV e 12 = some (kd x)) (ns : List Int) : ex C0 100000 (.asg (.nm 13) (.bin .add (.lst [.tup [.con (.int 0), .con (.str [])], .idx (.var 10) (.con (.int 0)), .tup [.con (.int 0), .con (.str [97, 110, 110])], .tup [.con (.int 1000001), .con (.str [97, 110, 110])], .tup [.con (.int 1), .con (.str [])], .con .non, .lst [.con (.int 1), .con (.str [97, 110, 110])], .tup [.con (.bl true), .con (.str [97, 110, 110])], .tup [.con (.int 1), .con (.str [97, 110, 110]), .con (.int 2)]]) (.slc (.lc (.var 14) (.nm 14) (.seq (.slc (.var 10) (some (.con (.int 1))) none)) [.cmp .ne (.var 14) (.var 12)] [14]) none (some (.con (.int 1)))))) e (stM ns (rootK :: l2)) = .nx (e.set 13 (some (.lv false (badX l2 x)))) (stM ns (rootK :: l2)) := by
  have hsz := ho.okt.sz
  have hl := ho.mx.len
  have key : lcL (lcT C0 (.var 14) (.nm 14) [.cmp .ne (.var 14) (.var 12)] [14] e) (l2.map kd) [] (stM ns (rootK :: l2)) = .ok (.lv true ((l2.filter fun y => decide (y ≠ x)).map kd)) (stM ns (rootK :: l2)) := by
    rw [lcL_filt (h := kd) (p := fun y => decide (y ≠ x)) (by rw [bigN]; simp; omega)]
    · simp
    · intro y hy
      have g12 : getV ((wipe e [14]).set 14 (some (kd y))) 12 = some (kd x) := by simp [wipe, getV_set, h12]
      have g14 : getV ((wipe e [14]).set 14 (some (kd y))) 14 = some (kd y) := by simp [wipe, getV_set, hk.len]
      have n1 := (ho.mx.key y (List.mem_cons_of_mem _ hy)).2.2
      have n2 := (ho.mx.key x (List.mem_cons_of_mem _ hx)).2.2
      have hne : cmp2 .ne (kd y) (kd x) = some (decide (y ≠ x)) := by
        have e0 : cmp2 .ne (kd y) (kd x) = (if (kd y).fit 64 && (kd x).fit 64 then some (!(kd y).eqv (kd x)) else none) := rfl
        rw [e0, nice_fit (nice_mono n1 (by omega)), nice_fit (nice_mono n2 (by omega)), kd_eqv]
        by_cases h : y = x <;> simp [h]
      unfold lcT
      simp only [asg_nm, kd_frz]
      generalize (wipe e [14]).set 14 (some (kd y)) = e6 at *
      by_cases h : y = x
      · subst h
        have : cmp2 .ne (kd y) (kd y) = some false := by rw [hne]; simp
        simp [g12, g14, this]
      · have : cmp2 .ne (kd y) (kd x) = some true := by rw [hne]; simp [h]
        simp [g12, g14, this, h]
  have hrd : (D.ref 3).rd (stM ns (rootK :: l2)) = .lv false (kd rootK :: l2.map kd) := rfl
  have hc1 : cut (kd rootK :: l2.map kd) (some 1) none = l2.map kd := cut_from (kd rootK :: l2.map kd) 1
  have hc2 : ∀ xs : List D, cut xs none (some 1) = xs.take 1 := fun xs => cut_to xs 1
  have hat : atI (kd rootK :: l2.map kd) 0 = some (kd rootK) := atI_nat (kd rootK :: l2.map kd) 0
  have hadd : bin2 .add (.lv true bad9) (.lv true (((l2.filter fun y => decide (y ≠ x)).map kd).take 1)) = some (.lv true (badX l2 x)) := by
    show (if _ then _ else _) = _
    rw [if_pos (by rw [bigN]; simp [bad9]; omega)]
    rfl
  have eb : bad9 = [.tup [.int 0, .str []], kd rootK, .tup [.int 0, .str [97, 110, 110]], .tup [.int 1000001, .str [97, 110, 110]], .tup [.int 1, .str []], .non, .lv false [.int 1, .str [97, 110, 110]], .tup [.bl true, .str [97, 110, 110]], .tup [.int 1, .str [97, 110, 110], .int 2]] := rfl
  rw [eb] at hadd
  have fr : (kd rootK).frz = kd rootK := rfl
  generalize (l2.filter fun y => decide (y ≠ x)).map kd = FL at *
  generalize badX l2 x = BX at *
  generalize stM ns (rootK :: l2) = S1 at *
  generalize l2.map kd = LK at *
  generalize kd rootK = KR at *
  have fz : (D.non).frz = .non := rfl
  simp [hk.v10, hrd, hc1, hc2, hat, hadd, key, seqOf, ck, fr, fz]
theorem st13c (hk : Kq e t q) (ho : Oth t l2 q) {x : Kp} (hx : x ∈ l2) (h12 : getV e 12 = some (kd x)) (h13 : getV e 13 = some (.lv false (badX l2 x))) (s : S) : ex C0 100000 (.ite (.cmp .ne (.lc (.var 14) (.nm 14) (.seq (.var 13)) [.not (.call 15 [.call 5 [.call 23 [.var 11, .var 12, .var 14]], .con (.bl false)])] [14]) (.lst [])) [ .ret (.con (.bl false))] []) e s = .nx e s := by
  have key : lcL (lcT C0 (.var 14) (.nm 14) [.not (.call 15 [.call 5 [.call 23 [.var 11, .var 12, .var 14]], .con (.bl false)])] [14] e) (badX l2 x) [] s = .ok (.lv true []) s := by
    refine lcL_none fun v hv => ?_
    obtain ⟨v1, v2, v3⟩ := bad_all ho hx v hv
    have g11 : getV ((wipe e [14]).set 14 (some v)) 11 = some (kt q) := by simp [wipe, getV_set, hk.v11]
    have g12 : getV ((wipe e [14]).set 14 (some v)) 12 = some (kd x) := by simp [wipe, getV_set, h12]
    have g14 : getV ((wipe e [14]).set 14 (some v)) 14 = some v := by simp [wipe, getV_set, hk.len]
    have c1 := k_swap ho (List.mem_cons_of_mem _ hx) v1 v2
    unfold lcT
    simp only [asg_nm, v1]
    generalize (wipe e [14]).set 14 (some v) = e6 at *
    simp [g11, g12, g14, c1, v3, k_says, v1]
  have e7 : cmp2 .ne (.lv true []) (.lv true []) = some false := rfl
  generalize badX l2 x = BX at *
  simp [h13, seqOf, key, e7, ck]
theorem st13 (hk : Kq e t q) (ho : Oth t l2 q) (ns : List Int) : ∃ (e' : Env) (ms : List Int), Kq e' t q ∧ ex C0 100000 (.ite (.cmp .gt (.bi .len [.var 3]) (.con (.int 1))) [ .asg (.nm 12) (.idx (.var 10) (.bin .add (.con (.int 1)) (.call 13 [.var 1, .bin .sub (.bi .len [.var 10]) (.con (.int 1))]))), .asg (.nm 13) (.bin .add (.lst [.tup [.con (.int 0), .con (.str [])], .idx (.var 10) (.con (.int 0)), .tup [.con (.int 0), .con (.str [97, 110, 110])], .tup [.con (.int 1000001), .con (.str [97, 110, 110])], .tup [.con (.int 1), .con (.str [])], .con .non, .lst [.con (.int 1), .con (.str [97, 110, 110])], .tup [.con (.bl true), .con (.str [97, 110, 110])], .tup [.con (.int 1), .con (.str [97, 110, 110]), .con (.int 2)]]) (.slc (.lc (.var 14) (.nm 14) (.seq (.slc (.var 10) (some (.con (.int 1))) none)) [.cmp .ne (.var 14) (.var 12)] [14]) none (some (.con (.int 1))))), .ite (.cmp .ne (.lc (.var 14) (.nm 14) (.seq (.var 13)) [.not (.call 15 [.call 5 [.call 23 [.var 11, .var 12, .var 14]], .con (.bl false)])] [14]) (.lst [])) [ .ret (.con (.bl false))] []] []) e (stM ns (rootK :: l2)) = .nx e' (stM ms (rootK :: l2)) := by
  have hpl := pth_len7 t
  by_cases h2 : 2 ≤ t.size
  · obtain ⟨x, ms, hx, s1⟩ := st13a hk ho h2 ns
    have hk1 : Kq (e.set 12 (some (kd x))) t q := hk.set (.inr (by omega))
    have g12 : getV (e.set 12 (some (kd x))) 12 = some (kd x) := by simp [getV_set, hk.len]
    generalize e.set 12 (some (kd x)) = e1 at *
    have s2 := st13b hk1 ho hx g12 ms
    have hk2 : Kq (e1.set 13 (some (.lv false (badX l2 x)))) t q := hk1.set (.inr (by omega))
    have g12' : getV (e1.set 13 (some (.lv false (badX l2 x)))) 12 = some (kd x) := by rw [getV_set, if_neg (by omega)]; exact g12
    have g13 : getV (e1.set 13 (some (.lv false (badX l2 x)))) 13 = some (.lv false (badX l2 x)) := by simp [getV_set, hk1.len]
    generalize e1.set 13 (some (.lv false (badX l2 x))) = e2 at *
    have s3 := st13c hk2 ho hx g12' g13 (stM ms (rootK :: l2))
    refine ⟨e2, ms, hk2, ?_⟩
    have hgt : cmp2 .gt (.int ((pthD t []).length : Int)) (.int 1) = some true := by
      rw [hpl]
      show some (decide ((1 : Int) < (t.size : Int))) = _
      rw [decide_eq_true (by omega)]
    rw [ex_ite]
    have hc : ev C0 (.cmp .gt (.bi .len [.var 3]) (.con (.int 1))) e (stM ns (rootK :: l2)) = .ok (.bl true) (stM ns (rootK :: l2)) := by
      generalize stM ns (rootK :: l2) = S1 at *
      have v3 := hk.v3
      generalize pthD t [] = PD at *
      simp [v3, hgt, -cmp_gt]
    rw [hc]
    show exs C0 100000 [.asg (.nm 12) (.idx (.var 10) (.bin .add (.con (.int 1)) (.call 13 [.var 1, .bin .sub (.bi .len [.var 10]) (.con (.int 1))]))), .asg (.nm 13) (.bin .add (.lst [.tup [.con (.int 0), .con (.str [])], .idx (.var 10) (.con (.int 0)), .tup [.con (.int 0), .con (.str [97, 110, 110])], .tup [.con (.int 1000001), .con (.str [97, 110, 110])], .tup [.con (.int 1), .con (.str [])], .con .non, .lst [.con (.int 1), .con (.str [97, 110, 110])], .tup [.con (.bl true), .con (.str [97, 110, 110])], .tup [.con (.int 1), .con (.str [97, 110, 110]), .con (.int 2)]]) (.slc (.lc (.var 14) (.nm 14) (.seq (.slc (.var 10) (some (.con (.int 1))) none)) [.cmp .ne (.var 14) (.var 12)] [14]) none (some (.con (.int 1))))), .ite (.cmp .ne (.lc (.var 14) (.nm 14) (.seq (.var 13)) [.not (.call 15 [.call 5 [.call 23 [.var 11, .var 12, .var 14]], .con (.bl false)])] [14]) (.lst [])) [ .ret (.con (.bl false))] []] e (stM ns (rootK :: l2)) = _
    rw [exs_cons, s1, L3.F.next_nx, exs_cons, s2, L3.F.next_nx, exs_cons, s3, L3.F.next_nx, exs_nil]
  · refine ⟨e, ns, hk, ?_⟩
    have hgt : cmp2 .gt (.int ((pthD t []).length : Int)) (.int 1) = some false := by
      rw [hpl]
      show some (decide ((1 : Int) < (t.size : Int))) = _
      rw [decide_eq_false (by omega)]
    rw [ex_ite]
    have hc : ev C0 (.cmp .gt (.bi .len [.var 3]) (.con (.int 1))) e (stM ns (rootK :: l2)) = .ok (.bl false) (stM ns (rootK :: l2)) := by
      generalize stM ns (rootK :: l2) = S1 at *
      have v3 := hk.v3
      generalize pthD t [] = PD at *
      simp [v3, hgt, -cmp_gt]
    rw [hc]
    show exs C0 100000 [] e (stM ns (rootK :: l2)) = _
    rw [exs_nil]
theorem st14 (hk : Kq e t q) (ho : Oth t l2 q) (s : S) : ex C0 100000 (.ite (.not (.call 15 [.call 5 [.call 23 [.var 11, .tup [.con (.int 0), .con (.str [])], .tup [.con (.int 5), .con (.str [122, 122])]]], .con (.bl false)])) [ .ret (.con (.bl false))] []) e s = .nx e s := by
  have hn5 : isKeyD (kd (5, [122, 122])) = true := by decide
  have c1 := k_swap ho (x := rootK) (by simp) (v := kd (5, [122, 122])) rfl rfl
  have hk2 := sw_kds ho rootK (5, [122, 122])
  rw [List.map_cons] at hk2
  have e1 : sub1 rootK (5, [122, 122]) rootK = (5, [122, 122]) := rfl
  rw [e1] at hk2
  have c2 := k_iskeyed (ho.ok.sw ⟨rfl, rfl⟩) hk2 (fun u hu => by
    rcases List.mem_cons.mp hu with rfl | hu
    · exact hn5
    · obtain ⟨v, hv, rfl⟩ := List.mem_map.mp hu
      unfold sub1
      split
      · exact hn5
      · exact (ho.mx.key v (List.mem_cons_of_mem _ hv)).1)
  have e2 : decide (((5, [122, 122]) : Kp) = (0, [])) = false := by decide
  rw [e2, Bool.false_and] at c2
  have c1 : ∀ s, callR (calls fs 100000 114 23) [kt q, .tup [.int 0, .str []], .tup [.int 5, .str [122, 122]]] s = .ok (kt (q.sw (kd rootK) (kd (5, [122, 122])))) s := c1
  have fq := kt_frz (q.sw (kd rootK) (kd (5, [122, 122])))
  generalize kt (q.sw (kd rootK) (kd (5, [122, 122]))) = QS at *
  simp [hk.v11, c1, c2, k_says, ck, fq]
end LW
end

section -- R75
set_option autoImplicit false
set_option linter.all false
set_option maxRecDepth 10000
set_option maxHeartbeats 2000000
namespace LW
open L3 LG
variable {t : T} {s : S} {ns : List Int} {e : Env} {z : List Nat} {f : Nat} {q : KT} {l2 : List Kp}
def NoI (v : D) : Prop := v.frz = v ∧ ∀ s, callR (calls fs 100000 114 5) [v] s = .ok (.bl false) s
theorem noi_of {v : D} (hf : v.frz = v) (h : ∀ s, calls fs 100000 113 4 [v, .int 30] s = .ok .non s) : NoI v :=
  ⟨hf, fun s => c_iskeyedN (n := 113) F_iskeyed hf (fun s => callR_pure (h _) rfl)⟩
theorem d30 : cmp2 .eq (.int 30) (.int 0) = some false := rfl
theorem kb_non (s : S) (n : Nat) (d : Int) : callR (calls fs 100000 (n + 1) 4) [.non, .int d] s = .ok .non s := by
  refine callR_pure ?_ rfl
  rw [calls_eq F_kb]
  simp [run, bKeysBehind]
def oddL (k p : D) (w g : List Nat) : List D := [.non, .tup [], .lv false [k, .str w, .str g, p], .tup [k, .str w, .str g], .tup [k, .str w, .str g, p, .int 1], .tup [k, .str [65], .str g, p], .tup [k, .str w, .str [34], p], .tup [k, .str w, .str g, .non], .tup [k, .str w, .str g, .lv false []], .tup [k, .str w, .str g, .tup [.non]]]
theorem odd_all (ho : Oth t l2 q) : ∀ v ∈ oddL q.key (.tup (q.sub.map kt)) q.w q.g, NoI v := by
  obtain ⟨kf, kn⟩ := kn_key ho.ok.kn
  have hk : isKeyD q.key = true := by
    have := ho.ks
    rw [ks_eq, List.map_cons, List.cons.injEq] at this
    rw [this.1]; decide
  obtain ⟨g1, g2, o1, o2, o3, o4⟩ : isWord (.str q.w) = true ∧ areSigns (.str q.g) = true ∧ okS q.w = true ∧ okS q.g = true ∧ q.w.length ≤ 1000 ∧ q.g.length ≤ 1000 := by
    have a := ho.ok.t.good
    have b := ho.ok.t.ok
    cases q with
    | nd k w g ps =>
      rw [pl_nd] at a b
      obtain ⟨a1, a2, _⟩ := tgood a
      obtain ⟨b1, b2, b3, b4, _⟩ := ok_nd b
      exact ⟨a1, a2, b1, b2, b3, b4⟩
  have c1 : ∀ s, callR (calls fs 100000 112 3) [q.key] s = .ok (.bl true) s := fun s => by
    have := c_iskey (w := 100000) (n := 110) (s := s) F_iskey F_num F_word kn (by omega) (by omega)
    rw [hk] at this
    exact this
  have c2 : ∀ s, callR (calls fs 100000 112 1) [.str q.w] s = .ok (.bl true) s := fun s => by
    have := c_word (w := 100000) (n := 111) (s := s) F_word (v := .str q.w) (k := 1) (by simp [D.nice, o1, o3])
    rw [g1] at this
    exact this
  have c3 : ∀ s, callR (calls fs 100000 112 2) [.str q.g] s = .ok (.bl true) s := fun s => by
    have := c_signs (w := 100000) (n := 111) (s := s) F_signs (v := .str q.g) (k := 1) (by simp [D.nice, o2, o4])
    rw [g2] at this
    exact this
  have c4 : ∀ s, callR (calls fs 100000 112 1) [.str [65]] s = .ok (.bl false) s := fun s => c_word (w := 100000) (n := 111) (s := s) F_word (v := .str [65]) (k := 1) rfl
  have c5 : ∀ s, callR (calls fs 100000 112 2) [.str [34]] s = .ok (.bl false) s := fun s => c_signs (w := 100000) (n := 111) (s := s) F_signs (v := .str [34]) (k := 1) rfl
  have fp : (D.tup (q.sub.map kt)).frz = .tup (q.sub.map kt) := rfl
  generalize D.tup (q.sub.map kt) = P at *
  generalize q.key = K at *
  generalize q.w = W at *
  generalize q.g = G at *
  intro v hv
  simp only [oddL, List.mem_cons, List.not_mem_nil, or_false] at hv
  rcases hv with rfl | rfl | rfl | rfl | rfl | rfl | rfl | rfl | rfl | rfl
  · exact noi_of rfl fun s => by rw [calls_eq F_kb]; simp [run, bKeysBehind]
  · exact noi_of rfl fun s => by rw [calls_eq F_kb]; simp [run, bKeysBehind]
  · exact noi_of rfl fun s => by rw [calls_eq F_kb]; simp [run, bKeysBehind]
  · exact noi_of rfl fun s => by rw [calls_eq F_kb]; simp [run, bKeysBehind]
  · exact noi_of rfl fun s => by rw [calls_eq F_kb]; simp [run, bKeysBehind]
  · exact noi_of rfl fun s => by rw [calls_eq F_kb]; simp [run, bKeysBehind, d30, c1, c4, kf]
  · exact noi_of rfl fun s => by rw [calls_eq F_kb]; simp [run, bKeysBehind, d30, c1, c2, c5, kf]
  · exact noi_of rfl fun s => by rw [calls_eq F_kb]; simp [run, bKeysBehind, d30, c1, c2, c3, kf]
  · exact noi_of rfl fun s => by rw [calls_eq F_kb]; simp [run, bKeysBehind, d30, c1, c2, c3, kf]
  · refine ⟨rfl, fun s => c_iskeyedN (n := 113) F_iskeyed (v := .tup [K, .str W, .str G, .tup [.non]]) rfl (fun s => callR_ap (L := [K]) ?_ rfl)⟩
    have hn := newCell_ap [K] s.ent
    have hkb := fun s => kb_non s 111 29
    have e2 : cmp2 .is .non .non = some true := rfl
    have hent : s.ent.cells.length = s.cells.length := rfl
    have fn : (D.non).frz = .non := rfl
    rw [calls_eq F_kb]
    have hl : foL (foT (calls fs 100000 112) 100000 (.nm 3) (kbB 4 3 1 2)) [.non] [some (.tup [K, .str W, .str G, .tup [.non]]), some (.int 30), some (.ref s.ent.cells.length), none, none] (ap s.ent [K]) = .rt .non (ap s.ent [K]) := by
      simp [foL, foT, kbB, hkb, e2, fn]
    unfold kbB at hl
    simp [run, bKeysBehind, d30, c1, c2, c3, kf, hn, ck, hl]
theorem st15 (hk : Kq e t q) (ho : Oth t l2 q) (s : S) : ex C0 100000 (.asg (.nm 15) (.lst [.con .non, .tup [], .bi .list [.var 11], .slc (.var 11) none (some (.con (.int 3))), .bin .add (.var 11) (.tup [.con (.int 1)]), .bin .add (.tup [.idx (.var 11) (.con (.int 0)), .con (.str [65])]) (.slc (.var 11) (some (.con (.int 2))) none), .bin .add (.bin .add (.slc (.var 11) none (some (.con (.int 2)))) (.tup [.con (.str [34])])) (.slc (.var 11) (some (.con (.int 3))) none), .bin .add (.slc (.var 11) none (some (.con (.int 3)))) (.tup [.con .non]), .bin .add (.slc (.var 11) none (some (.con (.int 3)))) (.tup [.lst []]), .bin .add (.slc (.var 11) none (some (.con (.int 3)))) (.tup [.tup [.con .non]])])) e s = .nx (e.set 15 (some (.lv false (oddL q.key (.tup (q.sub.map kt)) q.w q.g)))) s := by
  have v11 := hk.v11
  rw [kt_eq] at v11
  have kf := (kn_key ho.ok.kn).1
  have fp : (D.tup (q.sub.map kt)).frz = .tup (q.sub.map kt) := rfl
  generalize D.tup (q.sub.map kt) = P at *
  generalize q.key = K at *
  generalize q.w = W at *
  generalize q.g = G at *
  have t2 : cut [K, D.str W, .str G, P] none (some 2) = [K, .str W] := cut_to [K, D.str W, .str G, P] 2
  have t3 : cut [K, D.str W, .str G, P] none (some 3) = [K, .str W, .str G] := cut_to [K, D.str W, .str G, P] 3
  have d2 : cut [K, D.str W, .str G, P] (some 2) none = [.str G, P] := cut_from [K, D.str W, .str G, P] 2
  have d3 : cut [K, D.str W, .str G, P] (some 3) none = [P] := cut_from [K, D.str W, .str G, P] 3
  have ad : ∀ a b : List D, a.length + b.length ≤ 1000 → bin2 .add (.tup a) (.tup b) = some (.tup (a ++ b)) := fun a b h => by
    show (if _ then _ else _) = _
    rw [if_pos (by rw [bigN]; omega)]
  have a1 := ad [K, .str W, .str G, P] [.int 1] (by simp)
  have a2 := ad [K, .str [65]] [.str G, P] (by simp)
  have a3 := ad [K, .str W] [.str [34]] (by simp)
  have a4 := ad [K, .str W, .str [34]] [P] (by simp)
  have a5 := fun x => ad [K, .str W, .str G] [x] (by simp)
  have hls : bi .list [.tup [K, .str W, .str G, P]] = some (.lv true [K, .str W, .str G, P]) := rfl
  have fn : (D.non).frz = .non := rfl
  simp only [List.cons_append, List.nil_append] at a1 a2 a3 a4 a5
  simp [v11, t2, t3, d2, d3, a1, a2, a3, a4, a5, hls, kf, ck, fn, oddL]
theorem st16 (hk : Kq e t q) (ho : Oth t l2 q) (h15 : getV e 15 = some (.lv false (oddL q.key (.tup (q.sub.map kt)) q.w q.g))) (s : S) : ex C0 100000 (.ite (.cmp .ne (.lc (.var 16) (.nm 16) (.seq (.var 15)) [.not (.call 15 [.call 5 [.var 16], .con (.bl false)])] [16]) (.lst [])) [ .ret (.con (.bl false))] []) e s = .nx e s := by
  have hall := odd_all ho
  generalize oddL q.key (.tup (q.sub.map kt)) q.w q.g = OL at *
  have key : lcL (lcT C0 (.var 16) (.nm 16) [.not (.call 15 [.call 5 [.var 16], .con (.bl false)])] [16] e) OL [] s = .ok (.lv true []) s := by
    refine lcL_none fun v hv => ?_
    obtain ⟨v1, v2⟩ := hall v hv
    have g16 : getV ((wipe e [16]).set 16 (some v)) 16 = some v := by simp [wipe, getV_set, hk.len]
    unfold lcT
    simp only [asg_nm, v1]
    generalize (wipe e [16]).set 16 (some v) = e6 at *
    simp [g16, v2, k_says, v1]
  have e7 : cmp2 .ne (.lv true []) (.lv true []) = some false := rfl
  simp [h15, seqOf, key, e7, ck]
def goodL3 : List D := [.tup [.int 0, .str []], .tup [.int 1, .str [97]], .tup [.int 1000000, .str [97, 98, 99, 100, 101, 102]]]
def badL3 : List D := [.non, .tup [.int 0, .str [97]], .tup [.int 1, .str []], .tup [.int (-1), .str [97]], .tup [.int 1000001, .str [97]], .tup [.int 1, .str [65]], .tup [.bl true, .str [97]], .tup [.bl false, .str []], .lv false [.int 0, .str []], .tup [.int 1], .int 5]
theorem good3 : ∀ v ∈ goodL3, v.frz = v ∧ v.nice 2 = true ∧ isKeyD v = true := by
  intro v hv
  simp only [goodL3, List.mem_cons, List.not_mem_nil, or_false] at hv
  rcases hv with rfl | rfl | rfl <;> exact ⟨rfl, by decide, by decide⟩
theorem bad3 : ∀ v ∈ badL3, v.frz = v ∧ v.nice 2 = true ∧ isKeyD v = false := by
  intro v hv
  simp only [badL3, List.mem_cons, List.not_mem_nil, or_false] at hv
  rcases hv with rfl | rfl | rfl | rfl | rfl | rfl | rfl | rfl | rfl | rfl | rfl <;> exact ⟨rfl, by decide, by decide⟩
theorem st17 (hk : Kq e t q) (s : S) : ex C0 100000 (.asg (.nm 17) (.lc (.var 14) (.nm 14) (.seq (.lst [.tup [.con (.int 0), .con (.str [])], .tup [.con (.int 1), .con (.str [97])], .tup [.con (.int 1000000), .con (.str [97, 98, 99, 100, 101, 102])]])) [.cmp .is (.call 3 [.var 14]) (.con (.bl true))] [14])) e s = .nx (e.set 17 (some (.lv false goodL3))) s := by
  have key : lcL (lcT C0 (.var 14) (.nm 14) [.cmp .is (.call 3 [.var 14]) (.con (.bl true))] [14] e) goodL3 [] s = .ok (.lv true goodL3) s := by
    have h := lcL_map (f := lcT C0 (.var 14) (.nm 14) [.cmp .is (.call 3 [.var 14]) (.con (.bl true))] [14] e) (emb := fun x : D => x) (h := fun x => x) (s := s) (xs := goodL3) (acc := []) (by rw [bigN]; simp [goodL3]) (fun v hv => by
      obtain ⟨v1, v2, v3⟩ := good3 v hv
      have g14 : getV ((wipe e [14]).set 14 (some v)) 14 = some v := by simp [wipe, getV_set, hk.len]
      have c := k_iskey v2
      rw [v3] at c
      have e1 : cmp2 .is (.bl true) (.bl true) = some true := rfl
      unfold lcT
      simp only [asg_nm, v1]
      generalize (wipe e [14]).set 14 (some v) = e6 at *
      simp [g14, c, e1, v1])
    simpa [goodL3] using h
  unfold goodL3 at *
  simp [key, ck, seqOf]
theorem st18 (hk : Kq e t q) (h17 : getV e 17 = some (.lv false goodL3)) (s : S) : ex C0 100000 (.ret (.and (.cmp .eq (.bi .len [.var 17]) (.con (.int 3))) (.cmp .eq (.lc (.var 14) (.nm 14) (.seq (.lst [.con .non, .tup [.con (.int 0), .con (.str [97])], .tup [.con (.int 1), .con (.str [])], .tup [.neg (.con (.int 1)), .con (.str [97])], .tup [.con (.int 1000001), .con (.str [97])], .tup [.con (.int 1), .con (.str [65])], .tup [.con (.bl true), .con (.str [97])], .tup [.con (.bl false), .con (.str [])], .lst [.con (.int 0), .con (.str [])], .tup [.con (.int 1)], .con (.int 5)])) [.cmp .isnot (.call 3 [.var 14]) (.con (.bl false))] [14]) (.lst [])))) e s = .rt (.bl true) s := by
  have key : lcL (lcT C0 (.var 14) (.nm 14) [.cmp .isnot (.call 3 [.var 14]) (.con (.bl false))] [14] e) badL3 [] s = .ok (.lv true []) s := by
    refine lcL_none fun v hv => ?_
    obtain ⟨v1, v2, v3⟩ := bad3 v hv
    have g14 : getV ((wipe e [14]).set 14 (some v)) 14 = some v := by simp [wipe, getV_set, hk.len]
    have c := k_iskey v2
    rw [v3] at c
    have e1 : cmp2 .isnot (.bl false) (.bl false) = some false := rfl
    unfold lcT
    simp only [asg_nm, v1]
    generalize (wipe e [14]).set 14 (some v) = e6 at *
    simp [g14, c, e1, v1]
  have e7 : cmp2 .eq (.lv true []) (.lv true []) = some true := rfl
  have fn : (D.non).frz = .non := rfl
  unfold badL3 at key
  unfold goodL3 at h17
  simp [h17, key, ck, seqOf, e7, fn]
theorem r_law {is : List Int} {dd : D} (hd : dd = .scr is ∨ dd = .lv false (is.map .int)) (hz : is.length ≤ 1000) : ∃ s', calls fs 100000 115 24 [dd] ⟨[], 0, none⟩ = .ok (.bl true) s' := by
  obtain ⟨t, z, f, n0, e0, ht, hz1, f1, f2, k0, h03⟩ := st03 hd hz
  obtain ⟨q1, o1, p1, ks1⟩ := told_ex ht hz1 f1 f2
  have h4 := st4 (s := dh n0 s0) k0 o1 p1 ks1 hz1
  have k1 : Kn (e0.set 6 (some (kt q1))) t z f := k0.set (by omega)
  have g6 : getV (e0.set 6 (some (kt q1))) 6 = some (kt q1) := by simp [getV_set, k0.len]
  generalize e0.set 6 (some (kt q1)) = e1 at *
  have h5 := st5 (s := dh n0 s0) k1 ht
  have k2 : Kn (e1.set 7 (some (.lv false ((keyL t z f).map kd)))) t z f := k1.set (by omega)
  have g62 : getV (e1.set 7 (some (.lv false ((keyL t z f).map kd)))) 6 = some (kt q1) := by rw [getV_set, if_neg (by omega)]; exact g6
  have g72 : getV (e1.set 7 (some (.lv false ((keyL t z f).map kd)))) 7 = some (.lv false ((keyL t z f).map kd)) := by simp [getV_set, k1.len]
  generalize e1.set 7 (some (.lv false ((keyL t z f).map kd))) = e2 at *
  have h6 := st6 (ns := n0) k2 o1 p1 ks1 hz1 f1 f2 g62 g72
  obtain ⟨ls, n1, hL, h7⟩ := st7 k2 ht n0
  have k3 : Kn ((e2.set 9 (some (.ref 2))).set 10 (some (.ref 3))) t z f := (k2.set (by omega)).set (by omega)
  have g9 : getV ((e2.set 9 (some (.ref 2))).set 10 (some (.ref 3))) 9 = some (.ref 2) := by simp [getV_set, k2.len]
  have g10 : getV ((e2.set 9 (some (.ref 2))).set 10 (some (.ref 3))) 10 = some (.ref 3) := by simp [getV_set, k2.len]
  generalize (e2.set 9 (some (.ref 2))).set 10 (some (.ref 3)) = e3 at *
  have hsz := ht.sz
  obtain ⟨l2, n2, hp, h8⟩ := st8 k3.v1 g9 g10 (t.size - 1) ls [rootK] n1 100000 hL.len (by omega) (by simp; omega) fun x hx => (hL.each x hx).2.2.ok.1
  have hm : Mx t l2 := mx_of ht hL hp
  obtain ⟨q, ho, h9⟩ := st9 k3 ht hm g10 n2
  have k4 : Kq (e3.set 11 (some (kt q))) t q := ⟨by rw [List.length_set]; exact k3.len, by rw [getV_set, if_neg (by omega)]; exact k3.v1, by rw [getV_set, if_neg (by omega)]; exact k3.v2, by rw [getV_set, if_neg (by omega)]; exact k3.v3, by rw [getV_set, if_neg (by omega)]; exact g10, by simp [getV_set, k3.len]⟩
  generalize e3.set 11 (some (kt q)) = e4 at *
  have h10 := st10 k4 ho n2
  obtain ⟨e5, h11, k5⟩ := st11 k4 ho n2
  have h12 := st12 k5 ho n2
  obtain ⟨e6, n3, k6, h13⟩ := st13 k5 ho n2
  have h14 := st14 k6 ho (stM n3 (rootK :: l2))
  have h15 := st15 k6 ho (stM n3 (rootK :: l2))
  have k7 : Kq (e6.set 15 (some (.lv false (oddL q.key (.tup (q.sub.map kt)) q.w q.g)))) t q := k6.set (.inr (by omega))
  have g15 : getV (e6.set 15 (some (.lv false (oddL q.key (.tup (q.sub.map kt)) q.w q.g)))) 15 = some (.lv false (oddL q.key (.tup (q.sub.map kt)) q.w q.g)) := by simp [getV_set, k6.len]
  generalize e6.set 15 (some (.lv false (oddL q.key (.tup (q.sub.map kt)) q.w q.g))) = e7 at *
  have h16 := st16 k7 ho g15 (stM n3 (rootK :: l2))
  have h17 := st17 k7 (stM n3 (rootK :: l2))
  have k8 : Kq (e7.set 17 (some (.lv false goodL3))) t q := k7.set (.inr (by omega))
  have g17 : getV (e7.set 17 (some (.lv false goodL3))) 17 = some (.lv false goodL3) := by simp [getV_set, k7.len]
  generalize e7.set 17 (some (.lv false goodL3)) = e8 at *
  have h18 := st18 k8 g17 (stM n3 (rootK :: l2))
  have hb : b24.body = [.asg (.nm 1) (.cell (.call 12 [.var 0])), .asg (.nm 2) (.call 17 [.var 1, .bin .add (.con (.int 1)) (.call 13 [.var 1, .con (.int 14)]), .con (.int 5)]), .asg (.nm 3) (.call 19 [.var 2, .tup []]), .asg (.tup [.nm 4, .nm 5]) (.tup [.idx (.lst [.con (.str [97, 110, 110]), .con (.str [98, 111])]) (.call 13 [.var 1, .con (.int 2)]), .bin .add (.con (.int 1)) (.call 13 [.var 1, .con (.int 50)])])] ++ [.asg (.nm 6) (.call 10 [.var 2, .var 4, .var 5]), .asg (.nm 7) (.bin .add (.lst [.tup [.con (.int 0), .con (.str [])]]) (.lc (.tup [.bin .add (.var 5) (.var 8), .var 4]) (.nm 8) (.rng1 (.bin .sub (.bi .len [.var 3]) (.con (.int 1)))) [] [8])), .ite (.or (.not (.call 14 [.var 6, .call 22 [.var 2, .cell (.bi .list [.var 7])]])) (.or (.not (.call 15 [.call 5 [.var 6], .con (.bl true)])) (.not (.call 14 [.lst [.call 6 [.var 6], .call 7 [.var 6]], .lst [.var 2, .var 7]])))) [ .ret (.con (.bl false))] [], .asg (.tup [.nm 9, .nm 10]) (.tup [.cell (.lc (.tup [.bin .add (.bin .add (.con (.int 1)) (.call 13 [.var 1, .con (.int 3)])) (.bin .mul (.con (.int 9)) (.var 8)), .idx (.lst [.con (.str [97, 110, 110]), .con (.str [98, 111]), .con (.str [99, 121])]) (.call 13 [.var 1, .con (.int 3)])]) (.nm 8) (.rng1 (.bin .sub (.bi .len [.var 3]) (.con (.int 1)))) [] [8]), .cell (.lst [.tup [.con (.int 0), .con (.str [])]])]), .whl (.cmp .ne (.var 9) (.lst [])) [ .expr (.mm .append (.var 10) [.mm .pop (.var 9) [.call 13 [.var 1, .bi .len [.var 9]]]])], .asg (.nm 11) (.call 22 [.var 2, .cell (.bi .list [.var 10])]), .ite (.or (.not (.call 15 [.call 5 [.var 11], .con (.bl true)])) (.not (.call 14 [.lst [.call 6 [.var 11], .call 7 [.var 11]], .lst [.var 2, .var 10]]))) [ .ret (.con (.bl false))] [], .forr (.nm 8) (.rng1 (.bi .len [.var 3])) body11, .ite (.or (.cmp .ne (.lc (.call 21 [.con (.int 0), .var 11, .var 12]) (.nm 12) (.seq (.lst [.tup [.con (.int 99999), .con (.str [97, 110, 110])], .tup [.con (.int 1), .con (.str [122, 122])], .con .non])) [] [12]) (.bin .mul (.lst [.con (.str [110, 111, 110, 101])]) (.con (.int 3)))) (.cmp .ne (.call 21 [.con (.int 1), .var 11, .tup [.con (.int 99)]]) (.con (.str [110, 111, 110, 101])))) [ .ret (.con (.bl false))] [], .ite (.cmp .gt (.bi .len [.var 3]) (.con (.int 1))) [ .asg (.nm 12) (.idx (.var 10) (.bin .add (.con (.int 1)) (.call 13 [.var 1, .bin .sub (.bi .len [.var 10]) (.con (.int 1))]))), .asg (.nm 13) (.bin .add (.lst [.tup [.con (.int 0), .con (.str [])], .idx (.var 10) (.con (.int 0)), .tup [.con (.int 0), .con (.str [97, 110, 110])], .tup [.con (.int 1000001), .con (.str [97, 110, 110])], .tup [.con (.int 1), .con (.str [])], .con .non, .lst [.con (.int 1), .con (.str [97, 110, 110])], .tup [.con (.bl true), .con (.str [97, 110, 110])], .tup [.con (.int 1), .con (.str [97, 110, 110]), .con (.int 2)]]) (.slc (.lc (.var 14) (.nm 14) (.seq (.slc (.var 10) (some (.con (.int 1))) none)) [.cmp .ne (.var 14) (.var 12)] [14]) none (some (.con (.int 1))))), .ite (.cmp .ne (.lc (.var 14) (.nm 14) (.seq (.var 13)) [.not (.call 15 [.call 5 [.call 23 [.var 11, .var 12, .var 14]], .con (.bl false)])] [14]) (.lst [])) [ .ret (.con (.bl false))] []] [], .ite (.not (.call 15 [.call 5 [.call 23 [.var 11, .tup [.con (.int 0), .con (.str [])], .tup [.con (.int 5), .con (.str [122, 122])]]], .con (.bl false)])) [ .ret (.con (.bl false))] [], .asg (.nm 15) (.lst [.con .non, .tup [], .bi .list [.var 11], .slc (.var 11) none (some (.con (.int 3))), .bin .add (.var 11) (.tup [.con (.int 1)]), .bin .add (.tup [.idx (.var 11) (.con (.int 0)), .con (.str [65])]) (.slc (.var 11) (some (.con (.int 2))) none), .bin .add (.bin .add (.slc (.var 11) none (some (.con (.int 2)))) (.tup [.con (.str [34])])) (.slc (.var 11) (some (.con (.int 3))) none), .bin .add (.slc (.var 11) none (some (.con (.int 3)))) (.tup [.con .non]), .bin .add (.slc (.var 11) none (some (.con (.int 3)))) (.tup [.lst []]), .bin .add (.slc (.var 11) none (some (.con (.int 3)))) (.tup [.tup [.con .non]])]), .ite (.cmp .ne (.lc (.var 16) (.nm 16) (.seq (.var 15)) [.not (.call 15 [.call 5 [.var 16], .con (.bl false)])] [16]) (.lst [])) [ .ret (.con (.bl false))] [], .asg (.nm 17) (.lc (.var 14) (.nm 14) (.seq (.lst [.tup [.con (.int 0), .con (.str [])], .tup [.con (.int 1), .con (.str [97])], .tup [.con (.int 1000000), .con (.str [97, 98, 99, 100, 101, 102])]])) [.cmp .is (.call 3 [.var 14]) (.con (.bl true))] [14]), .ret (.and (.cmp .eq (.bi .len [.var 17]) (.con (.int 3))) (.cmp .eq (.lc (.var 14) (.nm 14) (.seq (.lst [.con .non, .tup [.con (.int 0), .con (.str [97])], .tup [.con (.int 1), .con (.str [])], .tup [.neg (.con (.int 1)), .con (.str [97])], .tup [.con (.int 1000001), .con (.str [97])], .tup [.con (.int 1), .con (.str [65])], .tup [.con (.bl true), .con (.str [97])], .tup [.con (.bl false), .con (.str [])], .lst [.con (.int 0), .con (.str [])], .tup [.con (.int 1)], .con (.int 5)])) [.cmp .isnot (.call 3 [.var 14]) (.con (.bl false))] [14]) (.lst [])))] := rfl
  refine ⟨stM n3 (rootK :: l2), ?_⟩
  rw [calls_eq (b := b24) rfl]
  unfold run
  rw [if_pos (show [dd].length = b24.par from rfl), hb]
  have hh : [dd].map some ++ List.replicate b24.more none = env0 dd := rfl
  rw [hh]
  show (match exs C0 100000 _ _ _ with | .nx _ s => R.ok D.non s | .rt d s => .ok d s | .ex c _ s => .exc c s | _ => .bad) = _
  have h8 : ex C0 100000 (.whl (.cmp .ne (.var 9) (.lst [])) [ .expr (.mm .append (.var 10) [.mm .pop (.var 9) [.call 13 [.var 1, .bi .len [.var 9]]]])]) e3 (stL n1 ls [rootK]) = .nx e3 (stL n2 [] (rootK :: l2)) := by
    rw [ex_whl]; exact h8
  rw [exs_app7 h03, exs_cons, h4, L3.F.next_nx, exs_cons, h5, L3.F.next_nx, exs_cons, h6, L3.F.next_nx, exs_cons, h7, L3.F.next_nx, exs_cons, h8, L3.F.next_nx, exs_cons, h9, L3.F.next_nx, exs_cons, h10, L3.F.next_nx, exs_cons, h11, L3.F.next_nx, exs_cons, h12, L3.F.next_nx, exs_cons, h13, L3.F.next_nx, exs_cons, h14, L3.F.next_nx, exs_cons, h15, L3.F.next_nx, exs_cons, h16, L3.F.next_nx, exs_cons, h17, L3.F.next_nx, exs_cons, h18]
  rfl
end LW
end

set_option autoImplicit false
set_option linter.all false
set_option maxRecDepth 100000
set_option maxHeartbeats 0

theorem LW.plain : L3.Plain LW.defs 100000 114 24 := fun ns hn _ d hd => LW.r_law hd (by omega)

namespace LW
open PySem PySem.Spec PyProof.Rows L2 L3
abbrev R : PySem.W.OpenRow := PySem.W.OpenLaw.row PySem.Challenge.rw_treeschanged_k07_whole_trees_with_keys
abbrev hk : PySem.W.Hook := hookM 2 G defs
def ob (s : PySem.W.SharedT) : AlM := obsMG 2 G defs (HandSHeadRun.getT s)
theorem ob_eq (s : PySem.W.SharedT) : ob s = hk.obs s.abs := obsMG_eq (HandSHeadRun.getT_eq s)
def loose : List PySem.Str := (["__name__", "TreeError", "OutOfRange", "Malformed", "NotThere", "Refused", "TooMuch", "is_number", "MOST_WORD", "MOST_SIGNS", "MOST_NODES", "MOST_DEEP", "LETTERS", "is_word", "are_signs", "MOST_COUNT", "ROOT", "is_key", "keys_behind", "is_keyed"] : List PySem.Str) ++ (["plain", "keys_of", "path_of", "key_at", "keyed_anew", "keyed_from", "_law_draws", "_law_take", "_law_alike", "_law_says", "_law_word", "_law_tree", "_law_size", "_law_paths", "_law_with", "_law_told", "_law_keyed", "_law_swapped"] : List PySem.Str)
theorem run (w : World) : HandSHeadRun.RunEq R (PySem.W.view R.prog [42]) hk ob 4000 loose w := by
  refine PySem.W.byRow2 "special-get-raises" (P := fun w => HandSHeadRun.RunEq R (PySem.W.view R.prog [42]) hk ob 4000 loose w) (fun w => ?_) (fun w => ?_) w
  · intro os
    kernel_rfl
  · intro os
    kernel_rfl
theorem okAll : ∀ e ∈ defs, DefOk G e := by
  intro e he
  simp only [defs, List.mem_cons, List.not_mem_nil, or_false] at he
  rcases he with rfl | rfl | rfl | rfl | rfl | rfl | rfl | rfl | rfl | rfl | rfl | rfl | rfl | rfl | rfl | rfl | rfl | rfl | rfl | rfl | rfl | rfl | rfl | rfl | rfl
  · exact o0
  · exact o1
  · exact o2
  · exact o3
  · exact o4
  · exact o5
  · exact o6
  · exact o7
  · exact o8
  · exact o9
  · exact o10
  · exact o11
  · exact o12
  · exact o13
  · exact o14
  · exact o15
  · exact o16
  · exact o17
  · exact o18
  · exact o19
  · exact o20
  · exact o21
  · exact o22
  · exact o23
  · exact o24
end LW
open PySem PySem.W PySem.Calls PyProof.Rows
theorem PySem.Challenge.cw_treeschanged_k07_whole_trees_with_keys_holds : PySem.Challenge.rw_treeschanged_k07_whole_trees_with_keys.Holds := by
  w_on; o_law
  refine HandSHeadRun.head_any (r := OpenLaw.row PySem.Challenge.rw_treeschanged_k07_whole_trees_with_keys) (q := view (OpenLaw.row PySem.Challenge.rw_treeschanged_k07_whole_trees_with_keys).prog [42]) (H := LW.hk) (ob := LW.ob) (M := 4000) (loose := LW.loose) (d := HandSHeadRun.topDef (OpenLaw.row PySem.Challenge.rw_treeschanged_k07_whole_trees_with_keys).prog 42) (kwd := []) LW.ob_eq
    (by kernel_rfl) (fun s => by kernel_rfl) LW.run (by kernel_rfl) (by kernel_rfl) (by kernel_rfl) (by rfl) (by first | assumption | decide +kernel) (by decide +kernel) ⟨rfl, rfl, rfl, rfl, rfl, by decide +kernel⟩ ?hw ?hc
  case hw => w_witness2
  case hc =>
    refine LamX.walk_ofTsE (l := PySem.Challenge.rw_treeschanged_k07_whole_trees_with_keys) (n := 63) (k := 2 * (114 + 1)) (x := "script") (CX := fun w => L2N.CX (PySem.Challenge.rw_treeschanged_k07_whole_trees_with_keys).prog w) rfl (by decide) (by kernel_rfl) ⟨rfl, by decide, by decide⟩ ?F (fun w H s e s' z => ?_)
    · intro w mg fa h Y Gn hmg0
      have hmg : mg ("law" : PySem.Str) = some (.ref fa) := by
        have e : (HandSHeadRun.topDef (OpenLaw.row PySem.Challenge.rw_treeschanged_k07_whole_trees_with_keys).prog 42).name = ("law" : PySem.Str) := by kernel_rfl
        rw [← e]
        exact hmg0
      exact L3.law_at (l := PySem.Challenge.rw_treeschanged_k07_whole_trees_with_keys) (w := w) (G := LW.G) (defs := LW.defs) (wN := 100000) (n := 114) (i := 24) rfl (fun e he => by cases he; rfl) LW.okAll LW.plain Y Gn hmg
    · obtain ⟨a, B, H', cls, d, _, _, _, _, _, _, _, z⟩ := z
      exact z
