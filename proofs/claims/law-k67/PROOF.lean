import PyProof.Rows.All
import HandS.ForMost
import HandS.ForExc
import HandS.TupAny
import HandS.TupMul
import HandS.Deep
import HandS.Style
import HandS.TupLe
import PyProof.StrOps2
import HandS.IsInst
import HandS.StrMore
import HandS.ExcCtx
import HandS.TryOnly
import HandS.Iter
import HandS.AnyAll
import PyProof.GenQ
import HandS.GenOver
import HandS.More
import HandS.Rev
import KE.KDictList
import HandS.Defaults
import HandS.ExcIs
import HandS.ExcOwn
import HandS.HotCalls
import HandS.HeadHook2
import HandS.Head0
import HandS.Head1
import HandS.Head2
import HandS.HeadEnd
import HandS.HeadHook3
import HandS.EndTab
import HandS.HeadWalk
import PySem.Challenge.RW_treeschanged_k67_whole_ranks_and_operati
set_option Elab.async false
section -- I0
set_option autoImplicit false
namespace L3

/-- data: a list by value (own: nobody else has it), a mutable object by its number in the store, the script -/
inductive D where
  | non | bl (b : Bool) | int (i : Int) | str (s : List Nat) | tup (xs : List D) | lv (own : Bool) (xs : List D) | ref (n : Nat) | scr (ns : List Int)
  deriving Inhabited

/-- mutable objects -/
inductive MO where
  | lst (xs : List D)
  deriving Inhabited

structure S where
  cells : List MO
  base : Nat
  up : Option Nat

inductive R (α : Type) where
  | ok (a : α) (s : S) | exc (c : Nat) (s : S) | bad

def R.bind {α β : Type} : R α → (α → S → R β) → R β
  | .ok a s, f => f a s
  | .exc c s, _ => .exc c s
  | .bad, _ => .bad
@[simp] theorem R.bind_ok {α β : Type} (a : α) (s : S) (f : α → S → R β) : (R.ok a s).bind f = f a s := rfl
@[simp] theorem R.bind_exc {α β : Type} (c : Nat) (s : S) (f : α → S → R β) : (R.exc c s : R α).bind f = .exc c s := rfl
@[simp] theorem R.bind_bad {α β : Type} (f : α → S → R β) : (R.bad : R α).bind f = .bad := rfl
/-- a value that may be none: bad -/
def R.opt {α : Type} (o : Option α) (s : S) : R α := match o with | some a => .ok a s | none => .bad
@[simp] theorem R.opt_some {α : Type} (a : α) (s : S) : R.opt (some a) s = .ok a s := rfl
@[simp] theorem R.opt_none {α : Type} (s : S) : R.opt (none : Option α) s = .bad := rfl
/-- no exception leaves -/
def R.nox {α : Type} : R α → R α
  | .exc _ _ => .bad
  | r => r
@[simp] theorem R.nox_ok {α : Type} (a : α) (s : S) : (R.ok a s).nox = .ok a s := rfl
@[simp] theorem R.nox_bad {α : Type} : (R.bad : R α).nox = .bad := rfl
@[simp] theorem R.nox_exc {α : Type} (c : Nat) (s : S) : (R.exc c s : R α).nox = .bad := rfl
def R.chk {α : Type} (b : Bool) (r : R α) : R α := if b then r else .bad
@[simp] theorem R.chk_true {α : Type} (r : R α) : R.chk true r = r := rfl

abbrev Env := List (Option D)

/-- the list is somebody's -/
def D.frz : D → D
  | .lv _ xs => .lv false xs
  | d => d
def D.same : D → D → Bool
  | .non, .non => true
  | .bl a, .bl b => a == b
  | .int a, .int b => decide (a = b)
  | .str a, .str b => a == b
  | .tup a, .tup b => sameL a b
  | .lv o a, .lv p b => o == p && sameL a b
  | .ref a, .ref b => a == b
  | .scr a, .scr b => a == b
  | _, _ => false
where sameL : List D → List D → Bool
  | [], [] => true
  | a :: as, b :: bs => D.same a b && sameL as bs
  | _, _ => false
mutual
theorem D.same_eq : ∀ (a b : D), D.same a b = true → a = b
  | .non, b, h => by cases b <;> simp_all [D.same]
  | .bl a, b, h => by cases b <;> simp_all [D.same]
  | .int a, b, h => by cases b <;> simp_all [D.same]
  | .str a, b, h => by cases b <;> simp_all [D.same]
  | .ref a, b, h => by cases b <;> simp_all [D.same]
  | .scr a, b, h => by cases b <;> simp_all [D.same]
  | .tup a, b, h => by
    cases b <;> simp [D.same] at h
    rw [D.sameL_eq _ _ h]
  | .lv o a, b, h => by
    cases b <;> simp [D.same] at h
    rw [D.sameL_eq _ _ h.2, h.1]
theorem D.sameL_eq : ∀ (a b : List D), D.same.sameL a b = true → a = b
  | [], b, h => by cases b <;> simp_all [D.same.sameL]
  | a :: as, b, h => by
    cases b with
    | nil => simp [D.same.sameL] at h
    | cons b bs =>
      simp only [D.same.sameL, Bool.and_eq_true] at h
      rw [D.same_eq a b h.1, D.sameL_eq as bs h.2]
end
/-- no number of n or more, no exception, no own list -/
def D.lt (n : Nat) : D → Bool
  | .ref m => decide (m < n)
  | .tup xs => ltL n xs
  | .lv _ xs => ltL n xs
  | _ => true
where ltL (n : Nat) : List D → Bool
  | [] => true
  | x :: xs => D.lt n x && ltL n xs
abbrev D.ltL := D.lt.ltL

/-- a list at a number is read -/
def D.rd (s : S) : D → D
  | .ref n => match s.cells[n]? with
    | some (.lst xs) => .lv false xs
    | _ => .ref n
  | d => d

/-- == of data (True is 1) -/
def D.eqv : D → D → Bool
  | .non, .non => true
  | .bl a, .bl b => a == b
  | .int a, .int b => decide (a = b)
  | .bl a, .int b => decide ((if a then 1 else 0 : Int) = b)
  | .int a, .bl b => decide (a = (if b then 1 else 0 : Int))
  | .str a, .str b => a == b
  | .tup xs, .tup ys => eqvL xs ys
  | .lv _ xs, .lv _ ys => eqvL xs ys
  | _, _ => false
where eqvL : List D → List D → Bool
  | [], [] => true
  | x :: xs, y :: ys => D.eqv x y && eqvL xs ys
  | _, _ => false
abbrev D.eqvL := D.eqv.eqvL
def big : Nat := 16777216
/-- a text of common signs -/
def okS (s : List Nat) : Bool := s.all (· < 1114112)
/-- == is known of it: nothing mutable within, not too deep -/
def D.fit : Nat → D → Bool
  | n + 1, .tup xs => fitL n xs
  | n + 1, .lv _ xs => fitL n xs
  | 0, .tup _ => false
  | 0, .lv _ _ => false
  | _, .ref _ => false
  | _, .scr _ => false
  | _, .str s => okS s
  | _, _ => true
where fitL (n : Nat) : List D → Bool
  | [] => true
  | x :: xs => D.fit n x && fitL n xs
abbrev D.fitL := D.fit.fitL

/-- no test of a great bound by Int's order: the kernel would run deep at a cast -/
def wide (i : Int) : Bool := Nat.blt i.natAbs 18446744073709551616

inductive Op2 where | add | sub | mul | fdiv | mod | pow
inductive Cmp where | eq | ne | lt | le | gt | ge | is | isnot | inn | notin

def bin2 : Op2 → D → D → Option D
  | .add, .int a, .int b => some (.int (a + b))
  | .add, .str a, .str b => if a.length + b.length ≤ big then some (.str (a ++ b)) else none
  | .add, .tup a, .tup b => if a.length + b.length ≤ big then some (.tup (a ++ b)) else none
  | .add, .lv _ a, .lv _ b => if a.length + b.length ≤ big then some (.lv true (a ++ b)) else none
  | .sub, .int a, .int b => some (.int (a - b))
  | .mul, .tup a, .int k => if a.length ≤ 1000 ∧ a ≠ [] ∧ 2 ≤ k ∧ k ≤ 1000 then some (.tup (List.replicate k.toNat a).flatten) else none
  | .mul, .str a, .int k => if 2 ≤ k ∧ k ≤ 100000 ∧ a.length = 1 then some (.str (List.replicate k.toNat a).flatten) else none
  | .mul, .int a, .int b => if wide a || wide b then some (.int (a * b)) else none
  | .fdiv, .int a, .int b => if 0 < b ∧ b < 1073741824 then some (.int (a / b)) else none
  | .mod, .int a, .int b => if 0 < b then some (.int (a % b)) else none
  | .pow, .int a, .int b => if 0 ≤ b ∧ b ≤ 1000 ∧ wide a then some (.int (a ^ b.toNat)) else none
  | _, _, _ => none

/-- order of lists of code points -/
def strLt : List Nat → List Nat → Bool
  | [], [] => false
  | [], _ :: _ => true
  | _ :: _, [] => false
  | a :: as, b :: bs => if a = b then strLt as bs else decide (a < b)
/-- order of tuples of ints -/
def intsOf : List D → Option (List Int)
  | [] => some []
  | .int i :: r => (intsOf r).map (i :: ·)
  | _ => none
def lexLt : List Int → List Int → Bool
  | [], [] => false
  | [], _ :: _ => true
  | _ :: _, [] => false
  | a :: as, b :: bs => if a = b then lexLt as bs else decide (a < b)

/-- order: ints, texts, tuples of these -/
def ordL (f : D → D → Option Bool) : List D → List D → Option Bool
  | [], [] => some false
  | [], _ :: _ => some true
  | _ :: _, [] => some false
  | x :: xs, y :: ys => (ordL f xs ys).bind fun r => if x.eqv y then some r else f x y
def ordD : Nat → D → D → Option Bool
  | n + 1, .tup xs, .tup ys => ordL (ordD n) xs ys
  | _, .int a, .int b => some (decide (a < b))
  | _, .str a, .str b => some (strLt a b)
  | _, _, _ => none
def D.isBl : D → Bool | .bl _ => true | _ => false
def D.isNon : D → Bool | .non => true | _ => false
def cmp2 : Cmp → D → D → Option Bool
  | .eq, .str a, .str b => some (a == b)
  | .ne, .str a, .str b => some (!(a == b))
  | .eq, a, b => if a.fit 64 && b.fit 64 then some (a.eqv b) else none
  | .ne, a, b => if a.fit 64 && b.fit 64 then some (!a.eqv b) else none
  | .lt, .int a, .int b => some (decide (a < b))
  | .le, .int a, .int b => some (decide (a ≤ b))
  | .gt, .int a, .int b => some (decide (b < a))
  | .ge, .int a, .int b => some (decide (b ≤ a))
  | .lt, .str a, .str b => some (strLt a b)
  | .lt, .tup a, .tup b => if D.fitL 63 a && D.fitL 63 b then ordD 64 (.tup a) (.tup b) else none
  | .le, .str a, .str b => some (!strLt b a)
  | .is, a, .non => some a.isNon
  | .isnot, a, .non => some (!a.isNon)
  | .is, .bl a, .bl b => some (a == b)
  | .isnot, .bl a, .bl b => some (!(a == b))
  | .inn, .str [c], .str s => some (s.contains c)
  | .notin, .str [c], .str s => some (!s.contains c)
  | .inn, a, .tup xs => if a.fit 64 && D.fitL 63 xs then some (xs.any fun x => x.eqv a) else none
  | .notin, a, .tup xs => if a.fit 64 && D.fitL 63 xs then some (!xs.any fun x => x.eqv a) else none
  | .inn, a, .lv _ xs => if a.fit 64 && D.fitL 63 xs then some (xs.any fun x => x.eqv a) else none
  | .notin, a, .lv _ xs => if a.fit 64 && D.fitL 63 xs then some (!xs.any fun x => x.eqv a) else none
  | _, _, _ => none

/-- the place that an index means -/
def ixN (n : Nat) (i : Int) : Option Nat := if 0 ≤ i then (if i < n then some i.toNat else none) else if -(n : Int) ≤ i then some (i + n).toNat else none
def atI {α : Type} (xs : List α) (i : Int) : Option α := (ixN xs.length i).bind fun j => xs[j]?
def idx2 : D → D → Option D
  | .tup xs, .int i => atI xs i
  | .lv _ xs, .int i => atI xs i
  | .str s, .int i => if s.length ≤ big then (atI s i).map fun c => .str [c] else none
  | .scr ns, .int i => (atI ns i).map .int
  | _, _ => none
def sIx (n d : Nat) : Option Int → Nat
  | none => d
  | some v => if v < 0 then (v + (n : Int)).toNat else min v.toNat n
def cut {α : Type} (xs : List α) (lo hi : Option Int) : List α := (xs.drop (sIx xs.length 0 lo)).take (sIx xs.length xs.length hi - sIx xs.length 0 lo)
def slc2 (lo hi : Option Int) : D → Option D
  | .tup xs => some (.tup (cut xs lo hi))
  | .lv _ xs => some (.lv true (cut xs lo hi))
  | .str s => if s.length ≤ big then some (.str (cut s lo hi)) else none
  | _ => none
def D.toInt : D → Option Int | .int i => some i | _ => none

inductive Ty where | int | bool | str | list | tuple
def isTy : Ty → D → Option Bool
  | _, .ref _ => none
  | _, .scr _ => none
  | .int, .int _ => some true
  | .int, .bl _ => some true
  | .bool, .bl _ => some true
  | .str, .str _ => some true
  | .list, .lv _ _ => some true
  | .tuple, .tup _ => some true
  | _, _ => some false
inductive BI where | len | tuple | list | int | abs | sum | max | min | revlist | rev1
def D.items : D → Option (List D)
  | .tup xs => some xs
  | .lv _ xs => some xs
  | _ => none
def maxI : List Int → Option Int
  | [] => none
  | a :: r => some (r.foldl (fun m x => if m < x then x else m) a)
def minI : List Int → Option Int
  | [] => none
  | a :: r => some (r.foldl (fun m x => if x < m then x else m) a)
def bi : BI → List D → Option D
  | .len, [.tup xs] => some (.int xs.length)
  | .len, [.lv _ xs] => some (.int xs.length)
  | .len, [.scr ns] => some (.int ns.length)
  | .len, [.str s] => if s.length ≤ big then some (.int s.length) else none
  | .tuple, [.tup xs] => some (.tup xs)
  | .tuple, [.lv _ xs] => some (.tup xs)
  | .list, [.tup xs] => some (.lv true xs)
  | .list, [.lv _ xs] => some (.lv true xs)
  | .int, [.int i] => some (.int i)
  | .int, [.bl b] => some (.int (if b then 1 else 0))
  | .abs, [.int i] => some (.int (if i < 0 then -i else i))
  | .sum, [.lv _ xs] => (intsOf xs).map fun ns => .int ns.sum
  | .max, [.lv _ xs] => (intsOf xs).bind fun ns => (maxI ns).map .int
  | .min, [.lv _ xs] => (intsOf xs).bind fun ns => (minI ns).map .int
  | .max, [.int a, .int b] => some (.int (if a < b then b else a))
  | .min, [.int a, .int b] => some (.int (if b < a then b else a))
  | .revlist, [.lv _ xs] => some (.lv true xs.reverse)
  | _, _ => none
/-- methods that change nothing -/
inductive BM where | join | find
def strsOf : List D → Option (List (List Nat))
  | [] => some []
  | .str i :: r => (strsOf r).map (i :: ·)
  | _ => none
def joinS (sep : List Nat) : List (List Nat) → List Nat
  | [] => []
  | [a] => a
  | a :: r => a ++ sep ++ joinS sep r
def findFrom (c : Nat) : List Nat → Nat → Int
  | [], _ => -1
  | x :: r, k => if x = c then (k : Int) else findFrom c r (k + 1)
def bm : BM → D → List D → Option D
  | .join, .str sep, [.lv _ xs] => (strsOf xs).bind fun ss => if (ss.map (·.length)).sum + sep.length * ss.length ≤ big then some (.str (joinS sep ss)) else none
  | .find, .str s, [.str [c], .int i] => if 0 ≤ i ∧ i ≤ s.length ∧ s.length ≤ big then some (.int (findFrom c (s.drop i.toNat) i.toNat)) else none
  | _, _, _ => none

def MO.lt (n : Nat) : MO → Bool
  | .lst xs => D.ltL n xs
def joinU : Option Nat → Option Nat → Option Nat
  | none, b => b
  | some a, none => some a
  | some a, some b => some (min a b)
/-- a cell gets another object -/
def S.put (s : S) (n : Nat) (o : MO) : S := ⟨s.cells.set n o, s.base, if o.lt 0 then s.up else joinU s.up (some n)⟩
/-- a new cell for a list that is ours alone -/
def newCell : D → S → R D
  | .lv true xs, s => .ok (.ref s.cells.length) ⟨s.cells ++ [.lst xs], s.base, s.up⟩
  | _, _ => .bad
/-- an older object has come to hold what may be younger -/
def S.viol (t : S) : Bool := match t.up with | some l => decide (l < t.base) | none => false
/-- what a call made goes; what it made stays -/
def S.gone (s t : S) : S := ⟨t.cells.take t.base, s.base, s.up⟩
def S.stay (s t : S) : S := ⟨t.cells, s.base, joinU s.up t.up⟩
/-- behind a call: what it made goes, if nothing leads there -/
def norm (s : S) (d : D) (t : S) : R D :=
  if t.viol then .ok d (s.stay t)
  else match d with
    | .ref m => if m < t.base then .ok d (s.gone t)
      else match t.cells[m]? with
        | some (.lst xs) => if D.ltL t.base xs then .ok (.lv true xs) (s.gone t) else .ok d (s.stay t)
        | _ => .ok d (s.stay t)
    | _ => if d.lt t.base then .ok d (s.gone t) else .ok d (s.stay t)
def callR (f : List D → S → R D) (vs : List D) (s : S) : R D :=
  match f vs ⟨s.cells, s.cells.length, none⟩ with
  | .ok d t => norm s d t
  | .exc c t => .exc c (if t.viol then s.stay t else s.gone t)
  | .bad => .bad
/-- methods that change a list -/
inductive MM where | append | extend | pop
def mutI : MM → Nat → List D → List D → S → R D
  | .append, n, xs, [x], s => if xs.length < big then .ok .non (s.put n (.lst (xs ++ [x]))) else .bad
  | .extend, n, xs, [y], s => match y.rd s with
    | .lv _ ys => if xs.length + ys.length ≤ big then .ok .non (s.put n (.lst (xs ++ ys))) else .bad
    | _ => .bad
  | .pop, n, xs, [], s => match xs.getLast? with
    | some x => .ok x (s.put n (.lst xs.dropLast))
    | none => .bad
  | _, _, _, _, _ => .bad
end L3
end

section -- I1
set_option autoImplicit false
namespace L3

/-- targets -/
inductive Tg where
  | nm (i : Nat) | tup (ts : List Tg)

mutual
inductive CE where
  | var (i : Nat) | con (d : D) | glob (d : D)
  | bin (op : Op2) (a b : CE) | neg (a : CE) | not (a : CE) | and (a b : CE) | or (a b : CE)
  | cmp (op : Cmp) (a b : CE) | chain (o1 o2 : Cmp) (a b c : CE) | ite (c a b : CE)
  | tup (xs : List CE) | lst (xs : List CE) | star (a : CE)
  | idx (a i : CE) | slc (a : CE) (lo hi : Option CE)
  | isa (a : CE) (t : Ty)
  | call (f : Nat) (xs : List CE) | bi (b : BI) (xs : List CE) | bm (m : BM) (o : CE) (xs : List CE) | mm (m : MM) (o : CE) (xs : List CE)
  | lc (elt : CE) (t : Tg) (src : Src) (ifs : List CE) (own : List Nat)
  | gen (all : Bool) (elt : CE) (t : Tg) (src : Src) (ifs : List CE) (own : List Nat)
  | cell (a : CE)
  | gin (neg : Bool) (a : CE) (kvs : List (List Nat × D)) | gix (kvs : List (List Nat × D)) (a : CE) | rev (a : CE)
inductive Src where
  | seq (a : CE) | rng1 (a : CE) | rng2 (a b : CE) | enum (a : CE) | chars (a : CE)
end

/-- what stands behind an except clause -/
inductive Suite where
  | word (f : Nat) | con (d : D) | pass | cont

inductive CS where
  | asg (t : Tg) (e : CE) | aug (i : Nat) (op : Op2) (e : CE) | put (o i e : CE) | expr (e : CE)
  | ret (e : CE) | retN | ite (c : CE) (a b : List CS) | whl (c : CE) (b : List CS) | forr (t : Tg) (src : Src) (b : List CS)
  | raise (c : Nat) | tryy (b : List CS) (c : Nat) (i : Option Nat) (h : Suite) | pass | brk | cont

mutual
def asg : Tg → D → Env → Option Env
  | .nm i, d, e => some (e.set i (some d.frz))
  | .tup ts, d, e => match d with
    | .tup xs => asgs ts xs e
    | .lv _ xs => asgs ts xs e
    | _ => none
def asgs : List Tg → List D → Env → Option Env
  | [], [], e => some e
  | t :: ts, x :: xs, e => (asg t x e).bind fun e' => asgs ts xs e'
  | _, _, _ => none
end
def wipe (e : Env) : List Nat → Env
  | [] => e
  | v :: vs => (wipe e vs).set v none
def getV (e : Env) (i : Nat) : Option D := match e[i]? with | some (some d) => some d | _ => none

/-- what a loop goes over: fixed items, or a list in the store -/
inductive It where
  | fix (xs : List D) | at (n : Nat)
/-- a comprehension: each item hands on nothing or one more -/
def lcL (f : D → S → R (Option D)) : List D → List D → S → R D
  | [], acc, s => .ok (.lv true acc) s
  | x :: r, acc, s => (f x s).bind fun o s => match o with
    | some d => if acc.length < big then lcL f r (acc ++ [d.frz]) s else .bad
    | none => lcL f r acc s
def lcC (f : D → S → R (Option D)) (n : Nat) : Nat → Nat → List D → S → R D
  | 0, _, _, _ => .bad
  | k + 1, i, acc, s => match s.cells[n]? with
    | some (.lst xs) => match xs[i]? with
      | none => .ok (.lv true acc) s
      | some x => (f x s).bind fun o s => match o with
        | some d => if acc.length < big then lcC f n k (i + 1) (acc ++ [d.frz]) s else .bad
        | none => lcC f n k (i + 1) acc s
    | none => .bad
/-- all (any): the first item that tells ends it -/
def geL (all : Bool) (f : D → S → R (Option Bool)) : List D → S → R D
  | [], s => .ok (.bl all) s
  | x :: r, s => (f x s).bind fun o s => match o with
    | some b => if b == all then geL all f r s else .ok (.bl (!all)) s
    | none => geL all f r s
def geC (all : Bool) (f : D → S → R (Option Bool)) (n : Nat) : Nat → Nat → S → R D
  | 0, _, _ => .bad
  | k + 1, i, s => match s.cells[n]? with
    | some (.lst xs) => match xs[i]? with
      | none => .ok (.bl all) s
      | some x => (f x s).bind fun o s => match o with
        | some b => if b == all then geC all f n k (i + 1) s else .ok (.bl (!all)) s
        | none => geC all f n k (i + 1) s
    | none => .bad
def cellLen (s : S) (n : Nat) : Nat := match s.cells[n]? with | some (.lst xs) => xs.length | none => 0
def lcI (f : D → S → R (Option D)) (it : It) (s : S) : R D := match it with
  | .fix xs => lcL f xs [] s
  | .at n => lcC f n (cellLen s n + 1) 0 [] s
def geI (all : Bool) (f : D → S → R (Option Bool)) (it : It) (s : S) : R D := match it with
  | .fix xs => geL all f xs s
  | .at n => geC all f n (cellLen s n + 1) 0 s

def seqOf : D → Option It
  | .tup xs => some (.fix xs)
  | .lv _ xs => some (.fix xs)
  | .ref n => some (.at n)
  | .scr ns => some (.fix (ns.map .int))
  | .str z => some (.fix (z.map fun c => .str [c]))
  | _ => none
def rng (a b : Int) : Option It := if a.natAbs < 4611686018427387904 ∧ b.natAbs < 4611686018427387904 then some (.fix ((List.range (b - a).toNat).map fun (i : Nat) => .int (a + (i : Int)))) else none
def enumL (xs : List D) : List D := xs.zipIdx.map fun p => .tup [.int p.2, p.1]
def enumOf : D → Option It
  | .tup xs => some (.fix (enumL xs))
  | .lv _ xs => some (.fix (enumL xs))
  | _ => none
def charsOf : D → Option It
  | .str s => some (.fix (s.map fun c => .str [c]))
  | _ => none
def D.bool : D → Option Bool | .bl b => some b | _ => none

def strOf : D → Option (List Nat)
  | .str z => some z
  | _ => none
def cellOf (x : D) (s : S) : Option Nat := match x with
  | .ref n => if n < s.cells.length then some n else none
  | _ => none
def mmS (m : MM) (n : Nat) (ds : List D) (s : S) : R D := match s.cells[n]? with
  | some (.lst ys) => mutI m n ys ds s
  | none => .bad

def revOf : D → Option D
  | .lv _ xs => some (.lv true xs.reverse)
  | _ => none
variable (C : Nat → List D → S → R D)
mutual
def ev : CE → Env → S → R D
  | .var i, e, s => R.opt (getV e i) s
  | .con d, _, s => .ok d s
  | .glob d, _, s => .ok d s
  | .bin op a b, e, s => (ev a e s).bind fun x s => (ev b e s).bind fun y s => R.opt (bin2 op (x.rd s) (y.rd s)) s
  | .neg a, e, s => (ev a e s).bind fun x s => R.opt (x.toInt.map fun i => .int (-i)) s
  | .not a, e, s => (ev a e s).bind fun x s => R.opt (x.bool.map fun b => .bl (!b)) s
  | .and a b, e, s => (ev a e s).bind fun x s => (R.opt x.bool s).bind fun t s => if t then ev b e s else .ok (.bl false) s
  | .or a b, e, s => (ev a e s).bind fun x s => (R.opt x.bool s).bind fun t s => if t then .ok (.bl true) s else ev b e s
  | .cmp op a b, e, s => (ev a e s).bind fun x s => (ev b e s).bind fun y s => R.opt ((cmp2 op (x.rd s) (y.rd s)).map .bl) s
  | .chain o1 o2 a b c, e, s => (ev a e s).bind fun x s => (ev b e s).bind fun y s => (R.opt (cmp2 o1 (x.rd s) (y.rd s)) s).bind fun t s =>
      if t then (ev c e s).bind fun z s => R.opt ((cmp2 o2 (y.rd s) (z.rd s)).map .bl) s else .ok (.bl false) s
  | .ite c a b, e, s => (ev c e s).bind fun x s => (R.opt x.bool s).bind fun t s => if t then ev a e s else ev b e s
  | .tup xs, e, s => (evs xs e s).bind fun ds s => R.chk (decide (ds.length ≤ big)) (.ok (.tup ds) s)
  | .lst xs, e, s => (evs xs e s).bind fun ds s => R.chk (decide (ds.length ≤ big)) (.ok (.lv true ds) s)
  | .star _, _, _ => .bad
  | .idx a i, e, s => (ev a e s).bind fun x s => (ev i e s).bind fun y s => R.opt (idx2 (x.rd s) y) s
  | .slc a lo hi, e, s => (ev a e s).bind fun x s => (evo lo e s).bind fun l s => (evo hi e s).bind fun h s => R.opt (slc2 l h (x.rd s)) s
  | .isa a t, e, s => (ev a e s).bind fun x s => R.opt ((isTy t (x.rd s)).map .bl) s
  | .call f xs, e, s => (evs xs e s).bind fun ds s => callR (C f) ds s
  | .bi b xs, e, s => (evs xs e s).bind fun ds s => R.opt (bi b (ds.map (·.rd s))) s
  | .bm m o xs, e, s => (ev o e s).bind fun x s => (R.opt (strOf x) s).bind fun z s => (evs xs e s).bind fun ds s => R.opt (bm m (.str z) (ds.map (·.rd s))) s
  | .mm m o xs, e, s => (ev o e s).bind fun x s => (R.opt (cellOf x s) s).bind fun n s => (evs xs e s).bind fun ds s => mmS m n ds s
  | .lc elt t src ifs own, e, s => (items src e s).bind fun it s => lcI (fun x s => match asg t x (wipe e own) with
      | none => .bad
      | some e1 => ((tests ifs e1 s).bind fun b s => if b then (ev elt e1 s).bind fun d s => .ok (some d) s else .ok none s).nox) it s
  | .gen all elt t src ifs own, e, s => (items src e s).bind fun it s => geI all (fun x s => match asg t x (wipe e own) with
      | none => .bad
      | some e1 => ((tests ifs e1 s).bind fun b s => if b then (ev elt e1 s).bind fun d s => (R.opt d.bool s).bind fun b s => .ok (some b) s else .ok none s).nox) it s
  | .cell a, e, s => (ev a e s).bind fun x s => newCell x s
  | .gin neg a kvs, e, s => (ev a e s).bind fun x s => R.opt ((strOf x).map fun z => .bl (if neg then !(kvs.lookup z).isSome else (kvs.lookup z).isSome)) s
  | .gix kvs a, e, s => (ev a e s).bind fun x s => R.opt ((strOf x).bind fun z => kvs.lookup z) s
  | .rev a, e, s => (ev a e s).bind fun x s => R.opt (revOf (x.rd s)) s
/-- arguments, items: lists are everybody's -/
def evs : List CE → Env → S → R (List D)
  | [], _, s => .ok [] s
  | .star a :: r, e, s => (ev a e s).bind fun x s => (R.opt (x.rd s).items s).bind fun xs s => (evs r e s).bind fun ys s => .ok (xs ++ ys) s
  | a :: r, e, s => (ev a e s).bind fun x s => (evs r e s).bind fun ys s => .ok (x.frz :: ys) s
def evo : Option CE → Env → S → R (Option Int)
  | none, _, s => .ok none s
  | some a, e, s => (ev a e s).bind fun x s => (R.opt x.toInt s).bind fun i s => .ok (some i) s
def tests : List CE → Env → S → R Bool
  | [], _, s => .ok true s
  | c :: r, e, s => (ev c e s).bind fun x s => (R.opt x.bool s).bind fun b s => if b then tests r e s else .ok false s
def items : Src → Env → S → R It
  | .seq a, e, s => (ev a e s).bind fun x s => R.opt (seqOf x) s
  | .rng1 a, e, s => (ev a e s).bind fun x s => R.opt (x.toInt.bind fun i => rng 0 i) s
  | .rng2 a b, e, s => (ev a e s).bind fun x s => (ev b e s).bind fun y s => R.opt (x.toInt.bind fun i => y.toInt.bind fun j => rng i j) s
  | .enum a, e, s => (ev a e s).bind fun x s => R.opt (enumOf x) s
  | .chars a, e, s => (ev a e s).bind fun x s => R.opt (charsOf x) s
end

inductive F where
  | nx (e : Env) (s : S) | bk (e : Env) (s : S) | ct (e : Env) (s : S) | rt (d : D) (s : S) | ex (c : Nat) (e : Env) (s : S) | bad
def F.of {α : Type} (r : R α) (e : Env) (k : α → S → F) : F := match r with
  | .ok a s => k a s
  | .exc c s => .ex c e s
  | .bad => .bad
@[simp] theorem F.of_ok {α : Type} (a : α) (s : S) (e : Env) (k : α → S → F) : F.of (.ok a s) e k = k a s := rfl
@[simp] theorem F.of_exc {α : Type} (c : Nat) (s : S) (e : Env) (k : α → S → F) : F.of (.exc c s : R α) e k = .ex c e s := rfl
@[simp] theorem F.of_bad {α : Type} (e : Env) (k : α → S → F) : F.of (.bad : R α) e k = .bad := rfl
def F.next (f : F) (k : Env → S → F) : F := match f with
  | .nx e s => k e s
  | f => f
@[simp] theorem F.next_nx (e : Env) (s : S) (k : Env → S → F) : (F.nx e s).next k = k e s := rfl
@[simp] theorem F.next_rt (d : D) (s : S) (k : Env → S → F) : (F.rt d s).next k = .rt d s := rfl
@[simp] theorem F.next_ex (c : Nat) (e : Env) (s : S) (k : Env → S → F) : (F.ex c e s).next k = .ex c e s := rfl
@[simp] theorem F.next_bad (k : Env → S → F) : F.bad.next k = .bad := rfl
@[simp] theorem F.next_bk (e : Env) (s : S) (k : Env → S → F) : (F.bk e s).next k = .bk e s := rfl
@[simp] theorem F.next_ct (e : Env) (s : S) (k : Env → S → F) : (F.ct e s).next k = .ct e s := rfl
/-- behind a loop's turn -/
def F.turn (f : F) (k : Env → S → F) : F := match f with
  | .nx e s => k e s
  | .ct e s => k e s
  | .bk e s => .nx e s
  | f => f
@[simp] theorem F.turn_nx (e : Env) (s : S) (k : Env → S → F) : (F.nx e s).turn k = k e s := rfl
@[simp] theorem F.turn_ct (e : Env) (s : S) (k : Env → S → F) : (F.ct e s).turn k = k e s := rfl
@[simp] theorem F.turn_bk (e : Env) (s : S) (k : Env → S → F) : (F.bk e s).turn k = .nx e s := rfl
@[simp] theorem F.turn_rt (d : D) (s : S) (k : Env → S → F) : (F.rt d s).turn k = .rt d s := rfl
@[simp] theorem F.turn_ex (c : Nat) (e : Env) (s : S) (k : Env → S → F) : (F.ex c e s).turn k = .ex c e s := rfl
@[simp] theorem F.turn_bad (k : Env → S → F) : F.bad.turn k = .bad := rfl

def aug2 : Op2 → D → D → Option D
  | .add, .int a, .int b => some (.int (a + b))
  | .sub, .int a, .int b => some (.int (a - b))
  | _, _, _ => none
def foL (f : D → Env → S → F) : List D → Env → S → F
  | [], e, s => .nx e s
  | x :: r, e, s => (f x e s).turn fun e s => foL f r e s
def foC (f : D → Env → S → F) (n : Nat) : Nat → Nat → Env → S → F
  | 0, _, _, _ => .bad
  | k + 1, i, e, s => match s.cells[n]? with
    | some (.lst xs) => match xs[i]? with
      | none => .nx e s
      | some x => (f x e s).turn fun e s => foC f n k (i + 1) e s
    | none => .bad
def foI (f : D → Env → S → F) (it : It) (e : Env) (s : S) : F := match it with
  | .fix xs => foL f xs e s
  | .at n => foC f n (cellLen s n + 1) 0 e s
def whI (c : Env → S → R Bool) (b : Env → S → F) : Nat → Env → S → F
  | 0, _, _ => .bad
  | k + 1, e, s => F.of (c e s) e fun t s => if t then (b e s).turn fun e s => whI c b k e s else .nx e s
/-- exception classes: 0 the base, 1 OutOfRange, 2 Malformed, 3 NotThere, 4 Refused, 5 TooMuch -/
def subX (c k : Nat) : Bool := k == 0 || c == k
def wordX : Nat → List Nat
  | 1 => [114, 97, 110, 103, 101]
  | 2 => [102, 111, 114, 109]
  | 3 => [110, 111, 110, 101]
  | 4 => [114, 101, 102, 117, 115, 101, 100]
  | 5 => [109, 117, 99, 104]
  | _ => [109, 97, 110, 121]
def suite (h : Suite) (c : Nat) (e : Env) (s : S) : F := match h with
  | .word _ => .rt (.str (wordX c)) s
  | .con d => .rt d s
  | .pass => .nx e s
  | .cont => .ct e s
def clr (i : Option Nat) (e : Env) : Env := match i with | some i => e.set i none | none => e

variable (w : Nat)
mutual
def ex : CS → Env → S → F
  | .asg t x, e, s => F.of (ev C x e s) e fun d s => match asg t d e with
      | some e' => .nx e' s
      | none => .bad
  | .aug i op x, e, s => match getV e i with
      | some a => F.of (ev C x e s) e fun d s => match aug2 op a d with
        | some r => .nx (e.set i (some r)) s
        | none => .bad
      | none => .bad
  | .put o i x, e, s => F.of (ev C x e s) e fun d s => F.of (ev C o e s) e fun a s => F.of (ev C i e s) e fun k s => match a, k with
      | .ref n, .int k => match s.cells[n]? with
        | some (.lst xs) => match ixN xs.length k with
          | some j => .nx e (s.put n (.lst (xs.set j d.frz)))
          | none => .bad
        | none => .bad
      | _, _ => .bad
  | .expr x, e, s => F.of (ev C x e s) e fun _ s => .nx e s
  | .ret x, e, s => F.of (ev C x e s) e fun d s => .rt d s
  | .retN, _, s => .rt .non s
  | .ite c a b, e, s => F.of (ev C c e s) e fun d s => match d.bool with
      | some true => exs a e s
      | some false => exs b e s
      | none => .bad
  | .whl c b, e, s => whI (fun e s => (ev C c e s).bind fun d s => R.opt d.bool s) (fun e s => exs b e s) w e s
  | .forr t src b, e, s => F.of (items C src e s) e fun it s => foI (fun x e s => match asg t x e with
      | some e' => exs b e' s
      | none => .bad) it e s
  | .raise c, e, s => .ex c e s
  | .tryy b c i h, e, s => match exs b e s with
      | .ex k e' s' => if k ≤ 5 then (if subX k c then (match suite h k e' s' with
          | .nx e s => .nx (clr i e) s
          | .ct e s => .ct (clr i e) s
          | f => f) else .ex k e' s') else .bad
      | f => f
  | .pass, e, s => .nx e s
  | .brk, e, s => .bk e s
  | .cont, e, s => .ct e s
def exs : List CS → Env → S → F
  | [], e, s => .nx e s
  | x :: r, e, s => (ex x e s).next fun e s => exs r e s
end

/-- a def: how many names beyond the parameters, its body -/
structure Fn where
  par : Nat
  more : Nat
  body : List CS
def run (f : Fn) (vs : List D) (s : S) : R D := if vs.length = f.par then match exs C w f.body (vs.map some ++ List.replicate f.more none) s with
  | .nx _ s => .ok .non s
  | .rt d s => .ok d s
  | .ex c _ s => .exc c s
  | _ => .bad
  else .bad
/-- calls in one another to the depth n -/
def calls (fs : Array Fn) (w : Nat) : Nat → Nat → List D → S → R D
  | 0, _, _, _ => .bad
  | n + 1, f, vs, s => match fs[f]? with
    | some b => run (calls fs w n) w b vs s
    | none => .bad
end L3
end

section -- I2
set_option autoImplicit false
set_option linter.all false
set_option maxRecDepth 100000
namespace L3
open PySem PySem.Spec PyProof.Rows L2

def toS (s : List Nat) : Str := ⟨s.toArray⟩
abbrev Fr := PySem.W.Frag
/-- where the numbered objects stand; addresses that no list by value has -/
structure Rh where
  f : Nat → Addr
  av : List Addr
instance : CoeFun Rh (fun _ => Nat → Addr) := ⟨Rh.f⟩

/-- the script stands there -/
def ScrAt (K : Fr) (H : Hp) (a : Addr) (vs : List V) : Prop := (∃ o, H a = some (.frz o (.lst vs))) ∨
    ∃ (o : Obj) (its : Array Value) (n : Nat), K.lookup a = some o ∧ o.cls = .type "list" ∧ o.dict = none ∧ o.data = .seq its n ∧ its.size ≤ sizeLine ∧ Vals vs its.toList
theorem ScrAt.sq {K : Fr} {H : Hp} {a : Addr} {vs : List V} (h : ScrAt K H a vs) : SqL K H a vs := h.elim (fun h => .inl (.inr h)) .inr
mutual
/-- a value is the data; n numbers at ρ; x: an address that no list by value has -/
inductive Rel (K : Fr) (ρ : Rh) (n : Nat) (x : Option Addr) (H : Hp) : D → V → Prop where
  | non : Rel K ρ n x H .non .non
  | bl (b : Bool) : Rel K ρ n x H (.bl b) (.bl b)
  | int (i : Int) : Rel K ρ n x H (.int i) (.int i)
  | str (s : List Nat) : Rel K ρ n x H (.str s) (.str (toS s))
  | tup {xs : List D} {a : Addr} {vs : List V} : SqT K H a vs → RelL K ρ n x H xs vs → Rel K ρ n x H (.tup xs) (.ref a)
  | scr {ns : List Int} {a : Addr} : ScrAt K H a (ns.map V.int) → Rel K ρ n x H (.scr ns) (.ref a)
  | lv {xs : List D} {a : Addr} {vs : List V} : H a = some (.lst vs) → (∀ i, i < n → ρ i ≠ a) → x ≠ some a → a ∉ ρ.av → RelL K ρ n x H xs vs → Rel K ρ n x H (.lv false xs) (.ref a)
  | ref {i : Nat} : i < n → Rel K ρ n x H (.ref i) (.ref (ρ i))
inductive RelL (K : Fr) (ρ : Rh) (n : Nat) (x : Option Addr) (H : Hp) : List D → List V → Prop where
  | nil : RelL K ρ n x H [] []
  | cons {d : D} {v : V} {ds : List D} {vs : List V} : Rel K ρ n x H d v → RelL K ρ n x H ds vs → RelL K ρ n x H (d :: ds) (v :: vs)
end

def NoTbl : HO → Prop
  | .tbl _ => False
  | _ => True

abbrev S.n (s : S) : Nat := s.cells.length
/-- from a state to a later one -/
structure Ext (K : Fr) (ρ : Rh) (H : Hp) (s : S) (ρ' : Rh) (H' : Hp) (s' : S) : Prop where
  base : s'.base = s.base
  av : ρ'.av = ρ.av
  le : s.n ≤ s'.n
  same : ∀ i, i < s.n → ρ' i = ρ i
  keep : ∀ a o, H a = some o → (∀ i, i < s.n → ρ i ≠ a) → NoTbl o → H' a = some o
  fresh : ∀ i, s.n ≤ i → i < s'.n → H (ρ' i) = none
  there : ∀ a, H a ≠ none → H' a ≠ none
  upm : ∀ l, s.up = some l → ∃ l', s'.up = some l' ∧ l' ≤ l
  chg : ∀ (i : Nat) (o o' : MO), s.cells[i]? = some o → s'.cells[i]? = some o' → o' = o ∨ o'.lt 0 = true ∨ ∃ l, s'.up = some l ∧ l ≤ i

def CellRel (K : Fr) (ρ : Rh) (n : Nat) (x : Option Addr) (H : Hp) (a : Addr) : MO → Prop
  | .lst xs => ∃ vs, H a = some (.lst vs) ∧ RelL K ρ n x H xs vs

/-- the store stands in the heap; Ps: tables of code objects -/
structure Good (K : Fr) (Ps : List Addr) (ρ : Rh) (x : Option Addr) (H : Hp) (s : S) : Prop where
  inj : ∀ i j, i < s.n → j < s.n → ρ i = ρ j → i = j
  cell : ∀ i o, s.cells[i]? = some o → CellRel K ρ s.n x H (ρ i) o
  clean : ∀ i o, i < s.base → s.cells[i]? = some o → (∀ l, s.up = some l → i < l) → o.lt s.base = true
  bl : s.base ≤ s.n
  tb : ∀ P ∈ Ps, ∃ ps : Array Value, H P = some (.tbl ps) ∧ TriplesOk ps.toList
  xt : ∀ a ∈ ρ.av, H a ≠ none

section
variable {K : Fr} {Ps : List Addr} {ρ ρ' ρ1 ρ2 : Rh} {n n' : Nat} {x y : Option Addr} {H H' H1 H2 : Hp} {s s' s1 s2 : S} {d : D} {v : V} {ds : List D} {vs : List V} {a : Addr} {o : HO}

theorem RelL.length : ∀ {ds : List D} {vs : List V}, RelL K ρ n x H ds vs → ds.length = vs.length
  | _, _, .nil => rfl
  | _, _, .cons _ t => by simp [RelL.length t]
theorem RelL.get : ∀ {ds : List D} {vs : List V} {i : Nat} {d : D}, RelL K ρ n x H ds vs → ds[i]? = some d → ∃ v, vs[i]? = some v ∧ Rel K ρ n x H d v
  | _, _, 0, _, .cons r _, e => by simp at e; subst e; exact ⟨_, rfl, r⟩
  | _, _, i + 1, _, .cons _ t, e => by
    obtain ⟨v, h1, h2⟩ := RelL.get (i := i) t (by simpa using e)
    exact ⟨v, by simpa using h1, h2⟩
  | _, _, _, _, .nil, e => by simp at e
theorem RelL.append : ∀ {ds es : List D} {vs us : List V}, RelL K ρ n x H ds vs → RelL K ρ n x H es us → RelL K ρ n x H (ds ++ es) (vs ++ us)
  | _, _, _, _, .nil, q => q
  | _, _, _, _, .cons r t, q => .cons r (RelL.append t q)
theorem RelL.drop : ∀ {ds : List D} {vs : List V} (i : Nat), RelL K ρ n x H ds vs → RelL K ρ n x H (ds.drop i) (vs.drop i)
  | _, _, 0, q => q
  | _, _, _ + 1, .nil => .nil
  | _, _, i + 1, .cons _ t => RelL.drop i t
theorem RelL.take : ∀ {ds : List D} {vs : List V} (i : Nat), RelL K ρ n x H ds vs → RelL K ρ n x H (ds.take i) (vs.take i)
  | _, _, 0, q => .nil
  | _, _, _ + 1, .nil => .nil
  | _, _, i + 1, .cons r t => .cons r (RelL.take i t)
theorem RelL.set : ∀ {ds : List D} {vs : List V} (i : Nat) {d : D} {v : V}, Rel K ρ n x H d v → RelL K ρ n x H ds vs → RelL K ρ n x H (ds.set i d) (vs.set i v)
  | _, _, _, _, _, _, .nil => .nil
  | _, _, 0, _, _, r, .cons _ t => .cons r t
  | _, _, i + 1, _, _, r, .cons q t => .cons q (RelL.set i r t)
theorem RelL.snoc {ds : List D} {vs : List V} (h : RelL K ρ n x H ds vs) (r : Rel K ρ n x H d v) : RelL K ρ n x H (ds ++ [d]) (vs ++ [v]) := h.append (.cons r .nil)
theorem RelL.reverse : ∀ {ds : List D} {vs : List V}, RelL K ρ n x H ds vs → RelL K ρ n x H ds.reverse vs.reverse
  | _, _, .nil => .nil
  | _, _, .cons r t => by rw [List.reverse_cons, List.reverse_cons]; exact (RelL.reverse t).snoc r

mutual
theorem Rel.map (hn : ∀ i, i < n → i < n' ∧ ρ' i = ρ i) (hT : ∀ a vs, SqT K H a vs → SqT K H' a vs) (hS : ∀ a vs, ScrAt K H a vs → ScrAt K H' a vs) (hL : ∀ a vs, H a = some (.lst vs) → (∀ i, i < n → ρ i ≠ a) → x ≠ some a → a ∉ ρ.av → H' a = some (.lst vs) ∧ (∀ i, i < n' → ρ' i ≠ a) ∧ y ≠ some a ∧ a ∉ ρ'.av) :
    ∀ {d : D} {v : V}, Rel K ρ n x H d v → Rel K ρ' n' y H' d v
  | _, _, .non => .non
  | _, _, .bl b => .bl b
  | _, _, .int i => .int i
  | _, _, .str s => .str s
  | _, _, .tup h r => .tup (hT _ _ h) (RelL.map hn hT hS hL r)
  | _, _, .scr h => .scr (hS _ _ h)
  | _, _, .lv h1 h2 h3 h4 r => let ⟨q1, q2, q3, q4⟩ := hL _ _ h1 h2 h3 h4; .lv q1 q2 q3 q4 (RelL.map hn hT hS hL r)
  | _, _, .ref h => by rw [← (hn _ h).2]; exact .ref (hn _ h).1
theorem RelL.map (hn : ∀ i, i < n → i < n' ∧ ρ' i = ρ i) (hT : ∀ a vs, SqT K H a vs → SqT K H' a vs) (hS : ∀ a vs, ScrAt K H a vs → ScrAt K H' a vs) (hL : ∀ a vs, H a = some (.lst vs) → (∀ i, i < n → ρ i ≠ a) → x ≠ some a → a ∉ ρ.av → H' a = some (.lst vs) ∧ (∀ i, i < n' → ρ' i ≠ a) ∧ y ≠ some a ∧ a ∉ ρ'.av) :
    ∀ {d : List D} {v : List V}, RelL K ρ n x H d v → RelL K ρ' n' y H' d v
  | _, _, .nil => .nil
  | _, _, .cons r t => .cons (Rel.map hn hT hS hL r) (RelL.map hn hT hS hL t)
end
mutual
theorem Rel.shrink {m : Nat} (hm : m ≤ n) : ∀ {d : D} {v : V}, Rel K ρ n x H d v → D.lt m d = true → Rel K ρ m x H d v
  | _, _, .non, _ => .non
  | _, _, .bl b, _ => .bl b
  | _, _, .int i, _ => .int i
  | _, _, .str s, _ => .str s
  | _, _, .scr h, _ => .scr h
  | _, _, .tup h r, e => .tup h (RelL.shrink hm r (by simpa [D.lt] using e))
  | _, _, .lv h1 h2 h3 h4 r, e => .lv h1 (fun i hi => h2 i (Nat.lt_of_lt_of_le hi hm)) h3 h4 (RelL.shrink hm r (by simpa [D.lt] using e))
  | _, _, .ref h, e => .ref (by simpa [D.lt] using e)
theorem RelL.shrink {m : Nat} (hm : m ≤ n) : ∀ {d : List D} {v : List V}, RelL K ρ n x H d v → D.ltL m d = true → RelL K ρ m x H d v
  | _, _, .nil, _ => .nil
  | _, _, .cons r t, e => by
    simp only [D.ltL, D.lt.ltL, Bool.and_eq_true] at e
    exact .cons (Rel.shrink hm r e.1) (RelL.shrink hm t e.2)
end
mutual
theorem Rel.ltn : ∀ {d : D} {v : V}, Rel K ρ n x H d v → D.lt n d = true
  | _, _, .non => rfl
  | _, _, .bl b => rfl
  | _, _, .int i => rfl
  | _, _, .str s => rfl
  | _, _, .scr h => rfl
  | _, _, .tup h r => by simpa [D.lt] using RelL.ltn r
  | _, _, .lv h1 h2 h3 h4 r => by simpa [D.lt] using RelL.ltn r
  | _, _, .ref h => by simpa [D.lt] using h
theorem RelL.ltn : ∀ {d : List D} {v : List V}, RelL K ρ n x H d v → D.ltL n d = true
  | _, _, .nil => rfl
  | _, _, .cons r t => by simp [D.ltL, D.lt.ltL, Rel.ltn r]; exact RelL.ltn t
end
mutual
/-- another address is avoided: it is not there at all -/
theorem Rel.avoid (hy : ∀ a, y = some a → H a = none) : ∀ {d : D} {v : V}, Rel K ρ n x H d v → Rel K ρ n y H d v
  | _, _, .non => .non
  | _, _, .bl b => .bl b
  | _, _, .int i => .int i
  | _, _, .str s => .str s
  | _, _, .scr h => .scr h
  | _, _, .tup h r => .tup h (RelL.avoid hy r)
  | _, _, .lv h1 h2 h3 h4 r => .lv h1 h2 (fun e => by rw [hy _ e] at h1; cases h1) h4 (RelL.avoid hy r)
  | _, _, .ref h => .ref h
theorem RelL.avoid (hy : ∀ a, y = some a → H a = none) : ∀ {d : List D} {v : List V}, RelL K ρ n x H d v → RelL K ρ n y H d v
  | _, _, .nil => .nil
  | _, _, .cons r t => .cons (Rel.avoid hy r) (RelL.avoid hy t)
end
theorem Rel.unavoid (h : Rel K ρ n x H d v) : Rel K ρ n none H d v := h.map (fun _ h => ⟨h, rfl⟩) (fun _ _ h => h) (fun _ _ h => h) fun _ _ h1 h2 _ h4 => ⟨h1, h2, by simp, h4⟩
theorem RelL.unavoid (h : RelL K ρ n x H ds vs) : RelL K ρ n none H ds vs := h.map (fun _ h => ⟨h, rfl⟩) (fun _ _ h => h) (fun _ _ h => h) fun _ _ h1 h2 _ h4 => ⟨h1, h2, by simp, h4⟩

theorem CellRel.there {m : MO} (h : CellRel K ρ n x H a m) : ∃ vs, H a = some (.lst vs) := by
  cases m with
  | lst xs => obtain ⟨vs, h, _⟩ := h; exact ⟨vs, h⟩
theorem Good.lst (g : Good K Ps ρ x H s) {i : Nat} (hi : i < s.n) : ∃ vs, H (ρ i) = some (.lst vs) := by
  have e : s.cells[i]? = some s.cells[i] := List.getElem?_eq_getElem hi
  exact (g.cell i _ e).there
theorem Good.unavoid (g : Good K Ps ρ x H s) : Good K Ps ρ none H s := by
  refine ⟨g.inj, fun i o e => ?_, g.clean, g.bl, g.tb, g.xt⟩
  have q := g.cell i o e
  cases o with
  | lst xs => obtain ⟨vs, h1, h2⟩ := q; exact ⟨vs, h1, h2.unavoid⟩
theorem Good.nlist (g : Good K Ps ρ x H s) {i : Nat} (hi : i < s.n) : ρ i ≠ a ∨ ∃ vs, H a = some (.lst vs) := by
  by_cases e : ρ i = a
  · exact .inr (e ▸ g.lst hi)
  · exact .inl e

theorem SqT.ext (g : Good K Ps ρ x H s) (e : Ext K ρ H s ρ' H' s') {a : Addr} {vs : List V} (h : SqT K H a vs) : SqT K H' a vs := by
  rcases h with (h | ⟨o, h⟩) | h
  · exact .inl (.inl (e.keep a _ h (fun i hi q => by obtain ⟨us, z⟩ := g.lst hi; rw [q, h] at z; cases z) trivial))
  · exact .inl (.inr ⟨o, e.keep a _ h (fun i hi q => by obtain ⟨us, z⟩ := g.lst hi; rw [q, h] at z; cases z) trivial⟩)
  · exact .inr h
theorem ScrAt.ext (g : Good K Ps ρ x H s) (e : Ext K ρ H s ρ' H' s') {a : Addr} {vs : List V} (h : ScrAt K H a vs) : ScrAt K H' a vs := by
  rcases h with ⟨o, h⟩ | h
  · exact .inl ⟨o, e.keep a _ h (fun i hi q => by obtain ⟨us, z⟩ := g.lst hi; rw [q, h] at z; cases z) trivial⟩
  · exact .inr h
theorem lst_ext (e : Ext K ρ H s ρ' H' s') {a : Addr} {vs : List V} (h : H a = some (.lst vs)) (hn : ∀ i, i < s.n → ρ i ≠ a) : H' a = some (.lst vs) ∧ ∀ i, i < s'.n → ρ' i ≠ a := by
  refine ⟨e.keep a _ h hn trivial, fun i hi q => ?_⟩
  by_cases hs : i < s.n
  · rw [e.same i hs] at q; exact hn i hs q
  · have f1 := e.fresh i (by omega) hi
    rw [q, h] at f1; cases f1
theorem Rel.ext (g : Good K Ps ρ none H s) (e : Ext K ρ H s ρ' H' s') (h : Rel K ρ s.n none H d v) : Rel K ρ' s'.n none H' d v :=
  h.map (fun i hi => ⟨Nat.lt_of_lt_of_le hi e.le, e.same i hi⟩) (fun _ _ h => SqT.ext g e h) (fun _ _ h => ScrAt.ext g e h) fun _ _ h1 h2 _ h4 => let ⟨q1, q2⟩ := lst_ext (K := K) e h1 h2; ⟨q1, q2, by simp, by rw [e.av]; exact h4⟩
theorem RelL.ext (g : Good K Ps ρ none H s) (e : Ext K ρ H s ρ' H' s') (h : RelL K ρ s.n none H ds vs) : RelL K ρ' s'.n none H' ds vs :=
  h.map (fun i hi => ⟨Nat.lt_of_lt_of_le hi e.le, e.same i hi⟩) (fun _ _ h => SqT.ext g e h) (fun _ _ h => ScrAt.ext g e h) fun _ _ h1 h2 _ h4 => let ⟨q1, q2⟩ := lst_ext (K := K) e h1 h2; ⟨q1, q2, by simp, by rw [e.av]; exact h4⟩

theorem Ext.refl : Ext K ρ H s ρ H s := ⟨rfl, rfl, Nat.le_refl _, fun _ _ => rfl, fun _ _ h _ _ => h, fun i h1 h2 => absurd h2 (by omega), fun _ h => h, fun l h => ⟨l, h, Nat.le_refl _⟩, fun i o o' h1 h2 => .inl (by rw [h1] at h2; cases h2; rfl)⟩
theorem Ext.trans (e1 : Ext K ρ H s ρ1 H1 s1) (e2 : Ext K ρ1 H1 s1 ρ2 H2 s2) : Ext K ρ H s ρ2 H2 s2 where
  base := e2.base.trans e1.base
  av := e2.av.trans e1.av
  le := Nat.le_trans e1.le e2.le
  same := fun i h => (e2.same i (Nat.lt_of_lt_of_le h e1.le)).trans (e1.same i h)
  keep := fun a o h hn ht => e2.keep a o (e1.keep a o h hn ht) (fun i hi q => by
    by_cases hs : i < s.n
    · rw [e1.same i hs] at q; exact hn i hs q
    · have f := e1.fresh i (by omega) hi
      rw [q, h] at f; cases f) ht
  fresh := fun i h1 h2 => by
    by_cases hs : i < s1.n
    · have f := e1.fresh i h1 hs
      rw [e2.same i hs]; exact f
    · have f := e2.fresh i (by omega) h2
      cases q : H (ρ2 i) with
      | none => rfl
      | some o => exact absurd f (e1.there _ (by rw [q]; simp))
  there := fun a h => e2.there a (e1.there a h)
  upm := fun l h => by
    obtain ⟨l1, h1, h2⟩ := e1.upm l h
    obtain ⟨l2, h3, h4⟩ := e2.upm l1 h1
    exact ⟨l2, h3, Nat.le_trans h4 h2⟩
  chg := fun i o o' h1 h2 => by
    have hi : i < s1.n := Nat.lt_of_lt_of_le (List.getElem?_eq_some_iff.mp h1).1 e1.le
    have q : s1.cells[i]? = some s1.cells[i] := List.getElem?_eq_getElem hi
    rcases e2.chg i _ o' q h2 with e | e | e
    · subst e
      rcases e1.chg i o _ h1 q with e | e | ⟨l, e, z⟩
      · exact .inl e
      · exact .inr (.inl e)
      · obtain ⟨l', e', z'⟩ := e2.upm l e
        exact .inr (.inr ⟨l', e', Nat.le_trans z' z⟩)
    · exact .inr (.inl e)
    · exact .inr (.inr e)
/-- the heap grows at a free place -/
theorem Ext.new (hp : H a = none) : Ext K ρ H s ρ (upd H a o) s :=
  ⟨rfl, rfl, Nat.le_refl _, fun _ _ => rfl, fun b u h _ _ => by rw [upd_ne (ne_of_none h hp)]; exact h, fun i h1 h2 => absurd h2 (by omega), fun b h => by
    by_cases e : b = a
    · rw [e, upd_same]; simp
    · rw [upd_ne e]; exact h, fun l h => ⟨l, h, Nat.le_refl _⟩, fun i o o' h1 h2 => .inl (by rw [h1] at h2; cases h2; rfl)⟩
/-- the same store over another heap -/
theorem Good.over (g : Good K Ps ρ none H s) (e : Ext K ρ H s ρ H' s) (hc : ∀ i, i < s.n → H' (ρ i) = H (ρ i)) (tb : ∀ P ∈ Ps, ∃ ps : Array Value, H' P = some (.tbl ps) ∧ TriplesOk ps.toList) : Good K Ps ρ none H' s := by
  refine ⟨g.inj, fun i o q => ?_, g.clean, g.bl, tb, fun a h => e.there a (g.xt a h)⟩
  have hi : i < s.n := (List.getElem?_eq_some_iff.mp q).1
  have z := g.cell i o q
  cases o with
  | lst xs => obtain ⟨vs, h1, h2⟩ := z; exact ⟨vs, by rw [hc i hi]; exact h1, h2.ext g e⟩
theorem Good.new (g : Good K Ps ρ none H s) (hp : H a = none) : Good K Ps ρ none (upd H a o) s := by
  refine g.over (Ext.new hp) (fun i hi => ?_) fun P hP => ?_
  · obtain ⟨vs, q⟩ := g.lst hi
    exact upd_ne (ne_of_none q hp)
  · obtain ⟨ps, q, t⟩ := g.tb P hP
    exact ⟨ps, by rw [upd_ne (ne_of_none q hp)]; exact q, t⟩

/-- a result's value -/
def OkR (K : Fr) (Ps : List Addr) (H : Hp) (ρ' : Rh) (H' : Hp) (s' : S) : D → V → Prop
  | .lv true xs, v => ∃ a vs, v = .ref a ∧ H a = none ∧ H' a = some (.lst vs) ∧ (∀ i, i < s'.n → ρ' i ≠ a) ∧ a ∉ ρ'.av ∧ Good K Ps ρ' (some a) H' s' ∧ RelL K ρ' s'.n (some a) H' xs vs
  | d, v => Good K Ps ρ' none H' s' ∧ Rel K ρ' s'.n none H' d v
theorem OkR.of (hd : ∀ xs, d ≠ .lv true xs) (g : Good K Ps ρ' none H' s') (r : Rel K ρ' s'.n none H' d v) : OkR K Ps H ρ' H' s' d v := by
  cases d with
  | lv o xs =>
    cases o with
    | true => exact absurd rfl (hd xs)
    | false => exact ⟨g, r⟩
  | _ => exact ⟨g, r⟩
theorem OkR.good (h : OkR K Ps H ρ' H' s' d v) : Good K Ps ρ' none H' s' := by
  cases d with
  | lv o xs =>
    cases o with
    | true => obtain ⟨_, _, _, _, _, _, _, g, _⟩ := h; exact g.unavoid
    | false => exact h.1
  | _ => exact h.1
theorem OkR.frz (h : OkR K Ps H ρ' H' s' d v) : Rel K ρ' s'.n none H' d.frz v := by
  cases d with
  | lv o xs =>
    cases o with
    | true =>
      obtain ⟨a, vs, rfl, hz, q, hn, hv, g, r⟩ := h
      exact .lv q hn (by simp) hv r.unavoid
    | false => exact h.2
  | _ => exact h.2
theorem OkR.weak (hw : ∀ a, H1 a = none → H a = none) (h : OkR K Ps H1 ρ' H' s' d v) : OkR K Ps H ρ' H' s' d v := by
  cases d with
  | lv o xs =>
    cases o with
    | true => obtain ⟨a, vs, e, h1, h2⟩ := h; exact ⟨a, vs, e, hw a h1, h2⟩
    | false => exact h
  | _ => exact h
/-- a value to be read: lists wherever they are -/
def RelRd (K : Fr) (ρ : Rh) (n : Nat) (H : Hp) : D → V → Prop
  | .lv _ xs, v => ∃ a vs, v = .ref a ∧ H a = some (.lst vs) ∧ RelL K ρ n none H xs vs
  | d, v => Rel K ρ n none H d v
theorem RelRd.of (h : Rel K ρ n none H d v) : RelRd K ρ n H d v := by
  cases h with
  | lv h1 h2 h3 h4 r => exact ⟨_, _, rfl, h1, r⟩
  | non => exact .non
  | bl b => exact .bl b
  | int i => exact .int i
  | str s => exact .str s
  | tup h r => exact .tup h r
  | ref h => exact .ref h
  | scr h => exact .scr h
theorem Rel.rd (g : Good K Ps ρ none H s) (h : Rel K ρ s.n none H d.frz v) : RelRd K ρ s.n H (d.rd s) v := by
  cases d with
  | ref m =>
    have h' : Rel K ρ s.n none H (.ref m) v := h
    cases h' with
    | ref hm =>
      have e : s.cells[m]? = some s.cells[m] := List.getElem?_eq_getElem hm
      have q := g.cell m _ e
      generalize s.cells[m] = o at e q
      cases o with
      | lst xs =>
        obtain ⟨vs, q1, q2⟩ := q
        have z : (D.ref m).rd s = .lv false xs := by simp [D.rd, e]
        rw [z]
        exact ⟨_, vs, rfl, q1, q2⟩
  | lv o xs =>
    have h' : Rel K ρ s.n none H (.lv false xs) v := h
    cases h' with
    | lv h1 h2 h3 h4 r => exact ⟨_, _, rfl, h1, r⟩
  | _ => exact RelRd.of (show Rel K ρ s.n none H _ v from h)
theorem OkR.rd (h : OkR K Ps H ρ' H' s' d v) : RelRd K ρ' s'.n H' (d.rd s') v := Rel.rd h.good h.frz

/-- names -/
def EnvRel (K : Fr) (ρ : Rh) (n : Nat) (H : Hp) (σ : L2.St) (e : Env) : Prop := ∀ i d, getV e i = some d → ∃ v, σ[i]? = some (some v) ∧ Rel K ρ n none H d v
theorem EnvRel.ext {σ : L2.St} {e : Env} (g : Good K Ps ρ none H s) (x : Ext K ρ H s ρ' H' s') (h : EnvRel K ρ s.n H σ e) : EnvRel K ρ' s'.n H' σ e := fun i d q => by
  obtain ⟨v, h1, h2⟩ := h i d q
  exact ⟨v, h1, h2.ext g x⟩

def Post (K : Fr) (Ps : List Addr) (ρ : Rh) (H : Hp) (s : S) (r : R D) (Q : VK) (XQ : Nat → Hp → Prop) : Prop := match r with
  | .ok d s' => ∀ ρ' H' v, Ext K ρ H s ρ' H' s' → OkR K Ps H ρ' H' s' d v → Q v H'
  | .exc c s' => ∀ ρ' H', Ext K ρ H s ρ' H' s' → Good K Ps ρ' none H' s' → XQ c H'
  | .bad => False
theorem Post.shift {r : R D} {Q : VK} {XQ : Nat → Hp → Prop} (e : Ext K ρ H s ρ1 H1 s1) (p : Post K Ps ρ H s r Q XQ) : Post K Ps ρ1 H1 s1 r Q XQ := by
  cases r with
  | ok d s' => exact fun ρ' H' v e' o => p ρ' H' v (e.trans e') (o.weak fun a h => Classical.byContradiction fun q => e.there a q h)
  | exc c s' => exact fun ρ' H' e' g => p ρ' H' (e.trans e') g
  | bad => exact p
/-- the same over any result type -/
def PostG {α : Type} (K : Fr) (Ps : List Addr) (ρ : Rh) (H : Hp) (s : S) (r : R α) (G : α → S → (Rh) → Hp → Prop) (XQ : Nat → Hp → Prop) : Prop := match r with
  | .ok d s' => ∀ ρ' H', Ext K ρ H s ρ' H' s' → G d s' ρ' H'
  | .exc c s' => ∀ ρ' H', Ext K ρ H s ρ' H' s' → Good K Ps ρ' none H' s' → XQ c H'
  | .bad => False
/-- first one, then the other -/
theorem Post.bind {r : R D} {f : D → S → R D} {Q Q1 : VK} {XQ : Nat → Hp → Prop} (p : Post K Ps ρ H s (r.bind f) Q XQ)
    (h : ∀ d s1 ρ1 H1 v, Ext K ρ H s ρ1 H1 s1 → OkR K Ps H ρ1 H1 s1 d v → Post K Ps ρ1 H1 s1 (f d s1) Q XQ → Q1 v H1) : Post K Ps ρ H s r Q1 XQ := by
  cases r with
  | ok d s' => exact fun ρ' H' v e o => h d s' ρ' H' v e o (Post.shift e p)
  | exc c s' => exact p
  | bad => exact p
theorem Post.opt {o : Option D} {Q : VK} {XQ : Nat → Hp → Prop} (p : Post K Ps ρ H s (R.opt o s1) Q XQ) : ∃ d, o = some d ∧ Post K Ps ρ H s (.ok d s1) Q XQ := by
  cases o with
  | none => exact p.elim
  | some d => exact ⟨d, rfl, p⟩
theorem Post.optb {α : Type} {o : Option α} {f : α → S → R D} {Q : VK} {XQ : Nat → Hp → Prop} (p : Post K Ps ρ H s ((R.opt o s1).bind f) Q XQ) : ∃ d, o = some d ∧ Post K Ps ρ H s (f d s1) Q XQ := by
  cases o with
  | none => exact p.elim
  | some d => exact ⟨d, rfl, p⟩
/-- the state stays, a value that is there -/
theorem Post.val {Q : VK} {XQ : Nat → Hp → Prop} (p : Post K Ps ρ H s (.ok d s) Q XQ) (g : Good K Ps ρ none H s) (hd : ∀ xs, d ≠ .lv true xs) (r : Rel K ρ s.n none H d v) : Q v H :=
  p ρ H v Ext.refl (.of hd g r)
/-- .. a new tuple -/
theorem Post.newT {Q : VK} {XQ : Nat → Hp → Prop} (p : Post K Ps ρ H s (.ok (.tup ds) s) Q XQ) (g : Good K Ps ρ none H s) (hp : H a = none) (r : RelL K ρ s.n none H ds vs) : Q (.ref a) (upd H a (.tup vs)) :=
  p ρ _ _ (Ext.new hp) (.of (by simp) (g.new hp) (.tup (.of upd_same) (r.ext g (Ext.new hp))))
/-- .. a new list -/
theorem Post.newL {Q : VK} {XQ : Nat → Hp → Prop} (p : Post K Ps ρ H s (.ok (.lv true ds) s) Q XQ) (g : Good K Ps ρ none H s) (hp : H a = none) (r : RelL K ρ s.n none H ds vs) : Q (.ref a) (upd H a (.lst vs)) := by
  have ha : ∀ b, some a = some b → H b = none := fun b e => by cases e; exact hp
  have avL : ∀ {d : List D} {v : List V}, RelL K ρ s.n none H d v → RelL K ρ s.n (some a) (upd H a (.lst vs)) d v := fun {d v} r => (r.avoid ha).map (fun i hi => ⟨hi, rfl⟩) (fun _ _ h => SqT.ext g (Ext.new hp) h) (fun _ _ h => ScrAt.ext g (Ext.new hp) h) fun _ _ h1 h2 h3 h4 => let ⟨q1, q2⟩ := lst_ext (K := K) (Ext.new hp) h1 h2; ⟨q1, q2, h3, h4⟩
  have hne : ∀ i, i < s.n → ρ i ≠ a := fun i hi => by
    obtain ⟨us, q⟩ := g.lst hi
    exact ne_of_none q hp
  refine p ρ _ _ (Ext.new hp) ⟨a, vs, rfl, hp, upd_same, hne, fun q => g.xt a q hp, ⟨g.inj, fun i o e => ?_, g.clean, g.bl, fun P hP => ?_, fun b q => (Ext.new (K := K) (ρ := ρ) (s := s) (o := .lst vs) hp).there b (g.xt b q)⟩, avL r⟩
  · have q := g.cell i o e
    have hi : i < s.n := (List.getElem?_eq_some_iff.mp e).1
    cases o with
    | lst xs =>
      obtain ⟨us, q1, q2⟩ := q
      exact ⟨us, by rw [upd_ne (hne i hi)]; exact q1, avL q2⟩
  · obtain ⟨ps, q, t⟩ := g.tb P hP
    exact ⟨ps, by rw [upd_ne (ne_of_none q hp)]; exact q, t⟩
end

abbrev XC := Nat → Value
/-- the reading: W: what is wanted of an exception, cl: its classes -/
def TX (K : Fr) (Ps : List Addr) (cl : XC) (W : WX) (f : Env → S → R D) : TE := fun σ H Q => ∃ ρ e s, Good K Ps ρ none H s ∧ EnvRel K ρ s.n H σ e ∧ Post K Ps ρ H s (f e s) Q fun c H' => W (cl c) none σ H'
theorem PE.imp {X : Cx} {e : Expr} {t t' : TE} (h : PE X e t) (i : ∀ σ H Q, t' σ H Q → t σ H Q) : PE X e t' := ⟨fun pins s σ H Q I q => h.run pins s σ H Q I (i σ H Q q)⟩
theorem PT.imp {X : Cx} {e : Expr} {t t' : TT} (h : PT X e t) (i : ∀ σ H Q, t' σ H Q → t σ H Q) : PT X e t' := ⟨fun pins s σ H Q I q => h.run pins s σ H Q I (i σ H Q q)⟩
theorem PW.imp {X : Cx} {e : Expr} {t t' : TT} (h : PW X e t) (i : ∀ σ H Q, t' σ H Q → t σ H Q) : PW X e t' := ⟨fun wh pins s σ H Q I q => h.run wh pins s σ H Q I (i σ H Q q)⟩
theorem PA.imp {X : Cx} {e : List Expr} {t t' : TA} (h : PA X e t) (i : ∀ σ H Q, t' σ H Q → t σ H Q) : PA X e t' := ⟨fun ps pins s σ H Q I q => h.run ps pins s σ H Q I (i σ H Q q)⟩
theorem PS.imp {X : Cx} {e : Stmt} {t t' : TS} (h : PS X e t) (i : ∀ D σ H, t' D σ H → t D σ H) : PS X e t' := ⟨fun pins s σ H Q I q => h.run pins s σ H Q I (i Q σ H q)⟩
theorem PSs.imp {X : Cx} {e : List Stmt} {t t' : TS} (h : PSs X e t) (i : ∀ D σ H, t' D σ H → t D σ H) : PSs X e t' := ⟨fun pins s σ H Q I q => h.run pins s σ H Q I (i Q σ H q)⟩
theorem PG.imp {X : Cx} {e : Expr} {t t' : TG} (h : PG X e t) (i : ∀ v σ H Q, t' v σ H Q → t v σ H Q) : PG X e t' := ⟨fun pins s σ H v u Q I r q => h.run pins s σ H v u Q I r (i v σ H Q q)⟩
theorem PI.imp {X : Cx} {tg e : Expr} {t t' : TI} (h : PI X tg e t) (i : ∀ σ H Q, t' σ H Q → t σ H Q) : PI X tg e t' := ⟨fun pins s σ H Q I q => h.run pins s σ H Q I (i σ H Q q)⟩
end L3
end

section -- I3
set_option autoImplicit false
set_option linter.all false
set_option maxRecDepth 100000
set_option maxHeartbeats 1000000
namespace L3
open PySem PySem.Spec PyProof.Rows L2

theorem toS_len (s : List Nat) : (toS s).length = s.length := by simp [toS, Str.length]
theorem toS_cps (s : List Nat) : (toS s).cps.toList = s := by simp [toS]
theorem toS_app (a b : List Nat) : toS a ++ toS b = toS (a ++ b) := by
  show Str.append _ _ = _
  simp [toS, Str.append]
theorem toS_inj {a b : List Nat} (h : toS a = toS b) : a = b := by
  have := congrArg (fun z => z.cps.toList) h
  simpa [toS] using this
theorem toS_beq (a b : List Nat) : (toS a == toS b) = (a == b) := by
  rw [Bool.eq_iff_iff]
  simp only [beq_iff_eq]
  exact ⟨toS_inj, fun h => by rw [h]⟩
theorem big_eq : big = sizeLine := by rw [sizeLine_eq]; rfl

def D.toP : D → PyData
  | .non => .none
  | .bl b => .bool b
  | .int i => .int i
  | .str s => .str (toS s)
  | .tup xs => .tuple (toPL xs)
  | .lv _ xs => .list (toPL xs)
  | _ => .none
where toPL : List D → List PyData
  | [] => []
  | x :: xs => D.toP x :: toPL xs
abbrev D.toPL := D.toP.toPL
section
variable {K : Fr} {ρ : Rh} {n : Nat} {H : Hp}
mutual
theorem Rel.dp {m : Nat} : ∀ {d : D} {v : V}, Rel K ρ n none H d v → D.fit m d = true → Dp K H v d.toP
  | _, _, .non, _ => .non
  | _, _, .bl b, _ => .bl b
  | _, _, .int i, _ => .int i
  | _, _, .str s, _ => .str _
  | _, _, .tup h r, e => by
    cases m with
    | zero => simp [D.fit] at e
    | succ m => exact .tup h (RelL.dp r (m := m) (by simpa [D.fit] using e))
  | _, _, .lv h1 h2 h3 h4 r, e => by
    cases m with
    | zero => simp [D.fit] at e
    | succ m => exact .lst (.of h1) (RelL.dp r (m := m) (by simpa [D.fit] using e))
  | _, _, .ref h, e => by cases m <;> simp [D.fit] at e
  | _, _, .scr h, e => by cases m <;> simp [D.fit] at e
theorem RelL.dp {m : Nat} : ∀ {d : List D} {v : List V}, RelL K ρ n none H d v → D.fitL m d = true → DpAll K H v (D.toPL d)
  | _, _, .nil, _ => .nil
  | _, _, .cons r t, e => by
    simp only [D.fitL, D.fit.fitL, Bool.and_eq_true] at e
    exact .cons (Rel.dp r e.1) (RelL.dp t e.2)
end
theorem RelRd.dp {m : Nat} {d : D} {v : V} (h : RelRd K ρ n H d v) (e : D.fit m d = true) : Dp K H v d.toP := by
  cases d with
  | lv o xs =>
    obtain ⟨a, vs, rfl, h1, r⟩ := h
    cases m with
    | zero => simp [D.fit] at e
    | succ m => exact .lst (.of h1) (r.dp (m := m) (by simpa [D.fit] using e))
  | _ => exact Rel.dp (show Rel K ρ n none H _ v from h) e
end
theorem okS_ok {s : List Nat} (h : okS s = true) : PySem.PyData.strOk (toS s) = true := by
  simp only [PySem.PyData.strOk, toS]
  simpa [okS] using h
mutual
theorem toP_lay : ∀ (d : D) (m : Nat), d.fit m = true → d.toP.canLay0 = true
  | .non, _, _ => rfl
  | .bl _, _, _ => rfl
  | .int _, _, _ => rfl
  | .str s, m, h => by
    have h' : okS s = true := by cases m <;> simpa [D.fit] using h
    simpa [D.toP, PyData.canLay0] using okS_ok h'
  | .tup xs, m, h => by
    cases m with
    | zero => simp [D.fit] at h
    | succ m => simp [D.toP, PyData.canLay0]; exact toPL_lay xs m (by simpa [D.fit] using h)
  | .lv _ xs, m, h => by
    cases m with
    | zero => simp [D.fit] at h
    | succ m => simp [D.toP, PyData.canLay0]; exact toPL_lay xs m (by simpa [D.fit] using h)
  | .ref _, _, _ => rfl
  | .scr _, _, _ => rfl
theorem toPL_lay : ∀ (d : List D) (m : Nat), D.fitL m d = true → PyData.canLayAll0 (D.toPL d) = true
  | [], _, _ => rfl
  | x :: xs, m, h => by
    simp only [D.fitL, D.fit.fitL, Bool.and_eq_true] at h
    simp [D.toPL, D.toP.toPL, PyData.canLayAll0, toP_lay x m h.1]; exact toPL_lay xs m h.2
end
mutual
theorem toP_depth : ∀ (d : D) (m : Nat), d.fit m = true → d.toP.depth ≤ m
  | .non, m, _ => by simp [D.toP, PyData.depth]
  | .bl _, m, _ => by simp [D.toP, PyData.depth]
  | .int _, m, _ => by simp [D.toP, PyData.depth]
  | .str _, m, _ => by simp [D.toP, PyData.depth]
  | .tup xs, m, h => by
    cases m with
    | zero => simp [D.fit] at h
    | succ m => have := toPL_depth xs m (by simpa [D.fit] using h); simp [D.toP, PyData.depth]; exact this
  | .lv _ xs, m, h => by
    cases m with
    | zero => simp [D.fit] at h
    | succ m => have := toPL_depth xs m (by simpa [D.fit] using h); simp [D.toP, PyData.depth]; exact this
  | .ref _, m, h => by simp [D.toP, PyData.depth]
  | .scr _, m, h => by simp [D.toP, PyData.depth]
theorem toPL_depth : ∀ (d : List D) (m : Nat), D.fitL m d = true → PyData.depthAll (D.toPL d) ≤ m
  | [], m, _ => by simp [D.toPL, D.toP.toPL, PyData.depthAll]
  | x :: xs, m, h => by
    simp only [D.fitL, D.fit.fitL, Bool.and_eq_true] at h
    have h1 := toP_depth x m h.1
    have h2 := toPL_depth xs m h.2
    simp only [D.toPL, D.toP.toPL, PyData.depthAll]
    exact Nat.max_le.mpr ⟨h1, h2⟩
end
theorem toP_shaped {d : D} (h : d.fit 64 = true) : SeqAt.shaped d.toP = true := by
  simp only [SeqAt.shaped, Bool.and_eq_true, decide_eq_true_eq]
  exact ⟨toP_lay d 64 h, toP_depth d 64 h⟩
mutual
theorem toP_eqv {m m' : Nat} : ∀ (a b : D), a.fit m = true → b.fit m' = true → PyData.eqv a.toP b.toP = a.eqv b
  | .non, b, h1, h2 => by cases b <;> first | rfl | (cases m' <;> simp [D.fit] at h2)
  | .bl a, b, h1, h2 => by
    cases b <;> first
      | (simp only [D.toP, PyData.eqv, D.eqv]; rw [Bool.eq_iff_iff]; simp; done)
      | rfl
      | (cases m' <;> simp [D.fit] at h2; done)
  | .int a, b, h1, h2 => by
    cases b <;> first
      | (simp only [D.toP, PyData.eqv, D.eqv]; rw [Bool.eq_iff_iff]; simp; done)
      | rfl
      | (cases m' <;> simp [D.fit] at h2; done)
  | .str a, b, h1, h2 => by
    cases b <;> first
      | (simp only [D.toP, PyData.eqv, D.eqv]; exact toS_beq _ _)
      | rfl
      | (cases m' <;> simp [D.fit] at h2; done)
  | .tup a, b, h1, h2 => by
    cases b <;> first | rfl | (cases m' <;> simp [D.fit] at h2; done) | skip
    case tup b =>
      cases m with
      | zero => simp [D.fit] at h1
      | succ m =>
        cases m' with
        | zero => simp [D.fit] at h2
        | succ m' => simp only [D.toP, PyData.eqv, D.eqv]; exact toPL_eqv a b (by simpa [D.fit] using h1) (by simpa [D.fit] using h2)
  | .lv o a, b, h1, h2 => by
    cases b <;> first | rfl | (cases m' <;> simp [D.fit] at h2; done) | skip
    case lv p b =>
      cases m with
      | zero => simp [D.fit] at h1
      | succ m =>
        cases m' with
        | zero => simp [D.fit] at h2
        | succ m' => simp only [D.toP, PyData.eqv, D.eqv]; exact toPL_eqv a b (by simpa [D.fit] using h1) (by simpa [D.fit] using h2)
  | .ref _, b, h1, h2 => by cases m <;> simp [D.fit] at h1
  | .scr _, b, h1, h2 => by cases m <;> simp [D.fit] at h1
theorem toPL_eqv {m m' : Nat} : ∀ (a b : List D), D.fitL m a = true → D.fitL m' b = true → PyData.eqvAll (D.toPL a) (D.toPL b) = D.eqvL a b
  | [], [], _, _ => rfl
  | [], _ :: _, _, _ => rfl
  | _ :: _, [], _, _ => rfl
  | a :: as, b :: bs, h1, h2 => by
    simp only [D.fitL, D.fit.fitL, Bool.and_eq_true] at h1 h2
    have e1 := toP_eqv a b h1.1 h2.1
    have e2 := toPL_eqv as bs h1.2 h2.2
    simp only [D.toPL, D.toP.toPL, PyData.eqvAll, D.eqvL, D.eqv.eqvL]
    rw [e1]
    exact congrArg _ e2
end
theorem toPL_any {m m' : Nat} (a : D) (h : a.fit m = true) : ∀ (xs : List D), D.fitL m' xs = true → ((D.toPL xs).any fun z => PyData.eqv z a.toP) = xs.any fun z => z.eqv a
  | [], _ => rfl
  | x :: xs, h2 => by
    simp only [D.fitL, D.fit.fitL, Bool.and_eq_true] at h2
    simp only [D.toPL, D.toP.toPL, List.any_cons]
    rw [toP_eqv x a h2.1 h]
    exact congrArg _ (toPL_any a h xs h2.2)

theorem strLt_eq : ∀ (a b : List Nat), strLt a b = decide (a < b)
  | [], [] => by simp [strLt]
  | [], _ :: _ => by simp [strLt]
  | _ :: _, [] => by simp [strLt]
  | a :: as, b :: bs => by
    simp only [strLt]
    by_cases h : a = b
    · subst h
      rw [if_pos rfl, strLt_eq as bs]
      simp [List.cons_lt_cons_iff]
    · rw [if_neg h]
      rw [Bool.eq_iff_iff]
      simp [List.cons_lt_cons_iff, h]

section
variable {X : Cx}
/-- x in t, t a tuple of data -/
def rInTD (K : Fr) (neg : Bool) : R2 := fun x y H Q => ∃ d ds, Dp K H x d ∧ Dp K H y (.tuple ds) ∧ SeqAt.shaped d = true ∧ SeqAt.shaped (.tuple ds) = true ∧ Q (.bl (neg.xor (ds.any fun z => PyData.eqv z d))) H
theorem op_inTD (hu : X.A.units + 65 < cLine) : OpR X (compareOp .In) (rInTD X.K false) := by
  intro pins s σ H x y v u Q I rx ry h
  obtain ⟨d, ds, hd, he, sd, se, q⟩ := h
  obtain ⟨as, r1⟩ := Dp.reads I d x v hd rx
  obtain ⟨bs, r2⟩ := Dp.reads I (.tuple ds) y u he ry
  exact SeqAt.in_tuple_reads r2 r1 (SeqAt.canLay_of_shaped se) (SeqAt.canLay_of_shaped sd) (room_in_shaped sd hu) ⟨.bl _, H, I, rfl, by simpa using q⟩
theorem op_notInTD (hu : X.A.units + 65 < cLine) : OpR X (compareOp .NotIn) (rInTD X.K true) := by
  intro pins s σ H x y v u Q I rx ry h
  obtain ⟨d, ds, hd, he, sd, se, q⟩ := h
  obtain ⟨as, r1⟩ := Dp.reads I d x v hd rx
  obtain ⟨bs, r2⟩ := Dp.reads I (.tuple ds) y u he ry
  exact SeqAt.notIn_tuple_reads r2 r1 (SeqAt.canLay_of_shaped se) (SeqAt.canLay_of_shaped sd) (room_in_shaped sd hu) ⟨.bl _, H, I, rfl, by simpa using q⟩
end

/-- a rule for two data: the answer is the operation's -/
def rD2 (K : Fr) (f : D → D → Option D) : R2 := fun x y H Q => ∃ Ps ρ s dx dy d XQ, Good K Ps ρ none H s ∧ RelRd K ρ s.n H dx x ∧ RelRd K ρ s.n H dy y ∧ f dx dy = some d ∧ Post K Ps ρ H s (.ok d s) Q XQ
def Op2.py : Op2 → Operator
  | .add => .Add | .sub => .Sub | .mul => .Mult | .fdiv => .FloorDiv | .mod => .Mod | .pow => .Pow
theorem wide_of {i : Int} (h : wide i = true) : -(2 ^ 64) < i ∧ i < 2 ^ 64 := by
  unfold wide at h
  have := Nat.blt_eq.mp h
  omega
theorem op_bin {X : Cx} (op : Op2) : OpR X (binaryOp op.py) (rD2 X.K (bin2 op)) := by
  intro pins s σ H x y v u Q I rx ry h
  obtain ⟨Ps, ρ, st, dx, dy, d, XQ, g, hx, hy, e, p⟩ := h
  have num : ∀ {i j k : Int} {r : R2}, OpR X (binaryOp op.py) r → d = .int k → x = .int i → y = .int j → (Q (.int k) H → r (.int i) (.int j) H Q) → wpAny (model X.prog X.w) X.A (binaryOp op.py v u) (EP X pins σ Q) X.xe s := by
    intro i j k r o e1 e2 e3 q
    subst e1 e2 e3
    exact o pins s σ H _ _ v u Q I rx ry (q (p.val g (by simp) (.int _)))
  cases op with
  | add =>
    cases dx with
    | int i =>
      cases dy with
      | int j => cases hx; cases hy; exact num op_add (by simpa [bin2] using e.symm) rfl rfl fun q => ⟨i, j, rfl, rfl, q⟩
      | _ => simp [bin2] at e
    | str a =>
      cases dy with
      | str b =>
        cases hx; cases hy
        simp only [bin2] at e
        split at e
        · rename_i hz
          cases e
          refine op_add_str pins s σ H _ _ v u Q I rx ry ⟨_, _, rfl, rfl, ?_, ?_⟩
          · rw [toS_len, toS_len, ← big_eq]; exact hz
          · rw [toS_app]; exact p.val g (by simp) (.str _)
        · cases e
      | _ => simp [bin2] at e
    | tup a =>
      cases dy with
      | tup b =>
        obtain ⟨A, as, rfl, ha, la⟩ : ∃ A as, x = .ref A ∧ SqT X.K H A as ∧ RelL X.K ρ st.n none H a as := by cases hx; exact ⟨_, _, rfl, ‹_›, ‹_›⟩
        obtain ⟨B, bs, rfl, hb, lb⟩ : ∃ A as, y = .ref A ∧ SqT X.K H A as ∧ RelL X.K ρ st.n none H b as := by cases hy; exact ⟨_, _, rfl, ‹_›, ‹_›⟩
        simp only [bin2] at e
        split at e
        · rename_i hz
          cases e
          refine op_catA pins s σ H _ _ v u Q I rx ry ⟨A, B, as, bs, rfl, rfl, ha, hb, ?_, ?_, ?_, ?_⟩
          · rw [← la.length, ← lb.length, ← big_eq]; exact hz
          · intro h0
            subst h0
            have : a = [] := by cases la; rfl
            subst this
            exact p.val g (by simp) (.tup hb lb)
          · intro _ h0
            subst h0
            have : b = [] := by cases lb; rfl
            subst this
            refine p.val g (by simp) (.tup ha ?_)
            rw [List.append_nil]; exact la
          · intro _ _ q hq
            exact p.newT g hq (la.append lb)
        · cases e
      | _ => simp [bin2] at e
    | lv o a =>
      cases dy with
      | lv o' b =>
        obtain ⟨A, as, rfl, ha, la⟩ := hx
        obtain ⟨B, bs, rfl, hb, lb⟩ := hy
        simp only [bin2] at e
        split at e
        · rename_i hz
          cases e
          refine op_cat pins s σ H _ _ v u Q I rx ry ⟨A, B, as, bs, rfl, rfl, ha, hb, ?_, fun q hq => p.newL g hq (la.append lb)⟩
          rw [← la.length, ← lb.length, ← big_eq]; exact hz
        · cases e
      | _ => simp [bin2] at e
    | _ => simp [bin2] at e
  | sub =>
    cases dx with
    | int i =>
      cases dy with
      | int j => cases hx; cases hy; exact num op_sub (by simpa [bin2] using e.symm) rfl rfl fun q => ⟨i, j, rfl, rfl, q⟩
      | _ => simp [bin2] at e
    | _ => simp [bin2] at e
  | mul =>
    cases dx with
    | int i =>
      cases dy with
      | int j =>
        cases hx; cases hy
        simp only [bin2] at e
        split at e
        · rename_i hz
          refine num op_mul (by simpa using e.symm) rfl rfl fun q => ⟨i, j, rfl, rfl, ?_, q⟩
          rcases Bool.or_eq_true_iff.mp hz with h | h
          · exact .inl (wide_of h)
          · exact .inr (wide_of h)
        · cases e
      | _ => simp [bin2] at e
    | tup a =>
      cases dy with
      | int k =>
        obtain ⟨A, as, rfl, ha, la⟩ : ∃ A as, x = .ref A ∧ SqT X.K H A as ∧ RelL X.K ρ st.n none H a as := by cases hx; exact ⟨_, _, rfl, ‹_›, ‹_›⟩
        cases hy
        simp only [bin2] at e
        split at e
        · rename_i hz
          cases e
          refine op_repT pins s σ H _ _ v u Q I rx ry ⟨A, k, as, rfl, rfl, ha, ?_, hz.2.2.1, hz.2.2.2, by rw [← la.length]; exact hz.1, fun q hq => p.newT g hq ?_⟩
          · intro h0
            subst h0
            cases la
            exact hz.2.1 rfl
          · generalize k.toNat = m
            induction m with
            | zero => exact .nil
            | succ m ih => rw [List.replicate_succ, List.replicate_succ, List.flatten_cons, List.flatten_cons]; exact la.append ih
        · cases e
      | _ => simp [bin2] at e
    | str a =>
      cases dy with
      | int k =>
        cases hx; cases hy
        simp only [bin2] at e
        split at e
        · rename_i hz
          cases e
          obtain ⟨t, rfl⟩ := rx
          obtain ⟨t', rfl⟩ := ry
          obtain ⟨h1, h2, h3⟩ := hz
          have hl : (toS a).length = 1 := by rw [toS_len]; exact h3
          have h4 : ¬ k < 1 := by omega
          have h5 : (k == 1 || (toS a).length == 0) = false := by
            rw [hl]
            have : (k == 1) = false := by rw [beq_eq_false_iff_ne]; omega
            rw [this]; rfl
          have hS : (⟨(List.replicate k.toNat (toS a).cps).foldl (· ++ ·) #[]⟩ : Str) = toS (List.replicate k.toNat a).flatten := by
            have key : ∀ (m : Nat) (acc : List Nat), (List.replicate m (toS a).cps).foldl (· ++ ·) acc.toArray = (acc ++ (List.replicate m a).flatten).toArray := by
              intro m
              induction m with
              | zero => intro acc; simp
              | succ m ih =>
                intro acc
                rw [List.replicate_succ, List.foldl_cons, List.replicate_succ, List.flatten_cons, ← List.append_assoc, ← ih]
                simp [toS]
            have := key k.toNat []
            simp only [List.nil_append] at this
            show (⟨_⟩ : Str) = ⟨_⟩
            rw [← this]
          have hfl : (List.replicate k.toNat a).flatten.length = k.toNat := by simp [h3]
          have hsz := sizeLine_eq
          refine PySem.P.mul_str (by rw [decide_eq_false (by omega), decide_eq_false (by omega)]; rfl) (fun _ _ => ?_) (fun _ _ => ?_) ?_
          · rw [hl]
            have : (1 : Int) ≤ (2 ^ 63 - 1) / k := by rw [Int.le_ediv_iff_mul_le (by omega)]; omega
            show ¬ ((1 : Nat) : Int) > (2 ^ 63 - 1) / k
            omega
          · rw [hl]
            show decide (_ > sizeLine) = false
            rw [decide_eq_false]
            omega
          · rw [if_neg h4, h5, if_neg (by simp), hS]
            refine ⟨?_, .str _, H, I.tok _, ⟨_, rfl⟩, p.val g (by simp) (.str _)⟩
            rw [toS_len, hfl]
            omega
        · cases e
      | _ => simp [bin2] at e
    | _ => simp [bin2] at e
  | fdiv =>
    cases dx with
    | int i =>
      cases dy with
      | int j =>
        cases hx; cases hy
        simp only [bin2] at e
        split at e
        · rename_i hz
          exact num op_fdiv (by simpa using e.symm) rfl rfl fun q => ⟨i, j, rfl, rfl, hz, q⟩
        · cases e
      | _ => simp [bin2] at e
    | _ => simp [bin2] at e
  | mod =>
    cases dx with
    | int i =>
      cases dy with
      | int j =>
        cases hx; cases hy
        simp only [bin2] at e
        split at e
        · rename_i hz
          exact num op_mod (by simpa using e.symm) rfl rfl fun q => ⟨i, j, rfl, rfl, hz, q⟩
        · cases e
      | _ => simp [bin2] at e
    | _ => simp [bin2] at e
  | pow =>
    cases dx with
    | int i =>
      cases dy with
      | int j =>
        cases hx; cases hy
        simp only [bin2] at e
        split at e
        · rename_i hz
          refine num op_pow (by simpa using e.symm) rfl rfl fun q => ⟨i, j, rfl, rfl, ⟨hz.1, by omega, ?_⟩, q⟩
          have := wide_of hz.2.2
          omega
        · cases e
      | _ => simp [bin2] at e
    | _ => simp [bin2] at e

def Cmp.py : Cmp → CmpOp
  | .eq => .Eq | .ne => .NotEq | .lt => .Lt | .le => .LtE | .gt => .Gt | .ge => .GtE | .is => .Is | .isnot => .IsNot | .inn => .In | .notin => .NotIn
def rDC (K : Fr) (op : Cmp) : R2 := fun x y H Q => ∃ Ps ρ s dx dy b, Good K Ps ρ none H s ∧ RelRd K ρ s.n H dx x ∧ RelRd K ρ s.n H dy y ∧ cmp2 op dx dy = some b ∧ Q (.bl b) H
theorem isNon_of {K : Fr} {ρ : Rh} {n : Nat} {H : Hp} {d : D} {x : V} (h : RelRd K ρ n H d x) : d.isNon = decide (x = .non) := by
  cases d with
  | lv o xs => obtain ⟨a, vs, rfl, _⟩ := h; simp [D.isNon]
  | _ => cases h <;> simp [D.isNon]
theorem eqAt_of {X : Cx} {pins : List (Addr × Obj)} {σ : L2.St} {H : Hp} {s : Shared} {ρ : Rh} {n m : Nat} {d e : D} {x y : V} {v u : Value} {A : Around} (I : Inv X pins σ H s) (hd : d.fit m = true) (he : e.fit m = true) (rd : Rel X.K ρ n none H d x) (re : Rel X.K ρ n none H e y) (rx : RelV x v) (ry : RelV y u)
    (hu : A.units + m < cLine) : SeqAt.EqAt A s v u (d.eqv e) := by
  obtain ⟨as, r1⟩ := Dp.reads I _ x v (rd.dp hd) rx
  obtain ⟨bs, r2⟩ := Dp.reads I _ y u (re.dp he) ry
  have := SeqAt.eqAt_reads d.toP e.toP A s v u as bs r1 r2 (toP_lay d m hd) (toP_lay e m he) (by have := toP_depth d m hd; omega)
  rw [← toP_eqv _ _ hd he]
  exact this
theorem rcLt_S (A : Around) (s : Shared) (x y : List Nat) (t u : Tok) : Ob.RcOp .Lt A s (.str (toS x) t) (.str (toS y) u) (strLt x y) := fun prog w E Q h => by
  have : strLt x y = decide ((toS x).cps.toList < (toS y).cps.toList) := by rw [toS_cps, toS_cps, strLt_eq]
  rw [this] at h
  exact (PyProof.Rows.lt_str h : wpAny (model prog w) A (compareOp .Lt (.str (toS x) t) (.str (toS y) u)) Q E s)
theorem ordL_lex {f : D → D → Option Bool} {z : D} : ∀ {xs ys : List D} {b : Bool}, ordL f xs ys = some b → ∀ (i : Nat) (as bs : List D), as.length = i → bs.length = i →
    b = Ob.lexAt (fun j => ((as ++ xs).getD j z).eqv ((bs ++ ys).getD j z)) (fun j => (f ((as ++ xs).getD j z) ((bs ++ ys).getD j z)).getD false) (decide (xs.length < ys.length)) i (min xs.length ys.length)
  | [], [], b, h, i, as, bs, h1, h2 => by cases h; rfl
  | [], y :: ys, b, h, i, as, bs, h1, h2 => by cases h; simp [Ob.lexAt_zero]
  | x :: xs, [], b, h, i, as, bs, h1, h2 => by cases h; simp [Ob.lexAt_zero]
  | x :: xs, y :: ys, b, h, i, as, bs, h1, h2 => by
    simp only [ordL, Option.bind_eq_some_iff] at h
    obtain ⟨r, hr, h⟩ := h
    have ih := ordL_lex (z := z) hr (i + 1) (as ++ [x]) (bs ++ [y]) (by simp [h1]) (by simp [h2])
    have e1 : min (x :: xs).length (y :: ys).length = min xs.length ys.length + 1 := by simp only [List.length_cons]; omega
    rw [e1, Ob.lexAt_succ]
    have gx : (as ++ x :: xs).getD i z = x := by simp [List.getD, h1]
    have gy : (bs ++ y :: ys).getD i z = y := by simp [List.getD, h2]
    rw [gx, gy]
    have e2 : decide ((x :: xs).length < (y :: ys).length) = decide (xs.length < ys.length) := by simp
    rw [e2]
    simp only [List.append_assoc, List.singleton_append] at ih
    split at h
    · rename_i hq
      rw [if_pos hq]
      cases h
      exact ih
    · rename_i hq
      rw [if_neg hq, h]
      rfl
theorem ordL_all {f : D → D → Option Bool} : ∀ {xs ys : List D} {b : Bool}, ordL f xs ys = some b → ∀ (j : Nat) (x y : D), xs[j]? = some x → ys[j]? = some y → x.eqv y = false → ∃ r, f x y = some r
  | [], _, b, h, j, x, y, h1, h2, h3 => by simp at h1
  | _ :: _, [], b, h, j, x, y, h1, h2, h3 => by simp at h2
  | x' :: xs, y' :: ys, b, h, j, x, y, h1, h2, h3 => by
    simp only [ordL, Option.bind_eq_some_iff] at h
    obtain ⟨r, hr, h⟩ := h
    cases j with
    | zero =>
      simp at h1 h2
      subst h1 h2
      rw [h3] at h
      exact ⟨b, h⟩
    | succ j => exact ordL_all hr j x y (by simpa using h1) (by simpa using h2) h3
theorem fitL_get {m : Nat} : ∀ {xs : List D} {j : Nat} {x : D}, D.fitL m xs = true → xs[j]? = some x → x.fit m = true
  | [], _, _, _, h => by simp at h
  | a :: r, 0, x, h, e => by
    simp at e; subst e
    simp only [D.fitL, D.fit.fitL, Bool.and_eq_true] at h
    exact h.1
  | a :: r, j + 1, x, h, e => by
    simp only [D.fitL, D.fit.fitL, Bool.and_eq_true] at h
    exact fitL_get h.2 (by simpa using e)
theorem ord_run {X : Cx} {pins : List (Addr × Obj)} {σ : L2.St} {H : Hp} {s : Shared} {ρ : Rh} {n : Nat} (I : Inv X pins σ H s) : ∀ (m : Nat) (A : Around), A.units + m + 1 < cLine → ∀ (d e : D) (b : Bool) (x y : V) (v u : Value), d.fit m = true → e.fit m = true → ordD m d e = some b →
    RelRd X.K ρ n H d x → RelRd X.K ρ n H e y → RelV x v → RelV y u → Ob.RcOp .Lt A s v u b := by
  intro m
  induction m with
  | zero =>
    intro A hu d e b x y v u hd he ho rd re rx ry
    cases d <;> cases e <;> simp [ordD] at ho
    · cases rd; cases re
      obtain ⟨t, rfl⟩ := rx
      obtain ⟨t', rfl⟩ := ry
      rw [← ho]
      exact Ob.RcOp.lt_int _ _ _ _
    · cases rd; cases re
      obtain ⟨t, rfl⟩ := rx
      obtain ⟨t', rfl⟩ := ry
      rw [← ho]
      exact rcLt_S _ _ _ _ _ _
  | succ m ih =>
    intro A hu d e b x y v u hd he ho rd re rx ry
    cases d <;> cases e <;> simp [ordD] at ho
    · cases rd; cases re
      obtain ⟨t, rfl⟩ := rx
      obtain ⟨t', rfl⟩ := ry
      rw [← ho]
      exact Ob.RcOp.lt_int _ _ _ _
    · cases rd; cases re
      obtain ⟨t, rfl⟩ := rx
      obtain ⟨t', rfl⟩ := ry
      rw [← ho]
      exact rcLt_S _ _ _ _ _ _
    · rename_i xs ys
      obtain ⟨a, vs, rfl, h1, l1⟩ : ∃ A as, x = .ref A ∧ SqT X.K H A as ∧ RelL X.K ρ n none H xs as := by cases rd; exact ⟨_, _, rfl, ‹_›, ‹_›⟩
      obtain ⟨c, ws, rfl, h2, l2⟩ : ∃ A as, y = .ref A ∧ SqT X.K H A as ∧ RelL X.K ρ n none H ys as := by cases re; exact ⟨_, _, rfl, ‹_›, ‹_›⟩
      cases rx
      cases ry
      obtain ⟨its, r1, p1, _⟩ := I.tuple h1
      obtain ⟨its2, r2, p2, _⟩ := I.tuple h2
      have e1 : its.toArray.size = xs.length := by rw [List.size_toArray, ← r1.length, l1.length]
      have e2 : its2.toArray.size = ys.length := by rw [List.size_toArray, ← r2.length, l2.length]
      have fx : D.fitL m xs = true := by simpa [D.fit] using hd
      have fy : D.fitL m ys = true := by simpa [D.fit] using he
      have lx := ordL_lex (z := .non) ho 0 [] [] rfl rfl
      simp only [List.nil_append] at lx
      rw [lx, ← e1, ← e2]
      have at_ : ∀ j (q1 : j < its.toArray.size) (q2 : j < its2.toArray.size), ∃ dx dy vx vy, xs[j]? = some dx ∧ ys[j]? = some dy ∧ Rel X.K ρ n none H dx vx ∧ Rel X.K ρ n none H dy vy ∧ RelV vx its.toArray[j] ∧ RelV vy its2.toArray[j] ∧ xs.getD j .non = dx ∧ ys.getD j .non = dy := by
        intro j q1 q2
        have hx : j < xs.length := by omega
        have hy : j < ys.length := by omega
        obtain ⟨vx, a1, a2⟩ := l1.get (List.getElem?_eq_getElem hx)
        obtain ⟨vy, b1, b2⟩ := l2.get (List.getElem?_eq_getElem hy)
        obtain ⟨ux, c1, c2⟩ := r1.get a1
        obtain ⟨uy, d1, d2⟩ := r2.get b1
        obtain ⟨hc, c3⟩ := List.getElem?_eq_some_iff.mp c1
        obtain ⟨hd', d3⟩ := List.getElem?_eq_some_iff.mp d1
        refine ⟨xs[j], ys[j], vx, vy, List.getElem?_eq_getElem hx, List.getElem?_eq_getElem hy, a2, b2, ?_, ?_, by simp [List.getD, hx], by simp [List.getD, hy]⟩
        · simpa [c3] using c2
        · simpa [d3] using d2
      refine Ob.RcOp.tuples_lt p1 p2 (by omega) (fun j q1 q2 => ?_) (fun j q1 q2 hne => ?_)
      · obtain ⟨dx, dy, vx, vy, g1, g2, g3, g4, g5, g6, g7, g8⟩ := at_ j q1 q2
        rw [g7, g8]
        exact eqAt_of I (fitL_get fx g1) (fitL_get fy g2) g3 g4 g5 g6 (by show A.units + 1 + m < cLine; omega)
      · obtain ⟨dx, dy, vx, vy, g1, g2, g3, g4, g5, g6, g7, g8⟩ := at_ j q1 q2
        rw [g7, g8] at hne ⊢
        obtain ⟨r, hr⟩ := ordL_all ho j dx dy g1 g2 hne
        rw [hr]
        exact ih A.in1 (by show A.units + 1 + m + 1 < cLine; omega) dx dy r vx vy _ _ (fitL_get fx g1) (fitL_get fy g2) hr (.of g3) (.of g4) g5 g6
theorem op_cmp {X : Cx} (hu : X.A.units + 65 < cLine) (op : Cmp) : OpR X (compareOp op.py) (rDC X.K op) := by
  intro pins s σ H x y v u Q I rx ry h
  obtain ⟨Ps, ρ, st, dx, dy, b, g, hx, hy, e, q⟩ := h
  cases op with
  | eq =>
    by_cases hs : ∃ a c, dx = .str a ∧ dy = .str c
    · obtain ⟨a, c, rfl, rfl⟩ := hs
      cases hx; cases hy; cases e
      refine op_eq pins s σ H _ _ v u Q I rx ry ⟨rfl, ?_⟩
      rw [show decide (V.str (toS a) = V.str (toS c)) = (a == c) by rw [Bool.eq_iff_iff]; simp; exact ⟨toS_inj, fun h => by rw [h]⟩]
      exact q
    have e1 : cmp2 .eq dx dy = if dx.fit 64 && dy.fit 64 then some (dx.eqv dy) else none := by
      cases dx <;> first | rfl | (cases dy <;> first | rfl | exact absurd ⟨_, _, rfl, rfl⟩ hs)
    rw [e1] at e
    split at e
    · rename_i hz
      cases e
      simp only [Bool.and_eq_true] at hz
      exact op_eqD (by omega) pins s σ H _ _ v u Q I rx ry ⟨_, _, hx.dp hz.1, hy.dp hz.2, toP_shaped hz.1, toP_shaped hz.2, by rw [toP_eqv _ _ hz.1 hz.2]; exact q⟩
    · cases e
  | ne =>
    by_cases hs : ∃ a c, dx = .str a ∧ dy = .str c
    · obtain ⟨a, c, rfl, rfl⟩ := hs
      cases hx; cases hy; cases e
      refine op_ne pins s σ H _ _ v u Q I rx ry ⟨rfl, ?_⟩
      rw [show decide (V.str (toS a) = V.str (toS c)) = (a == c) by rw [Bool.eq_iff_iff]; simp; exact ⟨toS_inj, fun h => by rw [h]⟩]
      exact q
    have e1 : cmp2 .ne dx dy = if dx.fit 64 && dy.fit 64 then some (!dx.eqv dy) else none := by
      cases dx <;> first | rfl | (cases dy <;> first | rfl | exact absurd ⟨_, _, rfl, rfl⟩ hs)
    rw [e1] at e
    split at e
    · rename_i hz
      cases e
      simp only [Bool.and_eq_true] at hz
      exact op_neD (by omega) pins s σ H _ _ v u Q I rx ry ⟨_, _, hx.dp hz.1, hy.dp hz.2, toP_shaped hz.1, toP_shaped hz.2, by rw [toP_eqv _ _ hz.1 hz.2]; exact q⟩
    · cases e
  | lt =>
    cases dx with
    | int i =>
      cases dy with
      | int j => cases hx; cases hy; cases e; exact op_lt pins s σ H _ _ v u Q I rx ry ⟨_, _, rfl, rfl, q⟩
      | _ => simp [cmp2] at e
    | str a =>
      cases dy with
      | str c => cases hx; cases hy; cases e; exact op_lt_str pins s σ H _ _ v u Q I rx ry ⟨_, _, rfl, rfl, by rw [toS_cps, toS_cps, ← strLt_eq]; exact q⟩
      | _ => simp [cmp2] at e
    | tup a =>
      cases dy with
      | tup c =>
        simp only [cmp2] at e
        split at e
        · rename_i hz
          simp only [Bool.and_eq_true] at hz
          exact ord_run I 64 X.A (by omega) (.tup a) (.tup c) b x y v u (by simpa [D.fit] using hz.1) (by simpa [D.fit] using hz.2) e hx hy rx ry X.prog X.w X.xe (EP X pins σ Q) ⟨.bl b, H, I, rfl, q⟩
        · cases e
      | _ => simp [cmp2] at e
    | _ => simp [cmp2] at e
  | le =>
    cases dx with
    | int i =>
      cases dy with
      | int j => cases hx; cases hy; cases e; exact op_le pins s σ H _ _ v u Q I rx ry ⟨_, _, rfl, rfl, q⟩
      | _ => simp [cmp2] at e
    | str a =>
      cases dy with
      | str c =>
        cases hx; cases hy; cases e
        refine op_le_str pins s σ H _ _ v u Q I rx ry ⟨_, _, rfl, rfl, ?_⟩
        rw [toS_cps, toS_cps]
        rw [strLt_eq] at q
        have e2 : decide (a ≤ c) = !decide (c < a) := by
          rw [Bool.eq_iff_iff]; simp [List.not_lt]
        first | (rw [e2]; exact q) | exact q
      | _ => simp [cmp2] at e
    | _ => simp [cmp2] at e
  | gt =>
    cases dx with
    | int i =>
      cases dy with
      | int j => cases hx; cases hy; cases e; exact op_gt pins s σ H _ _ v u Q I rx ry ⟨_, _, rfl, rfl, q⟩
      | _ => simp [cmp2] at e
    | _ => simp [cmp2] at e
  | ge =>
    cases dx with
    | int i =>
      cases dy with
      | int j => cases hx; cases hy; cases e; exact op_ge pins s σ H _ _ v u Q I rx ry ⟨_, _, rfl, rfl, q⟩
      | _ => simp [cmp2] at e
    | _ => simp [cmp2] at e
  | is =>
    cases dy with
    | non =>
      cases hy
      have e' : dx.isNon = b := by simpa [cmp2] using e
      subst e'
      rw [isNon_of hx] at q
      exact op_isN pins s σ H _ _ v u Q I rx ry ⟨rfl, q⟩
    | bl c =>
      cases dx with
      | bl a => cases hx; cases hy; cases e; exact op_isBl pins s σ H _ _ v u Q I rx ry ⟨_, _, rfl, rfl, by rw [show decide (a = c) = (a == c) by rw [Bool.eq_iff_iff]; simp]; exact q⟩
      | _ => simp [cmp2] at e
    | _ => cases dx <;> simp [cmp2] at e
  | isnot =>
    cases dy with
    | non =>
      cases hy
      have e' : (!dx.isNon) = b := by simpa [cmp2] using e
      subst e'
      rw [isNon_of hx] at q
      exact op_notN pins s σ H _ _ v u Q I rx ry ⟨rfl, q⟩
    | bl c =>
      cases dx with
      | bl a => cases hx; cases hy; cases e; exact op_notBl pins s σ H _ _ v u Q I rx ry ⟨_, _, rfl, rfl, by rw [show decide (a = c) = (a == c) by rw [Bool.eq_iff_iff]; simp]; exact q⟩
      | _ => simp [cmp2] at e
    | _ => cases dx <;> simp [cmp2] at e
  | inn =>
    cases dy with
    | str z =>
      cases dx with
      | str c =>
        match c, e with
        | [c], e =>
          cases hx; cases hy; cases e
          refine op_in_sign pins s σ H _ _ v u Q I rx ry ⟨c, _, rfl, rfl, ?_⟩
          rw [toS_cps, show decide (c ∈ z) = z.contains c by rw [Bool.eq_iff_iff]; simp]
          exact q
        | [], e => simp [cmp2] at e
        | _ :: _ :: _, e => simp [cmp2] at e
      | _ => simp [cmp2] at e
    | tup xs =>
      have e1 : cmp2 .inn dx (.tup xs) = if dx.fit 64 && D.fitL 63 xs then some (xs.any fun x => x.eqv dx) else none := by
        cases dx <;> first | rfl | (rename_i z; cases z <;> first | rfl | (rename_i z; cases z <;> rfl))
      rw [e1] at e
      split at e
      · rename_i hz
        cases e
        simp only [Bool.and_eq_true] at hz
        have hf : (D.tup xs).fit 64 = true := by simpa [D.fit] using hz.2
        refine op_inTD hu pins s σ H _ _ v u Q I rx ry ⟨_, _, hx.dp hz.1, hy.dp hf, toP_shaped hz.1, toP_shaped hf, ?_⟩
        rw [toPL_any dx hz.1 xs hz.2]; simpa using q
      · cases e
    | lv o xs =>
      have e1 : cmp2 .inn dx (.lv o xs) = if dx.fit 64 && D.fitL 63 xs then some (xs.any fun x => x.eqv dx) else none := by
        cases dx <;> first | rfl | (rename_i z; cases z <;> first | rfl | (rename_i z; cases z <;> rfl))
      rw [e1] at e
      split at e
      · rename_i hz
        cases e
        simp only [Bool.and_eq_true] at hz
        have hf : (D.lv o xs).fit 64 = true := by simpa [D.fit] using hz.2
        refine op_inD hu pins s σ H _ _ v u Q I rx ry ⟨_, _, hx.dp hz.1, hy.dp hf, toP_shaped hz.1, toP_shaped hf, ?_⟩
        rw [toPL_any dx hz.1 xs hz.2]; exact q
      · cases e
    | _ => cases dx <;> first | simp [cmp2] at e | (rename_i z; cases z <;> first | simp [cmp2] at e | (rename_i z; cases z <;> simp [cmp2] at e))
  | notin =>
    cases dy with
    | str z =>
      cases dx with
      | str c =>
        match c, e with
        | [c], e =>
          cases hx; cases hy; cases e
          refine op_notIn_sign pins s σ H _ _ v u Q I rx ry ⟨c, _, rfl, rfl, ?_⟩
          rw [toS_cps, show decide (c ∈ z) = z.contains c by rw [Bool.eq_iff_iff]; simp]
          exact q
        | [], e => simp [cmp2] at e
        | _ :: _ :: _, e => simp [cmp2] at e
      | _ => simp [cmp2] at e
    | tup xs =>
      have e1 : cmp2 .notin dx (.tup xs) = if dx.fit 64 && D.fitL 63 xs then some (!xs.any fun x => x.eqv dx) else none := by
        cases dx <;> first | rfl | (rename_i z; cases z <;> first | rfl | (rename_i z; cases z <;> rfl))
      rw [e1] at e
      split at e
      · rename_i hz
        cases e
        simp only [Bool.and_eq_true] at hz
        have hf : (D.tup xs).fit 64 = true := by simpa [D.fit] using hz.2
        refine op_notInTD hu pins s σ H _ _ v u Q I rx ry ⟨_, _, hx.dp hz.1, hy.dp hf, toP_shaped hz.1, toP_shaped hf, ?_⟩
        rw [toPL_any dx hz.1 xs hz.2]; simpa using q
      · cases e
    | lv o xs =>
      have e1 : cmp2 .notin dx (.lv o xs) = if dx.fit 64 && D.fitL 63 xs then some (!xs.any fun x => x.eqv dx) else none := by
        cases dx <;> first | rfl | (rename_i z; cases z <;> first | rfl | (rename_i z; cases z <;> rfl))
      rw [e1] at e
      split at e
      · rename_i hz
        cases e
        simp only [Bool.and_eq_true] at hz
        have hf : (D.lv o xs).fit 64 = true := by simpa [D.fit] using hz.2
        refine op_notInD hu pins s σ H _ _ v u Q I rx ry ⟨_, _, hx.dp hz.1, hy.dp hf, toP_shaped hz.1, toP_shaped hf, ?_⟩
        rw [toPL_any dx hz.1 xs hz.2]; exact q
      · cases e
    | _ => cases dx <;> first | simp [cmp2] at e | (rename_i z; cases z <;> first | simp [cmp2] at e | (rename_i z; cases z <;> simp [cmp2] at e))
end L3
end

section -- I4
set_option autoImplicit false
set_option linter.all false
set_option maxRecDepth 100000
set_option maxHeartbeats 1000000
namespace L3
open PySem PySem.Spec PyProof.Rows L2

mutual
theorem D.lt_mono {m n : Nat} (h : m ≤ n) : ∀ (d : D), d.lt m = true → d.lt n = true
  | .non, _ => rfl
  | .bl _, _ => rfl
  | .int _, _ => rfl
  | .str _, _ => rfl
  | .scr _, _ => rfl
  | .ref k, e => by simp [D.lt] at e ⊢; omega
  | .tup xs, e => by simp only [D.lt] at e ⊢; exact D.ltL_mono h xs e
  | .lv _ xs, e => by simp only [D.lt] at e ⊢; exact D.ltL_mono h xs e
theorem D.ltL_mono {m n : Nat} (h : m ≤ n) : ∀ (d : List D), D.ltL m d = true → D.ltL n d = true
  | [], _ => rfl
  | x :: xs, e => by
    simp only [D.ltL, D.lt.ltL, Bool.and_eq_true] at e ⊢
    exact ⟨D.lt_mono h x e.1, D.ltL_mono h xs e.2⟩
end
theorem MO.lt_mono {m n : Nat} (h : m ≤ n) : ∀ (o : MO), o.lt m = true → o.lt n = true
  | .lst xs, e => D.ltL_mono h xs e
theorem joinU_l {a b : Option Nat} {l : Nat} (h : a = some l) : ∃ l', joinU a b = some l' ∧ l' ≤ l := by
  subst h
  cases b with
  | none => exact ⟨l, rfl, Nat.le_refl _⟩
  | some k => exact ⟨_, rfl, Nat.min_le_left _ _⟩
theorem joinU_r {a b : Option Nat} {l : Nat} (h : b = some l) : ∃ l', joinU a b = some l' ∧ l' ≤ l := by
  subst h
  cases a with
  | none => exact ⟨l, rfl, Nat.le_refl _⟩
  | some k => exact ⟨_, rfl, Nat.min_le_right _ _⟩

section
variable {K : Fr} {Ps : List Addr} {ρ ρ' ρ1 ρ2 : Rh} {x y : Option Addr} {H H' H1 H2 : Hp} {s s' t : S} {d : D} {v : V} {ds : List D} {vs us : List V} {a : Addr} {o : HO}

/-- a cell is written -/
theorem Ext.put (g : Good K Ps ρ x H s) {m : Nat} (hm : m < s.n) (o : MO) (u : HO) : Ext K ρ H s ρ (upd H (ρ m) u) (s.put m o) where
  base := rfl
  av := rfl
  le := by simp [S.put, S.n]
  same := fun _ _ => rfl
  keep := fun a w h hn _ => by rw [upd_ne (fun e => hn m hm e.symm)]; exact h
  fresh := fun i h1 h2 => by simp only [S.put, S.n, List.length_set] at h1 h2; exact absurd h2 (by omega)
  there := fun a h => by
    by_cases e : a = ρ m
    · rw [e, upd_same]; simp
    · rw [upd_ne e]; exact h
  upm := fun l h => by
    show ∃ l', (if o.lt 0 then s.up else joinU s.up (some m)) = some l' ∧ l' ≤ l
    by_cases q : o.lt 0 = true
    · rw [if_pos q]; exact ⟨l, h, Nat.le_refl _⟩
    · rw [if_neg q]; exact joinU_l h
  chg := fun i p p' h1 h2 => by
    by_cases e : i = m
    · subst e
      have e2 : p' = o := by
        have : (s.cells.set i o)[i]? = some p' := h2
        rw [List.getElem?_set_self hm] at this
        exact (Option.some.inj this).symm
      subst e2
      by_cases q : p'.lt 0 = true
      · exact .inr (.inl q)
      · refine .inr (.inr ?_)
        show ∃ l, (if p'.lt 0 then s.up else joinU s.up (some i)) = some l ∧ l ≤ i
        rw [if_neg q]; exact joinU_r rfl
    · have : (s.cells.set m o)[i]? = some p' := h2
      rw [List.getElem?_set_ne (Ne.symm e), h1] at this
      exact .inl (Option.some.inj this).symm
theorem Good.put (g : Good K Ps ρ none H s) {m : Nat} (hm : m < s.n) {xs : List D} (r : RelL K ρ s.n none H xs vs) : Good K Ps ρ none (upd H (ρ m) (.lst vs)) (s.put m (.lst xs)) := by
  have e := Ext.put g hm (.lst xs) (.lst vs)
  have hn : (s.put m (.lst xs)).n = s.n := by simp [S.put, S.n]
  refine ⟨fun i j hi hj => g.inj i j (by rw [hn] at hi; exact hi) (by rw [hn] at hj; exact hj), fun i o q => ?_, fun i o hi q hl => ?_, by rw [hn]; exact g.bl, fun P hP => ?_, fun a q => e.there a (g.xt a q)⟩
  · have q' : (s.cells.set m (.lst xs))[i]? = some o := q
    have hi : i < s.n := by
      have := (List.getElem?_eq_some_iff.mp q').1
      simpa using this
    by_cases z : i = m
    · subst z
      rw [List.getElem?_set_self hm] at q'
      cases q'
      exact ⟨vs, upd_same, r.ext g e⟩
    · rw [List.getElem?_set_ne (Ne.symm z)] at q'
      have w := g.cell i o q'
      cases o with
      | lst ys =>
        obtain ⟨us, h1, h2⟩ := w
        refine ⟨us, ?_, h2.ext g e⟩
        rw [upd_ne (fun w => z (g.inj i m hi hm w))]
        exact h1
  · have q' : (s.cells.set m (.lst xs))[i]? = some o := q
    show o.lt s.base = true
    have hi' : i < s.base := hi
    have hl' : ∀ l, (if (MO.lst xs).lt 0 then s.up else joinU s.up (some m)) = some l → i < l := hl
    by_cases w : (MO.lst xs).lt 0 = true
    · rw [if_pos w] at hl'
      by_cases z : i = m
      · subst z
        rw [List.getElem?_set_self hm] at q'
        cases q'
        exact MO.lt_mono (Nat.zero_le _) _ w
      · rw [List.getElem?_set_ne (Ne.symm z)] at q'
        exact g.clean i o hi' q' hl'
    · rw [if_neg w] at hl'
      by_cases z : i = m
      · subst z
        obtain ⟨l, h1, h2⟩ := joinU_r (a := s.up) (b := some i) (l := i) rfl
        exact absurd (hl' l h1) (by omega)
      · rw [List.getElem?_set_ne (Ne.symm z)] at q'
        refine g.clean i o hi' q' fun l h => ?_
        obtain ⟨l', h1, h2⟩ := joinU_l (b := some m) h
        exact Nat.lt_of_lt_of_le (hl' l' h1) h2
  · obtain ⟨ps, q, t⟩ := g.tb P hP
    refine ⟨ps, ?_, t⟩
    rw [upd_ne]
    · exact q
    · intro z
      obtain ⟨us, w⟩ := g.lst hm
      rw [← z, q] at w; cases w

/-- the list that is ours alone gets a number -/
theorem okR_cell {xs : List D} {s0 : S} (e0 : Ext K ρ H s0 ρ' H' s) (h : OkR K Ps H ρ' H' s (.lv true xs) v) :
    ∃ ρ2, Ext K ρ H s0 ρ2 H' ⟨s.cells ++ [.lst xs], s.base, s.up⟩ ∧ Good K Ps ρ2 none H' ⟨s.cells ++ [.lst xs], s.base, s.up⟩ ∧ Rel K ρ2 (s.n + 1) none H' (.ref s.n) v := by
  obtain ⟨a, vs, rfl, hH, ha, hne, hav, g, r⟩ := h
  let ρ2 : Rh := ⟨fun i => if i < s.n then ρ' i else a, ρ'.av⟩
  have l2 : ∀ i, i < s.n → ρ2 i = ρ' i := fun i hi => if_pos hi
  have r2 : ρ2 s.n = a := if_neg (Nat.lt_irrefl _)
  have hn : S.n ⟨s.cells ++ [.lst xs], s.base, s.up⟩ = s.n + 1 := by simp [S.n]
  have mv : ∀ {d : D} {v : V}, Rel K ρ' s.n (some a) H' d v → Rel K ρ2 (s.n + 1) none H' d v := fun {d v} r => r.map (fun i hi => ⟨Nat.lt_succ_of_lt hi, l2 i hi⟩) (fun _ _ h => h) (fun _ _ h => h) fun b us h1 h2 h3 h4 => ⟨h1, fun i hi q => by
    by_cases z : i < s.n
    · rw [l2 i z] at q; exact h2 i z q
    · have : i = s.n := by omega
      subst this
      rw [r2] at q
      exact h3 (by rw [q]), by simp, h4⟩
  have mvL : ∀ {d : List D} {v : List V}, RelL K ρ' s.n (some a) H' d v → RelL K ρ2 (s.n + 1) none H' d v := fun {d v} r => r.map (fun i hi => ⟨Nat.lt_succ_of_lt hi, l2 i hi⟩) (fun _ _ h => h) (fun _ _ h => h) fun b us h1 h2 h3 h4 => ⟨h1, fun i hi q => by
    by_cases z : i < s.n
    · rw [l2 i z] at q; exact h2 i z q
    · have : i = s.n := by omega
      subst this
      rw [r2] at q
      exact h3 (by rw [q]), by simp, h4⟩
  refine ⟨ρ2, ⟨e0.base, e0.av, by rw [hn]; have := e0.le; omega, fun i hi => (l2 i (Nat.lt_of_lt_of_le hi e0.le)).trans (e0.same i hi), e0.keep, fun i h1 h2 => ?_, e0.there, e0.upm, fun i o o' h1 h2 => ?_⟩, ⟨fun i j hi hj q => ?_, fun i o q => ?_, fun i o hi q hl => ?_, by rw [hn]; exact Nat.le_succ_of_le g.bl, g.tb, g.xt⟩, ?_⟩
  · rw [hn] at h2
    by_cases z : i < s.n
    · rw [l2 i z]; exact e0.fresh i h1 z
    · have : i = s.n := by omega
      subst this
      rw [r2]; exact hH
  · have hi : i < s.cells.length := Nat.lt_of_lt_of_le (List.getElem?_eq_some_iff.mp h1).1 e0.le
    have h2' : (s.cells ++ [MO.lst xs])[i]? = some o' := h2
    rw [List.getElem?_append_left hi] at h2'
    exact e0.chg i o o' h1 h2'
  · rw [hn] at hi hj
    by_cases z : i < s.n
    · by_cases z' : j < s.n
      · rw [l2 i z, l2 j z'] at q; exact g.inj i j z z' q
      · have : j = s.n := by omega
        subst this
        rw [l2 i z, r2] at q; exact absurd q (hne i z)
    · have : i = s.n := by omega
      subst this
      by_cases z' : j < s.n
      · rw [l2 j z', r2] at q; exact absurd q.symm (hne j z')
      · omega
  · have q' : (s.cells ++ [MO.lst xs])[i]? = some o := q
    rw [hn]
    by_cases z : i < s.n
    · rw [List.getElem?_append_left z] at q'
      have w := g.cell i o q'
      rw [l2 i z]
      cases o with
      | lst ys => obtain ⟨us, h1, h2⟩ := w; exact ⟨us, h1, mvL h2⟩
    · have hi := (List.getElem?_eq_some_iff.mp q').1
      simp only [List.length_append, List.length_cons, List.length_nil] at hi
      have : i = s.n := by simp only [S.n] at z ⊢; omega
      subst this
      rw [List.getElem?_append_right (Nat.le_refl _)] at q'
      simp [S.n] at q'
      subst q'
      rw [r2]
      exact ⟨vs, ha, mvL r⟩
  · have q' : (s.cells ++ [MO.lst xs])[i]? = some o := q
    have hi' : i < s.base := hi
    rw [List.getElem?_append_left (Nat.lt_of_lt_of_le hi' g.bl)] at q'
    exact g.clean i o hi' q' hl
  · have q : Rel K ρ2 (s.n + 1) none H' (.ref s.n) (.ref (ρ2 s.n)) := .ref (Nat.lt_succ_self _)
    rw [r2] at q
    exact q

abbrev S.entry (s : S) : S := ⟨s.cells, s.cells.length, none⟩
theorem Good.entry (g : Good K Ps ρ none H s) : Good K Ps ρ none H s.entry :=
  ⟨g.inj, g.cell, fun i o hi q _ => by
    have w := g.cell i o q
    cases o with
    | lst xs => obtain ⟨us, _, r⟩ := w; exact r.ltn, Nat.le_refl _, g.tb, g.xt⟩
theorem Ext.stay (e : Ext K ρ H s.entry ρ' H' t) : Ext K ρ H s ρ' H' (s.stay t) where
  base := rfl
  av := e.av
  le := e.le
  same := e.same
  keep := e.keep
  fresh := e.fresh
  there := e.there
  upm := fun l h => joinU_l h
  chg := fun i o o' h1 h2 => by
    rcases e.chg i o o' h1 h2 with q | q | ⟨l, q, z⟩
    · exact .inl q
    · exact .inr (.inl q)
    · obtain ⟨l', h3, h4⟩ := joinU_r (a := s.up) q
      exact .inr (.inr ⟨l', h3, Nat.le_trans h4 z⟩)
theorem Good.stay {x : Option Addr} (g0 : Good K Ps ρ none H s) (e : Ext K ρ H s.entry ρ' H' t) (g : Good K Ps ρ' x H' t) : Good K Ps ρ' x H' (s.stay t) := by
  refine ⟨g.inj, g.cell, fun i o hi q hl => ?_, Nat.le_trans g0.bl e.le, g.tb, g.xt⟩
  have hi' : i < s.base := hi
  have hs : i < s.n := Nat.lt_of_lt_of_le hi' g0.bl
  have q0 : s.cells[i]? = some s.cells[i] := List.getElem?_eq_getElem hs
  have hl' : ∀ l, joinU s.up t.up = some l → i < l := hl
  rcases e.chg i _ o q0 q with z | z | ⟨l, z, w⟩
  · subst z
    refine g0.clean i _ hi' q0 fun l h => ?_
    obtain ⟨l', h1, h2⟩ := joinU_l (b := t.up) h
    exact Nat.lt_of_lt_of_le (hl' l' h1) h2
  · exact MO.lt_mono (Nat.zero_le _) _ z
  · obtain ⟨l', h1, h2⟩ := joinU_r (a := s.up) z
    have := hl' l' h1
    omega
theorem gone_n (e : Ext K ρ H s.entry ρ' H' t) : (s.gone t).n = s.n := by
  have h1 := e.base
  have h2 := e.le
  simp only [S.gone, S.n, List.length_take, S.entry] at *
  omega
theorem gone_at (e : Ext K ρ H s.entry ρ' H' t) {i : Nat} {o : MO} (h : (s.gone t).cells[i]? = some o) : i < s.n ∧ t.cells[i]? = some o := by
  have hb : t.base = s.n := e.base
  have h' : (t.cells.take t.base)[i]? = some o := h
  rw [List.getElem?_take] at h'
  split at h'
  · exact ⟨by omega, h'⟩
  · cases h'
theorem Ext.gone (e : Ext K ρ H s.entry ρ' H' t) (hv : t.viol = false) : Ext K ρ H s ρ' H' (s.gone t) where
  base := rfl
  av := e.av
  le := by rw [gone_n e]; exact Nat.le_refl _
  same := e.same
  keep := e.keep
  fresh := fun i h1 h2 => by rw [gone_n e] at h2; exact absurd h2 (by omega)
  there := e.there
  upm := fun l h => ⟨l, h, Nat.le_refl _⟩
  chg := fun i o o' h1 h2 => by
    obtain ⟨hi, h3⟩ := gone_at e h2
    rcases e.chg i o o' h1 h3 with q | q | ⟨l, q, z⟩
    · exact .inl q
    · exact .inr (.inl q)
    · have hb : t.base = s.n := e.base
      simp only [S.viol, q, decide_eq_false_iff_not] at hv
      omega
/-- what is left, where lists at a are avoided too -/
theorem Good.gone {x : Option Addr} (g0 : Good K Ps ρ none H s) (e : Ext K ρ H s.entry ρ' H' t) (hv : t.viol = false) (g : Good K Ps ρ' x H' t) : Good K Ps ρ' x H' (s.gone t) := by
  have hb : t.base = s.n := e.base
  have hle : s.n ≤ t.n := e.le
  refine ⟨fun i j hi hj => g.inj i j ?_ ?_, fun i o q => ?_, fun i o hi q hl => ?_, by rw [gone_n e]; exact g0.bl, g.tb, g.xt⟩
  · rw [gone_n e] at hi; omega
  · rw [gone_n e] at hj; omega
  · obtain ⟨hi, h3⟩ := gone_at e q
    have w := g.cell i o h3
    have c := g.clean i o (by omega) h3 fun l h => by
      simp only [S.viol, h, decide_eq_false_iff_not] at hv
      omega
    rw [gone_n e]
    cases o with
    | lst xs =>
      obtain ⟨us, h1, h2⟩ := w
      exact ⟨us, h1, h2.shrink hle (by rw [hb] at c; exact c)⟩
  · obtain ⟨hi', h3⟩ := gone_at e q
    have hb' : i < s.base := hi
    have q0 : s.cells[i]? = some s.cells[i] := List.getElem?_eq_getElem hi'
    rcases e.chg i _ o q0 h3 with z | z | ⟨l, z, w⟩
    · subst z
      exact g0.clean i _ hb' q0 hl
    · exact MO.lt_mono (Nat.zero_le _) _ z
    · simp only [S.viol, z, decide_eq_false_iff_not] at hv
      omega

/-- what a call's caller wants, told of the callee -/
theorem Post.callR {f : List D → S → R D} {Q : VK} {XQ : Nat → Hp → Prop} (g0 : Good K Ps ρ none H s) (p : Post K Ps ρ H s (callR f ds s) Q XQ) : Post K Ps ρ H s.entry (f ds s.entry) Q XQ := by
  unfold L3.callR at p
  cases q : f ds s.entry with
  | bad => rw [q] at p; exact p
  | exc c t =>
    rw [q] at p
    intro ρ' H' e g
    refine p ρ' H' ?_ ?_
    · cases hv : t.viol with
      | true => exact e.stay
      | false => exact e.gone hv
    · cases hv : t.viol with
      | true => exact Good.stay g0 e g
      | false => exact Good.gone g0 e hv g
  | ok d t =>
    rw [q] at p
    intro ρ' H' v e o
    have p' : Post K Ps ρ H s (norm s d t) Q XQ := p
    have stay : Post K Ps ρ H s (.ok d (s.stay t)) Q XQ → Q v H' := fun p => by
      refine p ρ' H' v e.stay ?_
      cases d with
      | lv o' xs =>
        cases o' with
        | true => obtain ⟨a, vs, h1, h2, h3, h4, h7, h5, h6⟩ := o; exact ⟨a, vs, h1, h2, h3, h4, h7, Good.stay g0 e h5, h6⟩
        | false => exact ⟨Good.stay g0 e o.1, o.2⟩
      | _ => exact ⟨Good.stay g0 e o.1, o.2⟩
    have hb : t.base = s.n := e.base
    have hle : s.n ≤ t.n := e.le
    unfold norm at p'
    cases hv : t.viol with
    | true => rw [if_pos hv] at p'; exact stay p'
    | false =>
      rw [if_neg (by rw [hv]; simp)] at p'
      have gone : d.lt t.base = true → (∀ xs, d ≠ .lv true xs) → Post K Ps ρ H s (.ok d (s.gone t)) Q XQ → Q v H' := fun hd hn p => by
        refine p ρ' H' v (e.gone hv) (.of hn (Good.gone g0 e hv o.good) ?_)
        rw [gone_n e]
        have o2 : Rel K ρ' t.n none H' d v := by
          cases d with
          | lv o' xs =>
            cases o' with
            | true => exact absurd rfl (hn xs)
            | false => exact o.2
          | _ => exact o.2
        exact o2.shrink hle (by rw [← hb]; exact hd)
      have other : Post K Ps ρ H s (if d.lt t.base then .ok d (s.gone t) else .ok d (s.stay t)) Q XQ → (∀ xs, d ≠ .lv true xs) → Q v H' := fun p hn => by
        split at p
        · rename_i hd; exact gone hd hn p
        · exact stay p
      cases d with
      | ref m =>
        dsimp only at p'
        split at p'
        · rename_i hm
          exact gone (by simpa [D.lt] using hm) (by simp) p'
        · rename_i hm
          split at p'
          · rename_i xs hx
            split at p'
            · rename_i hl
              have o' : Good K Ps ρ' none H' t ∧ Rel K ρ' t.n none H' (.ref m) v := o
              obtain ⟨g, r⟩ := o'
              cases r with
              | ref hmn =>
                obtain ⟨us, h1, h2⟩ := g.cell m _ hx
                have av : ∀ {d : D} {v : V}, Rel K ρ' t.n none H' d v → Rel K ρ' t.n (some (ρ' m)) H' d v := fun {d v} r => r.map (fun i hi => ⟨hi, rfl⟩) (fun _ _ h => h) (fun _ _ h => h) fun b us h1 h2 _ h4 => ⟨h1, h2, fun q => h2 m hmn (Option.some.inj q), h4⟩
                have avL : ∀ {d : List D} {v : List V}, RelL K ρ' t.n none H' d v → RelL K ρ' t.n (some (ρ' m)) H' d v := fun {d v} r => r.map (fun i hi => ⟨hi, rfl⟩) (fun _ _ h => h) (fun _ _ h => h) fun b us h1 h2 _ h4 => ⟨h1, h2, fun q => h2 m hmn (Option.some.inj q), h4⟩
                have ga : Good K Ps ρ' (some (ρ' m)) H' t := ⟨g.inj, fun i o q => by
                  have w := g.cell i o q
                  cases o with
                  | lst ys => obtain ⟨ws, w1, w2⟩ := w; exact ⟨ws, w1, avL w2⟩, g.clean, g.bl, g.tb, g.xt⟩
                refine p' ρ' H' _ (e.gone hv) ⟨ρ' m, us, rfl, e.fresh m (by simp only [S.entry, S.n]; simp only [S.n] at hb; omega) hmn, h1, fun i hi q => ?_, fun q => ?_, Good.gone g0 e hv ga, ?_⟩
                · rw [gone_n e] at hi
                  have := g.inj i m (by omega) hmn q
                  omega
                · rw [e.av] at q
                  exact g0.xt _ q (e.fresh m (by simp only [S.entry, S.n]; simp only [S.n] at hb; omega) hmn)
                · rw [gone_n e]
                  exact (avL h2).shrink hle (by rw [← hb]; exact hl)
            · exact stay p'
          · exact stay p'
      | lv ow xs =>
        cases ow with
        | false => exact other p' (by simp)
        | true =>
          dsimp only at p'
          split at p'
          · rename_i hd
            obtain ⟨a, vs, h1, h2, h3, h4, h7, h5, h6⟩ := o
            refine p' ρ' H' v (e.gone hv) ⟨a, vs, h1, h2, h3, fun i hi => h4 i (by rw [gone_n e] at hi; omega), h7, Good.gone g0 e hv h5, ?_⟩
            rw [gone_n e]
            exact h6.shrink hle (by rw [← hb]; simpa [D.lt] using hd)
          · exact stay p'
      | non => exact other p' (by simp)
      | bl _ => exact other p' (by simp)
      | int _ => exact other p' (by simp)
      | str _ => exact other p' (by simp)
      | tup _ => exact other p' (by simp)
      | scr _ => exact other p' (by simp)
end
end L3
end

section -- I5
set_option autoImplicit false
set_option linter.all false
set_option maxRecDepth 100000
set_option maxHeartbeats 1000000
namespace L3
open PySem PySem.Spec PyProof.Rows L2

inductive RdL (K : Fr) (ρ : Rh) (n : Nat) (H : Hp) : List D → List V → Prop where
  | nil : RdL K ρ n H [] []
  | cons {d : D} {v : V} {ds : List D} {vs : List V} : RelRd K ρ n H d v → RdL K ρ n H ds vs → RdL K ρ n H (d :: ds) (v :: vs)
section
variable {K : Fr} {Ps : List Addr} {ρ : Rh} {n : Nat} {H : Hp} {s : S}
theorem RelL.rdL (g : Good K Ps ρ none H s) : ∀ {ds : List D} {vs : List V}, RelL K ρ s.n none H ds vs → RdL K ρ s.n H (ds.map (·.rd s)) vs
  | _, _, .nil => .nil
  | _, _, .cons r t => .cons (Rel.rd g (by
      cases r with
      | lv h1 h2 h3 h4 r => exact .lv h1 h2 h3 h4 r
      | non => exact .non
      | bl b => exact .bl b
      | int i => exact .int i
      | str s => exact .str s
      | tup h r => exact .tup h r
      | ref h => exact .ref h
      | scr h => exact .scr h)) (RelL.rdL g t)
theorem RelRd.tupE {xs : List D} {v : V} (h : RelRd K ρ n H (.tup xs) v) : ∃ a vs, v = .ref a ∧ SqT K H a vs ∧ RelL K ρ n none H xs vs := by
  cases h; exact ⟨_, _, rfl, ‹_›, ‹_›⟩
theorem RelRd.strE {s : List Nat} {v : V} (h : RelRd K ρ n H (.str s) v) : v = .str (toS s) := by cases h; rfl
theorem RelRd.intE {i : Int} {v : V} (h : RelRd K ρ n H (.int i) v) : v = .int i := by cases h; rfl
theorem RelRd.blE {i : Bool} {v : V} (h : RelRd K ρ n H (.bl i) v) : v = .bl i := by cases h; rfl
theorem RelRd.scrE {ns : List Int} {v : V} (h : RelRd K ρ n H (.scr ns) v) : ∃ a, v = .ref a ∧ ScrAt K H a (ns.map V.int) := by cases h; exact ⟨_, rfl, ‹_›⟩
theorem intsOf_map : ∀ {xs : List D} {ns : List Int} {vs : List V}, intsOf xs = some ns → RelL K ρ n none H xs vs → vs = ns.map V.int
  | [], ns, vs, h, r => by cases h; cases r; rfl
  | .int i :: xs, ns, vs, h, r => by
    simp only [intsOf, Option.map_eq_some_iff] at h
    obtain ⟨ms, h1, rfl⟩ := h
    cases r with
    | cons r t => cases r; rw [intsOf_map h1 t]; rfl
  | .non :: _, _, _, h, _ => by simp [intsOf] at h
  | .bl _ :: _, _, _, h, _ => by simp [intsOf] at h
  | .str _ :: _, _, _, h, _ => by simp [intsOf] at h
  | .tup _ :: _, _, _, h, _ => by simp [intsOf] at h
  | .lv _ _ :: _, _, _, h, _ => by simp [intsOf] at h
  | .ref _ :: _, _, _, h, _ => by simp [intsOf] at h
  | .scr _ :: _, _, _, h, _ => by simp [intsOf] at h
theorem strsOf_map : ∀ {xs : List D} {ns : List (List Nat)} {vs : List V}, strsOf xs = some ns → RelL K ρ n none H xs vs → vs = (ns.map toS).map V.str
  | [], ns, vs, h, r => by cases h; cases r; rfl
  | .str i :: xs, ns, vs, h, r => by
    simp only [strsOf, Option.map_eq_some_iff] at h
    obtain ⟨ms, h1, rfl⟩ := h
    cases r with
    | cons r t => cases r; rw [strsOf_map h1 t]; rfl
  | .non :: _, _, _, h, _ => by simp [strsOf] at h
  | .bl _ :: _, _, _, h, _ => by simp [strsOf] at h
  | .int _ :: _, _, _, h, _ => by simp [strsOf] at h
  | .tup _ :: _, _, _, h, _ => by simp [strsOf] at h
  | .lv _ _ :: _, _, _, h, _ => by simp [strsOf] at h
  | .ref _ :: _, _, _, h, _ => by simp [strsOf] at h
  | .scr _ :: _, _, _, h, _ => by simp [strsOf] at h
end

theorem maxI_of {ns : List Int} {m : Int} (h : maxI ns = some m) : 0 < ns.length ∧ ∀ k, k ∈ ns → (∀ y, y ∈ ns → y ≤ k) → k = m := by
  cases ns with
  | nil => simp [maxI] at h
  | cons a r =>
    refine ⟨by simp, fun k hk hy => ?_⟩
    simp only [maxI, Option.some.injEq] at h
    have gen : ∀ (r : List Int) (a : Int), (r.foldl (fun m x => if m < x then x else m) a) ∈ a :: r ∧ ∀ y ∈ a :: r, y ≤ r.foldl (fun m x => if m < x then x else m) a := by
      intro r
      induction r with
      | nil => intro a; simp
      | cons b r ih =>
        intro a
        simp only [List.foldl_cons]
        obtain ⟨h1, h2⟩ := ih (if a < b then b else a)
        refine ⟨?_, fun y hy => ?_⟩
        · rcases List.mem_cons.mp h1 with e | e
          · rw [e]; split <;> simp
          · exact List.mem_cons_of_mem _ (List.mem_cons_of_mem _ e)
        · have h3 := h2 _ List.mem_cons_self
          rcases List.mem_cons.mp hy with rfl | hy
          · refine Int.le_trans ?_ h3; split <;> omega
          · rcases List.mem_cons.mp hy with rfl | hy
            · refine Int.le_trans ?_ h3; split <;> omega
            · exact h2 y (List.mem_cons_of_mem _ hy)
    obtain ⟨h1, h2⟩ := gen r a
    rw [h] at h1 h2
    exact Int.le_antisymm (h2 k hk) (hy m h1)
theorem minI_of {ns : List Int} {m : Int} (h : minI ns = some m) : 0 < ns.length ∧ ∀ k, k ∈ ns → (∀ y, y ∈ ns → k ≤ y) → k = m := by
  cases ns with
  | nil => simp [minI] at h
  | cons a r =>
    refine ⟨by simp, fun k hk hy => ?_⟩
    simp only [minI, Option.some.injEq] at h
    have gen : ∀ (r : List Int) (a : Int), (r.foldl (fun m x => if x < m then x else m) a) ∈ a :: r ∧ ∀ y ∈ a :: r, r.foldl (fun m x => if x < m then x else m) a ≤ y := by
      intro r
      induction r with
      | nil => intro a; simp
      | cons b r ih =>
        intro a
        simp only [List.foldl_cons]
        obtain ⟨h1, h2⟩ := ih (if b < a then b else a)
        refine ⟨?_, fun y hy => ?_⟩
        · rcases List.mem_cons.mp h1 with e | e
          · rw [e]; split <;> simp
          · exact List.mem_cons_of_mem _ (List.mem_cons_of_mem _ e)
        · have h3 := h2 _ List.mem_cons_self
          rcases List.mem_cons.mp hy with rfl | hy
          · refine Int.le_trans h3 ?_; split <;> omega
          · rcases List.mem_cons.mp hy with rfl | hy
            · refine Int.le_trans h3 ?_; split <;> omega
            · exact h2 y (List.mem_cons_of_mem _ hy)
    obtain ⟨h1, h2⟩ := gen r a
    rw [h] at h1 h2
    exact Int.le_antisymm (hy m h1) (h2 k hk)

def BI.isTy : BI → Bool
  | .tuple => true | .list => true | .int => true | _ => false
def BI.name : BI → String
  | .len => "len" | .tuple => "tuple" | .list => "list" | .int => "int" | .abs => "abs" | .sum => "sum" | .max => "max" | .min => "min" | .revlist => "?" | .rev1 => "?"
def BI.val (b : BI) : Value := if b.isTy then .type b.name else .builtin b.name
def BI.sole : BI → Bool
  | .revlist => false | .rev1 => false | _ => true
def rBI (K : Fr) (b : BI) : List V → Hp → VK → Prop := fun vs H Q => ∃ Ps ρ s ds d XQ, Good K Ps ρ none H s ∧ RdL K ρ s.n H ds vs ∧ bi b ds = some d ∧ Post K Ps ρ H s (.ok d s) Q XQ
theorem RdL.one {K : Fr} {ρ : Rh} {n : Nat} {H : Hp} {d : D} {vs : List V} (h : RdL K ρ n H [d] vs) : ∃ v, vs = [v] ∧ RelRd K ρ n H d v := by
  cases h with
  | cons r t => cases t; exact ⟨_, rfl, r⟩
theorem RdL.two {K : Fr} {ρ : Rh} {n : Nat} {H : Hp} {d e : D} {vs : List V} (h : RdL K ρ n H [d, e] vs) : ∃ v w, vs = [v, w] ∧ RelRd K ρ n H d v ∧ RelRd K ρ n H e w := by
  cases h with
  | cons r t => obtain ⟨w, rfl, r2⟩ := t.one; exact ⟨_, _, rfl, r, r2⟩
theorem call_bi {X : Cx} (hc : X.calm = true) (b : BI) (hb : b.sole = true) : CallR X b.val (rBI X.K b) := by
  intro pins s σ H vs us Q I r h
  obtain ⟨Ps, ρ, st, ds, d, XQ, g, rd, e, p⟩ := h
  cases b with
  | len =>
    match ds, e, rd with
    | [.tup xs], e, rd =>
      cases e
      obtain ⟨v, rfl, r1⟩ := rd.one
      obtain ⟨a, ws, rfl, ht, rl⟩ := r1.tupE
      exact call_len pins s σ H _ us Q I r ⟨_, _, rfl, .inr ⟨ws, ht, rfl⟩, by rw [← rl.length]; exact p.val g (by simp) (.int _)⟩
    | [.lv o xs], e, rd =>
      cases e
      obtain ⟨v, rfl, r1⟩ := rd.one
      obtain ⟨a, ws, rfl, ht, rl⟩ := r1
      exact call_len pins s σ H _ us Q I r ⟨_, _, rfl, .inl ⟨ws, .of ht, rfl⟩, by rw [← rl.length]; exact p.val g (by simp) (.int _)⟩
    | [.scr ns], e, rd =>
      cases e
      obtain ⟨v, rfl, r1⟩ := rd.one
      obtain ⟨a, rfl, ht⟩ := r1.scrE
      exact call_len pins s σ H _ us Q I r ⟨_, _, rfl, .inl ⟨_, ht.sq, rfl⟩, by rw [List.length_map]; exact p.val g (by simp) (.int _)⟩
    | [.str z], e, rd =>
      obtain ⟨v, rfl, r1⟩ := rd.one
      have := r1.strE
      subst this
      simp only [bi] at e
      split at e
      · rename_i hz
        cases e
        exact call_len pins s σ H _ us Q I r ⟨_, _, rfl, ⟨by rw [toS_len, ← big_eq]; exact hz, rfl⟩, by rw [toS_len]; exact p.val g (by simp) (.int _)⟩
      · cases e
    | [], e, _ => simp [bi] at e
    | [.non], e, _ => simp [bi] at e
    | [.bl _], e, _ => simp [bi] at e
    | [.int _], e, _ => simp [bi] at e
    | [.ref _], e, _ => simp [bi] at e
    | _ :: _ :: _, e, _ => simp [bi] at e
  | tuple =>
    match ds, e, rd with
    | [.tup xs], e, rd =>
      cases e
      obtain ⟨v, rfl, r1⟩ := rd.one
      obtain ⟨a, ws, rfl, ht, rl⟩ := r1.tupE
      exact call_tuple_of pins s σ H _ us Q I r ⟨_, _, rfl, .inr ⟨ht, p.val g (by simp) (.tup ht rl)⟩⟩
    | [.lv o xs], e, rd =>
      cases e
      obtain ⟨v, rfl, r1⟩ := rd.one
      obtain ⟨a, ws, rfl, ht, rl⟩ := r1
      exact call_tuple_of pins s σ H _ us Q I r ⟨_, _, rfl, .inl ⟨.of ht, fun l hl => p.newT g hl rl⟩⟩
    | [], e, _ => simp [bi] at e
    | [.non], e, _ => simp [bi] at e
    | [.bl _], e, _ => simp [bi] at e
    | [.int _], e, _ => simp [bi] at e
    | [.str _], e, _ => simp [bi] at e
    | [.ref _], e, _ => simp [bi] at e
    | [.scr _], e, _ => simp [bi] at e
    | _ :: _ :: _, e, _ => simp [bi] at e
  | list =>
    match ds, e, rd with
    | [.tup xs], e, rd =>
      cases e
      obtain ⟨v, rfl, r1⟩ := rd.one
      obtain ⟨a, ws, rfl, ht, rl⟩ := r1.tupE
      exact call_list_of pins s σ H _ us Q I r ⟨_, _, rfl, .inr ht, fun l hl => p.newL g hl rl⟩
    | [.lv o xs], e, rd =>
      cases e
      obtain ⟨v, rfl, r1⟩ := rd.one
      obtain ⟨a, ws, rfl, ht, rl⟩ := r1
      exact call_list_of pins s σ H _ us Q I r ⟨_, _, rfl, .inl (.of ht), fun l hl => p.newL g hl rl⟩
    | [], e, _ => simp [bi] at e
    | [.non], e, _ => simp [bi] at e
    | [.bl _], e, _ => simp [bi] at e
    | [.int _], e, _ => simp [bi] at e
    | [.str _], e, _ => simp [bi] at e
    | [.ref _], e, _ => simp [bi] at e
    | [.scr _], e, _ => simp [bi] at e
    | _ :: _ :: _, e, _ => simp [bi] at e
  | int =>
    match ds, e, rd with
    | [.int i], e, rd =>
      cases e
      obtain ⟨v, rfl, r1⟩ := rd.one
      have := r1.intE
      subst this
      exact call_int1 pins s σ H _ us Q I r (.inl ⟨_, rfl, p.val g (by simp) (.int _)⟩)
    | [.bl i], e, rd =>
      cases e
      obtain ⟨v, rfl, r1⟩ := rd.one
      have := r1.blE
      subst this
      exact call_int1 pins s σ H _ us Q I r (.inr ⟨_, rfl, p.val g (by simp) (.int _)⟩)
    | [], e, _ => simp [bi] at e
    | [.non], e, _ => simp [bi] at e
    | [.tup _], e, _ => simp [bi] at e
    | [.lv _ _], e, _ => simp [bi] at e
    | [.str _], e, _ => simp [bi] at e
    | [.ref _], e, _ => simp [bi] at e
    | [.scr _], e, _ => simp [bi] at e
    | _ :: _ :: _, e, _ => simp [bi] at e
  | abs =>
    match ds, e, rd with
    | [.int i], e, rd =>
      cases e
      obtain ⟨v, rfl, r1⟩ := rd.one
      have := r1.intE
      subst this
      exact call_abs pins s σ H _ us Q I r ⟨_, rfl, p.val g (by simp) (.int _)⟩
    | [], e, _ => simp [bi] at e
    | [.non], e, _ => simp [bi] at e
    | [.bl _], e, _ => simp [bi] at e
    | [.tup _], e, _ => simp [bi] at e
    | [.lv _ _], e, _ => simp [bi] at e
    | [.str _], e, _ => simp [bi] at e
    | [.ref _], e, _ => simp [bi] at e
    | [.scr _], e, _ => simp [bi] at e
    | _ :: _ :: _, e, _ => simp [bi] at e
  | sum =>
    match ds, e, rd with
    | [.lv o xs], e, rd =>
      simp only [bi, Option.map_eq_some_iff] at e
      obtain ⟨ns, hn, rfl⟩ := e
      obtain ⟨v, rfl, r1⟩ := rd.one
      obtain ⟨a, ws, rfl, ht, rl⟩ := r1
      have := intsOf_map hn rl
      subst this
      exact cr_sum hc pins s σ H _ us Q I r ⟨_, _, rfl, .of ht, p.val g (by simp) (.int _)⟩
    | [], e, _ => simp [bi] at e
    | [.non], e, _ => simp [bi] at e
    | [.bl _], e, _ => simp [bi] at e
    | [.int _], e, _ => simp [bi] at e
    | [.tup _], e, _ => simp [bi] at e
    | [.str _], e, _ => simp [bi] at e
    | [.ref _], e, _ => simp [bi] at e
    | [.scr _], e, _ => simp [bi] at e
    | _ :: _ :: _, e, _ => simp [bi] at e
  | max =>
    match ds, e, rd with
    | [.lv o xs], e, rd =>
      simp only [bi, Option.bind_eq_some_iff, Option.map_eq_some_iff] at e
      obtain ⟨ns, hn, m, hm, rfl⟩ := e
      obtain ⟨v, rfl, r1⟩ := rd.one
      obtain ⟨a, ws, rfl, ht, rl⟩ := r1
      have := intsOf_map hn rl
      subst this
      obtain ⟨h1, h2⟩ := maxI_of hm
      exact cr_max hc pins s σ H _ us Q I r ⟨_, _, rfl, .of ht, h1, fun k hk hy => by rw [h2 k hk hy]; exact p.val g (by simp) (.int _)⟩
    | [.int i, .int j], e, rd =>
      cases e
      obtain ⟨v, w, rfl, r1, r2⟩ := rd.two
      have := r1.intE
      subst this
      have := r2.intE
      subst this
      exact call_max2 hc pins s σ H _ us Q I r ⟨_, _, rfl, p.val g (by simp) (.int _)⟩
    | [], e, _ => simp [bi] at e
    | [.non], e, _ => simp [bi] at e
    | [.bl _], e, _ => simp [bi] at e
    | [.int _], e, _ => simp [bi] at e
    | [.tup _], e, _ => simp [bi] at e
    | [.str _], e, _ => simp [bi] at e
    | [.ref _], e, _ => simp [bi] at e
    | [.scr _], e, _ => simp [bi] at e
    | .non :: _ :: _, e, _ => simp [bi] at e
    | .bl _ :: _ :: _, e, _ => simp [bi] at e
    | .tup _ :: _ :: _, e, _ => simp [bi] at e
    | .str _ :: _ :: _, e, _ => simp [bi] at e
    | .ref _ :: _ :: _, e, _ => simp [bi] at e
    | .scr _ :: _ :: _, e, _ => simp [bi] at e
    | .lv _ _ :: _ :: _, e, _ => simp [bi] at e
    | .int _ :: .non :: _, e, _ => simp [bi] at e
    | .int _ :: .bl _ :: _, e, _ => simp [bi] at e
    | .int _ :: .tup _ :: _, e, _ => simp [bi] at e
    | .int _ :: .str _ :: _, e, _ => simp [bi] at e
    | .int _ :: .ref _ :: _, e, _ => simp [bi] at e
    | .int _ :: .scr _ :: _, e, _ => simp [bi] at e
    | .int _ :: .lv _ _ :: _, e, _ => simp [bi] at e
    | .int _ :: .int _ :: _ :: _, e, _ => simp [bi] at e
  | min =>
    match ds, e, rd with
    | [.lv o xs], e, rd =>
      simp only [bi, Option.bind_eq_some_iff, Option.map_eq_some_iff] at e
      obtain ⟨ns, hn, m, hm, rfl⟩ := e
      obtain ⟨v, rfl, r1⟩ := rd.one
      obtain ⟨a, ws, rfl, ht, rl⟩ := r1
      have := intsOf_map hn rl
      subst this
      obtain ⟨h1, h2⟩ := minI_of hm
      exact cr_min hc pins s σ H _ us Q I r ⟨_, _, rfl, .of ht, h1, fun k hk hy => by rw [h2 k hk hy]; exact p.val g (by simp) (.int _)⟩
    | [.int i, .int j], e, rd =>
      cases e
      obtain ⟨v, w, rfl, r1, r2⟩ := rd.two
      have := r1.intE
      subst this
      have := r2.intE
      subst this
      exact call_min2 hc pins s σ H _ us Q I r ⟨_, _, rfl, p.val g (by simp) (.int _)⟩
    | [], e, _ => simp [bi] at e
    | [.non], e, _ => simp [bi] at e
    | [.bl _], e, _ => simp [bi] at e
    | [.int _], e, _ => simp [bi] at e
    | [.tup _], e, _ => simp [bi] at e
    | [.str _], e, _ => simp [bi] at e
    | [.ref _], e, _ => simp [bi] at e
    | [.scr _], e, _ => simp [bi] at e
    | .non :: _ :: _, e, _ => simp [bi] at e
    | .bl _ :: _ :: _, e, _ => simp [bi] at e
    | .tup _ :: _ :: _, e, _ => simp [bi] at e
    | .str _ :: _ :: _, e, _ => simp [bi] at e
    | .ref _ :: _ :: _, e, _ => simp [bi] at e
    | .scr _ :: _ :: _, e, _ => simp [bi] at e
    | .lv _ _ :: _ :: _, e, _ => simp [bi] at e
    | .int _ :: .non :: _, e, _ => simp [bi] at e
    | .int _ :: .bl _ :: _, e, _ => simp [bi] at e
    | .int _ :: .tup _ :: _, e, _ => simp [bi] at e
    | .int _ :: .str _ :: _, e, _ => simp [bi] at e
    | .int _ :: .ref _ :: _, e, _ => simp [bi] at e
    | .int _ :: .scr _ :: _, e, _ => simp [bi] at e
    | .int _ :: .lv _ _ :: _, e, _ => simp [bi] at e
    | .int _ :: .int _ :: _ :: _, e, _ => simp [bi] at e
  | revlist => exact absurd hb (by simp [BI.sole])
  | rev1 => exact absurd hb (by simp [BI.sole])

def Ty.name : Ty → String
  | .int => "int" | .bool => "bool" | .str => "str" | .list => "list" | .tuple => "tuple"
theorem tyx_of {K : Fr} {ρ : Rh} {n : Nat} {H : Hp} {d : D} {v : V} {t : Ty} {b : Bool} (h : RelRd K ρ n H d v) (e : L3.isTy t d = some b) : ∃ T : String, TyX K H v (.type T) ∧ kitB T t.name = some b := by
  cases d with
  | non => cases h; refine ⟨_, .base .non, ?_⟩; cases t <;> (simp [L3.isTy] at e; subst e; decide +kernel)
  | bl c => cases h; refine ⟨_, .base (.bl _), ?_⟩; cases t <;> (simp [L3.isTy] at e; subst e; decide +kernel)
  | int i => cases h; refine ⟨_, .base (.int _), ?_⟩; cases t <;> (simp [L3.isTy] at e; subst e; decide +kernel)
  | str z => cases h; refine ⟨_, .base (.str _), ?_⟩; cases t <;> (simp [L3.isTy] at e; subst e; decide +kernel)
  | tup xs =>
    obtain ⟨a, ws, rfl, ht, _⟩ := h.tupE
    have : TyX K H (.ref a) (.type "tuple") := by
      rcases ht with (ht | ⟨o, ht⟩) | ⟨o, its, m, h1, h2, _⟩
      · exact .base (.tup ht)
      · exact .fTuple ht
      · exact .kTuple h1 h2
    refine ⟨_, this, ?_⟩
    cases t <;> (simp [L3.isTy] at e; subst e; decide +kernel)
  | lv o xs =>
    obtain ⟨a, ws, rfl, ht, _⟩ := h
    refine ⟨_, .base (.lst ht), ?_⟩
    cases t <;> (simp [L3.isTy] at e; subst e; decide +kernel)
  | ref m => cases t <;> simp [L3.isTy] at e
  | scr m => cases t <;> simp [L3.isTy] at e

theorem RelRd.ix_or {X : Cx} : IxR X (fun x y H Q => rIxT X.K x y H Q ∨ rIxL X.K x y H Q ∨ rIxS x y H Q) := ix_tup.or (ix_list.or ix_str)
theorem atI_eq {α : Type} (xs : List α) (i : Int) : L3.atI xs i = L2.atI xs i := rfl
theorem atI_rel {K : Fr} {ρ : Rh} {n : Nat} {H : Hp} {xs : List D} {vs : List V} {i : Int} {d : D} (r : RelL K ρ n none H xs vs) (h : L3.atI xs i = some d) : ∃ v, L2.atI vs i = some v ∧ Rel K ρ n none H d v := by
  have e : L2.atI xs i = some d := h
  unfold L2.atI at e ⊢
  rw [← r.length]
  cases q : L2.ixN xs.length i with
  | none => rw [q] at e; cases e
  | some j =>
    rw [q] at e
    exact r.get e
theorem rIx {X : Cx} : IxR X (rD2 X.K idx2) := by
  intro value slice pins s σ H x y v u Q I rx ry h hs
  obtain ⟨Ps, ρ, st, dx, dy, d, XQ, g, hx, hy, e, p⟩ := h
  have fin : ∀ {d : D} {w : V}, Post X.K Ps ρ H st (.ok d st) Q XQ → Rel X.K ρ st.n none H d w → Q w H := fun {d w} p r => by
    refine p ρ H w Ext.refl (.of (fun xs e => ?_) g r)
    subst e; cases r
  refine RelRd.ix_or value slice pins s σ H x y v u Q I rx ry ?_ hs
  cases dy with
  | int i =>
    have := hy.intE
    subst this
    cases dx with
    | tup xs =>
      obtain ⟨a, ws, rfl, ht, rl⟩ := hx.tupE
      obtain ⟨w, h1, h2⟩ := atI_rel rl (show L3.atI xs i = some d from e)
      exact .inl ⟨_, _, _, _, rfl, rfl, ht, h1, fin p h2⟩
    | lv o xs =>
      obtain ⟨a, ws, rfl, ht, rl⟩ := hx
      obtain ⟨w, h1, h2⟩ := atI_rel rl (show L3.atI xs i = some d from e)
      exact .inr (.inl ⟨_, _, _, _, rfl, rfl, .of ht, h1, fin p h2⟩)
    | scr ns =>
      obtain ⟨a, rfl, ht⟩ := hx.scrE
      simp only [idx2, Option.map_eq_some_iff] at e
      obtain ⟨k, hk, rfl⟩ := e
      refine .inr (.inl ⟨_, _, _, .int k, rfl, rfl, ht.sq, ?_, fin p (.int _)⟩)
      have hk' : L2.atI ns i = some k := hk
      unfold L2.atI at hk' ⊢
      rw [List.length_map]
      cases q : L2.ixN ns.length i with
      | none => rw [q] at hk'; cases hk'
      | some j =>
        rw [q] at hk'
        have hk' : ns[j]? = some k := hk'
        show (ns.map V.int)[j]? = some (.int k)
        rw [List.getElem?_map, hk']; rfl
    | str z =>
      have := hx.strE
      subst this
      simp only [idx2] at e
      split at e
      · rename_i hz
        simp only [Option.map_eq_some_iff] at e
        obtain ⟨k, hk, rfl⟩ := e
        refine .inr (.inr ⟨_, _, k, rfl, rfl, by rw [toS_len, ← big_eq]; exact hz, by rw [toS_cps]; exact hk, ?_⟩)
        exact fin p (.str [k])
      · cases e
    | _ => simp [idx2] at e
  | _ => cases dx <;> simp [idx2] at e
theorem cut_rel {K : Fr} {ρ : Rh} {n : Nat} {H : Hp} {xs : List D} {vs : List V} (lo hi : Option Int) (r : RelL K ρ n none H xs vs) : RelL K ρ n none H (cut xs lo hi) (cutV vs lo hi) := by
  have e : cut xs lo hi = (xs.drop (HT.sIx xs.length 0 lo)).take (HT.sIx xs.length xs.length hi - HT.sIx xs.length 0 lo) := rfl
  rw [e]
  unfold cutV
  rw [← r.length]
  exact (r.drop _).take _
def rSl (K : Fr) : V → Option Int → Option Int → Hp → VK → Prop := fun x lo hi H Q => ∃ Ps ρ s dx d XQ, Good K Ps ρ none H s ∧ RelRd K ρ s.n H dx x ∧ slc2 lo hi dx = some d ∧ Post K Ps ρ H s (.ok d s) Q XQ
theorem sl_all {X : Cx} : SlR X (rSl X.K) := by
  intro pins s σ H x v vl vu lo hi sl Q I rx hs pl pu h
  obtain ⟨Ps, ρ, st, dx, d, XQ, g, hx, e, p⟩ := h
  cases dx with
  | tup xs =>
    cases e
    obtain ⟨a, ws, rfl, ht, rl⟩ := hx.tupE
    refine sl_tupA pins s σ H _ v vl vu lo hi sl Q I rx hs pl pu ⟨a, ws, rfl, ht, fun hw => ?_, fun hw q hq => ?_⟩
    · refine p.val g (by simp) (.tup ht ?_)
      have e2 : cutV ws lo hi = ws := by
        unfold cutV
        rw [hw.1, hw.2]; simp
      have := cut_rel lo hi rl
      rw [e2] at this
      exact this
    · exact p.newT g hq (cut_rel lo hi rl)
  | lv o xs =>
    cases e
    obtain ⟨a, ws, rfl, ht, rl⟩ := hx
    exact sl_list pins s σ H _ v vl vu lo hi sl Q I rx hs pl pu ⟨a, ws, rfl, .of ht, fun q hq => p.newL g hq (cut_rel lo hi rl)⟩
  | str z =>
    have := hx.strE
    subst this
    simp only [slc2] at e
    split at e
    · rename_i hz
      cases e
      refine sl_str pins s σ H _ v vl vu lo hi sl Q I rx hs pl pu ⟨_, rfl, by rw [toS_len, ← big_eq]; exact hz, ?_⟩
      have e2 : cutS (toS z) lo hi = toS (cut z lo hi) := by
        first
        | (unfold cutS; rw [toS_cps, toS_len]; rfl)
        | (simp [cutS, toS, cut, Str.length]; rfl)
      rw [e2]
      exact p.val g (by simp) (.str _)
    · cases e
  | _ => simp [slc2] at e
end L3
end

section -- I6
set_option autoImplicit false
set_option linter.all false
set_option maxRecDepth 100000
set_option maxHeartbeats 1000000
namespace L3
open PySem PySem.Spec PyProof.Rows L2

theorem R.bind_assoc {α β γ : Type} (r : R α) (f : α → S → R β) (g : β → S → R γ) : (r.bind f).bind g = r.bind fun a s => (f a s).bind g := by
  cases r <;> rfl
section
variable {K : Fr} {Ps : List Addr} {ρ ρ' ρ1 ρ2 : Rh} {H H' H1 H2 : Hp} {s s' s1 s2 : S} {d : D} {v : V} {XQ : Nat → Hp → Prop} {α β : Type}
abbrev GQ (α : Type) := α → S → (Rh) → Hp → Prop
theorem PostG.shift {r : R α} {G : GQ α} (e : Ext K ρ H s ρ1 H1 s1) (p : PostG K Ps ρ H s r G XQ) : PostG K Ps ρ1 H1 s1 r G XQ := by
  cases r with
  | ok d s' => exact fun ρ' H' e' => p ρ' H' (e.trans e')
  | exc c s' => exact fun ρ' H' e' g => p ρ' H' (e.trans e') g
  | bad => exact p
theorem PostG.bind {r : R α} {f : α → S → R β} {G : GQ β} {G1 : GQ α} (p : PostG K Ps ρ H s (r.bind f) G XQ)
    (h : ∀ a s1 ρ1 H1, Ext K ρ H s ρ1 H1 s1 → PostG K Ps ρ1 H1 s1 (f a s1) G XQ → G1 a s1 ρ1 H1) : PostG K Ps ρ H s r G1 XQ := by
  cases r with
  | ok d s' => exact fun ρ' H' e => h d s' ρ' H' e (PostG.shift e p)
  | exc c s' => exact p
  | bad => exact p
/-- a value, then whatever -/
theorem PostG.bindD {r : R D} {f : D → S → R β} {G : GQ β} {Q : VK} (p : PostG K Ps ρ H s (r.bind f) G XQ)
    (h : ∀ d s1 ρ1 H1 v, Ext K ρ H s ρ1 H1 s1 → OkR K Ps H ρ1 H1 s1 d v → PostG K Ps ρ1 H1 s1 (f d s1) G XQ → Q v H1) : Post K Ps ρ H s r Q XQ := by
  cases r with
  | ok d s' => exact fun ρ' H' v e o => h d s' ρ' H' v e o (PostG.shift e p)
  | exc c s' => exact p
  | bad => exact p
/-- whatever, then a value -/
theorem Post.bindG {r : R α} {f : α → S → R D} {Q : VK} {G : GQ α} (p : Post K Ps ρ H s (r.bind f) Q XQ)
    (h : ∀ a s1 ρ1 H1, Ext K ρ H s ρ1 H1 s1 → Post K Ps ρ1 H1 s1 (f a s1) Q XQ → G a s1 ρ1 H1) : PostG K Ps ρ H s r G XQ := by
  cases r with
  | ok d s' => exact fun ρ' H' e => h d s' ρ' H' e (Post.shift e p)
  | exc c s' => exact p
  | bad => exact p
theorem PostG.optb {o : Option α} {f : α → S → R β} {G : GQ β} (p : PostG K Ps ρ H s ((R.opt o s1).bind f) G XQ) : ∃ d, o = some d ∧ PostG K Ps ρ H s (f d s1) G XQ := by
  cases o with
  | none => exact p.elim
  | some d => exact ⟨d, rfl, p⟩
theorem PostG.opt {o : Option α} {G : GQ α} (p : PostG K Ps ρ H s (R.opt o s1) G XQ) : ∃ d, o = some d ∧ PostG K Ps ρ H s (.ok d s1) G XQ := by
  cases o with
  | none => exact p.elim
  | some d => exact ⟨d, rfl, p⟩
end

/-- readings: lists of values, plain results -/
def GL (K : Fr) (Ps : List Addr) (Q : List V → Hp → Prop) : GQ (List D) := fun ds s' ρ' H' => ∀ vs, Good K Ps ρ' none H' s' → RelL K ρ' s'.n none H' ds vs → Q vs H'
def GV {α : Type} (K : Fr) (Ps : List Addr) (Q : α → Hp → Prop) : GQ α := fun a s' ρ' H' => Good K Ps ρ' none H' s' → Q a H'
def TXA (K : Fr) (Ps : List Addr) (cl : XC) (W : WX) (f : Env → S → R (List D)) : TA := fun σ H Q => ∃ ρ e s, Good K Ps ρ none H s ∧ EnvRel K ρ s.n H σ e ∧ PostG K Ps ρ H s (f e s) (GL K Ps Q) fun c H' => W (cl c) none σ H'
def TXO (K : Fr) (Ps : List Addr) (cl : XC) (W : WX) (f : Env → S → R (Option Int)) : TO := fun σ H Q => ∃ ρ e s, Good K Ps ρ none H s ∧ EnvRel K ρ s.n H σ e ∧ PostG K Ps ρ H s (f e s) (GV K Ps Q) fun c H' => W (cl c) none σ H'
def TXB (K : Fr) (Ps : List Addr) (cl : XC) (W : WX) (f : Env → S → R Bool) : TT := fun σ H Q => ∃ ρ e s, Good K Ps ρ none H s ∧ EnvRel K ρ s.n H σ e ∧ PostG K Ps ρ H s (f e s) (GV K Ps Q) fun c H' => W (cl c) none σ H'
/-- as a test -/
def bl (f : Env → S → R D) : Env → S → R Bool := fun e s => (f e s).bind fun x s => R.opt x.bool s

theorem boolE {K : Fr} {Ps : List Addr} {H : Hp} {ρ' : Rh} {H' : Hp} {s' : S} {d : D} {v : V} {b : Bool} (o : OkR K Ps H ρ' H' s' d v) (e : d.bool = some b) : v = .bl b ∧ Good K Ps ρ' none H' s' := by
  cases d with
  | bl c => cases e; obtain ⟨g, r⟩ := o; cases r; exact ⟨rfl, g⟩
  | _ => simp [D.bool] at e
theorem intE {K : Fr} {Ps : List Addr} {H : Hp} {ρ' : Rh} {H' : Hp} {s' : S} {d : D} {v : V} {i : Int} (o : OkR K Ps H ρ' H' s' d v) (e : d.toInt = some i) : v = .int i ∧ d = .int i ∧ Good K Ps ρ' none H' s' := by
  cases d with
  | int c => cases e; obtain ⟨g, r⟩ := o; cases r; exact ⟨rfl, rfl, g⟩
  | _ => simp [D.toInt] at e

section
variable {X : Cx} {Ps : List Addr} {cl : XC} {W : WX} {a b c : Expr} {fa fb fc : Env → S → R D} {pos : Pos}
abbrev E1 (X : Cx) (Ps : List Addr) (cl : XC) (W : WX) (e : Expr) (f : Env → S → R D) : Prop := PE X e (TX X.K Ps cl W f)
abbrev T1 (X : Cx) (Ps : List Addr) (cl : XC) (W : WX) (e : Expr) (f : Env → S → R D) : Prop := PT X e (TXB X.K Ps cl W (bl f))

theorem e_var {i : Nat} {x : Str} (hN : X.N[i]? = some x) (hv : Vis X.env.scope x) (hd : (x == ("__debug__" : Str)) = false) (hcd : (x == ("__classdict__" : Str)) = false) : E1 X Ps cl W (.Name x pos) fun e s => R.opt (getV e i) s := by
  refine PE.imp (pe_var hN hv hd hcd) fun σ H Q ⟨ρ, e, s, g, er, p⟩ => ?_
  obtain ⟨d, h1, p⟩ := p.opt
  obtain ⟨v, h2, r⟩ := er i d h1
  refine ⟨v, h2, p ρ H v Ext.refl (.of (fun xs e => ?_) g r)⟩
  subst e; cases r
theorem e_con {d : D} {v : V} {e : Expr} (h : PE X e (tC v)) (hd : ∀ xs, d ≠ .lv true xs) (hr : ∀ ρ n H, Rel X.K ρ n none H d v) : E1 X Ps cl W e fun _ s => .ok d s :=
  PE.imp h fun σ H Q ⟨ρ, e, s, g, er, p⟩ => p.val g hd (hr _ _ _)
theorem e_bin (op : Op2) (ha : E1 X Ps cl W a fa) (hb : E1 X Ps cl W b fb) : E1 X Ps cl W (.BinOp a op.py b pos) fun e s => (fa e s).bind fun x s => (fb e s).bind fun y s => R.opt (bin2 op (x.rd s) (y.rd s)) s := by
  refine PE.imp (pe_op (op_bin op) ha hb) fun σ H Q ⟨ρ, e, s, g, er, p⟩ => ?_
  refine ⟨ρ, e, s, g, er, p.bind fun d1 s1 ρ1 H1 v1 e1 o1 p => ⟨ρ1, e, s1, o1.good, er.ext g e1, p.bind fun d2 s2 ρ2 H2 v2 e2 o2 p => ?_⟩⟩
  obtain ⟨d, h, p⟩ := p.opt
  exact ⟨Ps, ρ2, s2, _, _, d, _, o2.good, Rel.rd o2.good (o1.frz.ext o1.good e2), o2.rd, h, p⟩
theorem e_cmp (hu : X.A.units + 65 < cLine) (op : Cmp) (ha : E1 X Ps cl W a fa) (hb : E1 X Ps cl W b fb) (hm : behindInMarks op.py b = false) :
    E1 X Ps cl W (.Compare a [op.py] [b] pos) fun e s => (fa e s).bind fun x s => (fb e s).bind fun y s => R.opt ((cmp2 op (x.rd s) (y.rd s)).map .bl) s := by
  refine PE.imp (pe_cmpR (op_cmp hu op) ha hb hm) fun σ H Q ⟨ρ, e, s, g, er, p⟩ => ?_
  refine ⟨ρ, e, s, g, er, p.bind fun d1 s1 ρ1 H1 v1 e1 o1 p => ⟨ρ1, e, s1, o1.good, er.ext g e1, p.bind fun d2 s2 ρ2 H2 v2 e2 o2 p => ?_⟩⟩
  obtain ⟨d, h, p⟩ := p.opt
  simp only [Option.map_eq_some_iff] at h
  obtain ⟨k, h, rfl⟩ := h
  exact ⟨Ps, ρ2, s2, _, _, k, o2.good, Rel.rd o2.good (o1.frz.ext o1.good e2), o2.rd, h, p.val o2.good (by simp) (.bl _)⟩
theorem t_cmp (hu : X.A.units + 65 < cLine) (op : Cmp) (ha : E1 X Ps cl W a fa) (hb : E1 X Ps cl W b fb) (hm : behindInMarks op.py b = false) :
    T1 X Ps cl W (.Compare a [op.py] [b] pos) fun e s => (fa e s).bind fun x s => (fb e s).bind fun y s => R.opt ((cmp2 op (x.rd s) (y.rd s)).map .bl) s := by
  refine PT.imp (pt_cmpR (op_cmp hu op) ha hb hm) fun σ H Q ⟨ρ, e, s, g, er, p⟩ => ?_
  simp only [bl, R.bind_assoc] at p
  refine ⟨ρ, e, s, g, er, p.bindD fun d1 s1 ρ1 H1 v1 e1 o1 p => ⟨ρ1, e, s1, o1.good, er.ext g e1, p.bindD fun d2 s2 ρ2 H2 v2 e2 o2 p => ?_⟩⟩
  obtain ⟨d, h, p⟩ := p.optb
  simp only [Option.map_eq_some_iff] at h
  obtain ⟨k, h, rfl⟩ := h
  exact ⟨Ps, ρ2, s2, _, _, k, o2.good, Rel.rd o2.good (o1.frz.ext o1.good e2), o2.rd, h, k, rfl, p ρ2 H2 Ext.refl o2.good⟩
/-- a value as a test -/
theorem t_val {e : Expr} {f : Env → S → R D} (h : E1 X Ps cl W e f) (he : ∀ whole, isTrue e X.env whole = (do let v ← whole; standAt e.pos; holding [v] (truthy v))) : T1 X Ps cl W e f := by
  refine PT.imp (pt_val h he) fun σ H Q ⟨ρ, e, s, g, er, p⟩ => ?_
  refine ⟨ρ, e, s, g, er, PostG.bindD (f := fun x s => R.opt x.bool s) p fun d s1 ρ1 H1 v e1 o p => ?_⟩
  obtain ⟨b, h, p⟩ := p.opt
  obtain ⟨rfl, g1⟩ := boolE o h
  exact ⟨b, rfl, p ρ1 H1 Ext.refl g1⟩
theorem e_neg (ha : E1 X Ps cl W a fa) : E1 X Ps cl W (.UnaryOp .USub a pos) fun e s => (fa e s).bind fun x s => R.opt (x.toInt.map fun i => .int (-i)) s := by
  refine PE.imp (pe_un un_neg ha) fun σ H Q ⟨ρ, e, s, g, er, p⟩ => ?_
  refine ⟨ρ, e, s, g, er, p.bind fun d1 s1 ρ1 H1 v1 e1 o1 p => ?_⟩
  obtain ⟨d, h, p⟩ := p.opt
  simp only [Option.map_eq_some_iff] at h
  obtain ⟨i, h, rfl⟩ := h
  obtain ⟨rfl, _, g1⟩ := intE o1 h
  exact ⟨i, rfl, p.val g1 (by simp) (.int _)⟩
theorem e_not (ha : E1 X Ps cl W a fa) : E1 X Ps cl W (.UnaryOp .Not a pos) fun e s => (fa e s).bind fun x s => R.opt (x.bool.map fun b => .bl (!b)) s := by
  refine PE.imp (pe_not ha) fun σ H Q ⟨ρ, e, s, g, er, p⟩ => ?_
  refine ⟨ρ, e, s, g, er, p.bind fun d1 s1 ρ1 H1 v1 e1 o1 p => ?_⟩
  obtain ⟨d, h, p⟩ := p.opt
  simp only [Option.map_eq_some_iff] at h
  obtain ⟨i, h, rfl⟩ := h
  obtain ⟨rfl, g1⟩ := boolE o1 h
  exact ⟨i, rfl, p.val g1 (by simp) (.bl _)⟩
theorem t_not (ha : T1 X Ps cl W a fa) : T1 X Ps cl W (.UnaryOp .Not a pos) fun e s => (fa e s).bind fun x s => R.opt (x.bool.map fun b => .bl (!b)) s := by
  refine PT.imp (pt_not ha) fun σ H Q ⟨ρ, e, s, g, er, p⟩ => ?_
  refine ⟨ρ, e, s, g, er, ?_⟩
  simp only [bl, R.bind_assoc] at p ⊢
  cases q : fa e s with
  | ok x s1 =>
    rw [q] at p
    simp only [R.bind_ok] at p ⊢
    cases hb : x.bool with
    | none => rw [hb] at p; exact p
    | some k => rw [hb] at p; exact p
  | exc c s1 => rw [q] at p; exact p
  | bad => rw [q] at p; exact p
abbrev fAnd (fa fb : Env → S → R D) : Env → S → R D := fun e s => (fa e s).bind fun x s => (R.opt x.bool s).bind fun t s => if t then fb e s else .ok (.bl false) s
abbrev fOr (fa fb : Env → S → R D) : Env → S → R D := fun e s => (fa e s).bind fun x s => (R.opt x.bool s).bind fun t s => if t then .ok (.bl true) s else fb e s
theorem e_and {rest : List Expr} (ha : E1 X Ps cl W a fa) (hb : E1 X Ps cl W (.BoolOp .And (b :: rest) pos) fb) : E1 X Ps cl W (.BoolOp .And (a :: b :: rest) pos) (fAnd fa fb) := by
  refine PE.imp (pe_and ha hb) fun σ H Q ⟨ρ, e, s, g, er, p⟩ => ?_
  refine ⟨ρ, e, s, g, er, p.bind fun d1 s1 ρ1 H1 v1 e1 o1 p => ?_⟩
  obtain ⟨t, h, p⟩ := p.optb
  obtain ⟨rfl, g1⟩ := boolE o1 h
  refine ⟨t, rfl, ?_⟩
  cases t with
  | true => exact ⟨ρ1, e, s1, g1, er.ext g e1, p⟩
  | false => exact p.val g1 (by simp) (.bl _)
theorem e_or {rest : List Expr} (ha : E1 X Ps cl W a fa) (hb : E1 X Ps cl W (.BoolOp .Or (b :: rest) pos) fb) : E1 X Ps cl W (.BoolOp .Or (a :: b :: rest) pos) (fOr fa fb) := by
  refine PE.imp (pe_or ha hb) fun σ H Q ⟨ρ, e, s, g, er, p⟩ => ?_
  refine ⟨ρ, e, s, g, er, p.bind fun d1 s1 ρ1 H1 v1 e1 o1 p => ?_⟩
  obtain ⟨t, h, p⟩ := p.optb
  obtain ⟨rfl, g1⟩ := boolE o1 h
  refine ⟨t, rfl, ?_⟩
  cases t with
  | true => exact p.val g1 (by simp) (.bl _)
  | false => exact ⟨ρ1, e, s1, g1, er.ext g e1, p⟩
abbrev W1 (X : Cx) (Ps : List Addr) (cl : XC) (W : WX) (e : Expr) (f : Env → S → R D) : Prop := PW X e (TXB X.K Ps cl W (bl f))
/-- the first one's test, then what follows -/
theorem bl_cut {K : Fr} {ρ : Rh} {H : Hp} {s : S} {e : Env} {fa : Env → S → R D} {k : Bool → S → R D} {G : GQ Bool} {XQ : Nat → Hp → Prop}
    (p : PostG K Ps ρ H s (((fa e s).bind fun x s => (R.opt x.bool s).bind k).bind fun x s => R.opt x.bool s) G XQ) :
    PostG K Ps ρ H s ((bl fa e s).bind fun t s => (k t s).bind fun x s => R.opt x.bool s) G XQ := by
  simp only [bl, R.bind_assoc] at p ⊢
  cases q : fa e s with
  | ok x s1 =>
    rw [q] at p
    simp only [R.bind_ok] at p ⊢
    cases hb : x.bool with
    | none => rw [hb] at p; exact p
    | some k => rw [hb] at p; exact p
  | exc c s1 => rw [q] at p; exact p
  | bad => rw [q] at p; exact p
theorem w_and {rest : List Expr} (ha : T1 X Ps cl W a fa) (hb : W1 X Ps cl W (.BoolOp .And (b :: rest) pos) fb) : W1 X Ps cl W (.BoolOp .And (a :: b :: rest) pos) (fAnd fa fb) := by
  refine PW.imp (pw_and ha hb) fun σ H Q ⟨ρ, e, s, g, er, p⟩ => ?_
  refine ⟨ρ, e, s, g, er, (bl_cut p).bind fun t s1 ρ1 H1 e1 p g1 => ?_⟩
  cases t with
  | true => exact ⟨ρ1, e, s1, g1, er.ext g e1, p⟩
  | false => exact p ρ1 H1 Ext.refl g1
theorem w_or {rest : List Expr} (ha : T1 X Ps cl W a fa) (hb : W1 X Ps cl W (.BoolOp .Or (b :: rest) pos) fb) : W1 X Ps cl W (.BoolOp .Or (a :: b :: rest) pos) (fOr fa fb) := by
  refine PW.imp (pw_or ha hb) fun σ H Q ⟨ρ, e, s, g, er, p⟩ => ?_
  refine ⟨ρ, e, s, g, er, (bl_cut p).bind fun t s1 ρ1 H1 e1 p g1 => ?_⟩
  cases t with
  | true => exact p ρ1 H1 Ext.refl g1
  | false => exact ⟨ρ1, e, s1, g1, er.ext g e1, p⟩
abbrev fIte (fc fa fb : Env → S → R D) : Env → S → R D := fun e s => (fc e s).bind fun x s => (R.opt x.bool s).bind fun t s => if t then fa e s else fb e s
theorem bl_cutD {K : Fr} {ρ : Rh} {H : Hp} {s : S} {e : Env} {fa : Env → S → R D} {k : Bool → S → R D} {Q : VK} {XQ : Nat → Hp → Prop}
    (p : Post K Ps ρ H s ((fa e s).bind fun x s => (R.opt x.bool s).bind k) Q XQ) : Post K Ps ρ H s ((bl fa e s).bind k) Q XQ := by
  simp only [bl, R.bind_assoc]
  cases q : fa e s with
  | ok x s1 => rw [q] at p; exact p
  | exc c s1 => rw [q] at p; exact p
  | bad => rw [q] at p; exact p
theorem e_ite (hc : T1 X Ps cl W c fc) (ha : E1 X Ps cl W a fa) (hb : E1 X Ps cl W b fb) : E1 X Ps cl W (.IfExp c a b pos) (fIte fc fa fb) := by
  refine PE.imp (pe_ifExp hc ha hb) fun σ H Q ⟨ρ, e, s, g, er, p⟩ => ?_
  refine ⟨ρ, e, s, g, er, (bl_cutD p).bindG fun t s1 ρ1 H1 e1 p g1 => ?_⟩
  cases t with
  | true => exact ⟨ρ1, e, s1, g1, er.ext g e1, p⟩
  | false => exact ⟨ρ1, e, s1, g1, er.ext g e1, p⟩
theorem pt_ifExp {tA tB' tC' : TT} (hc : PT X c tC') (ha : PT X a tA) (hb : PT X b tB') : PT X (.IfExp c a b pos) (fun σ H Q => tC' σ H fun k H1 => if k = true then tA σ H1 Q else tB' σ H1 Q) := by
  refine ⟨fun pins s σ H Q I h => ?_⟩
  show wpAny _ _ (PySem.isTrue (.IfExp c a b pos) X.env _) _ _ s
  unfold PySem.isTrue
  refine wpAny_bind (thn (hc.run pins s σ H _ I h) fun d s1 ⟨H1, I1, q1⟩ => ?_)
  cases d with
  | true => exact ha.run pins s1 σ H1 Q I1 q1
  | false => exact hb.run pins s1 σ H1 Q I1 q1
theorem t_ite (hc : T1 X Ps cl W c fc) (ha : T1 X Ps cl W a fa) (hb : T1 X Ps cl W b fb) : T1 X Ps cl W (.IfExp c a b pos) (fIte fc fa fb) := by
  refine PT.imp (pt_ifExp hc ha hb) fun σ H Q ⟨ρ, e, s, g, er, p⟩ => ?_
  refine ⟨ρ, e, s, g, er, (bl_cut p).bind fun t s1 ρ1 H1 e1 p g1 => ?_⟩
  cases t with
  | true => exact ⟨ρ1, e, s1, g1, er.ext g e1, p⟩
  | false => exact ⟨ρ1, e, s1, g1, er.ext g e1, p⟩
abbrev fChain (o1 o2 : Cmp) (fa fb fc : Env → S → R D) : Env → S → R D := fun e s => (fa e s).bind fun x s => (fb e s).bind fun y s => (R.opt (cmp2 o1 (x.rd s) (y.rd s)) s).bind fun t s =>
      if t then (fc e s).bind fun z s => R.opt ((cmp2 o2 (y.rd s) (z.rd s)).map .bl) s else .ok (.bl false) s
theorem chain_read (hu : X.A.units + 65 < cLine) (o1 o2 : Cmp) (ha : E1 X Ps cl W a fa) (hb : E1 X Ps cl W b fb) (hc : E1 X Ps cl W c fc) {σ : L2.St} {H : Hp} {Q : VK} (h : TX X.K Ps cl W (fChain o1 o2 fa fb fc) σ H Q) :
    tChain (rDC X.K o1) (rDC X.K o2) (TX X.K Ps cl W fa) (TX X.K Ps cl W fb) (TX X.K Ps cl W fc) σ H Q := by
  obtain ⟨ρ, e, s, g, er, p⟩ := h
  refine ⟨ρ, e, s, g, er, p.bind fun d1 s1 ρ1 H1 v1 e1 r1 p => ⟨ρ1, e, s1, r1.good, er.ext g e1, p.bind fun d2 s2 ρ2 H2 v2 e2 r2 p => ?_⟩⟩
  obtain ⟨t, h, p⟩ := p.optb
  refine ⟨Ps, ρ2, s2, _, _, t, r2.good, Rel.rd r2.good (r1.frz.ext r1.good e2), r2.rd, h, t, rfl, ?_⟩
  cases t with
  | false => exact p.val r2.good (by simp) (.bl _)
  | true =>
    refine ⟨ρ2, e, s2, r2.good, (er.ext g e1).ext r1.good e2, Post.bind (r := fc e s2) p fun d3 s3 ρ3 H3 v3 e3 r3 p => ?_⟩
    obtain ⟨k, h, p⟩ := p.opt
    simp only [Option.map_eq_some_iff] at h
    obtain ⟨k, h, rfl⟩ := h
    exact ⟨Ps, ρ3, s3, _, _, k, r3.good, Rel.rd r3.good (r2.frz.ext r2.good e3), r3.rd, h, p.val r3.good (by simp) (.bl _)⟩
theorem e_chain (hu : X.A.units + 65 < cLine) (o1 o2 : Cmp) (ha : E1 X Ps cl W a fa) (hb : E1 X Ps cl W b fb) (hc : E1 X Ps cl W c fc) (hm : lastMarks [o1.py, o2.py] [b, c] = false) :
    E1 X Ps cl W (.Compare a [o1.py, o2.py] [b, c] pos) (fChain o1 o2 fa fb fc) :=
  PE.imp (pe_chain (op_cmp hu o1) (op_cmp hu o2) ha hb hc hm) fun σ H Q h => chain_read hu o1 o2 ha hb hc h
theorem t_chain (hu : X.A.units + 65 < cLine) (o1 o2 : Cmp) (ha : E1 X Ps cl W a fa) (hb : E1 X Ps cl W b fb) (hc : E1 X Ps cl W c fc) (hm : lastMarks [o1.py, o2.py] [b, c] = false) :
    T1 X Ps cl W (.Compare a [o1.py, o2.py] [b, c] pos) (fChain o1 o2 fa fb fc) := by
  refine PT.imp (pt_chain (op_cmp hu o1) (op_cmp hu o2) ha hb hc hm) fun σ H Q ⟨ρ, e, s, g, er, p⟩ => ?_
  refine chain_read hu o1 o2 ha hb hc ⟨ρ, e, s, g, er, PostG.bindD (f := fun x s => R.opt x.bool s) p fun d s1 ρ1 H1 v e1 o p => ?_⟩
  obtain ⟨b, h, p⟩ := p.opt
  obtain ⟨rfl, g1⟩ := boolE o h
  exact ⟨b, rfl, p ρ1 H1 Ext.refl g1⟩

theorem a_nil : PA X [] (TXA X.K Ps cl W fun _ s => .ok [] s) := PA.imp pa_nil fun σ H Q ⟨ρ, e, s, g, er, p⟩ => p ρ H Ext.refl [] g .nil
theorem a_cons {es : List Expr} {fs : Env → S → R (List D)} (ha : E1 X Ps cl W a fa) (hs : PA X es (TXA X.K Ps cl W fs)) (hst : starEach (a :: es) X.env = (false, eval a X.env) :: starEach es X.env) :
    PA X (a :: es) (TXA X.K Ps cl W fun e s => (fa e s).bind fun x s => (fs e s).bind fun ys s => .ok (x.frz :: ys) s) := by
  refine PA.imp (pa_cons ha hs hst) fun σ H Q ⟨ρ, e, s, g, er, p⟩ => ?_
  refine ⟨ρ, e, s, g, er, p.bindD fun d1 s1 ρ1 H1 v1 e1 o1 p => ⟨ρ1, e, s1, o1.good, er.ext g e1, p.bind fun ds s2 ρ2 H2 e2 p vs g2 r2 => ?_⟩⟩
  exact p ρ2 H2 Ext.refl _ g2 (.cons (o1.frz.ext o1.good e2) r2)
def tStar (K : Fr) (ta : TE) (tr : TA) : TA := fun σ H Q => ta σ H fun x H1 => ∃ a xs, x = .ref a ∧ (SqT K H1 a xs ∨ SqL K H1 a xs) ∧ tr σ H1 fun ys H2 => Q (xs ++ ys) H2
theorem pa_star {es : List Expr} {ta : TE} {tr : TA} {p : Pos} (ha : PE X a ta) (hr : PA X es tr) : PA X (.Starred a p :: es) (tStar X.K ta tr) := by
  refine ⟨fun pos pins s σ H Q I h => ?_⟩
  refine PySem.W.items_star (thn (ha.run pins s σ H _ I h) fun u s1 ⟨x, H1, I1, r1, A, xs, ex, hq, q⟩ => ?_) rfl
  subst ex
  obtain rfl : u = Value.ref A := r1
  have fin : ∀ {T : String} {o : Obj} {its : List Value} {n : Nat}, (T = "list" ∨ T = "tuple") → s1.heap.get? A = some o → o.cls = .type T → o.data = .seq its.toArray n → its.length ≤ sizeLine → Vals xs its →
      PySem.W.StarOf (model X.prog X.w) X.A X.xe (.ref A) (fun here s₂ => wpAny (model X.prog X.w) X.A (spliced (backTo pos (starEach es X.env))) (fun vs s₃ => AP X pins σ Q (here ++ vs) s₃) X.xe s₂) s1 := by
    intro T o its n hT ho hc hd hz rv
    have hT' : s1.TypeIs (.ref A) T := ⟨o, ho, hc⟩
    have z : wpAny (model X.prog X.w) X.A (collect (.ref A)) (fun here s₂ => wpAny (model X.prog X.w) X.A (spliced (backTo pos (starEach es X.env))) (fun vs s₃ => AP X pins σ Q (here ++ vs) s₃) X.xe s₂) X.xe s1 := by
      refine wpAny_collect_seq A hT ho hc hd (fun h' hk => ?_) (by rw [List.size_toArray]; exact hz)
      have I2 : L2.Inv X pins σ H1 { s1 with heap := h' } := I1.kept (t' := s1.toks) hk
      refine thn (hr.run pos pins _ σ H1 _ I2 q) fun us s3 ⟨ys, H3, I3, r3, q3⟩ => ⟨xs ++ ys, H3, I3, ?_, q3⟩
      exact Vals.append rv r3
    unfold PySem.W.StarOf notIterableAtAll
    rcases hT with rfl | rfl
    · exact wpAny_bind (wpAny_specialOf hT' PySem.F.slot_list_iter.lookup (wpAny_pure ⟨rfl, z⟩))
    · exact wpAny_bind (wpAny_specialOf hT' PySem.F.slot_tuple_iter.lookup (wpAny_pure ⟨rfl, z⟩))
  rcases hq with hq | hq
  · obtain ⟨its, rv, ht, hz⟩ := I1.tuple hq
    obtain ⟨o, ho, hc, n, hd⟩ := id ht
    exact fin (.inr rfl) ho hc hd (by rw [← rv.length]; exact hz) rv
  · obtain ⟨its, rv, ⟨o, n, ho, hc, _, hd⟩, hz⟩ := I1.list hq
    exact fin (.inl rfl) ho hc hd (by rw [← rv.length]; exact hz) rv
theorem items_sq {K : Fr} {ρ : Rh} {n : Nat} {H : Hp} {d : D} {v : V} {xs : List D} (h : RelRd K ρ n H d v) (e : d.items = some xs) : ∃ a vs, v = .ref a ∧ (SqT K H a vs ∨ SqL K H a vs) ∧ RelL K ρ n none H xs vs := by
  cases d with
  | tup ys => cases e; obtain ⟨a, vs, h1, h2, h3⟩ := h.tupE; exact ⟨a, vs, h1, .inl h2, h3⟩
  | lv o ys => cases e; obtain ⟨a, vs, h1, h2, h3⟩ := h; exact ⟨a, vs, h1, .inr (.of h2), h3⟩
  | _ => simp [D.items] at e
theorem a_star {es : List Expr} {fs : Env → S → R (List D)} {p : Pos} (ha : E1 X Ps cl W a fa) (hs : PA X es (TXA X.K Ps cl W fs)) :
    PA X (.Starred a p :: es) (TXA X.K Ps cl W fun e s => (fa e s).bind fun x s => (R.opt (x.rd s).items s).bind fun xs s => (fs e s).bind fun ys s => .ok (xs ++ ys) s) := by
  refine PA.imp (pa_star ha hs) fun σ H Q ⟨ρ, e, s, g, er, p⟩ => ?_
  refine ⟨ρ, e, s, g, er, p.bindD fun d1 s1 ρ1 H1 v1 e1 o1 p => ?_⟩
  obtain ⟨xs, h, p⟩ := p.optb
  obtain ⟨A, vs, rfl, hq, rl⟩ := items_sq o1.rd h
  refine ⟨A, vs, rfl, hq, ρ1, e, s1, o1.good, er.ext g e1, p.bind fun ds s2 ρ2 H2 e2 p ys g2 r2 => ?_⟩
  exact p ρ2 H2 Ext.refl _ g2 ((rl.ext o1.good e2).append r2)
theorem e_tup {es : List Expr} {fs : Env → S → R (List D)} {k : Nat} (hs : PA X es (TXA X.K Ps cl W fs)) : E1 X Ps cl W (.Tuple es k pos) fun e s => (fs e s).bind fun ds s => R.chk (decide (ds.length ≤ big)) (.ok (.tup ds) s) := by
  refine PE.imp (pe_tup hs) fun σ H Q ⟨ρ, e, s, g, er, p⟩ => ?_
  refine ⟨ρ, e, s, g, er, p.bindG fun ds s1 ρ1 H1 e1 p vs g1 r1 => ?_⟩
  unfold R.chk at p
  split at p
  · rename_i hz
    exact ⟨by rw [← r1.length, ← big_eq]; simpa using hz, fun q hq => p.newT g1 hq r1⟩
  · exact p.elim
theorem e_lst {es : List Expr} {fs : Env → S → R (List D)} (hs : PA X es (TXA X.K Ps cl W fs)) : E1 X Ps cl W (.List es pos) fun e s => (fs e s).bind fun ds s => R.chk (decide (ds.length ≤ big)) (.ok (.lv true ds) s) := by
  refine PE.imp (pe_lst hs) fun σ H Q ⟨ρ, e, s, g, er, p⟩ => ?_
  refine ⟨ρ, e, s, g, er, p.bindG fun ds s1 ρ1 H1 e1 p vs g1 r1 => ?_⟩
  unfold R.chk at p
  split at p
  · rename_i hz
    exact ⟨by rw [← r1.length, ← big_eq]; simpa using hz, fun q hq => p.newL g1 hq r1⟩
  · exact p.elim

theorem e_idx (ha : E1 X Ps cl W a fa) (hb : E1 X Ps cl W b fb) (hs : PlainIx b) : E1 X Ps cl W (.Subscript a b pos) fun e s => (fa e s).bind fun x s => (fb e s).bind fun y s => R.opt (idx2 (x.rd s) y) s := by
  refine PE.imp (pe_ix rIx ha hb hs) fun σ H Q ⟨ρ, e, s, g, er, p⟩ => ?_
  refine ⟨ρ, e, s, g, er, p.bind fun d1 s1 ρ1 H1 v1 e1 o1 p => ⟨ρ1, e, s1, o1.good, er.ext g e1, p.bind fun d2 s2 ρ2 H2 v2 e2 o2 p => ?_⟩⟩
  obtain ⟨d, h, p9⟩ := p.opt
  have hi : ∃ i, d2 = .int i := by
    clear p o2
    revert h
    cases d1.rd s2 <;> cases d2 <;> simp [idx2]
  obtain ⟨i, hi⟩ := hi
  subst hi
  obtain ⟨g2, r2⟩ := o2
  exact ⟨Ps, ρ2, s2, _, _, d, _, g2, Rel.rd g2 (o1.frz.ext o1.good e2), .of r2, h, p9⟩
theorem o_none : PO X none (TXO X.K Ps cl W fun _ s => .ok none s) := ⟨fun pins s σ H Q I ⟨ρ, e, st, g, er, p⟩ => po_none.run pins s σ H Q I (p ρ H Ext.refl g)⟩
theorem o_some (ha : E1 X Ps cl W a fa) : PO X (some a) (TXO X.K Ps cl W fun e s => (fa e s).bind fun x s => (R.opt x.toInt s).bind fun i s => .ok (some i) s) := by
  refine ⟨fun pins s σ H Q I ⟨ρ, e, st, g, er, p⟩ => (po_some ha).run pins s σ H Q I ⟨ρ, e, st, g, er, p.bindD fun d1 s1 ρ1 H1 v1 e1 o1 p => ?_⟩⟩
  obtain ⟨i, h, p⟩ := p.optb
  obtain ⟨rfl, _, g1⟩ := intE o1 h
  exact ⟨i, rfl, p ρ1 H1 Ext.refl g1⟩
theorem e_slc {lo hi : Option Expr} {fl fh : Env → S → R (Option Int)} {p2 : Pos} (ha : E1 X Ps cl W a fa) (hl : PO X lo (TXO X.K Ps cl W fl)) (hh : PO X hi (TXO X.K Ps cl W fh)) :
    E1 X Ps cl W (.Subscript a (.Slice lo hi none p2) pos) fun e s => (fa e s).bind fun x s => (fl e s).bind fun l s => (fh e s).bind fun h s => R.opt (slc2 l h (x.rd s)) s := by
  refine PE.imp (pe_slice sl_all ha hl hh) fun σ H Q ⟨ρ, e, s, g, er, p⟩ => ?_
  refine ⟨ρ, e, s, g, er, p.bind fun d1 s1 ρ1 H1 v1 e1 o1 p => ⟨ρ1, e, s1, o1.good, er.ext g e1, p.bindG fun l s2 ρ2 H2 e2 p g2 => ⟨ρ2, e, s2, g2, (er.ext g e1).ext o1.good e2, p.bindG fun h s3 ρ3 H3 e3 p g3 => ?_⟩⟩⟩
  obtain ⟨d, hd, p⟩ := p.opt
  exact ⟨Ps, ρ3, s3, _, d, _, g3, Rel.rd g3 ((o1.frz.ext o1.good e2).ext g2 e3), hd, p⟩

theorem e_bi {x : Str} {es : List Expr} {fs : Env → S → R (List D)} {p : Pos} (hc : X.calm = true) (k : BI) (hk : k.sole = true) (hg : Gl X x) (hm : X.mg x = none) (hv : bootBuiltins x = some k.val) (ha : PA X (a :: es) (TXA X.K Ps cl W fs))
    (hn : x ≠ "__name__") (hdb : (x == ("__debug__" : Str)) = false) (he : starEach (a :: es) X.env = (false, eval a X.env) :: starEach es X.env) (hpl : (backTo pos (starEach es X.env)).any (·.1) = false) :
    E1 X Ps cl W (.Call (.Name x p) (a :: es) [] pos) fun e s => (fs e s).bind fun ds s => R.opt (bi k (ds.map (·.rd s))) s := by
  have h : PE X (.Call (.Name x p) (a :: es) [] pos) (tCB (rBI X.K k) (TXA X.K Ps cl W fs)) := by
    cases hT : k.isTy with
    | true =>
      have e : k.val = .type k.name := by unfold BI.val; rw [hT]; rfl
      have hcr := call_bi hc k hk
      rw [e] at hv hcr
      exact pe_callTy hcr hg hm hv ha hn hdb he hpl
    | false =>
      have e : k.val = .builtin k.name := by unfold BI.val; rw [hT]; rfl
      have hcr := call_bi hc k hk
      rw [e] at hv hcr
      exact pe_callB hcr hg hm hv ha hn hdb he hpl
  refine PE.imp h fun σ H Q ⟨ρ, e, s, g, er, p⟩ => ?_
  refine ⟨ρ, e, s, g, er, p.bindG fun ds s1 ρ1 H1 e1 p vs g1 r1 => ?_⟩
  obtain ⟨d, hd, p⟩ := p.opt
  exact ⟨Ps, ρ1, s1, _, d, _, g1, r1.rdL g1, hd, p⟩
theorem e_isa {x y : Str} {p p2 : Pos} (t : Ty) (ha : E1 X Ps cl W a fa) (hg : Gl X x) (hm : X.mg x = none) (hv : bootBuiltins x = some (.builtin "isinstance")) (hg2 : Gl X y) (hm2 : X.mg y = none) (hv2 : bootBuiltins y = some (.type t.name))
    (hn : x ≠ "__name__") (hdb : (x == ("__debug__" : Str)) = false) (hn2 : y ≠ "__name__") (hdb2 : (y == ("__debug__" : Str)) = false) (he : starEach (a :: [.Name y p2]) X.env = (false, eval a X.env) :: starEach [.Name y p2] X.env) :
    E1 X Ps cl W (.Call (.Name x p) [a, .Name y p2] [] pos) fun e s => (fa e s).bind fun x s => R.opt ((L3.isTy t (x.rd s)).map .bl) s := by
  refine PE.imp (pe_callB call_isi hg hm hv (pa_cons ha (pa_cons (pe_bltn (v := .ty t.name) hg2 hm2 hv2 rfl hn2 hdb2) pa_nil rfl) he) hn hdb he rfl) fun σ H Q ⟨ρ, e, s, g, er, p⟩ => ?_
  refine ⟨ρ, e, s, g, er, p.bind fun d1 s1 ρ1 H1 v1 e1 o1 p => ?_⟩
  obtain ⟨d, h, p⟩ := p.opt
  simp only [Option.map_eq_some_iff] at h
  obtain ⟨k, h, rfl⟩ := h
  obtain ⟨T, h1, h2⟩ := tyx_of o1.rd h
  exact ⟨_, _, _, _, k, rfl, .ty _, h1, kit_ty h2, p.val o1.good (by simp) (.bl _)⟩
end
end L3
end

section -- I7
set_option autoImplicit false
set_option linter.all false
set_option maxRecDepth 100000
set_option maxHeartbeats 1000000
namespace L3
open PySem PySem.Spec PyProof.Rows L2

theorem joinS_eq (sep : List Nat) : ∀ (ss : List (List Nat)), Str.join (toS sep) (ss.map toS) = toS (joinS sep ss)
  | [] => rfl
  | [a] => rfl
  | a :: b :: r => by
    show Str.join (toS sep) (toS a :: toS b :: r.map toS) = _
    have ih := joinS_eq sep (b :: r)
    rw [List.map_cons] at ih
    simp only [Str.join, joinS]
    rw [ih]
    rw [← toS_app, ← toS_app]
    try first
      | rfl
      | simp [toS, Str.append]
theorem occ_full (s sub : Str) (hi : Nat) : ∀ (l : List Nat) (st : Array Nat × Nat), 1 ≤ st.fst.size → (forIn l st (StrLaws.occBody s sub hi 1)).run.fst = st.fst
  | [], st, h => rfl
  | a :: l, st, h => by
    rw [List.forIn_cons]
    have c : ¬ (((st.fst.size < 1 ∧ st.snd ≤ a) ∧ a + sub.length ≤ hi) ∧ Builtin.Str.subAt s sub a = true) := fun z => by omega
    unfold StrLaws.occBody
    rw [if_neg c]
    exact occ_full s sub hi l st h
theorem occ_first (s sub : Str) (hi : Nat) : ∀ (l : List Nat) (free : Nat), (∀ i ∈ l, free ≤ i) →
    (forIn l ((#[] : Array Nat), free) (StrLaws.occBody s sub hi 1)).run.fst.toList = (l.find? fun i => decide (i + sub.length ≤ hi ∧ Builtin.Str.subAt s sub i = true)).toList
  | [], free, _ => rfl
  | a :: l, free, hf => by
    rw [List.forIn_cons]
    have ha : free ≤ a := hf a List.mem_cons_self
    by_cases hc : a + sub.length ≤ hi ∧ Builtin.Str.subAt s sub a = true
    · have c1 : (((#[] : Array Nat), free).fst.size < 1 ∧ ((#[] : Array Nat), free).snd ≤ a) ∧ a + sub.length ≤ hi := ⟨⟨by simp, ha⟩, hc.1⟩
      unfold StrLaws.occBody
      rw [if_pos ⟨c1, hc.2⟩, List.find?_cons_of_pos (by simpa using hc)]
      have z := occ_full s sub hi l (#[].push a, a + sub.length) (by simp)
      have z2 := congrArg Array.toList z
      simp only [Array.toList_push, List.nil_append] at z2
      exact z2
    · have c2 : ¬ (((((#[] : Array Nat), free).fst.size < 1 ∧ ((#[] : Array Nat), free).snd ≤ a) ∧ a + sub.length ≤ hi) ∧ Builtin.Str.subAt s sub a = true) := fun h => hc ⟨h.1.2, h.2⟩
      unfold StrLaws.occBody
      rw [if_neg c2, List.find?_cons_of_neg (by simpa using hc)]
      exact occ_first s sub hi l free fun i hi' => hf i (List.mem_cons_of_mem _ hi')
theorem findFrom_eq (s : List Nat) (c : Nat) : ∀ (n k : Nat), k + n = s.length → (match ((List.range' k (n + 1)).find? fun i => decide (s[i]? = some c)).toList with | j :: _ => (j : Int) | [] => -1) = findFrom c (s.drop k) k
  | 0, k, h => by
    have e : s.drop k = [] := List.drop_of_length_le (by omega)
    have e2 : s[k]? = none := List.getElem?_eq_none (by omega)
    simp [e, findFrom, List.range', e2]
  | n + 1, k, h => by
    have hk : k < s.length := by omega
    rw [List.drop_eq_getElem_cons hk, List.range'_succ]
    simp only [findFrom]
    by_cases z : s[k] = c
    · rw [if_pos z, List.find?_cons_of_pos (by simp [hk, z])]
      rfl
    · rw [if_neg z, List.find?_cons_of_neg (by simp [hk, z])]
      exact findFrom_eq s c n (k + 1) (by omega)
theorem find3_eq (s : List Nat) (c : Nat) (i : Int) (h0 : 0 ≤ i) (h1 : i ≤ s.length) : Txt.find3 (toS s) (toS [c]) i = findFrom c (s.drop i.toNat) i.toNat := by
  have hl : (toS s).length = s.length := toS_len s
  have hf : fromIndex (toS s).length i = i.toNat := by
    unfold fromIndex
    rw [if_neg (by omega)]
    congr 1
    omega
  unfold Txt.find3
  rw [hf, StrLaws.occ_eq, occ_first _ _ _ _ _ (fun j hj => by simp [List.mem_range'] at hj; omega)]
  have e : (fun j => decide (j + (toS [c]).length ≤ (toS s).length ∧ Builtin.Str.subAt (toS s) (toS [c]) j = true)) = fun j => decide (s[j]? = some c) := by
    funext j
    have z := StrLaws.subAt_one (toS s) c j
    rw [toS_cps] at z
    exact decide_eq_decide.mpr z
  rw [e, hl]
  have e2 : s.length + 1 - i.toNat = (s.length - i.toNat) + 1 := by omega
  rw [e2]
  exact findFrom_eq s c (s.length - i.toNat) i.toNat (by omega)

def BM.name : BM → Str
  | .join => "join" | .find => "find"
def BM.id : BM → String
  | .join => "str.join" | .find => "str.find"
def rBM (K : Fr) (m : BM) : V → List V → Hp → VK → Prop := fun x vs H Q => ∃ Ps ρ s z ds d XQ, Good K Ps ρ none H s ∧ x = .str (toS z) ∧ RdL K ρ s.n H ds vs ∧ bm m (.str z) ds = some d ∧ Post K Ps ρ H s (.ok d s) Q XQ
theorem mt_bm {X : Cx} (m : BM) : MtR X m.id (rBM X.K m) := by
  intro pins s σ H x xs v us Q I rx rs h
  obtain ⟨Ps, ρ, st, z, ds, d, XQ, g, rfl, rd, e, p⟩ := h
  cases m with
  | join =>
    match ds, e, rd with
    | [.lv o ys], e, rd =>
      simp only [bm, Option.bind_eq_some_iff] at e
      obtain ⟨ss, hs, e⟩ := e
      split at e
      · rename_i hz
        cases e
        obtain ⟨w, rfl, r1⟩ := rd.one
        obtain ⟨a, ws, rfl, ht, rl⟩ := r1
        have := strsOf_map hs rl
        subst this
        refine mt_join pins s σ H _ _ v us Q I rx rs ⟨toS z, a, ss.map toS, rfl, rfl, .inl (.of ht), ?_, ?_⟩
        · have e1 : ((ss.map toS).map fun x => x.length) = ss.map (·.length) := by
            rw [List.map_map]
            exact List.map_congr_left fun q _ => toS_len q
          have e2 : ((ss.map toS).map Str.length) = ss.map (·.length) := e1
          first
            | (rw [e2, List.length_map, toS_len, Nat.mul_comm]; exact hz)
            | (rw [e1, List.length_map, toS_len, Nat.mul_comm]; exact hz)
        · have e3 : Txt.join (toS z) (ss.map toS) = toS (joinS z ss) := by
            show Builtin.Str.glued _ _ = _
            rw [StrLaws.glued_eq_join]
            exact joinS_eq z ss
          rw [e3]
          exact p.val g (by simp) (.str _)
      · cases e
    | [], e, _ => simp [bm] at e
    | [.non], e, _ => simp [bm] at e
    | [.bl _], e, _ => simp [bm] at e
    | [.int _], e, _ => simp [bm] at e
    | [.str _], e, _ => simp [bm] at e
    | [.tup _], e, _ => simp [bm] at e
    | [.ref _], e, _ => simp [bm] at e
    | [.scr _], e, _ => simp [bm] at e
    | _ :: _ :: _, e, _ => simp [bm] at e
  | find =>
    have shape : ∃ c i, ds = [.str [c], .int i] := by
      revert e
      match ds with
      | [.str [c], .int i] => exact fun _ => ⟨c, i, rfl⟩
      | [] => simp [bm]
      | [_] => simp [bm]
      | _ :: _ :: _ :: _ => simp [bm]
      | [.non, _] => simp [bm]
      | [.bl _, _] => simp [bm]
      | [.int _, _] => simp [bm]
      | [.tup _, _] => simp [bm]
      | [.lv _ _, _] => simp [bm]
      | [.ref _, _] => simp [bm]
      | [.scr _, _] => simp [bm]
      | [.str [], _] => simp [bm]
      | [.str (_ :: _ :: _), _] => simp [bm]
      | [.str [_], .non] => simp [bm]
      | [.str [_], .bl _] => simp [bm]
      | [.str [_], .str _] => simp [bm]
      | [.str [_], .tup _] => simp [bm]
      | [.str [_], .lv _ _] => simp [bm]
      | [.str [_], .ref _] => simp [bm]
      | [.str [_], .scr _] => simp [bm]
    obtain ⟨c, i, rfl⟩ := shape
    simp only [bm] at e
    split at e
    · rename_i hz
      cases e
      obtain ⟨w, w', rfl, r1, r2⟩ := rd.two
      have := r1.strE
      subst this
      have := r2.intE
      subst this
      refine mt_find3 pins s σ H _ _ v us Q I rx rs ⟨_, _, _, rfl, rfl, ?_⟩
      rw [find3_eq z c i hz.1 hz.2.1]
      exact p.val g (by simp) (.int _)
    · cases e

def MM.name : MM → Str
  | .append => "append" | .extend => "extend" | .pop => "pop"
def MM.id : MM → String
  | .append => "list.append" | .extend => "list.extend" | .pop => "list.pop"
def rMM (K : Fr) (m : MM) : V → List V → Hp → VK → Prop := fun x vs H Q => ∃ Ps ρ s n ds XQ, Good K Ps ρ none H s ∧ n < s.n ∧ x = .ref (ρ n) ∧ RelL K ρ s.n none H ds vs ∧ Post K Ps ρ H s (mmS m n ds s) Q XQ
theorem RelL.one {K : Fr} {ρ : Rh} {n : Nat} {x : Option Addr} {H : Hp} {d : D} {vs : List V} (h : RelL K ρ n x H [d] vs) : ∃ v, vs = [v] ∧ Rel K ρ n x H d v := by
  cases h with
  | cons r t => cases t; exact ⟨_, rfl, r⟩
theorem Rel.notown {K : Fr} {ρ : Rh} {n : Nat} {x : Option Addr} {H : Hp} {d : D} {v : V} (h : Rel K ρ n x H d v) : ∀ xs, d ≠ .lv true xs := fun xs e => by subst e; cases h
theorem Rel.rd' {K : Fr} {Ps : List Addr} {ρ : Rh} {H : Hp} {s : S} {d : D} {v : V} (g : Good K Ps ρ none H s) (h : Rel K ρ s.n none H d v) : RelRd K ρ s.n H (d.rd s) v := by
  obtain ⟨ws, e, r⟩ : ∃ ws, [v] = ws ∧ RelL K ρ s.n none H [d] ws := ⟨_, rfl, .cons h .nil⟩
  subst e
  obtain ⟨w, e, r⟩ := (r.rdL g).one
  cases e
  exact r
theorem mt_mm {X : Cx} (m : MM) : MtR X m.id (rMM X.K m) := by
  intro pins s σ H x xs v us Q I rx rs h
  obtain ⟨Ps, ρ, st, n, ds, XQ, g, hn, rfl, rl, p⟩ := h
  have e0 : st.cells[n]? = some st.cells[n] := List.getElem?_eq_getElem hn
  have c0 := g.cell n _ e0
  unfold mmS at p
  rw [e0] at p
  generalize st.cells[n] = o at p c0 e0
  cases o with
  | lst ys =>
    obtain ⟨ws, hw, rw_⟩ := c0
    dsimp only at p
    cases m with
    | append =>
      match ds, rl, p with
      | [d], rl, p =>
        obtain ⟨w, rfl, r1⟩ := rl.one
        simp only [mutI] at p
        split at p
        · rename_i hz
          refine mt_append pins s σ H _ _ v us Q I rx rs ⟨_, _, _, rfl, rfl, hw, by rw [← rw_.length, ← big_eq]; exact hz, ?_⟩
          exact p ρ _ _ (Ext.put g hn _ _) ⟨g.put hn (rw_.snoc r1), .non⟩
        · exact p.elim
      | [], _, p => simp only [mutI] at p; exact p.elim
      | _ :: _ :: _, _, p => simp only [mutI] at p; exact p.elim
    | extend =>
      match ds, rl, p with
      | [d], rl, p =>
        obtain ⟨w, rfl, r1⟩ := rl.one
        simp only [mutI] at p
        have rr := r1.rd' g
        split at p
        · rename_i o zs hd
          rw [hd] at rr
          obtain ⟨b, us', rfl, hb, rb⟩ := rr
          split at p
          · rename_i hz
            refine mt_extend pins s σ H _ _ v us Q I rx rs ⟨_, _, _, _, rfl, rfl, hw, hb, by rw [← rw_.length, ← rb.length, ← big_eq]; exact hz, ?_⟩
            exact p ρ _ _ (Ext.put g hn _ _) ⟨g.put hn (rw_.append rb), .non⟩
          · exact p.elim
        · exact p.elim
      | [], _, p => simp only [mutI] at p; exact p.elim
      | _ :: _ :: _, _, p => simp only [mutI] at p; exact p.elim
    | pop =>
      match ds, rl, p with
      | [], rl, p =>
        cases rl
        simp only [mutI] at p
        split at p
        · rename_i d hd
          rw [List.getLast?_eq_getElem?] at hd
          obtain ⟨w, h1, h2⟩ := rw_.get hd
          rw [rw_.length] at h1
          refine mt_pop pins s σ H _ _ v us Q I rx rs ⟨_, _, _, rfl, rfl, hw, h1, ?_⟩
          have rdl : RelL X.K ρ st.n none H ys.dropLast ws.dropLast := by
            rw [List.dropLast_eq_take, List.dropLast_eq_take, rw_.length]; exact rw_.take _
          have e1 := Ext.put g hn (.lst ys.dropLast) (.lst ws.dropLast)
          exact p ρ _ _ e1 (.of h2.notown (g.put hn rdl) (h2.ext g e1))
        · exact p.elim
      | [_], _, p => simp only [mutI] at p; exact p.elim
      | _ :: _ :: _, _, p => simp only [mutI] at p; exact p.elim

section
variable {X : Cx} {Ps : List Addr} {cl : XC} {W : WX} {a b c : Expr} {fa fb fc : Env → S → R D} {pos : Pos}
theorem strE' {K : Fr} {H : Hp} {ρ' : Rh} {H' : Hp} {s' : S} {d : D} {v : V} {z : List Nat} (o : OkR K Ps H ρ' H' s' d v) (e : strOf d = some z) : v = .str (toS z) ∧ Good K Ps ρ' none H' s' := by
  cases d with
  | str c => cases e; obtain ⟨g, r⟩ := o; cases r; exact ⟨rfl, g⟩
  | _ => simp [strOf] at e
theorem cellE {K : Fr} {H : Hp} {ρ' : Rh} {H' : Hp} {s' : S} {d : D} {v : V} {n : Nat} (o : OkR K Ps H ρ' H' s' d v) (e : cellOf d s' = some n) : v = .ref (ρ' n) ∧ n < s'.n ∧ Good K Ps ρ' none H' s' := by
  cases d with
  | ref m =>
    simp only [cellOf] at e
    split at e
    · cases e; obtain ⟨g, r⟩ := o; cases r; exact ⟨rfl, ‹_›, g⟩
    · cases e
  | _ => simp [cellOf] at e
theorem e_bm {es : List Expr} {fs : Env → S → R (List D)} {apos : Pos} (m : BM) (ho : E1 X Ps cl W a fa) (ha : PA X (b :: es) (TXA X.K Ps cl W fs)) (hbase : attributeBase a m.name X.env (eval a X.env) = eval a X.env)
    (hfew : ((backTo pos (starEach (b :: es) X.env)).all (fun x => !x.1) && (backToKw pos (keywordEach [] X.env)).all (fun x => x.1.isSome)
      && decide ((b :: es).length + ([] : List Keyword).length + (if ([] : List Keyword).isEmpty then 0 else 1) < 30)) = true)
    (hline : (apos.endLine == pos.line) = true) (hs : starEach (b :: es) X.env = (false, eval b X.env) :: starEach es X.env) (hplain : (backTo pos (starEach es X.env)).any (·.1) = false) :
    E1 X Ps cl W (.Call (.Attribute a m.name apos) (b :: es) [] pos) fun e s => (fa e s).bind fun x s => (R.opt (strOf x) s).bind fun z s => (fs e s).bind fun ds s => R.opt (L3.bm m (.str z) (ds.map (·.rd s))) s := by
  have h : PE X (.Call (.Attribute a m.name apos) (b :: es) [] pos) (tBM X.K "str" (rBM X.K m) (TX X.K Ps cl W fa) (TXA X.K Ps cl W fs)) := by
    cases m with
    | join => exact pe_bm PySem.F.plainAttrs_str PySem.F.slot_str_join PySem.F.type_str_join (mt_bm .join) ho ha hbase hfew hline hs hplain
    | find => exact pe_bm PySem.F.plainAttrs_str PySem.F.slot_str_find PySem.F.type_str_find (mt_bm .find) ho ha hbase hfew hline hs hplain
  refine PE.imp h fun σ H Q ⟨ρ, e, s, g, er, p⟩ => ?_
  refine ⟨ρ, e, s, g, er, p.bind fun d1 s1 ρ1 H1 v1 e1 o1 p => ?_⟩
  obtain ⟨z, hz, p⟩ := p.optb
  obtain ⟨rfl, g1⟩ := strE' o1 hz
  refine ⟨rfl, ρ1, e, s1, g1, er.ext g e1, p.bindG fun ds s2 ρ2 H2 e2 p vs g2 r2 => ?_⟩
  obtain ⟨d, hd, p⟩ := p.opt
  exact ⟨Ps, ρ2, s2, z, _, d, _, g2, rfl, r2.rdL g2, hd, p⟩
theorem e_mm {es : List Expr} {fs : Env → S → R (List D)} {apos : Pos} (m : MM) (hm : m ≠ .pop) (ho : E1 X Ps cl W a fa) (ha : PA X (b :: es) (TXA X.K Ps cl W fs)) (hbase : attributeBase a m.name X.env (eval a X.env) = eval a X.env)
    (hfew : ((backTo pos (starEach (b :: es) X.env)).all (fun x => !x.1) && (backToKw pos (keywordEach [] X.env)).all (fun x => x.1.isSome)
      && decide ((b :: es).length + ([] : List Keyword).length + (if ([] : List Keyword).isEmpty then 0 else 1) < 30)) = true)
    (hline : (apos.endLine == pos.line) = true) (hs : starEach (b :: es) X.env = (false, eval b X.env) :: starEach es X.env) (hplain : (backTo pos (starEach es X.env)).any (·.1) = false) :
    E1 X Ps cl W (.Call (.Attribute a m.name apos) (b :: es) [] pos) fun e s => (fa e s).bind fun x s => (R.opt (cellOf x s) s).bind fun n s => (fs e s).bind fun ds s => mmS m n ds s := by
  have h : PE X (.Call (.Attribute a m.name apos) (b :: es) [] pos) (tBM X.K "list" (rMM X.K m) (TX X.K Ps cl W fa) (TXA X.K Ps cl W fs)) := by
    cases m with
    | append => exact pe_bm PySem.F.plainAttrs_list PySem.F.slot_list_append PySem.F.type_list_append (mt_mm .append) ho ha hbase hfew hline hs hplain
    | extend => exact pe_bm PySem.F.plainAttrs_list PySem.F.slot_list_extend PySem.F.type_list_extend (mt_mm .extend) ho ha hbase hfew hline hs hplain
    | pop => exact absurd rfl hm
  refine PE.imp h fun σ H Q ⟨ρ, e, s, g, er, p⟩ => ?_
  refine ⟨ρ, e, s, g, er, p.bind fun d1 s1 ρ1 H1 v1 e1 o1 p => ?_⟩
  obtain ⟨n, hn, p⟩ := p.optb
  obtain ⟨rfl, hlt, g1⟩ := cellE o1 hn
  obtain ⟨us, hu⟩ := g1.lst hlt
  refine ⟨.inl ⟨rfl, us, .of hu⟩, ρ1, e, s1, g1, er.ext g e1, p.bindG fun ds s2 ρ2 H2 e2 p vs g2 r2 => ?_⟩
  exact ⟨Ps, ρ2, s2, n, ds, _, g2, Nat.lt_of_lt_of_le hlt e2.le, by rw [e2.same n hlt], r2, p⟩
theorem e_pop {apos : Pos} (ho : E1 X Ps cl W a fa) (hbase : attributeBase a "pop" X.env (eval a X.env) = eval a X.env) (hline : (apos.endLine == pos.line) = true) :
    E1 X Ps cl W (.Call (.Attribute a "pop" apos) [] [] pos) fun e s => (fa e s).bind fun x s => (R.opt (cellOf x s) s).bind fun n s => (R.ok [] s : R (List D)).bind fun ds s => mmS .pop n ds s := by
  refine PE.imp (pe_bm0 PySem.F.plainAttrs_list PySem.F.slot_list_pop PySem.F.type_list_pop (mt_mm .pop) ho hbase hline) fun σ H Q ⟨ρ, e, s, g, er, p⟩ => ?_
  refine ⟨ρ, e, s, g, er, p.bind fun d1 s1 ρ1 H1 v1 e1 o1 p => ?_⟩
  obtain ⟨n, hn, p⟩ := p.optb
  obtain ⟨rfl, hlt, g1⟩ := cellE o1 hn
  obtain ⟨us, hu⟩ := g1.lst hlt
  exact ⟨.inl ⟨rfl, us, .of hu⟩, Ps, ρ1, s1, n, [], _, g1, hlt, rfl, .nil, p⟩
/-- a list gets a number -/
theorem e_cell (ha : E1 X Ps cl W a fa) : E1 X Ps cl W a fun e s => (fa e s).bind fun x s => newCell x s := by
  refine PE.imp ha fun σ H Q ⟨ρ, e, s, g, er, p⟩ => ?_
  refine ⟨ρ, e, s, g, er, ?_⟩
  have p : Post X.K Ps ρ H s ((fa e s).bind fun x s => newCell x s) Q fun c H' => W (cl c) none σ H' := p
  cases q : fa e s with
  | bad => rw [q] at p; exact p
  | exc c s' => rw [q] at p; exact p
  | ok d s' =>
    rw [q] at p
    intro ρ' H' v e' o
    have p : Post X.K Ps ρ H s (newCell d s') Q fun c H' => W (cl c) none σ H' := p
    unfold newCell at p
    split at p
    · obtain ⟨ρ2, e2, g2, r2⟩ := okR_cell e' o
      refine p ρ2 H' v e2 ⟨g2, ?_⟩
      have hn : S.n ⟨s'.cells ++ [.lst ‹_›], s'.base, s'.up⟩ = s'.n + 1 := by simp [S.n]
      rw [hn]; exact r2
    · exact p.elim

/-- what a def promises: what the small syntax says -/
def spI (K : Fr) (Ps : List Addr) (cl : XC) (m : Nat) (f : List D → S → R D) : Sp := fun vs H Q E => vs.length = m ∧ ∃ (ρ : Rh) (ds : List D) (s : S), Good K Ps ρ none H s.entry ∧ RelL K ρ s.n none H ds vs ∧ Post K Ps ρ H s.entry (f ds s.entry) Q fun c H' => E (cl c) none H'
structure FnF (X : Cx) (Ps : List Addr) (cl : XC) (k m : Nat) (f : List D → S → R D) (x : Str) : Prop where
  ex : ∃ a fd ps, X.mg x = some (.ref a) ∧ PySem.W.keepIn X.K (.ref a) = true ∧ Binds X.K fd ps [] ∧ FnOk X.prog X.w X.K X.mg X.base (L2N.CX X.prog X.w) k a fd ps (spI X.K Ps cl m f)
  ar : ∀ ds s, ds.length ≠ m → f ds s = .bad
theorem e_call {x : Str} {es : List Expr} {fs : Env → S → R (List D)} {p : Pos} {k m : Nat} {f : List D → S → R D} (F : FnF X Ps cl k m f x) (hr : Room k X.A) (tk : L2N.Takes X W) (hg : Gl X x) (ha : PA X (a :: es) (TXA X.K Ps cl W fs))
    (hdb : (x == ("__debug__" : Str)) = false) (he : starEach (a :: es) X.env = (false, eval a X.env) :: starEach es X.env) (hpl : (backTo pos (starEach es X.env)).any (·.1) = false) :
    E1 X Ps cl W (.Call (.Name x p) (a :: es) [] pos) fun e s => (fs e s).bind fun ds s => callR f ds s := by
  obtain ⟨⟨A, fd, ps, h1, h2, h3, h4⟩, ar⟩ := F
  refine PE.imp (pe_callS (E := WE W) h4 hr hg h1 h2 h3 (fun σ => L2N.passAt tk σ) ha hdb he hpl) fun σ H Q ⟨ρ, e, s, g, er, p⟩ => ?_
  refine ⟨ρ, e, s, g, er, p.bindG fun ds s1 ρ1 H1 e1 p vs g1 r1 => ?_⟩
  refine ⟨?_, ρ1, ds, s1, g1.entry, r1, Post.callR g1 p⟩
  rw [← r1.length]
  refine Classical.byContradiction fun q => ?_
  unfold callR at p
  rw [ar _ _ q] at p
  exact p
end
end L3
end

section -- I8
set_option autoImplicit false
set_option linter.all false
set_option maxRecDepth 100000
set_option maxHeartbeats 1000000
namespace L3
open PySem PySem.Spec PyProof.Rows L2

/-- the item at place i: none: no such list; some none: at the end -/
def nextI (it : L3.It) (i : Nat) (s : S) : Option (Option D) := match it with
  | .fix xs => some xs[i]?
  | .at n => match s.cells[n]? with
    | some (.lst xs) => some xs[i]?
    | none => none
def lcG (f : D → S → R (Option D)) (it : L3.It) : Nat → Nat → List D → S → R D
  | 0, _, _, _ => .bad
  | k + 1, i, acc, s => match nextI it i s with
    | none => .bad
    | some none => .ok (.lv true acc) s
    | some (some x) => (f x s).bind fun o s => match o with
      | some d => if acc.length < big then lcG f it k (i + 1) (acc ++ [d.frz]) s else .bad
      | none => lcG f it k (i + 1) acc s
def geG (all : Bool) (f : D → S → R (Option Bool)) (it : L3.It) : Nat → Nat → S → R D
  | 0, _, _ => .bad
  | k + 1, i, s => match nextI it i s with
    | none => .bad
    | some none => .ok (.bl all) s
    | some (some x) => (f x s).bind fun o s => match o with
      | some b => if b == all then geG all f it k (i + 1) s else .ok (.bl (!all)) s
      | none => geG all f it k (i + 1) s
def foG (f : D → Env → S → F) (it : L3.It) : Nat → Nat → Env → S → F
  | 0, _, _, _ => .bad
  | k + 1, i, e, s => match nextI it i s with
    | none => .bad
    | some none => .nx e s
    | some (some x) => (f x e s).turn fun e s => foG f it k (i + 1) e s
def fuelI (it : L3.It) (s : S) : Nat := match it with
  | .fix xs => xs.length + 1
  | .at n => cellLen s n + 1
theorem bind_congr {α β : Type} {r : R α} {f g : α → S → R β} (h : ∀ a s, f a s = g a s) : r.bind f = r.bind g := by
  cases r with
  | ok a s => exact h a s
  | exc c s => rfl
  | bad => rfl
theorem turn_congr {r : F} {f g : Env → S → F} (h : ∀ a s, f a s = g a s) : r.turn f = r.turn g := by
  cases r with
  | nx e s => exact h e s
  | ct e s => exact h e s
  | _ => rfl
theorem lcC_eq (f : D → S → R (Option D)) (n : Nat) : ∀ k i acc s, lcC f n k i acc s = lcG f (.at n) k i acc s
  | 0, _, _, _ => rfl
  | k + 1, i, acc, s => by
    unfold lcC lcG
    cases q : s.cells[n]? with
    | none => simp only [nextI, q]
    | some o =>
      cases o with
      | lst xs =>
        cases h : xs[i]? with
        | none => simp only [nextI, q, h]
        | some x =>
          simp only [nextI, q, h]
          refine bind_congr fun o s => ?_
          cases o with
          | none => exact lcC_eq f n k (i + 1) acc s
          | some d => dsimp only; rw [lcC_eq f n k (i + 1) (acc ++ [d.frz]) s]
theorem lcL_eq (f : D → S → R (Option D)) (xs : List D) : ∀ (r : List D) (i : Nat) (acc : List D) (s : S), xs.drop i = r → lcL f r acc s = lcG f (.fix xs) (r.length + 1) i acc s
  | [], i, acc, s, h => by
    have : xs[i]? = none := by rw [List.getElem?_eq_none_iff]; exact List.drop_eq_nil_iff.mp h
    simp [lcL, lcG, nextI, this]
  | x :: r, i, acc, s, h => by
    have e : xs[i]? = some x := by rw [← List.head?_drop, h]; rfl
    have e2 : xs.drop (i + 1) = r := by rw [← List.tail_drop, h]; rfl
    unfold lcL lcG nextI
    simp only [e, List.length_cons]
    refine bind_congr fun o s => ?_
    cases o with
    | none => exact lcL_eq f xs r (i + 1) acc s e2
    | some d => dsimp only; rw [lcL_eq f xs r (i + 1) (acc ++ [d.frz]) s e2]
theorem lcI_eq (f : D → S → R (Option D)) (it : L3.It) (s : S) : lcI f it s = lcG f it (fuelI it s) 0 [] s := by
  cases it with
  | fix xs => exact lcL_eq f xs xs 0 [] s rfl
  | «at» n => exact lcC_eq f n _ _ _ _
theorem geC_eq (all : Bool) (f : D → S → R (Option Bool)) (n : Nat) : ∀ k i s, geC all f n k i s = geG all f (.at n) k i s
  | 0, _, _ => rfl
  | k + 1, i, s => by
    unfold geC geG
    cases q : s.cells[n]? with
    | none => simp only [nextI, q]
    | some o =>
      cases o with
      | lst xs =>
        cases h : xs[i]? with
        | none => simp only [nextI, q, h]
        | some x =>
          simp only [nextI, q, h]
          refine bind_congr fun o s => ?_
          cases o with
          | none => exact geC_eq all f n k (i + 1) s
          | some d => dsimp only; rw [geC_eq all f n k (i + 1) s]
theorem geL_eq (all : Bool) (f : D → S → R (Option Bool)) (xs : List D) : ∀ (r : List D) (i : Nat) (s : S), xs.drop i = r → geL all f r s = geG all f (.fix xs) (r.length + 1) i s
  | [], i, s, h => by
    have : xs[i]? = none := by rw [List.getElem?_eq_none_iff]; exact List.drop_eq_nil_iff.mp h
    simp [geL, geG, nextI, this]
  | x :: r, i, s, h => by
    have e : xs[i]? = some x := by rw [← List.head?_drop, h]; rfl
    have e2 : xs.drop (i + 1) = r := by rw [← List.tail_drop, h]; rfl
    unfold geL geG nextI
    simp only [e, List.length_cons]
    refine bind_congr fun o s => ?_
    cases o with
    | none => exact geL_eq all f xs r (i + 1) s e2
    | some d => dsimp only; rw [geL_eq all f xs r (i + 1) s e2]
theorem geI_eq (all : Bool) (f : D → S → R (Option Bool)) (it : L3.It) (s : S) : geI all f it s = geG all f it (fuelI it s) 0 s := by
  cases it with
  | fix xs => exact geL_eq all f xs xs 0 s rfl
  | «at» n => exact geC_eq all f n _ _ _
theorem foC_eq (f : D → Env → S → F) (n : Nat) : ∀ k i e s, foC f n k i e s = foG f (.at n) k i e s
  | 0, _, _, _ => rfl
  | k + 1, i, e, s => by
    unfold foC foG
    cases q : s.cells[n]? with
    | none => simp only [nextI, q]
    | some o =>
      cases o with
      | lst xs =>
        cases h : xs[i]? with
        | none => simp only [nextI, q, h]
        | some x =>
          simp only [nextI, q, h]
          exact turn_congr fun e s => foC_eq f n k (i + 1) e s
theorem foL_eq (f : D → Env → S → F) (xs : List D) : ∀ (r : List D) (i : Nat) (e : Env) (s : S), xs.drop i = r → foL f r e s = foG f (.fix xs) (r.length + 1) i e s
  | [], i, e, s, h => by
    have : xs[i]? = none := by rw [List.getElem?_eq_none_iff]; exact List.drop_eq_nil_iff.mp h
    simp [foL, foG, nextI, this]
  | x :: r, i, e, s, h => by
    have e1 : xs[i]? = some x := by rw [← List.head?_drop, h]; rfl
    have e2 : xs.drop (i + 1) = r := by rw [← List.tail_drop, h]; rfl
    unfold foL foG nextI
    simp only [e1, List.length_cons]
    exact turn_congr fun e s => foL_eq f xs r (i + 1) e s e2
theorem foI_eq (f : D → Env → S → F) (it : L3.It) (e : Env) (s : S) : foI f it e s = foG f it (fuelI it s) 0 e s := by
  cases it with
  | fix xs => exact foL_eq f xs xs 0 e s rfl
  | «at» n => exact foC_eq f n _ _ _ _

/-- J goes over vs as the heap is (en: each in a pair with its place) -/
def JAt (J : L2.It) (H : Hp) (vs : List V) (en : Bool) : Prop := ∀ i, (vs[i]? = none → J.stop i H) ∧ ∀ v, vs[i]? = some v → J.go i H ∧ ∀ w H', J.yld i H w H' →
  if en = true then ∃ T, w = .ref T ∧ H T = none ∧ H' = upd H T (.tup [.int (i : Nat), v]) else w = v ∧ H' = H
theorem JAt.list {K : Fr} {H : Hp} {a : Addr} {vs : List V} (q : SqL K H a vs) : JAt (Itl K a) H vs false := fun i => by
  refine ⟨fun e => ⟨vs, q, List.getElem?_eq_none_iff.mp e⟩, fun v e => ⟨⟨vs, v, q, e⟩, fun w H2 ⟨e1, y⟩ => ?_⟩⟩
  have := y vs q
  rw [e] at this
  cases this
  exact ⟨rfl, e1⟩
theorem JAt.tup {K : Fr} {H : Hp} {a : Addr} {vs : List V} (q : SqT K H a vs) : JAt (Itt K a) H vs false := fun i => by
  refine ⟨fun e => ⟨vs, q, List.getElem?_eq_none_iff.mp e⟩, fun v e => ⟨⟨vs, v, q, e⟩, fun w H2 ⟨e1, y⟩ => ?_⟩⟩
  have := y vs q
  rw [e] at this
  cases this
  exact ⟨rfl, e1⟩
theorem JAt.enum {K : Fr} {H : Hp} {a : Addr} {vs : List V} (q : SqL K H a vs) : JAt (Ite K a) H vs true := fun i => by
  refine ⟨fun e => ⟨vs, q, List.getElem?_eq_none_iff.mp e⟩, fun v e => ⟨⟨vs, v, q, e⟩, fun w H2 ⟨T, x, e1, e2, e3, y⟩ => ?_⟩⟩
  have := y vs q
  rw [e] at this
  cases this
  exact ⟨T, e1, e2, e3⟩
theorem JAt.range (lo : Int) (n : Nat) (H : Hp) : JAt (Itr lo n) H ((List.range n).map fun (i : Nat) => V.int (lo + (i : Int))) false := fun i => by
  refine ⟨fun e => ?_, fun v e => ?_⟩
  · have e := List.getElem?_eq_none_iff.mp e
    show n ≤ i
    simpa using e
  · simp only [List.getElem?_map, Option.map_eq_some_iff] at e
    obtain ⟨j, e, rfl⟩ := e
    obtain ⟨hi, e⟩ := List.getElem?_eq_some_iff.mp e
    simp only [List.getElem_range] at e
    subst e
    refine ⟨show i < n by simpa using hi, fun w H2 ⟨e1, e2⟩ => ⟨e2, e1⟩⟩
theorem JAt.chars (z : List Nat) (H : Hp) : JAt (Its (toS z)) H (z.map fun c => V.str (toS [c])) false := fun i => by
  have hsz : (toS z).cps.size = z.length := by simp [toS]
  refine ⟨fun e => ?_, fun v e => ?_⟩
  · show (toS z).cps.size ≤ i
    rw [hsz]; simpa using e
  · simp only [List.getElem?_map, Option.map_eq_some_iff] at e
    obtain ⟨c, e, rfl⟩ := e
    refine ⟨?_, fun w H2 ⟨e1, c', h1, h2⟩ => ⟨?_, e1⟩⟩
    · show i < (toS z).cps.size
      rw [hsz]; exact (List.getElem?_eq_some_iff.mp e).1
    · have q : (toS z).cps[i]? = z[i]? := by simp [toS]
      rw [q, e] at h1
      cases h1
      exact h2
/-- enumerate over a tuple -/
def IteT (K : Fr) (a : Addr) : L2.It :=
  ⟨fun i H => ∃ (xs : List V) (x : V), SqT K H a xs ∧ xs[i]? = some x, fun i H v H' => ∃ T x, v = .ref T ∧ H T = none ∧ H' = upd H T (.tup [.int (i : Nat), x]) ∧ ∀ xs, SqT K H a xs → xs[i]? = some x, fun i H => ∃ xs : List V, SqT K H a xs ∧ xs.length ≤ i⟩
theorem JAt.enumT {K : Fr} {H : Hp} {a : Addr} {vs : List V} (q : SqT K H a vs) : JAt (IteT K a) H vs true := fun i => by
  refine ⟨fun e => ⟨vs, q, List.getElem?_eq_none_iff.mp e⟩, fun v e => ⟨⟨vs, v, q, e⟩, fun w H2 ⟨T, x, e1, e2, e3, y⟩ => ?_⟩⟩
  have := y vs q
  rw [e] at this
  cases this
  exact ⟨T, e1, e2, e3⟩
inductive Walk (K : Fr) (ρ : Rh) (H : Hp) (s : S) : L3.It → L2.It → Prop where
  | pure {xs : List D} {vs : List V} {J : L2.It} : RelL K ρ s.n none H xs vs → (∀ H, JAt J H vs false) → Walk K ρ H s (.fix xs) J
  | lst {xs : List D} {a : Addr} : Rel K ρ s.n none H (.lv false xs) (.ref a) → Walk K ρ H s (.fix xs) (Itl K a)
  | scr {ns : List Int} {a : Addr} : Rel K ρ s.n none H (.scr ns) (.ref a) → Walk K ρ H s (.fix (ns.map .int)) (Itl K a)
  | tup {xs : List D} {a : Addr} : Rel K ρ s.n none H (.tup xs) (.ref a) → Walk K ρ H s (.fix xs) (Itt K a)
  | at {n : Nat} {a : Addr} : Rel K ρ s.n none H (.ref n) (.ref a) → Walk K ρ H s (.at n) (Itl K a)
  | enL {xs : List D} {a : Addr} : Rel K ρ s.n none H (.lv false xs) (.ref a) → Walk K ρ H s (.fix (enumL xs)) (Ite K a)
  | enT {xs : List D} {a : Addr} : Rel K ρ s.n none H (.tup xs) (.ref a) → Walk K ρ H s (.fix (enumL xs)) (IteT K a)
section
variable {K : Fr} {Ps : List Addr} {ρ ρ' ρ1 ρ2 : Rh} {H H' H1 H2 : Hp} {s s' s1 s2 : S} {d : D} {v : V} {it : L3.It} {J : L2.It}
theorem Walk.mono (w : Walk K ρ H s it J) (h : ∀ d v, Rel K ρ s.n none H d v → Rel K ρ' s'.n none H' d v) (hL : ∀ d v, RelL K ρ s.n none H d v → RelL K ρ' s'.n none H' d v) : Walk K ρ' H' s' it J := by
  cases w with
  | pure r j => exact .pure (hL _ _ r) j
  | lst r => exact .lst (h _ _ r)
  | scr r => exact .scr (h _ _ r)
  | tup r => exact .tup (h _ _ r)
  | «at» r => exact .at (h _ _ r)
  | enL r => exact .enL (h _ _ r)
  | enT r => exact .enT (h _ _ r)
theorem Walk.ext (w : Walk K ρ H s it J) (g : Good K Ps ρ none H s) (e : Ext K ρ H s ρ' H' s') : Walk K ρ' H' s' it J := w.mono (fun _ _ r => r.ext g e) fun _ _ r => r.ext g e
theorem enumL_get (xs : List D) (i : Nat) : (enumL xs)[i]? = (xs[i]?).map fun x => .tup [.int (i : Nat), x] := by
  unfold enumL
  rw [List.getElem?_map, List.getElem?_zipIdx]
  cases xs[i]? <;> simp
theorem relL_intv (ns : List Int) : RelL K ρ s.n none H (ns.map .int) (ns.map V.int) := by
  induction ns with
  | nil => exact .nil
  | cons k ks ih => exact .cons (.int _) ih
/-- in one form -/
theorem Walk.cases (w : Walk K ρ H s it J) (g : Good K Ps ρ none H s) : (∃ xs vs, (∀ i, nextI it i s = some xs[i]?) ∧ RelL K ρ s.n none H xs vs ∧ JAt J H vs false) ∨ ∃ xs vs, it = .fix (enumL xs) ∧ RelL K ρ s.n none H xs vs ∧ JAt J H vs true := by
  cases w with
  | pure r j => exact .inl ⟨_, _, fun _ => rfl, r, j H⟩
  | lst r => cases r with
    | lv h1 h2 h3 h4 r => exact .inl ⟨_, _, fun _ => rfl, r, .list (.of h1)⟩
  | scr r => cases r with
    | scr h => exact .inl ⟨_, _, fun _ => rfl, relL_intv _, .list h.sq⟩
  | tup r => cases r with
    | tup h r => exact .inl ⟨_, _, fun _ => rfl, r, .tup h⟩
  | @«at» n a r => cases r with
    | ref hn =>
      have e0 : s.cells[n]? = some s.cells[n] := List.getElem?_eq_getElem hn
      have c0 := g.cell n _ e0
      generalize s.cells[n] = o at e0 c0
      cases o with
      | lst ys =>
        obtain ⟨ws, hw, rw_⟩ := c0
        refine .inl ⟨ys, ws, fun i => ?_, rw_, .list (.of hw)⟩
        simp only [nextI, e0]
  | enL r => cases r with
    | lv h1 h2 h3 h4 r => exact .inr ⟨_, _, rfl, r, .enum (.of h1)⟩
  | enT r => cases r with
    | tup h r => exact .inr ⟨_, _, rfl, r, .enumT h⟩
theorem Walk.stop (w : Walk K ρ H s it J) (g : Good K Ps ρ none H s) {i : Nat} (e : nextI it i s = some none) : J.stop i H := by
  rcases w.cases g with ⟨xs, vs, h, r, j⟩ | ⟨xs, vs, rfl, r, j⟩
  · rw [h] at e
    have e := Option.some.inj e
    refine (j i).1 ?_
    rw [List.getElem?_eq_none_iff] at e ⊢
    rw [← r.length]; exact e
  · have e : _ = none := Option.some.inj e
    refine (j i).1 ?_
    rw [enumL_get] at e
    rw [Option.map_eq_none_iff, List.getElem?_eq_none_iff] at e
    rw [List.getElem?_eq_none_iff, ← r.length]; exact e
theorem Walk.go (w : Walk K ρ H s it J) (g : Good K Ps ρ none H s) {i : Nat} {x : D} (e : nextI it i s = some (some x)) : J.go i H ∧ ∀ v H', J.yld i H v H' → Ext K ρ H s ρ H' s ∧ Good K Ps ρ none H' s ∧ Rel K ρ s.n none H' x v ∧ (∀ a, H a ≠ none → H' a = H a) := by
  rcases w.cases g with ⟨xs, vs, h, r, j⟩ | ⟨xs, vs, rfl, r, j⟩
  · rw [h] at e
    have e := Option.some.inj e
    obtain ⟨v, h1, h2⟩ := r.get e
    obtain ⟨q1, q2⟩ := (j i).2 v h1
    refine ⟨q1, fun u H' y => ?_⟩
    obtain ⟨rfl, rfl⟩ := q2 u H' y
    exact ⟨Ext.refl, g, h2, fun _ _ => rfl⟩
  · have e : _ = some x := Option.some.inj e
    rw [enumL_get] at e
    simp only [Option.map_eq_some_iff] at e
    obtain ⟨z, e2, rfl⟩ := e
    obtain ⟨v, h1, h2⟩ := r.get e2
    obtain ⟨q1, q2⟩ := (j i).2 v h1
    refine ⟨q1, fun u H' y => ?_⟩
    obtain ⟨T, rfl, hT, rfl⟩ := q2 u H' y
    exact ⟨Ext.new hT, g.new hT, .tup (.of upd_same) (.cons (.int _) (.cons (h2.ext g (Ext.new hT)) .nil)), fun a ha => upd_ne fun q => ha (q ▸ hT)⟩
end

def iSeq (K : Fr) (tl : TE) : TI := fun σ H R => tl σ H fun x H1 => (∃ a, x = .ref a ∧ (((∃ xs, SqL K H1 a xs) ∧ R (Itl K a) H1) ∨ ((∃ xs, SqT K H1 a xs) ∧ R (Itt K a) H1))) ∨ ∃ z, x = .str z ∧ R (Its z) H1
theorem pi_seq {X : Cx} {tg l : Expr} {tl : TE} (hl : PE X l tl) : PI X tg l (iSeq X.K tl) := by
  refine ⟨fun pins s σ H R I h => ?_⟩
  refine thn (hl.run pins s σ H _ I h) fun v s1 ⟨x, H1, I1, r1, q1⟩ => ?_
  rcases q1 with ⟨a, e, q1⟩ | ⟨z, e, q⟩
  · subst e
    cases r1
    rcases q1 with ⟨⟨xs, hq⟩, q⟩ | ⟨⟨xs, hq⟩, q⟩
    · obtain ⟨its, rv, p, hz⟩ := I1.list hq
      exact wpAny_pyIter_list p.isList (pi_one (tk := s1.toks) I1 _ (turn_list a _) ⟨_, Heap.get?_push_size _ rfl, rfl, rfl⟩ q)
    · obtain ⟨its, rv, p, hz⟩ := I1.tuple hq
      exact wpAny_pyIter_tuple (show s1.heap.IsTuple a its.toArray from p) (pi_one (tk := s1.toks) I1 _ (turn_tuple a _) ⟨_, Heap.get?_push_size _ rfl, rfl, rfl⟩ q)
  · subst e
    obtain ⟨t, rfl⟩ := r1
    by_cases ha : z.cps.all (· < 128) = true
    · exact wpAny_pyIter_ascii ha (pi_one (tk := s1.toks) I1 _ (turn_str _ z t "str_ascii_iterator" (.inl rfl)) ⟨_, Heap.get?_push_size _ rfl, rfl, rfl⟩ q)
    · have ha : z.cps.all (· < 128) = false := by simpa using ha
      exact wpAny_pyIter_wide ha (pi_one (tk := s1.toks) I1 _ (turn_str _ z t "str_iterator" (.inr rfl)) ⟨_, Heap.get?_push_size _ rfl, rfl, rfl⟩ q)
def TXI (K : Fr) (Ps : List Addr) (cl : XC) (W : WX) (f : Env → S → R L3.It) : TI := fun σ H R => ∃ ρ e s, Good K Ps ρ none H s ∧ EnvRel K ρ s.n H σ e ∧
  PostG K Ps ρ H s (f e s) (fun it s' ρ' H' => ∀ J, Good K Ps ρ' none H' s' → Walk K ρ' H' s' it J → R J H') fun c H' => W (cl c) none σ H'
section
variable {K : Fr} {Ps : List Addr} {ρ : Rh} {H : Hp} {s : S} {d : D} {v : V}
theorem relL_ints (lo : Int) (ks : List Nat) : RelL K ρ s.n none H (ks.map fun (i : Nat) => .int (lo + (i : Int))) (ks.map fun (i : Nat) => V.int (lo + (i : Int))) := by
  induction ks with
  | nil => exact .nil
  | cons k ks ih => exact .cons (.int _) ih
theorem relL_chars (z : List Nat) : RelL K ρ s.n none H (z.map fun c => .str [c]) (z.map fun c => V.str (toS [c])) := by
  induction z with
  | nil => exact .nil
  | cons k ks ih => exact .cons (.str _) ih
/-- a value walked -/
theorem seq_walk (g : Good K Ps ρ none H s) (r : Rel K ρ s.n none H d.frz v) {it : L3.It} (e : seqOf d = some it) :
    (∃ a, v = .ref a ∧ (((∃ xs, SqL K H a xs) ∧ Walk K ρ H s it (Itl K a)) ∨ ((∃ xs, SqT K H a xs) ∧ Walk K ρ H s it (Itt K a)))) ∨ ∃ z, v = .str z ∧ Walk K ρ H s it (Its z) := by
  cases d with
  | str z =>
    cases e
    have r' : Rel K ρ s.n none H (.str z) v := r
    cases r' with
    | str _ => exact .inr ⟨_, rfl, .pure (relL_chars z) (.chars z)⟩
  | tup xs =>
    cases e
    have r' : Rel K ρ s.n none H (.tup xs) v := r
    cases id r' with
    | tup h _ => exact .inl ⟨_, rfl, .inr ⟨⟨_, h⟩, .tup r'⟩⟩
  | lv o xs =>
    cases e
    have r' : Rel K ρ s.n none H (.lv false xs) v := r
    cases id r' with
    | lv h1 h2 h3 h4 _ => exact .inl ⟨_, rfl, .inl ⟨⟨_, .of h1⟩, .lst r'⟩⟩
  | ref n =>
    cases e
    have r' : Rel K ρ s.n none H (.ref n) v := r
    cases id r' with
    | ref hn =>
      obtain ⟨us, hu⟩ := g.lst hn
      exact .inl ⟨_, rfl, .inl ⟨⟨_, .of hu⟩, .at r'⟩⟩
  | scr ns =>
    cases e
    have r' : Rel K ρ s.n none H (.scr ns) v := r
    cases id r' with
    | scr h => exact .inl ⟨_, rfl, .inl ⟨⟨_, h.sq⟩, .scr r'⟩⟩
  | _ => simp [seqOf] at e
end
section
variable {X : Cx} {Ps : List Addr} {cl : XC} {W : WX} {a b c tg : Expr} {fa fb fc : Env → S → R D} {pos p : Pos}
abbrev I1 (X : Cx) (Ps : List Addr) (cl : XC) (W : WX) (tg iter : Expr) (f : Env → S → R L3.It) : Prop := PI X tg iter (TXI X.K Ps cl W f)
theorem i_seq (ha : E1 X Ps cl W a fa) : I1 X Ps cl W tg a fun e s => (fa e s).bind fun x s => R.opt (seqOf x) s := by
  refine PI.imp (pi_seq ha) fun σ H Q ⟨ρ, e, s, g, er, p⟩ => ?_
  refine ⟨ρ, e, s, g, er, p.bindD fun d s1 ρ1 H1 v e1 o p => ?_⟩
  obtain ⟨it, h, p⟩ := p.opt
  rcases seq_walk o.good o.frz h with ⟨A, rfl, q⟩ | ⟨z, rfl, q2⟩
  · refine .inl ⟨A, rfl, ?_⟩
    rcases q with ⟨q1, q2⟩ | ⟨q1, q2⟩
    · exact .inl ⟨q1, p ρ1 H1 Ext.refl _ o.good q2⟩
    · exact .inr ⟨q1, p ρ1 H1 Ext.refl _ o.good q2⟩
  · exact .inr ⟨z, rfl, p ρ1 H1 Ext.refl _ o.good q2⟩
theorem rngE {i j : Int} {it : L3.It} (h : rng i j = some it) : (-(2 ^ 62) ≤ i ∧ i < 2 ^ 62 ∧ -(2 ^ 62) ≤ j ∧ j < 2 ^ 62) ∧ it = .fix ((List.range (j - i).toNat).map fun (k : Nat) => .int (i + (k : Int))) := by
  unfold rng at h
  split at h
  · rename_i q
    cases h; exact ⟨by omega, rfl⟩
  · cases h
theorem i_rng1 (hg : Gl X "range") (hm : X.mg "range" = none) (ha : E1 X Ps cl W a fa) (hs : starEach [a] X.env = [(false, eval a X.env)]) :
    I1 X Ps cl W tg (.Call (.Name "range" p) [a] [] pos) fun e s => (fa e s).bind fun x s => R.opt (x.toInt.bind fun i => rng 0 i) s := by
  refine PI.imp (pi_range1 hg hm (a_cons ha a_nil hs) hs) fun σ H Q ⟨ρ, e, s, g, er, p⟩ => ?_
  refine ⟨ρ, e, s, g, er, ?_⟩
  dsimp only at p ⊢
  cases q : fa e s with
  | bad => rw [q] at p; exact p
  | exc c s' => rw [q] at p; exact p
  | ok x s1 =>
    rw [q] at p
    simp only [R.bind_ok] at p ⊢
    obtain ⟨it, h, p9⟩ := p.opt
    replace p := p9
    rw [Option.bind_eq_some_iff] at h
    obtain ⟨i, hi, h⟩ := h
    obtain ⟨⟨h1, h2, h3, h4⟩, rfl⟩ := rngE h
    intro ρ' H' e1 vs g1 r1
    obtain ⟨v, rfl, r⟩ := r1.one
    cases x with
    | int k =>
      cases hi
      cases r
      refine ⟨i, rfl, h3, h4, ?_⟩
      have := p ρ' H' e1 (Itr 0 (i - 0).toNat) g1 (.pure (relL_ints 0 _) (.range 0 _))
      simpa using this
    | _ => simp [D.toInt] at hi
theorem i_rng2 (hg : Gl X "range") (hm : X.mg "range" = none) (ha : E1 X Ps cl W a fa) (hb : E1 X Ps cl W b fb) (hs : starEach [a, b] X.env = [(false, eval a X.env), (false, eval b X.env)]) (hs2 : starEach [b] X.env = [(false, eval b X.env)]) :
    I1 X Ps cl W tg (.Call (.Name "range" p) [a, b] [] pos) fun e s => (fa e s).bind fun x s => (fb e s).bind fun y s => R.opt (x.toInt.bind fun i => y.toInt.bind fun j => rng i j) s := by
  refine PI.imp (pi_range2 hg hm (a_cons ha (a_cons hb a_nil hs2) (by rw [hs, hs2])) hs hs2) fun σ H Q ⟨ρ, e, s, g, er, p⟩ => ?_
  refine ⟨ρ, e, s, g, er, ?_⟩
  dsimp only at p ⊢
  cases q : fa e s with
  | bad => rw [q] at p; exact p
  | exc c s' => rw [q] at p; exact p
  | ok x s1 =>
    rw [q] at p
    simp only [R.bind_ok] at p ⊢
    cases q2 : fb e s1 with
    | bad => rw [q2] at p; exact p
    | exc c s' => rw [q2] at p; exact p
    | ok y s2 =>
      rw [q2] at p
      simp only [R.bind_ok] at p ⊢
      obtain ⟨it, h, p9⟩ := p.opt
      replace p := p9
      rw [Option.bind_eq_some_iff] at h
      obtain ⟨i, hi, h⟩ := h
      rw [Option.bind_eq_some_iff] at h
      obtain ⟨j, hj, h⟩ := h
      obtain ⟨hz, rfl⟩ := rngE h
      intro ρ' H' e1 vs g1 r1
      cases x with
      | int k =>
        cases y with
        | int l =>
          cases hi
          cases hj
          cases r1 with
          | cons r r1 =>
            obtain ⟨v, rfl, r'⟩ := r1.one
            cases r
            cases r'
            exact ⟨i, j, rfl, hz, p ρ' H' e1 (Itr i (j - i).toNat) g1 (.pure (relL_ints i _) (.range i _))⟩
        | _ => simp [D.toInt] at hj
      | _ => simp [D.toInt] at hi
theorem i_chars (ha : E1 X Ps cl W a fa) : I1 X Ps cl W tg a fun e s => (fa e s).bind fun x s => R.opt (charsOf x) s := by
  refine PI.imp (pi_str ha) fun σ H Q ⟨ρ, e, s, g, er, p⟩ => ?_
  refine ⟨ρ, e, s, g, er, p.bindD fun d s1 ρ1 H1 v e1 o p => ?_⟩
  obtain ⟨it, h, p⟩ := p.opt
  cases d with
  | str z =>
    cases h
    obtain ⟨g1, r⟩ := o
    cases r
    exact ⟨toS z, rfl, p ρ1 H1 Ext.refl _ g1 (.pure (relL_chars z) (.chars z))⟩
  | _ => simp [charsOf] at h
end
end L3
end

section -- I9
set_option autoImplicit false
set_option linter.all false
set_option maxRecDepth 100000
set_option maxHeartbeats 1000000
namespace L3
open PySem PySem.Spec PyProof.Rows L2

mutual
def Tg.names : Tg → List Nat
  | .nm i => [i]
  | .tup ts => namesL ts
def namesL : List Tg → List Nat
  | [] => []
  | t :: ts => t.names ++ namesL ts
end
mutual
/-- the written target is this one -/
def tgC (N : List Str) (sc : Scope) (fnb : Str → Bool) : Tg → Expr → Bool
  | .nm i, .Name x _ => decide (N[i]? = some x) && (decide (sc.names.lookup x = some .local) || (decide (sc.names.lookup x = some .cell) && fnb x))
  | .tup ts, .Tuple es _ _ => tgsC N sc fnb ts es
  | _, _ => false
def tgsC (N : List Str) (sc : Scope) (fnb : Str → Bool) : List Tg → List Expr → Bool
  | [], [] => true
  | t :: ts, e :: es => tgC N sc fnb t e && tgsC N sc fnb ts es
  | _, _ => false
end
theorem tgC_nm {N : List Str} {sc : Scope} {fnb : Str → Bool} {i : Nat} {e : Expr} (h : tgC N sc fnb (.nm i) e = true) :
    ∃ x p, e = .Name x p ∧ N[i]? = some x ∧ (sc.names.lookup x = some .local ∨ (sc.names.lookup x = some .cell ∧ fnb x = true)) := by
  cases e <;> simp [tgC] at h
  exact ⟨_, _, rfl, h⟩
theorem tgC_tup {N : List Str} {sc : Scope} {fnb : Str → Bool} {ts : List Tg} {e : Expr} (h : tgC N sc fnb (.tup ts) e = true) :
    ∃ es k p, e = .Tuple es k p ∧ tgsC N sc fnb ts es = true := by
  cases e <;> simp [tgC] at h
  exact ⟨_, _, _, rfl, h⟩
theorem tgC_plain {N : List Str} {sc : Scope} {fnb : Str → Bool} {t : Tg} {e : Expr} {es : List Expr} {env : PySem.Env} (h : tgC N sc fnb t e = true) : assignEach (e :: es) env = (false, assign e env) :: assignEach es env := by
  cases t <;> cases e <;> simp [tgC] at h <;> rfl
theorem tgsC_plain {N : List Str} {sc : Scope} {fnb : Str → Bool} {env : PySem.Env} : ∀ {ts : List Tg} {es : List Expr}, tgsC N sc fnb ts es = true → (assignEach es env).length = ts.length ∧ (assignEach es env).findIdx? (·.1) = none
  | [], [], _ => ⟨rfl, rfl⟩
  | t :: ts, e :: es, h => by
    simp only [tgsC, Bool.and_eq_true] at h
    rw [tgC_plain h.1]
    obtain ⟨h1, h2⟩ := tgsC_plain (env := env) h.2
    refine ⟨by simp [h1], ?_⟩
    rw [List.findIdx?_cons]
    simp [h2]
  | [], _ :: _, h => by simp [tgsC] at h
  | _ :: _, [], h => by simp [tgsC] at h

section
variable {K : Fr} {ρ : Rh} {n : Nat} {H : Hp} {σ : L2.St} {e : Env} {d : D} {v : V}
theorem EnvRel.set {i : Nat} (h : EnvRel K ρ n H σ e) (hi : i < σ.length) (r : Rel K ρ n none H d v) : EnvRel K ρ n H (σ.set i (some v)) (e.set i (some d)) := fun j d' q => by
  by_cases hij : i = j
  · subst hij
    refine ⟨v, by rw [List.getElem?_set_self hi], ?_⟩
    unfold getV at q
    by_cases hl : i < e.length
    · rw [List.getElem?_set_self hl] at q
      cases q; exact r
    · rw [List.getElem?_eq_none (by simpa using hl)] at q
      cases q
  · rw [List.getElem?_set_ne hij]
    refine h j d' ?_
    unfold getV at q ⊢
    rw [List.getElem?_set_ne hij] at q
    exact q
theorem EnvRel.setN {i : Nat} (h : EnvRel K ρ n H σ e) (o : Option V) : EnvRel K ρ n H (σ.set i o) (e.set i none) := fun j d' q => by
  by_cases hij : i = j
  · subst hij
    unfold getV at q
    by_cases hl : i < e.length
    · rw [List.getElem?_set_self hl] at q
      cases q
    · rw [List.getElem?_eq_none (by simpa using hl)] at q
      cases q
  · rw [List.getElem?_set_ne hij]
    refine h j d' ?_
    unfold getV at q ⊢
    rw [List.getElem?_set_ne hij] at q
    exact q
theorem EnvRel.wipe (h : EnvRel K ρ n H σ e) : ∀ vs : List Nat, EnvRel K ρ n H (L2.wipe σ vs) (L3.wipe e vs)
  | [] => h
  | v :: vs => by
    unfold L2.wipe L3.wipe
    exact (EnvRel.wipe h vs).setN none
end
/-- the reading of a target -/
def TXG (K : Fr) (t : Tg) : TG := fun v σ H Q => ∃ ρ n d e e', Rel K ρ n none H (D.frz d) v ∧ EnvRel K ρ n H σ e ∧ asg t d e = some e' ∧ ∀ σ', σ'.length = σ.length → (∀ i, i ∉ t.names → σ'[i]? = σ[i]?) → EnvRel K ρ n H σ' e' → Q σ' H
def TXGs (K : Fr) (ts : List Tg) : TGs := fun vs σ H Q => ∃ ρ n ds e e', RelL K ρ n none H ds vs ∧ EnvRel K ρ n H σ e ∧ asgs ts ds e = some e' ∧ ∀ σ', σ'.length = σ.length → (∀ i, i ∉ namesL ts → σ'[i]? = σ[i]?) → EnvRel K ρ n H σ' e' → Q σ' H
section
variable {X : Cx}
theorem PG.len {e : Expr} {t t' : TG} (h : PG X e t) (i : ∀ v σ H Q, σ.length = X.N.length → t' v σ H Q → t v σ H Q) : PG X e t' := ⟨fun pins s σ H v u Q I r q => h.run pins s σ H v u Q I r (i v σ H Q I.len q)⟩
theorem PGs.imp {e : List Expr} {t t' : TGs} (h : PGs X e t) (i : ∀ v σ H Q, t' v σ H Q → t v σ H Q) : PGs X e t' := ⟨fun pins s σ H v u Q I r q => h.run pins s σ H v u Q I r (i v σ H Q q)⟩
theorem PG.or {e : Expr} {t u : TG} (h : PG X e t) (k : PG X e u) : PG X e fun v σ H Q => t v σ H Q ∨ u v σ H Q := ⟨fun pins s σ H v w Q I r q => q.elim (h.run pins s σ H v w Q I r) (k.run pins s σ H v w Q I r)⟩
theorem Rel.frzE {K : Fr} {ρ : Rh} {n : Nat} {H : Hp} {d : D} {v : V} (h : Rel K ρ n none H d v) : d.frz = d := by
  cases h <;> rfl
mutual
theorem g_of {fnb : Str → Bool} (hN : X.N.Nodup) (hc : X.calm = true) (hf : ∀ x, fnb x = true → X.fn x = true) : ∀ {t : Tg} {e : Expr}, tgC X.N X.env.scope fnb t e = true → PG X e (TXG X.K t)
  | .nm i, E, h => by
    obtain ⟨x, pos, rfl, h2⟩ := tgC_nm h
    replace h := h2
    have hx : Loc X.env.scope x := h.2.imp id (·.1)
    have hl : X.fn x = true ∨ X.env.scope.names.lookup x = some .local := by
      rcases h.2 with q | q
      · exact .inr q
      · exact .inl (hf x q.2)
    refine PG.len (pg_name (pos := pos) hN h.1 hx hl) fun v σ H Q hlen ⟨ρ, n, d, e, e', r, er, q, k⟩ => ?_
    have hi : i < σ.length := by rw [hlen]; exact (List.getElem?_eq_some_iff.mp h.1).1
    simp only [asg, Option.some.injEq] at q
    subst q
    refine k _ (by simp) (fun j hj => ?_) (er.set hi r)
    rw [List.getElem?_set_ne]
    exact fun q => hj (by simp [Tg.names, q])
  | .tup ts, E, h => by
    obtain ⟨es, kk, pos, rfl, h2⟩ := tgC_tup h
    replace h := h2
    have hs := gs_of hN hc hf h
    obtain ⟨p1, p2⟩ := tgsC_plain (env := X.env) h
    refine PG.imp (PG.or (pg_tup (k := kk) (pos := pos) (n := ts.length) hc hs p1 p2) (pg_lst (k := kk) (pos := pos) (n := ts.length) hc hs p1 p2)) fun v σ H Q ⟨ρ, n, d, e, e', r, er, q, k⟩ => ?_
    have hlen : ∀ {ts : List Tg} {xs : List D} {e e' : Env}, asgs ts xs e = some e' → xs.length = ts.length := by
      intro ts
      induction ts with
      | nil => intro xs e e' h; cases xs with
        | nil => rfl
        | cons x xs => simp [asgs] at h
      | cons t ts ih =>
        intro xs e e' h
        cases xs with
        | nil => simp [asgs] at h
        | cons x xs =>
          simp only [asgs, Option.bind_eq_some_iff] at h
          obtain ⟨e1, _, h⟩ := h
          simp [ih h]
    cases d with
    | tup xs =>
      cases r with
      | tup h1 h2 => exact .inl ⟨_, _, rfl, h1, by rw [← h2.length]; exact hlen q, ρ, n, xs, e, e', h2, er, q, k⟩
    | lv o xs =>
      cases r with
      | lv h1 _ _ _ h2 => exact .inr ⟨_, _, rfl, .of h1, by rw [← h2.length]; exact hlen q, ρ, n, xs, e, e', h2, er, q, k⟩
    | _ => simp [asg] at q
theorem gs_of {fnb : Str → Bool} (hN : X.N.Nodup) (hc : X.calm = true) (hf : ∀ x, fnb x = true → X.fn x = true) : ∀ {ts : List Tg} {es : List Expr}, tgsC X.N X.env.scope fnb ts es = true → PGs X es (TXGs X.K ts)
  | [], [], _ => by
    refine PGs.imp pgs_nil fun vs σ H Q ⟨ρ, n, ds, e, e', r, er, q, k⟩ => ?_
    cases ds with
    | nil =>
      cases r
      simp only [asgs, Option.some.injEq] at q
      subst q
      exact ⟨rfl, k σ rfl (fun _ _ => rfl) er⟩
    | cons d ds => simp [asgs] at q
  | t :: ts, e :: es, h => by
    simp only [tgsC, Bool.and_eq_true] at h
    refine PGs.imp (pgs_cons (g_of hN hc hf h.1) (gs_of hN hc hf h.2) (by rw [tgC_plain h.1]; rfl)) fun vs σ H Q ⟨ρ, n, ds, en, e', r, er, q, k⟩ => ?_
    cases r with
    | nil => simp [asgs] at q
    | cons r rr =>
      simp only [asgs, Option.bind_eq_some_iff] at q
      obtain ⟨e1, q1, q2⟩ := q
      refine ⟨_, _, rfl, ρ, n, _, en, e1, by rw [r.frzE]; exact r, er, q1, fun σ1 l1 o1 er1 => ⟨ρ, n, _, e1, e', rr, er1, q2, fun σ2 l2 o2 er2 => k σ2 (l2.trans l1) (fun i hi => ?_) er2⟩⟩
      simp only [namesL, List.mem_append, not_or] at hi
      rw [o2 i hi.2, o1 i hi.1]
  | [], _ :: _, h => by simp [tgsC] at h
  | _ :: _, [], h => by simp [tgsC] at h
end
theorem wipe_same {σ σ' : L2.St} {t : List Nat} (hl : σ'.length = σ.length) (h : ∀ i, i ∉ t → σ'[i]? = σ[i]?) : ∀ {vs : List Nat}, (∀ i ∈ t, i ∈ vs) → L2.wipe σ' vs = L2.wipe σ vs := by
  intro vs hv
  apply List.ext_getElem?
  intro i
  by_cases hi : i ∈ vs
  · have key : ∀ (τ : L2.St) (vs : List Nat), i ∈ vs → (L2.wipe τ vs)[i]? = if i < τ.length then some none else none := by
      intro τ vs hi
      induction vs with
      | nil => cases hi
      | cons v vs ih =>
        unfold L2.wipe
        by_cases e : v = i
        · subst e
          by_cases hlt : v < τ.length
          · rw [List.getElem?_set_self (by rw [wipe_length]; exact hlt), if_pos hlt]
          · rw [List.getElem?_eq_none (by rw [List.length_set, wipe_length]; omega), if_neg hlt]
        · rw [List.getElem?_set_ne e]
          rcases List.mem_cons.mp hi with q | q
          · exact absurd q.symm e
          · exact ih q
    rw [key _ _ hi, key _ _ hi, hl]
  · rw [wipe_out hi, wipe_out hi]
    exact h i fun q => hi (hv i q)
end
end L3
end

section -- I10
set_option autoImplicit false
set_option linter.all false
set_option maxRecDepth 100000
set_option maxHeartbeats 1000000
namespace L3
open PySem PySem.Spec PyProof.Rows L2

/-- in a comprehension's block nothing may leave -/
def WF : WX := fun _ _ _ _ => False
section
variable {K : Fr} {Ps : List Addr} {ρ ρ' ρ1 ρ2 : Rh} {H H' H1 H2 : Hp} {s s' s1 s2 : S} {d : D} {v : V} {ds : List D} {vs : List V} {D' : Addr} {av : List Addr} {l : List V}
/-- the list at D' changes (or is laid); nothing else knows it -/
structure Swap (ρ : Rh) (H : Hp) (D' : Addr) (av : List Addr) : Prop where
  nt : ∀ a o, H a = some o → a = D' → ∃ l, o = .lst l
  av : ∀ a vs, H a = some (.lst vs) → a ∉ ρ.av → a ∉ av ∧ a ≠ D'
theorem Swap.rel (w : Swap ρ H D' av) {n : Nat} (h : Rel K ρ n none H d v) : Rel K ⟨ρ.f, av⟩ n none (upd H D' (.lst l)) d v := by
  refine h.map (ρ := ρ) (ρ' := ⟨ρ.f, av⟩) (y := none) (fun i hi => ⟨hi, rfl⟩) (fun a us q => ?_) (fun a us q => ?_) fun a us q q1 q2 q3 => ?_
  · rcases q with (q | ⟨o, q⟩) | q
    · exact .inl (.inl (by rw [upd_ne (fun e => by obtain ⟨l, z⟩ := w.nt a _ q e; cases z)]; exact q))
    · exact .inl (.inr ⟨o, by rw [upd_ne (fun e => by obtain ⟨l, z⟩ := w.nt a _ q e; cases z)]; exact q⟩)
    · exact .inr q
  · rcases q with ⟨o, q⟩ | q
    · exact .inl ⟨o, by rw [upd_ne (fun e => by obtain ⟨l, z⟩ := w.nt a _ q e; cases z)]; exact q⟩
    · exact .inr q
  · obtain ⟨z1, z2⟩ := w.av a us q q3
    exact ⟨by rw [upd_ne z2]; exact q, q1, by simp, z1⟩
theorem Swap.relL (w : Swap ρ H D' av) {n : Nat} : ∀ {ds : List D} {vs : List V}, RelL K ρ n none H ds vs → RelL K ⟨ρ.f, av⟩ n none (upd H D' (.lst l)) ds vs
  | _, _, .nil => .nil
  | _, _, .cons r t => .cons (w.rel r) (w.relL t)
theorem Swap.good (w : Swap ρ H D' av) (g : Good K Ps ρ none H s) (hD : ∀ i, i < s.n → ρ i ≠ D') (hav : ∀ a ∈ av, a = D' ∨ H a ≠ none) : Good K Ps ⟨ρ.f, av⟩ none (upd H D' (.lst l)) s := by
  refine ⟨g.inj, fun i o e => ?_, g.clean, g.bl, fun P hP => ?_, fun a ha => ?_⟩
  · have q := g.cell i o e
    have hi : i < s.n := (List.getElem?_eq_some_iff.mp e).1
    cases o with
    | lst xs =>
      obtain ⟨us, q1, q2⟩ := q
      exact ⟨us, by show upd H D' _ (ρ i) = _; rw [upd_ne (hD i hi)]; exact q1, w.relL q2⟩
  · obtain ⟨ps, q, t⟩ := g.tb P hP
    exact ⟨ps, by rw [upd_ne (fun e => by obtain ⟨l, z⟩ := w.nt P _ q e; cases z)]; exact q, t⟩
  · by_cases e : a = D'
    · subst e; rw [upd_same]; simp
    · rw [upd_ne e]
      rcases hav a ha with q | q
      · exact absurd q e
      · exact q
theorem Swap.env (w : Swap ρ H D' av) {n : Nat} {σ : L2.St} {e : Env} (h : EnvRel K ρ n H σ e) : EnvRel K ⟨ρ.f, av⟩ n (upd H D' (.lst l)) σ e := fun i d q => by
  obtain ⟨v, h1, h2⟩ := h i d q
  exact ⟨v, h1, w.rel h2⟩
theorem Ext.upd (e : Ext K ρ H s ρ' H' s') (hp : H D' = none) : Ext K ρ H s ρ' (upd H' D' (.lst l)) s' :=
  ⟨e.base, e.av, e.le, e.same, fun a o h hn ht => by rw [upd_ne (fun q => by subst q; rw [hp] at h; cases h)]; exact e.keep a o h hn ht, e.fresh, fun a h => by
    by_cases q : a = D'
    · subst q; rw [upd_same]; simp
    · rw [upd_ne q]; exact e.there a h, e.upm, e.chg⟩
theorem Ext.reav (e : Ext K ρ H s ρ' H' s') {av av' : List Addr} : Ext K ⟨ρ.f, av⟩ H s ⟨ρ'.f, av⟩ H' s' := ⟨e.base, rfl, e.le, e.same, e.keep, e.fresh, e.there, e.upm, e.chg⟩
/-- at the end: D' is our own list -/
theorem okR_own (g : Good K Ps ρ none H s) (h0 : H1 D' = none) (hD : H D' = some (.lst vs)) (hn : ∀ i, i < s.n → ρ i ≠ D') (ha : ρ.av = D' :: av) (hna : D' ∉ av) (r : RelL K ρ s.n none H ds vs) : OkR K Ps H1 ⟨ρ.f, av⟩ H s (.lv true ds) (.ref D') := by
  have mv : ∀ {ds : List D} {vs : List V}, RelL K ρ s.n none H ds vs → RelL K ⟨ρ.f, av⟩ s.n (some D') H ds vs := fun {ds vs} r => r.map (ρ := ρ) (ρ' := ⟨ρ.f, av⟩) (y := some D') (fun i hi => ⟨hi, rfl⟩) (fun _ _ h => h) (fun _ _ h => h) fun a us h1 h2 h3 h4 => by
    rw [ha] at h4
    simp only [List.mem_cons, not_or] at h4
    exact ⟨h1, h2, fun e => h4.1 (by cases e; rfl), h4.2⟩
  refine ⟨D', vs, rfl, h0, hD, hn, hna, ⟨g.inj, fun i o e => ?_, g.clean, g.bl, g.tb, fun a h => g.xt a (by rw [ha]; exact List.mem_cons_of_mem _ h)⟩, mv r⟩
  have q := g.cell i o e
  cases o with
  | lst xs =>
    obtain ⟨us, q1, q2⟩ := q
    exact ⟨us, q1, mv q2⟩
end

section
variable {X : Cx} {Ps : List Addr} {cl : XC} {W : WX} {elt tg iter : Expr} {ifs : List Expr} {scope : Scope} {own : List (Str × Nat)} {pos : Pos} {t : Tg} {fi : Env → S → R L3.It} {ft : Env → S → R Bool} {fe : Env → S → R D}
/-- what a turn does -/
def lcF (t : Tg) (vs : List Nat) (ft : Env → S → R Bool) (fe : Env → S → R D) (e : Env) : D → S → R (Option D) := fun x s => match asg t x (wipe e vs) with
  | none => .bad
  | some e1 => ((ft e1 s).bind fun b s => if b then (fe e1 s).bind fun d s => .ok (some d) s else .ok none s).nox
theorem lc_read {K : Fr} {vs : List Nat} {σ : L2.St} {H : Hp} {Q : VK} (hown : ∀ i ∈ t.names, i ∈ vs) (h : TX K Ps cl W (fun e s => (fi e s).bind fun it s => lcI (lcF t vs ft fe e) it s) σ H Q) :
    tLc (TXI K Ps cl W fi) (TXG K t) (TXB K Ps cl WF ft) (TX K Ps cl WF fe) vs σ H Q := by
  obtain ⟨ρ, e, s, g, er, p⟩ := h
  refine ⟨ρ, e, s, g, er, Post.bindG (r := fi e s) p fun it s1 ρ1 H1 e1 p J g1 w D' hD => ?_⟩
  rw [lcI_eq] at p
  generalize fuelI it s1 = m0 at p
  have hnD : ∀ i, i < s1.n → ρ1 i ≠ D' := fun i hi => by
    obtain ⟨us, q⟩ := g1.lst hi
    exact ne_of_none q hD
  have sw : Swap ρ1 H1 D' (D' :: ρ1.av) := ⟨fun a o q z => (by subst z; rw [hD] at q; cases q), fun a us q z => by
    have : a ≠ D' := fun y => by subst y; rw [hD] at q; cases q
    exact ⟨by simp [this, z], this⟩⟩
  have hna : D' ∉ ρ1.av := fun q => g1.xt _ q hD
  refine ⟨fun i m H => ∃ ρ s acc accv, ρ.av = D' :: ρ1.av ∧ Good K Ps ρ none H s ∧ Ext K ρ1 H1 s1 ⟨ρ.f, ρ1.av⟩ H s ∧ H D' = some (.lst accv) ∧ (∀ i, i < s.n → ρ i ≠ D') ∧ RelL K ρ s.n none H acc accv ∧
    Walk K ρ H s it J ∧ EnvRel K ρ s.n H (L2.wipe σ vs) (L3.wipe e vs) ∧ Post K Ps ρ1 H1 s1 (lcG (lcF t vs ft fe e) it m i acc s) Q fun c H' => W (cl c) none σ H', ⟨m0, ?_⟩, ?_⟩
  · refine ⟨⟨ρ1.f, D' :: ρ1.av⟩, s1, [], [], rfl, sw.good g1 hnD (fun a ha => ?_), (Ext.refl (K := K)).upd hD, upd_same, hnD, .nil, w.mono (fun _ _ r => sw.rel r) (fun _ _ r => sw.relL r), sw.env ((er.ext g e1).wipe vs), p⟩
    rcases List.mem_cons.mp ha with q | q
    · exact .inl q
    · exact .inr (g1.xt a q)
  · rintro i m H2 ⟨ρ2, s2, acc, accv, av2, g2, e2, hD2, hn2, ra, w2, er2, p2⟩
    cases m with
    | zero => exact p2.elim
    | succ m =>
      unfold lcG at p2
      cases hx : nextI it i s2 with
      | none => rw [hx] at p2; exact p2.elim
      | some ox =>
        cases ox with
        | none =>
          rw [hx] at p2
          refine .inl ⟨w2.stop g2 hx, ?_⟩
          exact p2 ⟨ρ2.f, ρ1.av⟩ H2 _ e2 (okR_own g2 hD hD2 hn2 av2 hna ra)
        | some x =>
          rw [hx] at p2
          dsimp only at p2
          obtain ⟨go, yl⟩ := w2.go g2 hx
          refine .inr ⟨go, fun H' => ∃ ρ s acc accv, ρ.av = D' :: ρ1.av ∧ Good K Ps ρ none H' s ∧ Ext K ρ1 H1 s1 ⟨ρ.f, ρ1.av⟩ H' s ∧ H' D' = some (.lst accv) ∧ (∀ i, i < s.n → ρ i ≠ D') ∧ RelL K ρ s.n none H' acc accv ∧
            Walk K ρ H' s it J ∧ EnvRel K ρ s.n H' (L2.wipe σ vs) (L3.wipe e vs) ∧ Post K Ps ρ1 H1 s1 (lcG (lcF t vs ft fe e) it m (i + 1) acc s) Q fun c H' => W (cl c) none σ H', fun H' q => ⟨m, Nat.lt_succ_self m, q⟩, fun u H3 hy => ?_⟩
          obtain ⟨e3, g3, r3, k3⟩ := yl u H3 hy
          have hD3 : H3 D' = some (.lst accv) := by rw [k3 D' (by rw [hD2]; simp)]; exact hD2
          have e13 : Ext K ρ1 H1 s1 ⟨ρ2.f, ρ1.av⟩ H3 s2 := e2.trans (e3.reav (av' := []))
          have er3 := er2.ext g2 e3
          have ra3 := ra.ext g2 e3
          have w3 := w2.ext g2 e3
          unfold lcF at p2
          cases ha : asg t x (wipe e vs) with
          | none => rw [ha] at p2; exact p2.elim
          | some ea =>
            rw [ha] at p2
            dsimp only at p2
            refine ⟨ρ2, s2.n, x, _, ea, by rw [r3.frzE]; exact r3, er3, ha, fun σ4 l4 o4 er4 => ⟨(wipe_same l4 o4 hown).trans (wipe_same (t := vs) (wipe_length _ _) (fun i hi => wipe_out hi) fun _ h => h), ?_⟩⟩
            refine ⟨ρ2, ea, s2, g3, er4, ?_⟩
            cases hf : ft ea s2 with
            | bad => rw [hf] at p2; exact p2.elim
            | exc c s4 => rw [hf] at p2; exact p2.elim
            | ok b s4 =>
              rw [hf] at p2
              intro ρ4 H4 e4 g4
              have hav4 : ρ4.av = D' :: ρ1.av := e4.av.trans av2
              have key4 : H4 D' = some (.lst accv) ∧ ∀ i, i < s4.n → ρ4 i ≠ D' := lst_ext e4 hD3 hn2
              have e14 : Ext K ρ1 H1 s1 ⟨ρ4.f, ρ1.av⟩ H4 s4 := e13.trans (e4.reav (av' := []))
              cases b with
              | false =>
                simp only [R.bind_ok, Bool.false_eq_true, if_false, R.nox_ok] at p2 ⊢
                exact ⟨ρ4, s4, acc, accv, hav4, g4, e14, key4.1, key4.2, ra3.ext g3 e4, w3.ext g3 e4, er3.ext g3 e4, p2⟩
              | true =>
                simp only [R.bind_ok, if_true] at p2 ⊢
                refine ⟨ρ4, ea, s4, g4, er4.ext g3 e4, ?_⟩
                cases hf5 : fe ea s4 with
                | bad => rw [hf5] at p2; exact p2.elim
                | exc c s5 => rw [hf5] at p2; exact p2.elim
                | ok d s5 =>
                  rw [hf5] at p2
                  simp only [R.bind_ok, R.nox_ok] at p2
                  intro ρ5 H5 v5 e5 o5
                  split at p2
                  · rename_i hz
                    have g5 := o5.good
                    have key5 : H5 D' = some (.lst accv) ∧ ∀ i, i < s5.n → ρ5 i ≠ D' := lst_ext e5 key4.1 key4.2
                    have hav5 : ρ5.av = D' :: ρ1.av := e5.av.trans hav4
                    have sw5 : Swap ρ5 H5 D' ρ5.av := ⟨fun a o q z => (by subst z; rw [key5.1] at q; cases q; exact ⟨_, rfl⟩), fun a us q z => ⟨z, fun y => z (by rw [hav5, y]; exact List.mem_cons_self)⟩⟩
                    have ra5 := (ra3.ext g3 e4).ext g4 e5
                    refine ⟨accv, key5.1, by rw [← ra5.length, ← big_eq]; exact hz, ρ5, s5, acc ++ [d.frz], accv ++ [v5], hav5, sw5.good g5 key5.2 (fun a ha => .inr (g5.xt a ha)), (e14.trans (e5.reav (av' := []))).upd hD, upd_same, key5.2,
                      sw5.relL (ra5.snoc o5.frz), ((w3.ext g3 e4).ext g4 e5).mono (fun _ _ r => sw5.rel r) (fun _ _ r => sw5.relL r), sw5.env ((er3.ext g3 e4).ext g4 e5), p2⟩
                  · exact p2.elim
theorem e_lc (hc : X.calm = true) (hN : X.N.Nodup) (hi : I1 X Ps cl W tg iter fi) (ok : BlkOk X.N X.env.scope scope own) (hown : ∀ i ∈ t.names, i ∈ own.map (·.2))
    (hg : ∀ (s : Shared) (H : Hp) (C : Addr) (cl : List (Str × Addr)) (fp : List Addr), PG (X.blk s H scope (compEnvC scope cl C X.env) fp) tg (TXG X.K t))
    (ht : ∀ (s : Shared) (H : Hp) (C : Addr) (ce : List (Str × Addr)) (fp : List Addr), PTs (X.blk s H scope (compEnvC scope ce C X.env) fp) ifs (TXB X.K Ps cl WF ft))
    (he : ∀ (s : Shared) (H : Hp) (C : Addr) (ce : List (Str × Addr)) (fp : List Addr), E1 (X.blk s H scope (compEnvC scope ce C X.env) fp) Ps cl WF elt fe) (hs : ∀ x, foldedSetIterable iter X.env x = pure x) :
    E1 X Ps cl W (.ListComp elt [⟨tg, iter, ifs, 0⟩] scope pos) fun e s => (fi e s).bind fun it s => lcI (lcF t (own.map (·.2)) ft fe e) it s :=
  PE.imp (pe_lc (te := TX X.K Ps cl WF fe) hc hN hi ok hg ht he hs) fun σ H Q h => lc_read hown h
end
end L3
end

section -- I11
set_option autoImplicit false
set_option linter.all false
set_option maxRecDepth 100000
set_option maxHeartbeats 1000000
namespace L3
open PySem PySem.Spec PyProof.Rows L2

def PostF (K : Fr) (Ps : List Addr) (ρ : Rh) (H : Hp) (s : S) (f : F) (Dn : Ends) (XQ : Nat → L2.St → Hp → Prop) : Prop := match f with
  | .nx e s' => ∀ ρ' H' σ', Ext K ρ H s ρ' H' s' → Good K Ps ρ' none H' s' → EnvRel K ρ' s'.n H' σ' e → Dn.nx σ' H'
  | .bk e s' => ∀ ρ' H' σ', Ext K ρ H s ρ' H' s' → Good K Ps ρ' none H' s' → EnvRel K ρ' s'.n H' σ' e → Dn.bk σ' H'
  | .ct e s' => ∀ ρ' H' σ', Ext K ρ H s ρ' H' s' → Good K Ps ρ' none H' s' → EnvRel K ρ' s'.n H' σ' e → Dn.ct σ' H'
  | .rt d s' => ∀ ρ' H' v, Ext K ρ H s ρ' H' s' → OkR K Ps H ρ' H' s' d v → Dn.rt v H'
  | .ex c e s' => ∀ ρ' H' σ', Ext K ρ H s ρ' H' s' → Good K Ps ρ' none H' s' → EnvRel K ρ' s'.n H' σ' e → XQ c σ' H'
  | .bad => False
section
variable {K : Fr} {Ps : List Addr} {ρ ρ' ρ1 ρ2 : Rh} {H H' H1 H2 : Hp} {s s' s1 s2 : S} {d : D} {v : V} {Dn : Ends} {XQ : Nat → L2.St → Hp → Prop} {α : Type} {σ : L2.St} {e : Env}
theorem PostF.shift {f : F} (x : Ext K ρ H s ρ1 H1 s1) (p : PostF K Ps ρ H s f Dn XQ) : PostF K Ps ρ1 H1 s1 f Dn XQ := by
  cases f with
  | nx e s' => exact fun ρ' H' σ' x' => p ρ' H' σ' (x.trans x')
  | bk e s' => exact fun ρ' H' σ' x' => p ρ' H' σ' (x.trans x')
  | ct e s' => exact fun ρ' H' σ' x' => p ρ' H' σ' (x.trans x')
  | rt d s' => exact fun ρ' H' v x' o => p ρ' H' v (x.trans x') (o.weak fun a h => Classical.byContradiction fun q => x.there a q h)
  | ex c e s' => exact fun ρ' H' σ' x' => p ρ' H' σ' (x.trans x')
  | bad => exact p
/-- a value, then the rest -/
theorem PostF.of {r : R D} {k : D → S → F} {Q : VK} (p : PostF K Ps ρ H s (F.of r e k) Dn XQ) (g : Good K Ps ρ none H s) (er : EnvRel K ρ s.n H σ e)
    (h : ∀ d s1 ρ1 H1 v, Ext K ρ H s ρ1 H1 s1 → OkR K Ps H ρ1 H1 s1 d v → EnvRel K ρ1 s1.n H1 σ e → PostF K Ps ρ1 H1 s1 (k d s1) Dn XQ → Q v H1) : Post K Ps ρ H s r Q fun c H' => XQ c σ H' := by
  cases r with
  | ok d s' => exact fun ρ' H' v x o => h d s' ρ' H' v x o (er.ext g x) (PostF.shift x p)
  | exc c s' => exact fun ρ' H' x g' => p ρ' H' σ x g' (er.ext g x)
  | bad => exact p
theorem PostF.ofG {r : R α} {k : α → S → F} {G : GQ α} (p : PostF K Ps ρ H s (F.of r e k) Dn XQ) (g : Good K Ps ρ none H s) (er : EnvRel K ρ s.n H σ e)
    (h : ∀ d s1 ρ1 H1, Ext K ρ H s ρ1 H1 s1 → EnvRel K ρ1 s1.n H1 σ e → PostF K Ps ρ1 H1 s1 (k d s1) Dn XQ → G d s1 ρ1 H1) : PostG K Ps ρ H s r G fun c H' => XQ c σ H' := by
  cases r with
  | ok d s' => exact fun ρ' H' x => h d s' ρ' H' x (er.ext g x) (PostF.shift x p)
  | exc c s' => exact fun ρ' H' x g' => p ρ' H' σ x g' (er.ext g x)
  | bad => exact p
end
def TXS (K : Fr) (Ps : List Addr) (cl : XC) (W : WX) (f : Env → S → F) : TS := fun Dn σ H => ∃ ρ e s, Good K Ps ρ none H s ∧ EnvRel K ρ s.n H σ e ∧ PostF K Ps ρ H s (f e s) Dn fun c σ' H' => W (cl c) none σ' H'
abbrev S1 (X : Cx) (Ps : List Addr) (cl : XC) (W : WX) (st : Stmt) (f : Env → S → F) : Prop := PS X st (TXS X.K Ps cl W f)
abbrev SS1 (X : Cx) (Ps : List Addr) (cl : XC) (W : WX) (st : List Stmt) (f : Env → S → F) : Prop := PSs X st (TXS X.K Ps cl W f)
section
variable {X : Cx} {Ps : List Addr} {cl : XC} {W : WX} {st : Stmt} {sts body : List Stmt} {f fr fa fb : Env → S → F} {a b c : Expr} {va vb vc : Env → S → R D} {pos : Pos}
theorem s_nil : SS1 X Ps cl W [] fun e s => .nx e s := PSs.imp pss_nil fun Dn σ H ⟨ρ, e, s, g, er, p⟩ => p ρ H σ Ext.refl g er
theorem s_cons (h1 : S1 X Ps cl W st f) (h2 : SS1 X Ps cl W sts fr) : SS1 X Ps cl W (st :: sts) fun e s => (f e s).next fun e s => fr e s := by
  refine PSs.imp (pss_cons h1 h2) fun Dn σ H ⟨ρ, e, s, g, er, p⟩ => ⟨ρ, e, s, g, er, ?_⟩
  dsimp only at p
  cases q : f e s with
  | nx e' s' => rw [q] at p; exact fun ρ' H' σ' x g' er' => ⟨ρ', e', s', g', er', PostF.shift x p⟩
  | bk e' s' => rw [q] at p; exact p
  | ct e' s' => rw [q] at p; exact p
  | rt d s' => rw [q] at p; exact p
  | ex c e' s' => rw [q] at p; exact p
  | bad => rw [q] at p; exact p
theorem s_pass : S1 X Ps cl W (.Pass pos) fun e s => .nx e s := PS.imp ps_pass fun Dn σ H ⟨ρ, e, s, g, er, p⟩ => p ρ H σ Ext.refl g er
theorem s_brk : S1 X Ps cl W (.Break pos) fun e s => .bk e s := PS.imp ps_break fun Dn σ H ⟨ρ, e, s, g, er, p⟩ => p ρ H σ Ext.refl g er
theorem s_cont : S1 X Ps cl W (.Continue pos) fun e s => .ct e s := PS.imp ps_continue fun Dn σ H ⟨ρ, e, s, g, er, p⟩ => p ρ H σ Ext.refl g er
theorem s_expr (ha : E1 X Ps cl W a va) (hs : swapsWith a none pos.line X.env = pure false) : S1 X Ps cl W (.Expr a pos) fun e s => F.of (va e s) e fun _ s => .nx e s :=
  PS.imp (ps_expr ha hs) fun Dn σ H ⟨ρ, e, s, g, er, p⟩ => ⟨ρ, e, s, g, er, PostF.of (r := va e s) p g er fun d s1 ρ1 H1 v x o er1 p => p ρ1 H1 σ Ext.refl o.good er1⟩
theorem s_ret (ha : E1 X Ps cl W a va) : S1 X Ps cl W (.Return (some a) pos) fun e s => F.of (va e s) e fun d s => .rt d s := by
  refine PS.imp (ps_ret ha) fun Dn σ H ⟨ρ, e, s, g, er, p⟩ => ⟨ρ, e, s, g, er, ?_⟩
  dsimp only at p
  cases q : va e s with
  | ok d s' => rw [q] at p; exact fun ρ' H' v x o => p ρ' H' v x o
  | exc c s' => rw [q] at p; exact fun ρ' H' x g' => p ρ' H' σ x g' (er.ext g x)
  | bad => rw [q] at p; exact p
theorem s_retN : S1 X Ps cl W (.Return none pos) fun e s => .rt .non s := PS.imp ps_retN fun Dn σ H ⟨ρ, e, s, g, er, p⟩ => p ρ H .non Ext.refl ⟨g, .non⟩
theorem s_ite (hc : T1 X Ps cl W c vc) (ha : SS1 X Ps cl W sts fa) (hb : SS1 X Ps cl W body fb) : S1 X Ps cl W (.If c sts body pos) fun e s => F.of (vc e s) e fun d s => match d.bool with
      | some true => fa e s
      | some false => fb e s
      | none => .bad := by
  refine PS.imp (ps_if hc ha hb) fun Dn σ H ⟨ρ, e, s, g, er, p⟩ => ⟨ρ, e, s, g, er, ?_⟩
  dsimp only at p
  simp only [bl]
  cases q : vc e s with
  | ok d s' =>
    rw [q] at p
    simp only [F.of_ok, R.bind_ok] at p ⊢
    cases hb : d.bool with
    | none => rw [hb] at p; exact p
    | some t =>
      rw [hb] at p
      cases t with
      | true => exact fun ρ' H' x g' => ⟨ρ', e, s', g', er.ext g x, PostF.shift x p⟩
      | false => exact fun ρ' H' x g' => ⟨ρ', e, s', g', er.ext g x, PostF.shift x p⟩
  | exc c s' => rw [q] at p; exact fun ρ' H' x g' => p ρ' H' σ x g' (er.ext g x)
  | bad => rw [q] at p; exact p
theorem s_whl {w : Nat} (hp : PassesOwn (model X.prog X.w) X.A X.env X.xe) (hc : T1 X Ps cl W c vc) (hb : SS1 X Ps cl W body fb) : S1 X Ps cl W (.While c body [] pos) fun e s => whI (fun e s => (vc e s).bind fun d s => R.opt d.bool s) (fun e s => fb e s) w e s := by
  refine PS.imp (ps_while hp hc hb) fun Dn σ H ⟨ρ, e, s, g, er, p⟩ => ?_
  refine ⟨fun m σ' H' => ∃ ρ' e' s', Good X.K Ps ρ' none H' s' ∧ EnvRel X.K ρ' s'.n H' σ' e' ∧ PostF X.K Ps ρ' H' s' (whI (fun e s => (vc e s).bind fun d s => R.opt d.bool s) (fun e s => fb e s) m e' s') Dn fun c σ' H' => W (cl c) none σ' H', ⟨w, ρ, e, s, g, er, p⟩, ?_⟩
  rintro m σ1 H1 ⟨ρ1, e1, s1, g1, er1, p1⟩
  cases m with
  | zero => exact p1.elim
  | succ m =>
    refine ⟨ρ1, e1, s1, g1, er1, ?_⟩
    unfold whI at p1
    show PostG X.K Ps ρ1 H1 s1 ((vc e1 s1).bind fun d s => R.opt d.bool s) _ _
    cases q : (vc e1 s1).bind fun d s => R.opt d.bool s with
    | bad => rw [q] at p1; exact p1
    | exc c s' => rw [q] at p1; exact fun ρ' H' x g' => p1 ρ' H' σ1 x g' (er1.ext g1 x)
    | ok t s2 =>
      rw [q] at p1
      simp only [F.of_ok] at p1
      intro ρ2 H2 x2 g2
      cases t with
      | false => exact PostF.shift x2 p1 ρ2 H2 σ1 Ext.refl g2 (er1.ext g1 x2)
      | true =>
        simp only [if_true] at p1 ⊢
        refine ⟨fun σ' H' => ∃ ρ' e' s', Good X.K Ps ρ' none H' s' ∧ EnvRel X.K ρ' s'.n H' σ' e' ∧ PostF X.K Ps ρ' H' s' (whI (fun e s => (vc e s).bind fun d s => R.opt d.bool s) (fun e s => fb e s) m e' s') Dn fun c σ' H' => W (cl c) none σ' H',
          fun σ' H' q => ⟨m, Nat.lt_succ_self m, q⟩, ρ2, e1, s2, g2, er1.ext g1 x2, ?_⟩
        have p2 := PostF.shift x2 p1
        cases q : fb e1 s2 with
        | nx e3 s3 => rw [q] at p2; exact fun ρ3 H3 σ3 x3 g3 er3 => ⟨ρ3, e3, s3, g3, er3, PostF.shift x3 p2⟩
        | ct e3 s3 => rw [q] at p2; exact fun ρ3 H3 σ3 x3 g3 er3 => ⟨ρ3, e3, s3, g3, er3, PostF.shift x3 p2⟩
        | bk e3 s3 => rw [q] at p2; exact p2
        | rt d s3 => rw [q] at p2; exact p2
        | ex c e3 s3 => rw [q] at p2; exact p2
        | bad => rw [q] at p2; exact p2
def foF (t : Tg) (fb : Env → S → F) : D → Env → S → F := fun x e s => match asg t x e with
  | some e' => fb e' s
  | none => .bad
theorem s_for {tg iter : Expr} {t : Tg} {fi : Env → S → R L3.It} (hp : PassesOwn (model X.prog X.w) X.A X.env X.xe) (hc : X.calm = true) (hi : I1 X Ps cl W tg iter fi) (hg : PG X tg (TXG X.K t)) (hb : SS1 X Ps cl W body fb)
    (hs : ∀ x, foldedSetIterable iter X.env x = pure x) : S1 X Ps cl W (.For tg iter body [] pos) fun e s => F.of (fi e s) e fun it s => foI (foF t fb) it e s := by
  refine PS.imp (ps_for hp hc hi hg hb hs) fun Dn σ H ⟨ρ, e, s, g, er, p⟩ => ?_
  refine ⟨ρ, e, s, g, er, PostF.ofG (r := fi e s) p g er fun it s1 ρ1 H1 x1 er1 p J g1 w => ?_⟩
  rw [foI_eq] at p
  generalize fuelI it s1 = m0 at p
  refine ⟨fun i m σ' H' => ∃ ρ' e' s', Good X.K Ps ρ' none H' s' ∧ EnvRel X.K ρ' s'.n H' σ' e' ∧ Walk X.K ρ' H' s' it J ∧ PostF X.K Ps ρ' H' s' (foG (foF t fb) it m i e' s') Dn fun c σ' H' => W (cl c) none σ' H', ⟨m0, ρ1, e, s1, g1, er1, w, p⟩, ?_⟩
  rintro i m σ2 H2 ⟨ρ2, e2, s2, g2, er2, w2, p2⟩
  cases m with
  | zero => exact p2.elim
  | succ m =>
    unfold foG at p2
    cases hx : nextI it i s2 with
    | none => rw [hx] at p2; exact p2.elim
    | some ox =>
      cases ox with
      | none =>
        rw [hx] at p2
        exact .inl ⟨w2.stop g2 hx, p2 ρ2 H2 σ2 Ext.refl g2 er2⟩
      | some x =>
        rw [hx] at p2
        dsimp only at p2
        obtain ⟨go, yl⟩ := w2.go g2 hx
        refine .inr ⟨go, fun σ' H' => ∃ ρ' e' s', Good X.K Ps ρ' none H' s' ∧ EnvRel X.K ρ' s'.n H' σ' e' ∧ Walk X.K ρ' H' s' it J ∧ PostF X.K Ps ρ' H' s' (foG (foF t fb) it m (i + 1) e' s') Dn fun c σ' H' => W (cl c) none σ' H',
          fun σ' H' q => ⟨m, Nat.lt_succ_self m, q⟩, fun u H3 hy => ?_⟩
        obtain ⟨x3, g3, r3, _⟩ := yl u H3 hy
        have p3 := PostF.shift x3 p2
        unfold foF at p3
        cases ha : asg t x e2 with
        | none => rw [ha] at p3; exact p3.elim
        | some ea =>
          rw [ha] at p3
          dsimp only at p3
          refine ⟨ρ2, s2.n, x, e2, ea, by rw [r3.frzE]; exact r3, er2.ext g2 x3, ha, fun σ4 l4 o4 er4 => ⟨ρ2, ea, s2, g3, er4, ?_⟩⟩
          have w3 := w2.ext g2 x3
          cases q : fb ea s2 with
          | nx e5 s5 => rw [q] at p3; exact fun ρ5 H5 σ5 x5 g5 er5 => ⟨ρ5, e5, s5, g5, er5, w3.ext g3 x5, PostF.shift x5 p3⟩
          | ct e5 s5 => rw [q] at p3; exact fun ρ5 H5 σ5 x5 g5 er5 => ⟨ρ5, e5, s5, g5, er5, w3.ext g3 x5, PostF.shift x5 p3⟩
          | bk e5 s5 => rw [q] at p3; exact p3
          | rt d s5 => rw [q] at p3; exact p3
          | ex c e5 s5 => rw [q] at p3; exact p3
          | bad => rw [q] at p3; exact p3
/-- what an assignment does -/
abbrev fAsg (t : Tg) (va : Env → S → R D) : Env → S → F := fun e s => F.of (va e s) e fun d s => match asg t d e with
      | some e' => .nx e' s
      | none => .bad
theorem asg_read {t : Tg} {te : TE} {Dn : Ends} {σ : L2.St} {H : Hp} (h : TXS X.K Ps cl W (fAsg t va) Dn σ H) : tAsg (TX X.K Ps cl W va) (TXG X.K t) Dn σ H := by
  obtain ⟨ρ, e, s, g, er, p⟩ := h
  refine ⟨ρ, e, s, g, er, PostF.of (r := va e s) p g er fun d s1 ρ1 H1 v x1 o er1 p => ?_⟩
  cases ha : asg t d e with
  | none => rw [ha] at p; exact p.elim
  | some e' =>
    rw [ha] at p
    exact ⟨ρ1, s1.n, d, e, e', o.frz, er1, ha, fun σ' _ _ er' => p ρ1 H1 σ' Ext.refl o.good er'⟩
theorem s_asg {tg : Expr} {t : Tg} (ha : E1 X Ps cl W a va) (hg : PG X tg (TXG X.K t)) (hs : swapsWithSole [tg] a pos.line X.env = pure false) (hw : swappedStores [tg] a X.env = pure none)
    (h1 : (assignEach [tg] X.env).map (·.2) = [assign tg X.env]) : S1 X Ps cl W (.Assign [tg] a pos) (fAsg t va) :=
  PS.imp (ps_asg ha hg hs hw h1) fun Dn σ H h => asg_read (te := fun _ _ _ => True) h
/-- what the reading of a name's store says -/
theorem gName_read {i : Nat} {v : V} {σ : L2.St} {H : Hp} {Q : L2.St → Hp → Prop} (hl : i < σ.length) (h : TXG X.K (.nm i) v σ H Q) : gName i v σ H Q := by
  obtain ⟨ρ, n, d, e, e', r, er, q, k⟩ := h
  simp only [asg, Option.some.injEq] at q
  subst q
  refine k _ (by simp) (fun j hj => ?_) (er.set hl r)
  rw [List.getElem?_set_ne]
  exact fun q => hj (by simp [Tg.names, q])
theorem PS.len {t t' : TS} (h : PS X st t) (i : ∀ Dn σ H, σ.length = X.N.length → t' Dn σ H → t Dn σ H) : PS X st t' := ⟨fun pins s σ H Dn I q => h.run pins s σ H Dn I (i Dn σ H I.len q)⟩
theorem s_setLc {i : Nat} {y : Str} {py : Pos} {elt tg iter : Expr} {ifs : List Expr} {scope : Scope} {own : List (Str × Nat)} {spos : Pos} {t : Tg} {fi : Env → S → R L3.It} {ft : Env → S → R Bool} {fe : Env → S → R D} (hy : X.N[i]? = some y) (hyl : X.env.scope.names.lookup y = some .local)
    (hsw : swapsWith (.ListComp elt [⟨tg, iter, ifs, 0⟩] scope pos) (some (.Name y py)) spos.line X.env = pure true)
    (hc : X.calm = true) (hN : X.N.Nodup) (hi : I1 X Ps cl W tg iter fi) (ok : BlkOk X.N X.env.scope scope own) (hown : ∀ i ∈ t.names, i ∈ own.map (·.2))
    (hg : ∀ (s : Shared) (H : Hp) (C : Addr) (cl : List (Str × Addr)) (fp : List Addr), PG (X.blk s H scope (compEnvC scope cl C X.env) fp) tg (TXG X.K t))
    (ht : ∀ (s : Shared) (H : Hp) (C : Addr) (ce : List (Str × Addr)) (fp : List Addr), PTs (X.blk s H scope (compEnvC scope ce C X.env) fp) ifs (TXB X.K Ps cl WF ft))
    (he : ∀ (s : Shared) (H : Hp) (C : Addr) (ce : List (Str × Addr)) (fp : List Addr), E1 (X.blk s H scope (compEnvC scope ce C X.env) fp) Ps cl WF elt fe) (hs : ∀ x, foldedSetIterable iter X.env x = pure x) :
    S1 X Ps cl W (.Assign [.Name y py] (.ListComp elt [⟨tg, iter, ifs, 0⟩] scope pos) spos) (fAsg (.nm i) fun e s => (fi e s).bind fun it s => lcI (lcF t (own.map (·.2)) ft fe e) it s) := by
  refine PS.len (ps_setLc (te := TX X.K Ps cl WF fe) hc hN hy hyl hsw hi ok hg ht he hs) fun Dn σ H hl h => ?_
  have hlt : i < σ.length := by rw [hl]; exact (List.getElem?_eq_some_iff.mp hy).1
  obtain ⟨ρ, e, s, g, er, p⟩ := h
  refine lc_read hown ⟨ρ, e, s, g, er, PostF.of p g er fun d s1 ρ1 H1 v x1 o er1 p => ?_⟩
  exact gName_read hlt ⟨ρ1, s1.n, d, e, _, o.frz, er1, rfl, fun σ' _ _ er' => p ρ1 H1 σ' Ext.refl o.good er'⟩
/-- a pair of names, in one line -/
theorem s_par {i j : Nat} {x y : Str} {fs : Env → S → R (List D)} {px py pt : Pos} {kt k2 : Nat} {pt2 : Pos} (hc : X.calm = true) (hN : X.N.Nodup) (hi : X.N[i]? = some x) (hj : X.N[j]? = some y) (hij : i ≠ j)
    (hx : X.env.scope.names.lookup x = some .local) (hy : X.env.scope.names.lookup y = some .local) (ha : PA X [a, b] (TXA X.K Ps cl W fs))
    (hw : swappedStores [.Tuple [.Name x px, .Name y py] kt pt] (.Tuple [a, b] k2 pt2) X.env = pure (some [x, y]))
    (hs : swapsWithSole [.Tuple [.Name x px, .Name y py] kt pt] (.Tuple [a, b] k2 pt2) pos.line X.env = pure false) :
    S1 X Ps cl W (.Assign [.Tuple [.Name x px, .Name y py] kt pt] (.Tuple [a, b] k2 pt2) pos) (fAsg (.tup [.nm i, .nm j]) fun e s => (fs e s).bind fun ds s => R.chk (decide (ds.length ≤ big)) (.ok (.tup ds) s)) := by
  refine PS.len (ps_par hc hN hi hj hij hx hy ha hw hs) fun Dn σ H hl ⟨ρ, e, s, g, er, p⟩ => ?_
  have li : i < σ.length := by rw [hl]; exact (List.getElem?_eq_some_iff.mp hi).1
  have lj : j < σ.length := by rw [hl]; exact (List.getElem?_eq_some_iff.mp hj).1
  refine ⟨ρ, e, s, g, er, ?_⟩
  unfold fAsg at p
  dsimp only at p
  cases q : fs e s with
  | bad => rw [q] at p; exact p
  | exc c s' => rw [q] at p; exact fun ρ' H' x g' => p ρ' H' σ x g' (er.ext g x)
  | ok ds s' =>
    rw [q] at p
    simp only [R.bind_ok, R.chk] at p
    intro ρ1 H1 x1 vs g1 r1
    split at p
    · simp only [F.of_ok, asg] at p
      match ds, r1, p with
      | [d1, d2], .cons r1 (.cons r2 .nil), p =>
        simp only [asgs, asg, Option.bind_some] at p
        refine ⟨_, _, rfl, p ρ1 H1 _ x1 g1 ?_⟩
        have er1 := er.ext g x1
        exact (er1.set li (by rw [r1.frzE]; exact r1)).set (by simpa using lj) (by rw [r2.frzE]; exact r2)
      | [], _, p => simp only [asgs] at p; exact p.elim
      | [_], _, p => simp [asgs, asg] at p; exact p.elim
      | _ :: _ :: _ :: _, _, p => simp [asgs, asg] at p; exact p.elim
    · exact p.elim
theorem s_par3 {i j l : Nat} {x y z : Str} {fs : Env → S → R (List D)} {px py pz pt : Pos} {kt k2 : Nat} {pt2 : Pos} (hc : X.calm = true) (hN : X.N.Nodup) (hi : X.N[i]? = some x) (hj : X.N[j]? = some y) (hl : X.N[l]? = some z) (hij : i ≠ j) (hil : i ≠ l) (hjl : j ≠ l)
    (hx : X.env.scope.names.lookup x = some .local) (hy : X.env.scope.names.lookup y = some .local) (hz : X.env.scope.names.lookup z = some .local) (ha : PA X [a, b, c] (TXA X.K Ps cl W fs))
    (hw : swappedStores [.Tuple [.Name x px, .Name y py, .Name z pz] kt pt] (.Tuple [a, b, c] k2 pt2) X.env = pure (some [x, y, z]))
    (hs : swapsWithSole [.Tuple [.Name x px, .Name y py, .Name z pz] kt pt] (.Tuple [a, b, c] k2 pt2) pos.line X.env = pure false) :
    S1 X Ps cl W (.Assign [.Tuple [.Name x px, .Name y py, .Name z pz] kt pt] (.Tuple [a, b, c] k2 pt2) pos) (fAsg (.tup [.nm i, .nm j, .nm l]) fun e s => (fs e s).bind fun ds s => R.chk (decide (ds.length ≤ big)) (.ok (.tup ds) s)) := by
  refine PS.len (ps_par3 hc hN hi hj hl hij hil hjl hx hy hz ha hw hs) fun Dn σ H hl0 ⟨ρ, e, s, g, er, p⟩ => ?_
  have li : i < σ.length := by rw [hl0]; exact (List.getElem?_eq_some_iff.mp hi).1
  have lj : j < σ.length := by rw [hl0]; exact (List.getElem?_eq_some_iff.mp hj).1
  have ll : l < σ.length := by rw [hl0]; exact (List.getElem?_eq_some_iff.mp hl).1
  refine ⟨ρ, e, s, g, er, ?_⟩
  unfold fAsg at p
  dsimp only at p
  cases q : fs e s with
  | bad => rw [q] at p; exact p
  | exc c s' => rw [q] at p; exact fun ρ' H' x g' => p ρ' H' σ x g' (er.ext g x)
  | ok ds s' =>
    rw [q] at p
    simp only [R.bind_ok, R.chk] at p
    intro ρ1 H1 x1 vs g1 r1
    split at p
    · simp only [F.of_ok, asg] at p
      match ds, r1, p with
      | [d1, d2, d3], .cons r1 (.cons r2 (.cons r3 .nil)), p =>
        simp only [asgs, asg, Option.bind_some] at p
        refine ⟨_, _, _, rfl, p ρ1 H1 _ x1 g1 ?_⟩
        have er1 := er.ext g x1
        exact ((er1.set li (by rw [r1.frzE]; exact r1)).set (by simpa using lj) (by rw [r2.frzE]; exact r2)).set (by simpa using ll) (by rw [r3.frzE]; exact r3)
      | [], _, p => simp only [asgs] at p; exact p.elim
      | [_], _, p => simp [asgs, asg] at p; exact p.elim
      | [_, _], _, p => simp [asgs, asg] at p; exact p.elim
      | _ :: _ :: _ :: _ :: _, _, p => simp [asgs, asg] at p; exact p.elim
    · exact p.elim
theorem aug2E {op : Op2} {x y r : D} (h : aug2 op x y = some r) : ∃ i j, x = .int i ∧ y = .int j ∧ ((op = .add ∧ r = .int (i + j)) ∨ (op = .sub ∧ r = .int (i - j))) := by
  cases op <;> cases x <;> cases y <;> simp [aug2] at h <;> subst h <;> exact ⟨_, _, rfl, rfl, by simp⟩
theorem s_aug {i : Nat} {x : Str} {op : Op2} {p' : Pos} (hop : op = .add ∨ op = .sub) (hN : X.N.Nodup) (hi : X.N[i]? = some x) (hx : L2.Loc X.env.scope x) (hf : X.fn x = true ∨ X.env.scope.names.lookup x = some .local) (ha : E1 X Ps cl W a va) :
    S1 X Ps cl W (.AugAssign (.Name x p') op.py a pos) fun e s => match getV e i with
      | some d => F.of (va e s) e fun d' s => match aug2 op d d' with
        | some r => .nx (e.set i (some r)) s
        | none => .bad
      | none => .bad := by
  have hio : PIp X op.py (fun x y H Q => ∃ i j, x = .int i ∧ y = .int j ∧ ∀ k, ((op = .add ∧ k = i + j) ∨ (op = .sub ∧ k = i - j)) → Q (.int k) H) := by
    intro pins s σ H x y v u Q I r1 r2 ⟨i, j, h1, h2, h3⟩
    rcases hop with rfl | rfl
    · exact ip_add pins s σ H x y v u Q I r1 r2 ⟨i, j, h1, h2, h3 _ (.inl ⟨rfl, rfl⟩)⟩
    · exact ip_sub pins s σ H x y v u Q I r1 r2 ⟨i, j, h1, h2, h3 _ (.inr ⟨rfl, rfl⟩)⟩
  refine PS.len (ps_aug hN hi hx ha hio hf) fun Dn σ H hl ⟨ρ, e, s, g, er, p⟩ => ?_
  have li : i < σ.length := by rw [hl]; exact (List.getElem?_eq_some_iff.mp hi).1
  dsimp only at p
  cases hv : getV e i with
  | none => rw [hv] at p; exact p.elim
  | some d =>
    rw [hv] at p
    dsimp only at p
    obtain ⟨v, h1, r1⟩ := er i d hv
    refine ⟨v, h1, ρ, e, s, g, er, PostF.of (r := va e s) p g er fun d2 s1 ρ1 H1 v2 x1 o er1 p => ?_⟩
    cases h : aug2 op d d2 with
    | none => rw [h] at p; exact p.elim
    | some r =>
      rw [h] at p
      obtain ⟨i1, j1, rfl, rfl, hr⟩ := aug2E h
      cases r1
      obtain ⟨g1, r2⟩ := o
      cases r2
      refine ⟨i1, j1, rfl, rfl, fun k hk => ?_⟩
      have : r = .int k := by
        rcases hr with ⟨rfl, rfl⟩ | ⟨rfl, rfl⟩ <;> rcases hk with ⟨h, rfl⟩ | ⟨h, rfl⟩ <;> first | rfl | cases h
      subst this
      exact p ρ1 H1 _ Ext.refl g1 (er1.set li (.int _))
/-- o[i] = v -/
theorem s_put {tp : Pos} (ha : E1 X Ps cl W a va) (hb : E1 X Ps cl W b vb) (hc : E1 X Ps cl W c vc) (hs : swapsWithSole [.Subscript b c tp] a pos.line X.env = pure false) (hw : swappedStores [.Subscript b c tp] a X.env = pure none)
    (h1 : (assignEach [.Subscript b c tp] X.env).map (·.2) = [assign (.Subscript b c tp) X.env])
    (h2 : ∀ v, assign (.Subscript b c tp) X.env v = (do
      let x ← holding [v] (eval b X.env)
      let y ← holding [v, x] (eval c X.env)
      standAt tp
      holding [v, x, y] (setItem x y v)
      release [v, x, y] [])) :
    S1 X Ps cl W (.Assign [.Subscript b c tp] a pos) fun e s => F.of (va e s) e fun d s => F.of (vb e s) e fun x s => F.of (vc e s) e fun k s => match x, k with
      | .ref n, .int k => match s.cells[n]? with
        | some (.lst xs) => match ixN xs.length k with
          | some j => .nx e (s.put n (.lst (xs.set j d.frz)))
          | none => .bad
        | none => .bad
      | _, _ => .bad := by
  refine PS.imp (ps_asg ha (pg_sub hb hc set_list h2) hs hw h1) fun Dn σ H ⟨ρ, e, s, g, er, p⟩ => ?_
  refine ⟨ρ, e, s, g, er, PostF.of (r := va e s) p g er fun d s1 ρ1 H1 v x1 o er1 p => ?_⟩
  refine ⟨ρ1, e, s1, o.good, er1, PostF.of (r := vb e s1) p o.good er1 fun x s2 ρ2 H2 v2 x2 o2 er2 p => ?_⟩
  refine ⟨ρ2, e, s2, o2.good, er2, PostF.of (r := vc e s2) p o2.good er2 fun k s3 ρ3 H3 v3 x3 o3 er3 p => ?_⟩
  cases x with
  | ref n =>
    cases k with
    | int k =>
      dsimp only at p
      obtain ⟨g2, r2⟩ := o2
      obtain ⟨g3, r3⟩ := o3
      cases r3
      have r2' := r2.ext g2 x3
      cases r2' with
      | ref hn =>
        have e0 : s3.cells[n]? = some s3.cells[n] := List.getElem?_eq_getElem hn
        have c0 := g3.cell n _ e0
        rw [e0] at p
        generalize s3.cells[n] = ob at p c0 e0
        cases ob with
        | lst ys =>
          obtain ⟨ws, hw, rw_⟩ := c0
          dsimp only at p
          cases hj : ixN ys.length k with
          | none => rw [hj] at p; exact p.elim
          | some j =>
            rw [hj] at p
            refine ⟨_, _, _, _, rfl, rfl, hw, by rw [← rw_.length]; exact hj, ?_⟩
            have rd : Rel X.K ρ3 s3.n none H3 d.frz v := (o.frz.ext o.good x2).ext g2 x3
            exact p ρ3 _ σ (Ext.put g3 hn _ _) (g3.put hn (rw_.set j rd)) (er3.ext g3 (Ext.put g3 hn _ _))
    | _ => exact p.elim
  | _ => exact p.elim
end
end L3
end

section -- I12
set_option autoImplicit false
set_option linter.all false
set_option maxRecDepth 100000
set_option maxHeartbeats 2000000
namespace L3
open PySem PySem.Spec PyProof.Rows L2 GxR

/-- the context of a generator's frame, made in the state s -/
abbrev gCx (X : Cx) (A' : Around) (s : Shared) (H : Hp) (scope : Scope) (clo : List (Str × Addr)) (C : Addr) (code : Value) (fp : List Addr) (pn : List (Addr × Obj)) : Cx :=
  { X with A := A', s_0 := s, H_0 := H, env := genEnv scope clo C code builtinsNs X.env, outer := X.stack, stack := genEnv scope clo C code builtinsNs X.env :: X.stack, ex := fp,
           fn := fun x => scope.names.lookup x == some .cell, calm := true, pn := pn, xe := fun _ _ => False }
theorem gen_start {X : Cx} {pins : List (Addr × Obj)} {σ : L2.St} {H : Hp} {s s' : Shared} {scope : Scope} {own : List (Str × Nat)} {fp : List Addr} {A' : Around} {code : Value} {a : Addr} {go : Obj} {m : Str → Option Value}
    (I : Inv X pins σ H s) (ok : BlkOk X.N X.env.scope scope own) (hN : X.N.Nodup) (hcell : ∀ y ∈ scope.names, y.2 ≠ .cell) (hfp : ∀ b ∈ fp, FpOk X pins H b ∧ b < s.heap.objs.size) (hA : A'.handled = none)
    (hfr : A'.frames = some (genEnv scope (cloFrom X.env.cells scope.names []) s.heap.objs.size code builtinsNs X.env :: X.stack))
    (kp : ∀ b o, s.heap.get? b = some o → s'.heap.get? b = some o) (hos : s'.os = s.os) (hbare : AllBare s'.gens) (hns : s'.heap.Ns s.heap.objs.size m) (ha : s.heap.objs.size < a) (hgo : s'.heap.get? a = some go) (hgc : ∀ v, go.data ≠ .cell v) :
    Inv (gCx X A' s H scope (cloFrom X.env.cells scope.names []) s.heap.objs.size code fp [(a, go)]) [] (L2.wipe σ (own.map (·.2))) H s' := by
  have hfree : ∀ y ∈ scope.names, y.2 = .free → ∃ c, X.env.cells.lookup y.1 = some c := fun y hy e => by
    rcases ok.free y hy e with k | k
    · exact I.ok.has _ (.inl k)
    · exact I.ok.has _ (.inr k)
  have cm : ∀ {y c}, (y, c) ∈ cloFrom X.env.cells scope.names [] → X.env.cells.lookup y = some c ∧ c < s.heap.objs.size := fun {y c} hm => by
    rcases cloFrom_mem hm with hm | ⟨h1, rfl⟩
    · cases hm
    · obtain ⟨c, hc⟩ := hfree _ h1 rfl
      rw [hc]
      obtain ⟨w, z⟩ := I.cell _ _ hc
      exact ⟨rfl, z.lt⟩
  have look : ∀ {y}, scope.names.lookup y = some .free → ∃ c, (cloFrom X.env.cells scope.names []).lookup y = some c ∧ X.env.cells.lookup y = some c := fun {y} hl => by
    have hy : (y, NameKind.free) ∈ scope.names := PySem.mem_of_lookup hl
    obtain ⟨c', e'⟩ := mem_lookup (cloFrom_has (cells := X.env.cells) (acc := []) hy)
    exact ⟨c', e', (cm (PySem.mem_of_lookup e')).1⟩
  have nocell : ∀ {y}, scope.names.lookup y ≠ some NameKind.cell := fun {y} e => hcell _ (PySem.mem_of_lookup e) rfl
  have hlt : s.heap.objs.size < s'.heap.objs.size := hns.lt
  have okG : (gCx X A' s H scope (cloFrom X.env.cells scope.names []) s.heap.objs.size code fp [(a, go)]).Ok := by
    refine ⟨I.ok.mod, ok.kind, I.ok.glob, rfl, Nat.le_refl _, fun y z c e1 e2 => I.ok.inj y z c (cm (PySem.mem_of_lookup e1)).1 (cm (PySem.mem_of_lookup e2)).1, fun y hy => ?_, fun y c z e => ?_, fun _ => hA, hfr, .inr ⟨rfl, rfl⟩,
      fun b hb => ⟨Nat.ne_of_lt (hfp b hb).2, fun y c e z => ?_⟩, I.bs, Nat.le_trans I.ok.bsz I.sz, fun b o e hb => ?_, fun b hb z => ?_, I.stack, I.stkFree⟩
    · rcases hy with hy | hy
      · exact absurd hy nocell
      · obtain ⟨c, h1, _⟩ := look (y := y) hy
        exact ⟨c, h1⟩
    · have z : (scope.names.lookup y == some NameKind.cell) = true := z
      exact absurd (by simpa using z) (nocell (y := y))
    · exact (hfp b hb).1.2.2.2.2.1 y c (cm (PySem.mem_of_lookup e)).1 z
    · rcases (hfp b hb).1.2.2.2.1 with z | z
      · exact I.ok.noex b o e z
      · exact absurd (Nat.lt_of_lt_of_le (Heap.lt_size e) (Nat.le_trans I.ok.bsz z)) (Nat.lt_irrefl _)
    · rcases List.mem_cons.mp (I.stkSub b z) with z | z
      · exact (hfp b hb).1.2.1 z
      · exact (hfp b hb).1.2.2.1 z
  refine ⟨okG, hos, hbare, Un.kept kp, ⟨m, hns, fun i y av e1 e2 e3 => ?_⟩, fun y c e => ?_, I.hok.fresh (Nat.le_refl _), fun y c e => ?_, fun p hp => ?_, I.hok.kept kp, by rw [wipe_length]; exact I.len⟩
  · obtain ⟨e2, hne⟩ := wipe_some e2
    have hl : scope.names.lookup y = some .free := by
      have no : ∀ {k}, scope.names.lookup y = some k → ¬ (k = .local ∨ k = .cell) := fun {k} e hh => by
        rcases ok.own _ (PySem.mem_of_lookup e) hh with e' | e'
        · obtain ⟨p, hp, hpy⟩ := List.mem_map.mp e'
          have e3 := ok.ix p hp
          have : p.1 = y := hpy
          rw [this] at e3
          exact hne (List.mem_map.mpr ⟨p, hp, nodup_ix hN e3 e1⟩)
        · exact e' (List.mem_of_getElem? e1)
      rcases e3 with e3 | e3 | e3
      · exact absurd (.inl rfl) (no e3)
      · exact absurd (.inr rfl) (no e3)
      · exact e3
    obtain ⟨m', hn, hl'⟩ := I.loc
    have hvis : Vis X.env.scope y := (ok.free _ (PySem.mem_of_lookup hl) rfl).elim (fun k => .inr (.inl k)) (fun k => .inr (.inr k))
    obtain ⟨w, r, q⟩ := hl' i y av e1 e2 hvis
    obtain ⟨c, h1, h2⟩ := look hl
    refine ⟨w, r, .inr ⟨.inr hl, c, h1, ?_⟩⟩
    rcases q with ⟨k, _⟩ | ⟨_, c', e', z⟩
    · have k : X.env.scope.names.lookup y = some .local := k
      rcases ok.free _ (PySem.mem_of_lookup hl) rfl with k' | k' <;> rw [show X.env.scope.names.lookup y = _ from k'] at k <;> cases k
    · rw [h2] at e'
      cases e'
      exact z.keeps kp
  · obtain ⟨w, z⟩ := I.cell y c (cm (PySem.mem_of_lookup e)).1
    exact ⟨w, z.keeps kp⟩
  · exact I.freeC y c (cm (PySem.mem_of_lookup e)).1
  · have e : p = (a, go) := by simpa using hp
    subst e
    exact ⟨hgo, I.hok.fresh (Nat.le_of_lt ha), Nat.ne_of_gt ha, fun z => I.nofs (Nat.le_of_lt ha) (by
      rcases List.mem_cons.mp (I.stkSub _ z) with z | z
      · exact absurd z (Nat.ne_of_gt (Nat.lt_trans I.lt ha))
      · exact z), hgc⟩

/-- the room of a generator's frame -/
theorem over_gen {A : Around} {elt iter tg : Expr} {ifs : List Expr} {scope : Scope} {pos : Pos} {it : Value} {env : PySem.Env} :
    A.over (.compLoop (.GeneratorExp elt [⟨tg, iter, ifs, 0⟩] scope pos) 0 it .none env) [] = A.over (.compStart (.GeneratorExp elt [⟨tg, iter, ifs, 0⟩] scope pos) 0 it .none env) [] := by
  rfl
theorem over_room {A : Around} {elt iter tg : Expr} {ifs : List Expr} {scope : Scope} {pos : Pos} {it : Value} {env : PySem.Env} {k : Nat} (r : Room (k + 1) A) :
    Room k (A.in1.in1.over (.compStart (.GeneratorExp elt [⟨tg, iter, ifs, 0⟩] scope pos) 0 it .none env) []) := by
  have hw : (Code.compStart (.GeneratorExp elt [⟨tg, iter, ifs, 0⟩] scope pos) 0 it .none env).weight = 1 := by rfl
  have hu : (Code.compStart (.GeneratorExp elt [⟨tg, iter, ifs, 0⟩] scope pos) 0 it .none env).cUnits = 3 := by rfl
  have h1 : unitsOf (([] : List PySem.Frame).map Frame.where_) = 0 := rfl
  refine ⟨r.hd, ?_, ?_⟩
  · have := r.dp
    show A.depth + 0 + (Code.compStart (.GeneratorExp elt [⟨tg, iter, ifs, 0⟩] scope pos) 0 it .none env).weight + 3 * k + 5 < _
    rw [hw]; omega
  · have := r.un
    show A.units + 1 + 1 + unitsOf (([] : List PySem.Frame).map Frame.where_) + (Code.compStart (.GeneratorExp elt [⟨tg, iter, ifs, 0⟩] scope pos) 0 it .none env).cUnits + 16 * k + 200 < _
    rw [h1, hu]; omega
theorem over_frames {A : Around} {elt iter tg : Expr} {ifs : List Expr} {scope : Scope} {pos : Pos} {it : Value} {env : PySem.Env} {st : List PySem.Env} (h : A.frames = some st) :
    (A.in1.in1.over (.compStart (.GeneratorExp elt [⟨tg, iter, ifs, 0⟩] scope pos) 0 it .none env) []).frames = some (env :: st) := by
  unfold Around.over
  dsimp only [Around.in1]
  rw [h]
  rfl
end L3
end

section -- I13
set_option autoImplicit false
set_option linter.all false
set_option maxRecDepth 100000
set_option maxHeartbeats 2000000
namespace L3
open PySem PySem.Spec PyProof.Rows L2 GxR

/-- W by the turn and a measure; what a generator of tests is walked for -/
def geW (all : Bool) (J : L2.It) (g : TG) (tt : TT) (te : TE) (vs : List Nat) (σ : L2.St) (Q : VK) (W : Nat → Nat → Hp → Prop) : Prop := ∀ i m H, W i m H →
  (J.stop i H ∧ Q (.bl all) H) ∨ (J.go i H ∧ ∃ Nx : Hp → Prop, (∀ H', Nx H' → ∃ m', m' < m ∧ W (i + 1) m' H') ∧ ∀ x H', J.yld i H x H' → g x (L2.wipe σ vs) H' fun σ2 H2 => L2.wipe σ2 vs = L2.wipe σ vs ∧ tt σ2 H2 fun b H3 =>
    if b = true then te σ2 H3 fun y H4 => ∃ b, y = .bl b ∧ (b ≠ all → Q (.bl b) H4) ∧ (b = all → Nx H4) else Nx H3)
def tGe (P : Addr) (all : Bool) (wi : TI) (g : TG) (tt : TT) (te : TE) (vs : List Nat) : TE := fun σ H Q => wi σ H fun J H1 => TabG H1 P ∧ ∀ H2, Tabbed P H1 H2 → ∃ W : Nat → Nat → Hp → Prop, (∃ m, W 0 m H2) ∧ geW all J g tt te vs σ Q W

/-- the state of the running generator -/
def GR' (XG : Cx) (vs : List Nat) (σ : L2.St) (all : Bool) (Q : VK) : Nat → Shared → Shared → Prop := fun n s₀ s => ∃ H, Inv XG [] (L2.wipe σ vs) H s ∧ Q (.bl all) H
def GY' (XG : Cx) (σ : L2.St) (all : Bool) (Q : VK) : Protocol := fun n s₀ v s kap => ∃ b σ' H, v = Value.bool b ∧ Inv XG [] σ' H s ∧ (b ≠ all → Q (.bl b) H) ∧ (b = all → ∀ s'' : Shared, s''.heap = s.heap → s''.os = s.os → AllBare s''.gens → kap (.send .none) s'')
theorem inv_gens {X : Cx} {pins : List (Addr × Obj)} {σ : L2.St} {H : Hp} {s s' : Shared} (I : Inv X pins σ H s) (hh : s'.heap = s.heap) (ho : s'.os = s.os) (hb : AllBare s'.gens) : Inv X pins σ H s' := by
  refine I.call' (ch := []) ho ?_ (by rw [hh]; exact I.hok) hb fun b z => by simp at z
  rw [hh]; exact Un.refl

section
variable {X : Cx} {elt tg iter : Expr} {ifs : List Expr} {scope : Scope} {pos : Pos} {vs : List Nat} {σ : L2.St} {all : Bool} {Q : VK} {J : L2.It} {g : TG} {tt : TT} {te : TE} {W : Nat → Nat → Hp → Prop} {fp : List Addr} {it : Addr} {tn : Nat → Heap → Prop} {s4 : Shared} {H4 : Hp} {clo : List (Str × Addr)} {code : Value} {pn : List (Addr × Obj)} {A1 : Around}
theorem seg_ge (hco : scope.isCoroutine = false) (T : Turn X.prog X.w X.K tg J fp it tn) (hW : geW all J g tt te vs σ Q W)
    (pg : PG (gCx X (A1.over (.compStart (.GeneratorExp elt [⟨tg, iter, ifs, 0⟩] scope pos) 0 (.ref it) .none (genEnv scope clo s4.heap.objs.size code builtinsNs X.env)) []) s4 H4 scope clo s4.heap.objs.size code fp pn) tg g)
    (pt : PTs (gCx X (A1.over (.compStart (.GeneratorExp elt [⟨tg, iter, ifs, 0⟩] scope pos) 0 (.ref it) .none (genEnv scope clo s4.heap.objs.size code builtinsNs X.env)) []) s4 H4 scope clo s4.heap.objs.size code fp pn) ifs tt)
    (pe : PE (gCx X (A1.over (.compStart (.GeneratorExp elt [⟨tg, iter, ifs, 0⟩] scope pos) 0 (.ref it) .none (genEnv scope clo s4.heap.objs.size code builtinsNs X.env)) []) s4 H4 scope clo s4.heap.objs.size code fp pn) elt te)
    (hpn : ∀ p ∈ pn, ∀ b ∈ fp, p.1 ≠ b) :
    ∀ (m n i : Nat) (s₀ s : Shared) (H : Hp), m < n → Inv (gCx X (A1.over (.compStart (.GeneratorExp elt [⟨tg, iter, ifs, 0⟩] scope pos) 0 (.ref it) .none (genEnv scope clo s4.heap.objs.size code builtinsNs X.env)) []) s4 H4 scope clo s4.heap.objs.size code fp pn) [] (L2.wipe σ vs) H s → tn i s.heap → (∀ b ∈ fp, H b = none) → W i m H →
      Seg (model X.prog X.w) A1 (fun n s₀ r s₁ => r = .ok .next ∧ GR' (gCx X (A1.over (.compStart (.GeneratorExp elt [⟨tg, iter, ifs, 0⟩] scope pos) 0 (.ref it) .none (genEnv scope clo s4.heap.objs.size code builtinsNs X.env)) []) s4 H4 scope clo s4.heap.objs.size code fp pn) vs σ all Q n s₀ s₁)
        (GY' (gCx X (A1.over (.compStart (.GeneratorExp elt [⟨tg, iter, ifs, 0⟩] scope pos) 0 (.ref it) .none (genEnv scope clo s4.heap.objs.size code builtinsNs X.env)) []) s4 H4 scope clo s4.heap.objs.size code fp pn) σ all Q) n s₀
        (.compLoop (.GeneratorExp elt [⟨tg, iter, ifs, 0⟩] scope pos) 0 (.ref it) .none (genEnv scope clo s4.heap.objs.size code builtinsNs X.env))
        ((model X.prog X.w).den (.compLoop (.GeneratorExp elt [⟨tg, iter, ifs, 0⟩] scope pos) 0 (.ref it) .none (genEnv scope clo s4.heap.objs.size code builtinsNs X.env))) [] s := by
  generalize hce : genEnv scope clo s4.heap.objs.size code builtinsNs X.env = ce at *
  have hoc : A1.over (.compLoop (.GeneratorExp elt [⟨tg, iter, ifs, 0⟩] scope pos) 0 (.ref it) .none ce) [] = A1.over (.compStart (.GeneratorExp elt [⟨tg, iter, ifs, 0⟩] scope pos) 0 (.ref it) .none ce) [] := rfl
  have hY : ∀ v, yieldOut ce v = yieldValue v := fun v => by
    have : ce.scope.isCoroutine = false := by rw [← hce]; exact hco
    simp only [yieldOut, this, Bool.false_eq_true, if_false]
  generalize hA : A1.over (.compStart (.GeneratorExp elt [⟨tg, iter, ifs, 0⟩] scope pos) 0 (.ref it) .none ce) [] = A' at *
  have stat : ∀ {σ' : L2.St} {H' : Hp} {s' : Shared}, Inv (gCx X A' s4 H4 scope clo s4.heap.objs.size code fp pn) [] σ' H' s' → (∀ b ∈ fp, H' b = none) → ∀ b ∈ fp, FpOk (gCx X A' s4 H4 scope clo s4.heap.objs.size code fp pn) [] H' b := fun {σ' H' s'} I' hn b hb =>
    ⟨hn b hb, (I'.ok.exf b hb).1, I'.ok.exfs b hb, .inl hb, fun x c e => (I'.ok.exf b hb).2 x c e, fun p hp => hpn p (by simpa using hp) b hb⟩
  intro m
  induction m using Nat.strongRecOn with
  | ind m ih =>
    intro n i s₀ s H hmn I st hn w
    show Seg _ A1 _ _ _ s₀ _ ((compTurn (.GeneratorExp elt [⟨tg, iter, ifs, 0⟩] scope pos) 0 (.ref it) .none ce).onRaise (leaving ce)) [] s
    rw [compTurn_gen, Sem.onRaise_eq_wrap]
    refine seg_bind_wrap (wpAny_standAt ?_)
    rcases hW i m H w with ⟨stop, qq⟩ | ⟨go, Nx, hNx, step⟩
    · refine seg_bind_wrap ?_
      rw [hoc]
      refine thn (T.done (gCx X A' s4 H4 scope clo s4.heap.objs.size code fp pn) rfl rfl rfl rfl i [] s _ H _ I (stat I hn) st stop) fun r s6 ⟨hr, I6⟩ => ?_
      subst hr
      exact seg_end (.ok .next) ⟨rfl, H, I6, qq⟩
    · refine seg_bind_wrap ?_
      rw [hoc]
      refine thn (T.item (gCx X A' s4 H4 scope clo s4.heap.objs.size code fp pn) rfl rfl rfl rfl i [] s _ H _ I (stat I hn) st go) fun r s6 ⟨u, hr, h6⟩ => ?_
      subst hr
      refine seg_bind_wrap ?_
      rw [hoc]
      refine thn h6 fun _ s7 ⟨x, H7, I7, r7, y7, st7, n7⟩ => ?_
      have I7' := I7.pinned (stat I7 n7) (T.obj _ _ st7)
      refine seg_bind_wrap ?_
      rw [hoc]
      have q7 := pg.run _ s7 _ H7 x u _ I7' r7 (step x H7 y7)
      rw [← show (gCx X A' s4 H4 scope clo s4.heap.objs.size code fp pn).env = ce from hce]
      refine thnF q7 fun _ s8 ⟨σ8, H8, I8, hw8, q8⟩ => ?_
      refine seg_bind_wrap ?_
      rw [show (gCx X A' s4 H4 scope clo s4.heap.objs.size code fp pn).env = ce from hce, hoc]
      have q9 := pt.run _ s8 σ8 H8 _ I8 q8
      rw [← show (gCx X A' s4 H4 scope clo s4.heap.objs.size code fp pn).env = ce from hce]
      refine thnF q9 fun b s9 ⟨H9, I9, q9⟩ => ?_
      rw [show (gCx X A' s4 H4 scope clo s4.heap.objs.size code fp pn).env = ce from hce]
      -- the turn's end
      have fin : ∀ {s' : Shared} {H' : Hp} {n' : Nat} {s₀' : Shared}, m < n' + 1 → Inv (gCx X A' s4 H4 scope clo s4.heap.objs.size code fp pn) ([] ++ pinsAt fp s7.heap) σ8 H' s' → Nx H' → ∃ m', m' < m ∧ m' < n' ∧ Inv (gCx X A' s4 H4 scope clo s4.heap.objs.size code fp pn) [] (L2.wipe σ vs) H' s' ∧ tn (i + 1) s'.heap ∧ (∀ b ∈ fp, H' b = none) ∧ W (i + 1) m' H' := fun {s' H' n' s₀'} hle I' nx => by
        obtain ⟨m', hm, w'⟩ := hNx H' nx
        have pin' : ∀ b ∈ fp, ∀ o, s7.heap.get? b = some o → s'.heap.get? b = some o ∧ H' b = none := fun b hb o e =>
          let z := I'.pin (b, o) (List.mem_append_right _ (List.mem_append_right _ (mem_pinsAt hb e)))
          ⟨z.1, z.2.1⟩
        have hl : (L2.wipe σ vs).length = σ8.length := by rw [← hw8, wipe_length]
        refine ⟨m', hm, by omega, (I'.unpinned (pins := [])).weak hl (fun j v e => ?_), T.keep _ _ _ st7 fun b hb o e => (pin' b hb o e).1, fun b hb => ?_, w'⟩
        · rw [← hw8] at e
          exact (wipe_some e).1
        · obtain ⟨o, e, _⟩ := T.obj _ _ st7 b hb
          exact (pin' b hb o e).2
      cases b with
      | false =>
        simp only [Bool.false_eq_true, if_false] at q9 ⊢
        obtain ⟨m', h1, h2, h3, h4, h5, h6⟩ := fin (n' := n) (s₀' := s₀) (by omega) I9 q9
        exact seg_again rfl (ih m' h1 n (i + 1) s₀ s9 H9 h2 h3 h4 h5 h6)
      | true =>
        simp only [if_true] at q9 ⊢
        simp only [hY]
        obtain ⟨n, rfl⟩ : ∃ k, n = k + 1 := by
          exact ⟨n - 1, by omega⟩
        rw [Sem.bind_eq_wrap', Sem.bind_eq_wrap', Sem.wrap_wrap, Sem.wrap_wrap]
        refine seg_wrap ?_
        rw [hoc]
        have q10 := pe.run _ s9 σ8 H9 _ I9 q9
        rw [← show (gCx X A' s4 H4 scope clo s4.heap.objs.size code fp pn).env = ce from hce]
        refine thnF q10 fun z s10 ⟨yv, H10, I10, r10, b, hb, hne, heq⟩ => ?_
        rw [show (gCx X A' s4 H4 scope clo s4.heap.objs.size code fp pn).env = ce from hce]
        subst hb
        have r10 : z = Value.bool b := r10
        subst r10
        refine seg_at (seg_yield rfl rfl rfl ⟨b, σ8, H10, rfl, I10.pins_of fun p hp => I10.pin p (List.mem_append_left _ (by simpa using hp)), hne, fun e s'' hh ho hg => ?_⟩)
        obtain ⟨m', h1, h2, h3, h4, h5, h6⟩ := fin (n' := n) (s₀' := s₀) hmn (inv_gens I10 hh ho hg) (heq e)
        exact seg_again rfl (ih m' h1 n (i + 1) s'' s'' H10 h2 h3 h4 h5 h6)

theorem bare_set {s : Shared} {k : Nat} {gs : GenState} (h : AllBare s.gens) (hg : gs.bare = true) : AllBare (s.setGen k gs).gens := fun y hy => by
  have hy : y ∈ s.gens.setIfInBounds k gs := hy
  obtain ⟨i, hi, e⟩ := Array.mem_iff_getElem.mp hy
  have hi' : i < s.gens.size := by simpa using hi
  rw [Array.getElem_setIfInBounds hi'] at e
  split at e
  · rw [← e]; exact hg
  · rw [← e]; exact h _ (Array.getElem_mem _)
/-- the consumer's turns; the generator stands at a, its number k -/
theorem loop_ge {XG : Cx} {Q : VK} {A : Around} {a : Addr} {k : Nat} {R' : Result → Shared → Prop} (hd : A.handled = none) (hroom : A.depth < recursionLimit)
    (hgen : ∀ {σ' : L2.St} {H : Hp} {s : Shared}, Inv XG [] σ' H s → s.heap.IsGen a k) (hR : ∀ (b : Bool) (σ' : L2.St) (H : Hp) (s s'' : Shared), Inv XG [] σ' H s → Q (.bl b) H → s''.os = s.os → AllBare s''.gens → (∀ b o, s.heap.get? b = some o → s''.heap.get? b = some o) → R' (.ok (.ret (.bool b))) s'') :
    ∀ (n : Nat) (gs : GenState) (σ' : L2.St) (H : Hp) (s : Shared), Inv XG [] σ' H s → s.gens[k]? = some gs →
      (∀ s'' : Shared, s''.heap = s.heap → s''.os = s.os → AllBare s''.gens → gs.Goes (model X.prog X.w) A.in1.in1 (fun n s₀ r s₁ => r = .ok .next ∧ GR' XG vs σ all Q n s₀ s₁) (GY' XG σ all Q) n (.send .none) s'') →
      codeAny (model X.prog X.w) A (.builtin (if all = true then "all.loop" else "any.loop") ⟨[.ref a], []⟩) R' s := by
  intro n
  induction n using Nat.strongRecOn with
  | ind n ih =>
    intro gs σ' H s I hgs hgo
    have go := hgo (s.setGen k .running) rfl rfl (bare_set I.bare rfl)
    have next : ∀ {Q2 : Option Value → Shared → Prop} {E2 : Value → Shared → Prop},
        (∀ (b : Bool) (s2 : Shared), (b = all → ∃ (m : Nat) (gs' : GenState) (σ' : L2.St) (H : Hp), m < n ∧ Inv XG [] σ' H s2 ∧ s2.gens[k]? = some gs' ∧
          (∀ s'' : Shared, s''.heap = s2.heap → s''.os = s2.os → AllBare s''.gens → gs'.Goes (model X.prog X.w) A.in1.in1 (fun n s₀ r s₁ => r = .ok .next ∧ GR' XG vs σ all Q n s₀ s₁) (GY' XG σ all Q) m (.send .none) s'')) →
          (b ≠ all → R' (.ok (.ret (.bool b))) s2) → Q2 (some (.bool b)) s2) →
        (∀ s2 : Shared, R' (.ok (.ret (.bool all))) s2 → Q2 none s2) → wpAny (model X.prog X.w) A.in1 (pyNext (.ref a)) Q2 E2 s := by
      intro Q2 E2 h1 h2
      have hk0 : k + 1 ≤ s.gens.size := (Array.getElem?_eq_some_iff.mp hgs).1
      refine GenW.wpAny_gsz hk0 (wpAny_pyNext_genexpQ (A := A.in1) (P := GR' XG vs σ all Q) (Y := GY' XG σ all Q) hd I.nolimit hroom (hgen I) hgs go (fun v s₁ gs' hb hv hsz => ?_) (fun s₁ hp h' hk _ => ?_))
      · obtain ⟨b, σ1, H1, rfl, I1, hne, heq⟩ := hv
        have hg1 : (s₁.setGen k gs').gens[k]? = some gs' := by
          rw [GenW.setGen_size] at hsz
          show (s₁.gens.setIfInBounds k gs')[k]? = some gs'
          rw [Array.getElem?_setIfInBounds_self_of_lt hsz]
        refine h1 b _ (fun e => ?_) (fun e => hR b σ1 H1 s₁ _ I1 (hne e) rfl (bare_set I1.bare hb) fun _ _ q => q)
        cases n with
        | zero => exact (heq e s₁ rfl rfl I1.bare).elim
        | succ m => exact ⟨m, gs', σ1, H1, Nat.lt_succ_self m, inv_gens I1 rfl rfl (bare_set I1.bare hb), hg1, fun s'' q1 q2 q3 => heq e s'' q1 q2 q3⟩
      · obtain ⟨H1, I1, q⟩ := hp
        exact h2 _ (hR all _ H1 s₁ _ I1 q rfl (bare_set (gs := .finished) I1.bare rfl) hk)
    cases all with
    | true =>
      show codeAny _ A (.builtin "all.loop" ⟨[.ref a], []⟩) R' s
      refine codeAny_builtin F.entry_all_loop ?_
      rw [Around.under_plainId F.plain_all_loop _]
      show wpAny _ A.in1 (pyNext (.ref a) >>= _) _ _ s
      refine wpAny_bind (next (fun b s2 h1 h2 => ?_) fun s2 h => wpAny_bind (wpAny_rule (wpAny_pure h)))
      refine wpAny_bind (wpAny_holding (wpAny_truthy_bool (wpAny_bind (wpAny_letGo ?_))))
      cases b with
      | true =>
        obtain ⟨m, gs', σ1, H1, hm, I1, hg1, go1⟩ := h1 rfl
        exact wpAny_pure ⟨plainId_quiet F.plain_all_loop _, ih m hm gs' σ1 H1 s2 I1 hg1 go1⟩
      | false => exact wpAny_bind (wpAny_rule (wpAny_pure (h2 (by decide))))
    | false =>
      show codeAny _ A (.builtin "any.loop" ⟨[.ref a], []⟩) R' s
      refine codeAny_builtin F.entry_any_loop ?_
      rw [Around.under_plainId F.plain_any_loop _]
      show wpAny _ A.in1 (pyNext (.ref a) >>= _) _ _ s
      refine wpAny_bind (next (fun b s2 h1 h2 => ?_) fun s2 h => wpAny_bind (wpAny_rule (wpAny_pure h)))
      refine wpAny_bind (wpAny_holding (wpAny_truthy_bool (wpAny_bind (wpAny_letGo ?_))))
      cases b with
      | false =>
        obtain ⟨m, gs', σ1, H1, hm, I1, hg1, go1⟩ := h1 rfl
        exact wpAny_pure ⟨plainId_quiet F.plain_any_loop _, ih m hm gs' σ1 H1 s2 I1 hg1 go1⟩
      | true => exact wpAny_bind (wpAny_rule (wpAny_pure (h2 (by decide))))
end
end L3
end

section -- I14
set_option autoImplicit false
set_option linter.all false
set_option maxRecDepth 100000
set_option maxHeartbeats 2000000
namespace L3
open PySem PySem.Spec PyProof.Rows L2 GxR

section
variable {X : Cx} {elt tg iter : Expr} {ifs : List Expr} {scope : Scope} {own : List (Str × Nat)} {p pos gpos : Pos} {wi : TI} {g : TG} {tt : TT} {te : TE} {c P : Addr} {k : Nat}
/-- what the parts do in the generator's frame -/
structure GenParts (X : Cx) (k : Nat) (scope : Scope) (tg elt : Expr) (ifs : List Expr) (g : TG) (tt : TT) (te : TE) : Prop where
  tg : ∀ (A' : Around) (s : Shared) (H : Hp) (C : Addr) (clo : List (Str × Addr)) (code : Value) (fp : List Addr) (pn : List (Addr × Obj)), Room k A' → PG (gCx X A' s H scope clo C code fp pn) tg g
  ifs : ∀ (A' : Around) (s : Shared) (H : Hp) (C : Addr) (clo : List (Str × Addr)) (code : Value) (fp : List Addr) (pn : List (Addr × Obj)), Room k A' → PTs (gCx X A' s H scope clo C code fp pn) ifs tt
  elt : ∀ (A' : Around) (s : Shared) (H : Hp) (C : Addr) (clo : List (Str × Addr)) (code : Value) (fp : List Addr) (pn : List (Addr × Obj)), Room k A' → PE (gCx X A' s H scope clo C code fp pn) elt te
theorem pe_ge (all : Bool) (hr : Room (k + 1) X.A) (hN : X.N.Nodup) (hg : Gl X (if all then "all" else "any")) (hm : X.mg (if all then "all" else "any") = none) (TB : TabB X.base X.mg c P) (hcode : X.env.code = .ref c)
    (ok : BlkOk X.N X.env.scope scope own) (hco : scope.isCoroutine = false) (hcell : ∀ y ∈ scope.names, y.2 ≠ .cell) (hdot : scope.names.lookup (".0" : Str) = some NameKind.local)
    (hi : PI X tg iter wi) (gp : GenParts X k scope tg elt ifs g tt te) (hs : ∀ v, genFold iter X.env v = pure v)
    (he : starEach [.GeneratorExp elt [⟨tg, iter, ifs, 0⟩] scope gpos] X.env = (false, eval (.GeneratorExp elt [⟨tg, iter, ifs, 0⟩] scope gpos) X.env) :: starEach [] X.env) :
    PE X (.Call (.Name (if all then "all" else "any") p) [.GeneratorExp elt [⟨tg, iter, ifs, 0⟩] scope gpos] [] pos) (tGe P all wi g tt te (own.map (·.2))) := by
  refine ⟨fun pins s σ H Q I h => ?_⟩
  have hfree : ∀ y ∈ scope.names, y.2 = .free → ∃ c, X.env.cells.lookup y.1 = some c := fun y hy e => by
    rcases ok.free y hy e with k | k
    · exact I.ok.has _ (.inl k)
    · exact I.ok.has _ (.inr k)
  -- the generator's object, ready
  have mk : ∀ {Q2 : Value → Shared → Prop}, (∀ (a : Addr) (s5 : Shared), s5.heap.NoLimit → (∃ gk, s5.heap.IsGen a gk) → 
      codeAny (model X.prog X.w) X.A (.builtin (if all = true then "all.loop" else "any.loop") ⟨[.ref a], []⟩) (fun r s' => match r with | .ok (.ret v) => EP X pins σ Q v s' | .ok _ => False | .error e => X.xe e s') s5 → Q2 (.ref a) s5) →
      wpAny (model X.prog X.w) X.A (eval (.GeneratorExp elt [⟨tg, iter, ifs, 0⟩] scope gpos) X.env) Q2 X.xe s := by
    intro Q2 hQ2
    refine wpAny_GeneratorExp_make hco (closure_ok hfree) hcell hdot ok.kind hr.depth ?_ hs
    refine thn (hi.run pins s σ H _ I h) fun xv s1 hx => thn hx fun itv s2 h2 => ?_
    obtain ⟨it, fp, tn, J, H2, e, I2, T, st2, f2, ⟨ps, hP, ht⟩, q⟩ := h2
    subst e
    refine ⟨I2.nolimit, ?_⟩
    have hPs : s2.heap.get? P = some { cls := .none, data := .fields ps } := I2.hok P _ hP
    have cd : PySem.W.CodeHd s2.heap c P := TB.code.keeps fun b u e => I2.bk b u e
    have nP : ∀ b ∈ fp, b ≠ P := fun b hb z => by
      have := (f2 b hb).1
      rw [z, hP] at this; cases this
    obtain ⟨bm, ob, b1, b2, b3, b4, b5, b6, b7, b8⟩ := TB.bm
    -- from the state in which the frame is made
    have cont : ∀ (code : Value) (s4 : Shared) (H4 : Hp), Inv X pins σ H4 s4 → Tabbed P H2 H4 → tn 0 s4.heap → (∀ b ∈ fp, FpOk X pins H4 b ∧ b < s4.heap.objs.size) →
        wpAny (model X.prog X.w) X.A (builtinsFor X.env.globals X.env.builtins) (fun bi s₄ =>
          ∀ h', h'.Ns s₄.heap.objs.size (fun y => if y = ".0" then some (.ref it) else none) → Heap.SameBut s₄.heap.objs.size (s₄.heap.push { cls := .type "frame", data := .dict #[] }) h' →
          Q2 (.ref h'.objs.size) { s₄ with
            gens := s₄.gens.push (.fresh (.compStart (.GeneratorExp elt [⟨tg, iter, ifs, 0⟩] scope gpos) 0 (.ref it) .none (genEnv scope (cloFrom X.env.cells scope.names []) s₄.heap.objs.size code bi X.env))),
            toks := s₄.toks + 1 + 1 + 1,
            heap := h'.push { cls := .type "generator", data := .fields #[.int s₄.gens.size 0, .str "<genexpr>" (s₄.toks + 1), .str (X.env.qual ++ "<genexpr>") (s₄.toks + 1 + 1)] } }) X.xe s4 := by
      intro code s4 H4 I4 hT st4 f4
      refine wpAny_builtinsFor (m := X.mg) (by rw [I4.ok.glob]; exact (I4.mod.glob.keeps I4.bk)) b1 b2 (I4.bk _ _ b5) b6 b7 b8 ?_
      intro h' hn' hs'
      have hsz : h'.objs.size = s4.heap.objs.size + 1 := by rw [hs'.1, Heap.size_push]
      have keep' : ∀ b o, s4.heap.get? b = some o → h'.get? b = some o := fun b o e => hs'.extBut b o (Nat.ne_of_lt (Heap.lt_size e)) (Heap.get?_push_of_some _ e)
      obtain ⟨W, ⟨m0, w0⟩, hW⟩ := q H4 hT
      generalize hgo : ({ cls := .type "generator", data := .fields #[.int s4.gens.size 0, .str "<genexpr>" (s4.toks + 1), .str (X.env.qual ++ "<genexpr>") (s4.toks + 1 + 1)] } : Obj) = go
      have keep5 : ∀ b o, s4.heap.get? b = some o → (h'.push go).get? b = some o := fun b o e => Heap.get?_push_of_some _ (keep' b o e)
      have hgoat : (h'.push go).get? h'.objs.size = some go := Heap.get?_push_size _ (by rw [← hgo]; rfl)
      generalize hA' : X.A.in1.in1.over (.compStart (.GeneratorExp elt [⟨tg, iter, ifs, 0⟩] scope gpos) 0 (.ref it) .none (genEnv scope (cloFrom X.env.cells scope.names []) s4.heap.objs.size code builtinsNs X.env)) [] = A'
      have rA : Room k A' := by rw [← hA']; exact over_room hr
      have fA : A'.frames = some (genEnv scope (cloFrom X.env.cells scope.names []) s4.heap.objs.size code builtinsNs X.env :: X.stack) := by rw [← hA']; exact over_frames I4.ok.frames
      have I5 := gen_start (A' := A') (code := code) (a := h'.objs.size) (go := go) (s' := { s4 with
            gens := s4.gens.push (.fresh (.compStart (.GeneratorExp elt [⟨tg, iter, ifs, 0⟩] scope gpos) 0 (.ref it) .none (genEnv scope (cloFrom X.env.cells scope.names []) s4.heap.objs.size code builtinsNs X.env))),
            toks := s4.toks + 1 + 1 + 1, heap := h'.push go }) I4 ok hN hcell f4 rA.hd fA keep5 rfl (I4.bare.push rfl) (hn'.push _) (by omega) hgoat (fun v z => by rw [← hgo] at z; cases z)
      have st5 : tn 0 (h'.push go) := T.keep _ _ _ st4 fun b _ o e => keep5 b o e
      have n5 : ∀ b ∈ fp, H4 b = none := fun b hb => (f4 b hb).1.1
      have gen5 : ∀ {σ' : L2.St} {H' : Hp} {s' : Shared}, Inv (gCx X A' s4 H4 scope (cloFrom X.env.cells scope.names []) s4.heap.objs.size code fp [(h'.objs.size, go)]) [] σ' H' s' → s'.heap.IsGen h'.objs.size s4.gens.size := fun {σ' H' s'} J => by
        have z := (J.pin (h'.objs.size, go) (by simp)).1
        exact ⟨go, _, _, z, by rw [← hgo], by rw [← hgo], by rw [← hgo]⟩
      refine hQ2 _ _ I5.nolimit ⟨_, gen5 I5⟩ ?_
      have seg := fun n s₀ s (hs5 : s.heap = h'.push go) (ho : s.os = s4.os) (hb : AllBare s.gens) (hmn : m0 < n) => seg_ge (all := all) (Q := Q) (vs := own.map (·.2)) (σ := σ) (s4 := s4) (H4 := H4) (clo := cloFrom X.env.cells scope.names []) (code := code) (pos := gpos) (pn := [(h'.objs.size, go)]) (A1 := X.A.in1.in1) hco T hW
        (by rw [hA']; exact gp.tg _ _ _ _ _ _ _ _ rA) (by rw [hA']; exact gp.ifs _ _ _ _ _ _ _ _ rA) (by rw [hA']; exact gp.elt _ _ _ _ _ _ _ _ rA)
        (fun p hp b hb => by
          have e : p = (h'.objs.size, go) := by simpa using hp
          subst e
          have := (f4 b hb).2
          exact Nat.ne_of_gt (by show b < h'.objs.size; rw [hsz]; exact Nat.lt_succ_of_lt this)) m0 n 0 s₀ s H4 hmn (by rw [hA']; exact inv_gens I5 hs5 ho hb) (by rw [hs5]; exact st5) n5 w0
      refine loop_ge (X := X) (XG := gCx X A' s4 H4 scope (cloFrom X.env.cells scope.names []) s4.heap.objs.size code fp [(h'.objs.size, go)]) (vs := own.map (·.2)) (σ := σ) (all := all) (Q := Q) (k := s4.gens.size) hr.hd hr.depth gen5 ?_ (m0 + 1) _ _ H4 _ I5 (Array.getElem?_push_size ..) ?_
      · intro b σ' H' s6 s7 J q7 ho hb kp
        have J7 : Inv (gCx X A' s4 H4 scope (cloFrom X.env.cells scope.names []) s4.heap.objs.size code fp [(h'.objs.size, go)]) [] σ' H' s7 := J.call' (ch := []) ho (Un.kept kp) (J.hok.kept kp) hb fun b z => by simp at z
        refine ⟨.bl b, H', ?_, rfl, q7⟩
        exact I4.call' (ch := fp) J7.os J7.base J7.hok J7.bare fun b hb => ⟨(f4 b hb).1.2.2.2.1, (f4 b hb).1.2.1, (f4 b hb).1.2.2.2.2.1, (f4 b hb).1.2.2.2.2.2⟩
      · intro s'' hh ho hb
        refine ⟨rfl, ?_⟩
        have loop := seg (m0 + 1) s'' s'' hh ho hb (Nat.lt_succ_self _)
        rw [hA'] at loop
        show Seg _ X.A.in1.in1 _ _ _ s'' _ ((compStart (.GeneratorExp elt [⟨tg, iter, ifs, 0⟩] scope gpos) 0 (.ref it) .none (genEnv scope (cloFrom X.env.cells scope.names []) s4.heap.objs.size code builtinsNs X.env)).onRaise (leaving (genEnv scope (cloFrom X.env.cells scope.names []) s4.heap.objs.size code builtinsNs X.env))) [] s''
        unfold compStart
        rw [Sem.onRaise_eq_wrap]
        show Seg _ X.A.in1.in1 _ _ _ s'' _ ((ask >>= _).wrap _ _ _ _) [] s''
        refine seg_bind_wrap (wpAny_askSetting ?_)
        have st6 : tn 0 s''.heap := by rw [hh]; exact st5
        split
        · exact seg_again rfl loop
        · first
            | exact seg_bind_wrap (wpAny_rule (seg_bind_wrap (wpAny_standAt (seg_bind_wrap (T.self _ 0 s'' _ _ st6 (seg_again rfl loop))))))
            | (refine seg_bind_wrap (wpAny_rule ?_); show Seg _ X.A.in1.in1 _ _ _ s'' _ ((standAt iter.pos >>= _).wrap _ _ _ _) [] s''; exact seg_bind_wrap (wpAny_standAt (seg_bind_wrap (T.self _ 0 s'' _ _ st6 (seg_again rfl loop)))))
    have sz2 : ∀ b ∈ fp, b < s2.heap.objs.size := fun b hb => by
      obtain ⟨o, e, _⟩ := T.obj _ _ st2 b hb
      exact Heap.lt_size e
    cases hf : codeAmong gpos ps.toList with
    | none =>
      refine wpAny_genexprCodeX hcode (cd.code hPs ht) (cd.tab hPs) hf fun c' h' tk hx hge hlt hco' _ htab' _ => ?_
      obtain ⟨o1, vs, f1, tf, fl, tg', inF, tx, tt', op, _, _, _, _, _, _, _, _, _, htr, _⟩ := hco'
      have J := inv_tab (more := #[rawInt gpos.line, rawInt gpos.col, .ref c']) (h' := h') (g' := s2.gens) (d' := s2.drawn) (t' := tk) I2 hP (fun b u hb e => hx b u hb e) htab'.2 I2.bare
      refine cont (.ref c') { s2 with heap := h', toks := tk } _ J ⟨⟨_, upd_same, htr⟩, fun b hb => upd_ne hb⟩ (T.keep _ _ _ st2 fun b hb o e => hx b o (nP b hb) e) fun b hb => ⟨⟨by rw [upd_ne (nP b hb)]; exact (f2 b hb).1, (f2 b hb).2⟩, ?_⟩
      exact Nat.lt_of_lt_of_le (sz2 b hb) (Nat.le_trans hge (Nat.le_of_lt hlt))
    | some cv =>
      refine wpAny_genexprCode_hit hcode (cd.code hPs ht) hf ?_
      exact cont cv s2 H2 I2 ⟨⟨ps, hP, ht⟩, fun _ _ => rfl⟩ st2 fun b hb => ⟨f2 b hb, sz2 b hb⟩
  have fin : ∀ {a : Addr} {s5 : Shared}, s5.heap.NoLimit → (∃ gk, s5.heap.IsGen a gk) → codeAny (model X.prog X.w) X.A (.builtin (if all = true then "all.loop" else "any.loop") ⟨[.ref a], []⟩) (fun r s' => match r with | .ok (.ret v) => EP X pins σ Q v s' | .ok _ => False | .error e => X.xe e s') s5 →
      wpAny (model X.prog X.w) X.A (call (.builtin (if all then "all" else "any")) [.ref a]) (EP X pins σ Q) X.xe s5 := by
    intro a s5 hl ⟨gk, hgen⟩ hcd
    cases all with
    | true =>
      refine call_function_tree F.kind_all F.plain_all F.entry_all (F.args_all1 _) ?_
      unfold Builtin.«all»
      refine wpAny_bind (m := oneArg "all" _) (wpAny_pure ?_)
      exact wpAny_bind (wpAny_pyIter_gen hgen (wpAny_pure ⟨plainId_quiet F.plain_all_loop _, hcd⟩))
    | false =>
      refine call_function_tree F.kind_any F.plain_any F.entry_any (F.args_any1 _) ?_
      unfold Builtin.«any»
      refine wpAny_bind (m := oneArg "any" _) (wpAny_pure ?_)
      exact wpAny_bind (wpAny_pyIter_gen hgen (wpAny_pure ⟨plainId_quiet F.plain_any_loop _, hcd⟩))
  cases all with
  | true =>
    refine wpAny_Call_Name_kw (ld_blt (x := "all") (u := .builtin "all") I hg hm (by decide +kernel) ?_)
    refine PyProof.Rows.callWith_builtin1 ?_ he (by rfl)
    rw [he]
    show wpAny _ _ (spliced ((false, eval (.GeneratorExp elt [⟨tg, iter, ifs, 0⟩] scope gpos) X.env) :: backTo pos (starEach [] X.env))) _ _ s
    exact Calls.spliced_cons (mk fun a s5 hl hgen hcd => Calls.spliced_nil (fin hl hgen hcd))
  | false =>
    refine wpAny_Call_Name_kw (ld_blt (x := "any") (u := .builtin "any") I hg hm (by decide +kernel) ?_)
    refine PyProof.Rows.callWith_builtin1 ?_ he (by rfl)
    rw [he]
    show wpAny _ _ (spliced ((false, eval (.GeneratorExp elt [⟨tg, iter, ifs, 0⟩] scope gpos) X.env) :: backTo pos (starEach [] X.env))) _ _ s
    exact Calls.spliced_cons (mk fun a s5 hl hgen hcd => Calls.spliced_nil (fin hl hgen hcd))
end
end L3
end

section -- I15
set_option autoImplicit false
set_option linter.all false
set_option maxRecDepth 100000
set_option maxHeartbeats 1000000
namespace L3
open PySem PySem.Spec PyProof.Rows L2 GxR

section
variable {K : Fr} {Ps : List Addr} {ρ ρ' : Rh} {H H' : Hp} {s : S} {P : Addr}
theorem Ext.tab (hP : TabG H P) (h : Tabbed P H H') : Ext K ρ H s ρ H' s := by
  obtain ⟨ps, hp, _⟩ := hP
  obtain ⟨⟨ps', hp', _⟩, hk⟩ := h
  refine ⟨rfl, rfl, Nat.le_refl _, fun _ _ => rfl, fun a o q _ nt => ?_, fun i h1 h2 => absurd h2 (by omega), fun a q => ?_, fun l q => ⟨l, q, Nat.le_refl _⟩, fun i o o' h1 h2 => .inl (by rw [h1] at h2; cases h2; rfl)⟩
  · by_cases e : a = P
    · rw [e, hp] at q; cases q; exact nt.elim
    · rw [hk a e]; exact q
  · by_cases e : a = P
    · rw [e, hp']; simp
    · rw [hk a e]; exact q
theorem Good.tab (g : Good K Ps ρ none H s) (hP : TabG H P) (h : Tabbed P H H') : Good K Ps ρ none H' s := by
  refine g.over (Ext.tab hP h) (fun i hi => ?_) fun P' hP' => ?_
  · obtain ⟨us, q⟩ := g.lst hi
    refine h.2 _ fun e => ?_
    obtain ⟨ps, hp, _⟩ := hP
    rw [e, hp] at q; cases q
  · by_cases e : P' = P
    · rw [e]; exact h.1
    · rw [h.2 _ e]; exact g.tb P' hP'
end
section
variable {t : Tg} {fi : Env → S → R L3.It} {ft : Env → S → R Bool} {fe : Env → S → R D} {cl : XC} {W : WX} {Ps : List Addr}
/-- what a turn does -/
def geF (t : Tg) (vs : List Nat) (ft : Env → S → R Bool) (fe : Env → S → R D) (e : Env) : D → S → R (Option Bool) := fun x s => match asg t x (wipe e vs) with
  | none => .bad
  | some e1 => ((ft e1 s).bind fun b s => if b then (fe e1 s).bind fun d s => (R.opt d.bool s).bind fun b s => .ok (some b) s else .ok none s).nox
theorem ge_read {K : Fr} {P : Addr} {all : Bool} {vs : List Nat} {σ : L2.St} {H : Hp} {Q : VK} (hP : P ∈ Ps) (hown : ∀ i ∈ t.names, i ∈ vs) (h : TX K Ps cl W (fun e s => (fi e s).bind fun it s => geI all (geF t vs ft fe e) it s) σ H Q) :
    tGe P all (TXI K Ps cl W fi) (TXG K t) (TXB K Ps cl WF ft) (TX K Ps cl WF fe) vs σ H Q := by
  obtain ⟨ρ, e, s, g, er, p⟩ := h
  refine ⟨ρ, e, s, g, er, Post.bindG (r := fi e s) p fun it s1 ρ1 H1 e1 p J g1 w => ⟨g1.tb P hP, fun H2 hT => ?_⟩⟩
  have x2 : Ext K ρ1 H1 s1 ρ1 H2 s1 := Ext.tab (g1.tb P hP) hT
  have g2 : Good K Ps ρ1 none H2 s1 := g1.tab (g1.tb P hP) hT
  have w2 := w.ext g1 x2
  have er2 := ((er.ext g e1).ext g1 x2).wipe vs
  replace p := Post.shift x2 p
  rw [geI_eq] at p
  generalize fuelI it s1 = m0 at p
  refine ⟨fun i m H' => ∃ ρ' s', Good K Ps ρ' none H' s' ∧ Walk K ρ' H' s' it J ∧ EnvRel K ρ' s'.n H' (L2.wipe σ vs) (L3.wipe e vs) ∧ Post K Ps ρ' H' s' (geG all (geF t vs ft fe e) it m i s') Q fun c H' => W (cl c) none σ H', ⟨m0, ρ1, s1, g2, w2, er2, p⟩, ?_⟩
  rintro i m H3 ⟨ρ3, s3, g3, w3, er3, p3⟩
  cases m with
  | zero => exact p3.elim
  | succ m =>
    unfold geG at p3
    cases hx : nextI it i s3 with
    | none => rw [hx] at p3; exact p3.elim
    | some ox =>
      cases ox with
      | none =>
        rw [hx] at p3
        exact .inl ⟨w3.stop g3 hx, p3.val g3 (by simp) (.bl _)⟩
      | some x =>
        rw [hx] at p3
        dsimp only at p3
        obtain ⟨go, yl⟩ := w3.go g3 hx
        refine .inr ⟨go, fun H' => ∃ ρ' s', Good K Ps ρ' none H' s' ∧ Walk K ρ' H' s' it J ∧ EnvRel K ρ' s'.n H' (L2.wipe σ vs) (L3.wipe e vs) ∧ Post K Ps ρ' H' s' (geG all (geF t vs ft fe e) it m (i + 1) s') Q fun c H' => W (cl c) none σ H',
          fun H' q => ⟨m, Nat.lt_succ_self m, q⟩, fun u H4 hy => ?_⟩
        obtain ⟨x4, g4, r4, _⟩ := yl u H4 hy
        have p4 := Post.shift x4 p3
        have er4 := er3.ext g3 x4
        have w4 := w3.ext g3 x4
        unfold geF at p4
        cases ha : asg t x (wipe e vs) with
        | none => rw [ha] at p4; exact p4.elim
        | some ea =>
          rw [ha] at p4
          dsimp only at p4
          refine ⟨ρ3, s3.n, x, _, ea, by rw [r4.frzE]; exact r4, er4, ha, fun σ5 l5 o5 er5 => ⟨(wipe_same l5 o5 hown).trans (wipe_same (t := vs) (wipe_length _ _) (fun i hi => wipe_out hi) fun _ h => h), ?_⟩⟩
          refine ⟨ρ3, ea, s3, g4, er5, ?_⟩
          cases hf : ft ea s3 with
          | bad => rw [hf] at p4; exact p4.elim
          | exc c s4 => rw [hf] at p4; exact p4.elim
          | ok b s4 =>
            rw [hf] at p4
            intro ρ6 H6 x6 g6
            have p6 := Post.shift x6 p4
            cases b with
            | false =>
              simp only [R.bind_ok, Bool.false_eq_true, if_false, R.nox_ok] at p6 ⊢
              exact ⟨ρ6, s4, g6, w4.ext g4 x6, er4.ext g4 x6, p6⟩
            | true =>
              simp only [R.bind_ok, if_true] at p6 ⊢
              refine ⟨ρ6, ea, s4, g6, er5.ext g4 x6, ?_⟩
              cases hf7 : fe ea s4 with
              | bad => rw [hf7] at p6; exact p6.elim
              | exc c s5 => rw [hf7] at p6; exact p6.elim
              | ok d s5 =>
                rw [hf7] at p6
                simp only [R.bind_ok] at p6
                intro ρ7 H7 v7 x7 o7
                have p7 := Post.shift x7 p6
                cases hb : d.bool with
                | none => rw [hb] at p7; exact p7.elim
                | some b =>
                  rw [hb] at p7
                  simp only [R.opt_some, R.bind_ok, R.nox_ok] at p7
                  obtain ⟨rfl, g7⟩ := boolE o7 hb
                  refine ⟨b, rfl, fun hne => ?_, fun he => ?_⟩
                  · have hbe : (b == all) = false := by cases b <;> cases all <;> simp_all
                    simp only [hbe, Bool.false_eq_true, if_false] at p7
                    have hba : (!all) = b := by cases b <;> cases all <;> simp_all
                    rw [hba] at p7
                    exact p7.val g7 (by simp) (.bl _)
                  · have hbe : (b == all) = true := by simp [he]
                    simp only [hbe, if_true] at p7
                    exact ⟨ρ7, s5, g7, (w4.ext g4 x6).ext g6 x7, (er4.ext g4 x6).ext g6 x7, p7⟩
end
section
variable {X : Cx} {Ps : List Addr} {cl : XC} {W : WX} {elt tg iter : Expr} {ifs : List Expr} {scope : Scope} {own : List (Str × Nat)} {p pos gpos : Pos} {t : Tg} {fi : Env → S → R L3.It} {ft : Env → S → R Bool} {fe : Env → S → R D} {c P : Addr} {k : Nat}
theorem e_gen (all : Bool) (hr : Room (k + 1) X.A) (hN : X.N.Nodup) (hg : Gl X (if all then "all" else "any")) (hm : X.mg (if all then "all" else "any") = none) (TB : TabB X.base X.mg c P) (hcode : X.env.code = .ref c) (hP : P ∈ Ps)
    (ok : BlkOk X.N X.env.scope scope own) (hown : ∀ i ∈ t.names, i ∈ own.map (·.2)) (hco : scope.isCoroutine = false) (hcell : ∀ y ∈ scope.names, y.2 ≠ .cell) (hdot : scope.names.lookup (".0" : Str) = some NameKind.local)
    (hi : I1 X Ps cl W tg iter fi) (gp : GenParts X k scope tg elt ifs (TXG X.K t) (TXB X.K Ps cl WF ft) (TX X.K Ps cl WF fe)) (hs : ∀ v, genFold iter X.env v = pure v)
    (he : starEach [.GeneratorExp elt [⟨tg, iter, ifs, 0⟩] scope gpos] X.env = (false, eval (.GeneratorExp elt [⟨tg, iter, ifs, 0⟩] scope gpos) X.env) :: starEach [] X.env) :
    E1 X Ps cl W (.Call (.Name (if all then "all" else "any") p) [.GeneratorExp elt [⟨tg, iter, ifs, 0⟩] scope gpos] [] pos) fun e s => (fi e s).bind fun it s => geI all (geF t (own.map (·.2)) ft fe e) it s :=
  PE.imp (pe_ge all hr hN hg hm TB hcode ok hco hcell hdot hi gp hs he) fun σ H Q h => ge_read hP hown h
end

/-- at a stands a dict of the module: these keys, these values -/
def KdK (K : Fr) (w : World) (a : Addr) (kvs : List (List Nat × D)) : Prop := ∃ es n, KDict K w a es n ∧ ∀ z : List Nat, ∃ r, PySem.W.nsIn K a (toS z) = some r ∧ match kvs.lookup z with
  | none => r = none
  | some d => ∃ u v, r = some u ∧ RelV v u ∧ (∀ xs, d ≠ .lv true xs) ∧ ∀ ρ n H, Rel K ρ n none H d v
def KdAt (X : Cx) (a : Addr) (kvs : List (List Nat × D)) : Prop := KdK X.K X.w a kvs
section
variable {X : Cx} {Ps : List Addr} {cl : XC} {W : WX} {a : Expr} {fa : Env → S → R D} {pos p : Pos} {x : Str} {A : Addr} {kvs : List (List Nat × D)}
theorem e_gin (neg : Bool) (hg : Gl X x) (hm : X.mg x = some (.ref A)) (hd : (x == ("__debug__" : Str)) = false) (k : KdAt X A kvs) (ha : E1 X Ps cl W a fa) :
    E1 X Ps cl W (.Compare a [if neg then .NotIn else .In] [.Name x p] pos) fun e s => (fa e s).bind fun x s => R.opt ((strOf x).map fun z => .bl (if neg then !(kvs.lookup z).isSome else (kvs.lookup z).isSome)) s := by
  obtain ⟨es, n, D, hk⟩ := k
  have key : ∀ z, ∃ r, PySem.W.nsIn X.K A (toS z) = some r ∧ r.isSome = (kvs.lookup z).isSome := fun z => by
    obtain ⟨r, h1, h2⟩ := hk z
    refine ⟨r, h1, ?_⟩
    cases q : kvs.lookup z with
    | none => rw [q] at h2; rw [h2]; rfl
    | some d => rw [q] at h2; obtain ⟨u, v, rfl, _⟩ := h2; rfl
  cases neg with
  | true =>
    refine PE.imp (pe_cmpR (op_notIn_kd D) ha (pe_glob (v := .ref A) hg hm rfl hd) rfl) fun σ H Q ⟨ρ, e, s, g, er, p⟩ => ⟨ρ, e, s, g, er, p.bind fun d1 s1 ρ1 H1 v1 e1 o1 p => ?_⟩
    obtain ⟨d, h, p⟩ := p.opt
    simp only [Option.map_eq_some_iff] at h
    obtain ⟨z, h, rfl⟩ := h
    obtain ⟨rfl, g1⟩ := strE' o1 h
    obtain ⟨r, h1, h2⟩ := key z
    exact ⟨_, r, rfl, rfl, h1, by rw [h2]; exact p.val g1 (by simp) (.bl _)⟩
  | false =>
    refine PE.imp (pe_cmpR (op_in_kd D) ha (pe_glob (v := .ref A) hg hm rfl hd) rfl) fun σ H Q ⟨ρ, e, s, g, er, p⟩ => ⟨ρ, e, s, g, er, p.bind fun d1 s1 ρ1 H1 v1 e1 o1 p => ?_⟩
    obtain ⟨d, h, p⟩ := p.opt
    simp only [Option.map_eq_some_iff] at h
    obtain ⟨z, h, rfl⟩ := h
    obtain ⟨rfl, g1⟩ := strE' o1 h
    obtain ⟨r, h1, h2⟩ := key z
    exact ⟨_, r, rfl, rfl, h1, by rw [h2]; exact p.val g1 (by simp) (.bl _)⟩
theorem e_gix (hg : Gl X x) (hm : X.mg x = some (.ref A)) (hd : (x == ("__debug__" : Str)) = false) (k : KdAt X A kvs) (ha : E1 X Ps cl W a fa) (hs : PlainIx a) :
    E1 X Ps cl W (.Subscript (.Name x p) a pos) fun e s => (fa e s).bind fun x s => R.opt ((strOf x).bind fun z => kvs.lookup z) s := by
  obtain ⟨es, n, D, hk⟩ := k
  refine PE.imp (pe_ix ix_kdict (pe_glob (v := .ref A) hg hm rfl hd) ha hs) fun σ H Q ⟨ρ, e, s, g, er, p⟩ => ⟨ρ, e, s, g, er, p.bind fun d1 s1 ρ1 H1 v1 e1 o1 p => ?_⟩
  obtain ⟨d, h, p⟩ := p.opt
  rw [Option.bind_eq_some_iff] at h
  obtain ⟨z, h, h'⟩ := h
  obtain ⟨rfl, g1⟩ := strE' o1 h
  obtain ⟨r, h1, h2⟩ := hk z
  rw [h'] at h2
  obtain ⟨u, v, rfl, h3, h4, h5⟩ := h2
  exact ⟨A, _, v, rfl, rfl, ⟨es, n, u, D.at_, D.lit, h1, h3⟩, p.val g1 h4 (h5 _ _ _)⟩
end

section
open PySem PySem.Spec PyProof.Rows RT
variable {prog : Program} {w : World} {A : Around} {E : Value → Shared → Prop} {s : Shared}
theorem list_init_rev {R : Result → Shared → Prop} (hh : A.handled = none) {it l : Addr} {items : Array Value} (hit : s.heap.IsRevIter it l ((items.size : Int) - 1)) (hl : s.heap.IsList l items) (hne : l ≠ it) (hn : items.size ≤ sizeLine) (S : Addr) (hSi : S ≠ it) (hSl : S ≠ l) (hS : s.heap.get? S = some { cls := .type "list", data := .seq #[] })
    (hR : ∀ h' tk acc' c', (∀ b o, b ≠ S → b ≠ it → s.heap.get? b = some o → h'.get? b = some o) → h'.get? S = some { cls := .type "list", dict := none, data := .seq acc' c', slots := #[] } →
      ItemsOf (fun i v => items[items.size - 1 - i]? = some v) acc' items.size → R (.ok (.ret .none)) { s with heap := h', toks := tk }) :
    wpAny (model prog w) A.in1 (Builtin.«list.__init__» ⟨[.ref S, .ref it], []⟩)
      (fun fin s' => match fin with | .done f => R (.ok f) s' | .again c' => c'.quiet = true ∧ codeAny (model prog w) A c' R s') (fun e s' => R (.error e) s') s := by
  have Wk := (Walks.listRev (prog := prog) (w := w) (A := A.in1) hh it l hne items).toS
  have hSf : S ∉ [it, l] := by simp only [List.mem_cons, List.not_mem_nil, or_false, not_or]; exact ⟨hSi, hSl⟩
  show wpAny _ _ (do let old ← Builtin.List.listItems (.ref S); Builtin.List.listUpdate (.ref S) (fun _ => #[]); letGo old.toList.reverse; Builtin.List.listExtendWith (.ref S) (.ref it) .none) _ _ s
  refine wpAny_bind ?_
  unfold Builtin.List.listItems
  refine wpAny_bind (wpAny_seqItems hS rfl (wpAny_pure ?_))
  show wpAny _ _ (updateSeq S (fun _ => #[]) >>= fun _ => letGo (#[] : Array Value).toList.reverse >>= fun _ => Builtin.List.listExtendWith (.ref S) (.ref it) .none) _ _ s
  refine wpAny_bind (wpAny_updateSeq hS rfl ?_)
  have hS₂ := Heap.get?_update_self (Obj.mapSeq (fun _ => (#[] : Array Value))) hS rfl
  have oth : ∀ b o, b ≠ S → s.heap.get? b = some o → (s.heap.update S (Obj.mapSeq (fun _ => (#[] : Array Value)))).get? b = some o :=
    fun b o hb e => (Heap.get?_update_other _ _ (Ne.symm hb)).trans e
  refine wpAny_bind (wpAny_letGo ?_)
  have hit1 : (s.heap.update S (Obj.mapSeq (fun _ => (#[] : Array Value)))).IsRevIter it l ((items.size : Int) - 1) := hit.at fun o e => oth _ _ (Ne.symm hSi) e
  have hl1 : (s.heap.update S (Obj.mapSeq (fun _ => (#[] : Array Value)))).IsList l items := by
    obtain ⟨o, ho, hc, hd⟩ := hl
    exact ⟨o, oth _ _ (Ne.symm hSl) ho, hc, hd⟩
  have hT : ({ s with heap := s.heap.update S (Obj.mapSeq (fun _ => (#[] : Array Value))) } : Shared).TypeIs (.ref it) "list_reverseiterator" := Heap.IsRevIter.typeIs (s := { s with heap := s.heap.update S (Obj.mapSeq (fun _ => (#[] : Array Value))) }) hit1
  have h1 : Builtin.List.listSameRef (.ref S) (.ref it) = false := by simp [Builtin.List.listSameRef, hSi]
  unfold Builtin.List.listExtendWith
  refine wpAny_bind (wpAny_typeOf hT ?_)
  rw [if_neg (by rw [h1]; decide)]
  refine wpAny_bind (wpAny_pyIter_revIter (s := { s with heap := s.heap.update S (Obj.mapSeq (fun _ => (#[] : Array Value))) }) hit1 ?_)
  refine wpAny_bind (wpAny_holding ?_)
  unfold Builtin.List.listLengthHint
  refine wpAny_bind (wpAny_specialOf hT nolen_lri ?_)
  show wpAny _ A.in1 (specialOf (Value.ref it) (Str.ofString "__length_hint__") >>= _) _ _ _
  refine wpAny_bind (wpAny_specialOf hT hint_lri ?_)
  generalize hid : ("list_reverseiterator.__length_hint__" : String) = id0
  wp_delta
  rw [show splitId id0 = some ("list_reverseiterator", "__length_hint__") from by subst hid; decide +kernel]
  subst hid
  refine wpAny_bind (wpAny_isInstance (b := true) hT (by rw [isSubtype_type]; kernel_rfl) ?_)
  refine wpAny_pure ?_
  rw [if_neg (by decide)]
  have e0 : ((items.size : Nat) : Int) - 1 - ((0 : Nat) : Int) = (items.size : Int) - 1 := by omega
  refine wpAny_pure ⟨plainId_quiet F.plain_extend_loop _, codeAny_extend_loopS Wk hn _ hSf _ items.size 0 _ _ _ rfl (Nat.zero_le _) ⟨Nat.zero_le _, by rw [e0]; exact hit1, hl1⟩ hS₂ (ItemsOf.nil _) fun s' acc' c' hm hS' hacc => ?_⟩
  rw [Moved.eq_with hm]
  refine hR s'.heap s'.toks acc' c' (fun b o hb hb2 e => hm.heap b o (fun hmem => ?_) (oth b o hb e)) hS' hacc
  rcases List.mem_cons.mp hmem with e' | hmem
  · exact hb e'
  · exact hb2 (List.mem_singleton.mp hmem)
theorem call_list_rev {Q : Value → Shared → Prop} (hh : A.handled = none) {it l : Addr} {items : Array Value} (hit : s.heap.IsRevIter it l ((items.size : Int) - 1)) (hl : s.heap.IsList l items) (hne : l ≠ it) (hn : items.size ≤ sizeLine)
    (hQ : ∀ h' tk acc' c', (∀ b o, b ≠ it → s.heap.get? b = some o → h'.get? b = some o) →
      h'.get? s.heap.objs.size = some { cls := .type "list", dict := none, data := .seq acc' c', slots := #[] } → ItemsOf (fun i v => items[items.size - 1 - i]? = some v) acc' items.size → Q (.ref s.heap.objs.size) { s with heap := h', toks := tk }) :
    wpAny (model prog w) A (call (.type "list") [.ref it]) Q E s := by
  obtain ⟨oi, hoi, _⟩ := id hit
  obtain ⟨ol, hol, _⟩ := id hl
  have hSi : s.heap.objs.size ≠ it := Nat.ne_of_gt (Heap.lt_size hoi)
  have hSl : s.heap.objs.size ≠ l := Nat.ne_of_gt (Heap.lt_size hol)
  refine callType_codes (Q₁ := fun obj s₁ => obj = .ref s.heap.objs.size ∧ s₁ = { s with heap := s.heap.push { cls := .type "list", data := .seq #[] } }) F.called_list (F.typeCall_list_1 _) F.entry_list_init
    (code_list_new _ ⟨rfl, rfl⟩) fun obj s₁ h₁ => ?_
  obtain ⟨rfl, rfl⟩ := h₁
  have hS : (s.heap.push { cls := .type "list", data := .seq #[] }).get? s.heap.objs.size = some { cls := .type "list", data := .seq #[] } := Heap.get?_push_size _ rfl
  refine ⟨⟨_, hS, rfl⟩, F.args_list_init_2 _ _, list_init_rev (A := A.in1) hh (hit.at fun o e => Heap.get?_push_of_some _ e) (hl.push _) hne hn _ hSi hSl hS fun h' tk acc' c' hk hS' hacc => ?_⟩
  exact ⟨rfl, hQ h' tk acc' c' (fun b o hb e => hk b o (Nat.ne_of_lt (Heap.lt_size e)) hb (Heap.get?_push_of_some _ e)) hS' hacc⟩
end
section
open PySem PySem.Spec PyProof.Rows RT
variable {X : Cx}
/-- list(reversed(x)), x a list: a new list -/
def tLstRev (K : PySem.W.Frag) (te : TE) : TE := fun σ H Q => te σ H fun v H1 => ∃ (a : Addr) (xs : List V), v = .ref a ∧ SqL K H1 a xs ∧ ∀ q, H1 q = none → Q (.ref q) (upd H1 q (.lst xs.reverse))
theorem pe_lstRev {e : Expr} {te : TE} {p p2 pos pos2 : Pos} (hc : X.calm = true) (hg : Gl X "list") (hm : X.mg "list" = none) (hg2 : Gl X "reversed") (hm2 : X.mg "reversed" = none) (he : PE X e te)
    (hs : starEach [e] X.env = (false, eval e X.env) :: starEach [] X.env := by rfl)
    (hs2 : starEach [.Call (.Name "reversed" p2) [e] [] pos2] X.env = (false, eval (.Call (.Name "reversed" p2) [e] [] pos2) X.env) :: starEach [] X.env := by rfl) :
    PE X (.Call (.Name "list" p) [.Call (.Name "reversed" p2) [e] [] pos2] [] pos) (tLstRev X.K te) := by
  refine ⟨fun pins s σ H Q I h => ?_⟩
  refine Call_ (ld_blt I hg hm boot_list (PyProof.Rows.callWith_type1 (args_cons (Call_ (ld_blt I hg2 hm2 PyProof.Rows.boot_reversed (PyProof.Rows.callWith_type1 (args_cons (thn (he.run pins s σ H _ I h) fun u s1 ⟨v, H1, I1, r1, q1⟩ => args_nil ?_) hs) hs rfl))) hs2) hs2 rfl))
  obtain ⟨a, xs, ev, hq, q⟩ := q1
  subst ev
  obtain rfl : u = Value.ref a := r1
  obtain ⟨its, rv, p', hz⟩ := I1.list hq
  refine call_reversed_list p'.isList (args_nil ?_)
  have k0 : ∀ b o, s1.heap.get? b = some o → (s1.heap.push (revObj a ((its.toArray.size : Int) - 1))).get? b = some o := fun b o e => Heap.get?_push_of_some _ e
  have I2 : Inv X pins σ H1 { s1 with heap := s1.heap.push (revObj a ((its.toArray.size : Int) - 1)) } := I1.kept (t' := s1.toks) k0
  have hf := I1.fpOk (H' := H1) (b := s1.heap.objs.size) (Nat.le_refl _) (I1.hok.fresh (Nat.le_refl _))
  have hl := p'.isList
  obtain ⟨ol, hol, _⟩ := id hl
  have hne : a ≠ s1.heap.objs.size := Nat.ne_of_lt (Heap.lt_size hol)
  have hn : its.toArray.size ≤ sizeLine := by rw [List.size_toArray, ← rv.length]; exact hz
  refine call_list_rev (s := { s1 with heap := s1.heap.push (revObj a ((its.toArray.size : Int) - 1)) }) (I1.ok.hd hc) ⟨_, Heap.get?_push_size _ rfl, rfl, rfl⟩ (hl.push _) hne hn fun h' tk acc c' hk hS hi => ?_
  refine ⟨.ref (s1.heap.push (revObj a ((its.toArray.size : Int) - 1))).objs.size, _, I2.turnedNew (ob := .lst xs.reverse) (t' := tk) (ch := [s1.heap.objs.size]) (fun b o hb e => hk b o (fun z => hb (by simp [z])) e) (fun b hb => by obtain rfl := List.mem_singleton.mp hb; exact hf) (Nat.le_refl _)
    (show ObjOk X.prog X.w _ _ _ (.lst xs.reverse) from ⟨by rw [List.length_reverse]; exact hz, acc.toList, c', vals_rev rv hi, by rw [Array.toArray_toList]; exact hS⟩), rfl, q _ (I2.hok.fresh (Nat.le_refl _))⟩
end
section
variable {X : Cx} {Ps : List Addr} {cl : XC} {W : WX} {a : Expr} {fa : Env → S → R D} {pos p p2 pos2 : Pos}
theorem e_rev (hc : X.calm = true) (hg : Gl X "list") (hm : X.mg "list" = none) (hg2 : Gl X "reversed") (hm2 : X.mg "reversed" = none) (ha : E1 X Ps cl W a fa)
    (hs : starEach [a] X.env = (false, eval a X.env) :: starEach [] X.env) :
    E1 X Ps cl W (.Call (.Name "list" p) [.Call (.Name "reversed" p2) [a] [] pos2] [] pos) fun e s => (fa e s).bind fun x s => R.opt (revOf (x.rd s)) s := by
  refine PE.imp (pe_lstRev hc hg hm hg2 hm2 ha hs) fun σ H Q ⟨ρ, e, s, g, er, p⟩ => ⟨ρ, e, s, g, er, p.bind fun d1 s1 ρ1 H1 v1 e1 o1 p => ?_⟩
  obtain ⟨d, h, p⟩ := p.opt
  have hx := Rel.rd o1.good o1.frz
  cases q : d1.rd s1 with
  | lv o xs =>
    rw [q] at h hx
    cases h
    obtain ⟨a, ws, rfl, ht, rl⟩ := hx
    exact ⟨a, ws, rfl, .of ht, fun q hq => p.newL o1.good hq rl.reverse⟩
  | _ => rw [q] at h; cases h
end
section
variable {X : Cx} {Ps : List Addr} {cl : XC} {W : WX} {a : Expr} {fa : Env → S → R D} {pos p : Pos} {x : Str} {A : Addr} {kvs : List (List Nat × D)}
theorem t_gin (neg : Bool) (hg : Gl X x) (hm : X.mg x = some (.ref A)) (hd : (x == ("__debug__" : Str)) = false) (k : KdAt X A kvs) (ha : E1 X Ps cl W a fa) :
    T1 X Ps cl W (.Compare a [if neg then .NotIn else .In] [.Name x p] pos) fun e s => (fa e s).bind fun x s => R.opt ((strOf x).map fun z => .bl (if neg then !(kvs.lookup z).isSome else (kvs.lookup z).isSome)) s := by
  obtain ⟨es, n, D, hk⟩ := k
  have key : ∀ z, ∃ r, PySem.W.nsIn X.K A (toS z) = some r ∧ r.isSome = (kvs.lookup z).isSome := fun z => by
    obtain ⟨r, h1, h2⟩ := hk z
    refine ⟨r, h1, ?_⟩
    cases q : kvs.lookup z with
    | none => rw [q] at h2; rw [h2]; rfl
    | some d => rw [q] at h2; obtain ⟨u, v, rfl, _⟩ := h2; rfl
  cases neg with
  | true =>
    refine PT.imp (pt_cmpR (op_notIn_kd D) ha (pe_glob (v := .ref A) hg hm rfl hd) rfl) fun σ H Q ⟨ρ, e, s, g, er, p⟩ => ?_
    simp only [bl, R.bind_assoc] at p
    refine ⟨ρ, e, s, g, er, p.bindD fun d1 s1 ρ1 H1 v1 e1 o1 p => ?_⟩
    obtain ⟨d, h, p⟩ := p.optb
    simp only [Option.map_eq_some_iff] at h
    obtain ⟨z, h, rfl⟩ := h
    obtain ⟨rfl, g1⟩ := strE' o1 h
    obtain ⟨r, h1, h2⟩ := key z
    exact ⟨_, r, rfl, rfl, h1, _, rfl, by rw [h2]; exact p ρ1 H1 Ext.refl g1⟩
  | false =>
    refine PT.imp (pt_cmpR (op_in_kd D) ha (pe_glob (v := .ref A) hg hm rfl hd) rfl) fun σ H Q ⟨ρ, e, s, g, er, p⟩ => ?_
    simp only [bl, R.bind_assoc] at p
    refine ⟨ρ, e, s, g, er, p.bindD fun d1 s1 ρ1 H1 v1 e1 o1 p => ?_⟩
    obtain ⟨d, h, p⟩ := p.optb
    simp only [Option.map_eq_some_iff] at h
    obtain ⟨z, h, rfl⟩ := h
    obtain ⟨rfl, g1⟩ := strE' o1 h
    obtain ⟨r, h1, h2⟩ := key z
    exact ⟨_, r, rfl, rfl, h1, _, rfl, by rw [h2]; exact p ρ1 H1 Ext.refl g1⟩
end
end L3
end

section -- I16
set_option autoImplicit false
set_option linter.all false
set_option maxRecDepth 100000
set_option maxHeartbeats 2000000
namespace L3
open PySem PySem.Spec PyProof.Rows L2 GxR

/-- what a global name is -/
inductive GE where
  | fn (i m : Nat) | con (d : D) | blt | cls (c : Nat) | dic (kvs : List (List Nat × D)) | word (i : Nat)
abbrev GT := List (Str × GE)
def GE.isBlt : Option GE → Bool | some .blt => true | _ => false
def kvB : List (List Nat × D) → List (List Nat × D) → Bool
  | [], [] => true
  | (a, x) :: r, (b, y) :: q => (a == b && x.same y) && kvB r q
  | _, _ => false
theorem kvB_eq : ∀ {a b : List (List Nat × D)}, kvB a b = true → a = b
  | [], [], _ => rfl
  | (a, x) :: r, (b, y) :: q, h => by
    simp only [kvB, Bool.and_eq_true, beq_iff_eq] at h
    rw [h.1.1, D.same_eq _ _ h.1.2, kvB_eq h.2]
  | [], _ :: _, h => by cases h
  | _ :: _, [], h => by cases h
def glb (G : GT) (sc : Scope) (x : Str) : Option GE := if sc.names.lookup x = some .globalImplicit ∧ x ≠ ("__debug__" : Str) ∧ x ≠ ("__name__" : Str) then G.lookup x else none
def visC (sc : Scope) (x : Str) : Bool := decide (sc.names.lookup x = some .local) || (decide (sc.names.lookup x = some .cell) || decide (sc.names.lookup x = some .free))
def conC : Const → D → Bool
  | .none, .non => true
  | .bool a, .bl b => a == b
  | .int a, .int b => decide (a = b)
  | .str s, .str l => s.cps.toList == l
  | _, _ => false
def notStar : Expr → Bool | .Starred .. => false | _ => true
def plainL (es : List Expr) : Bool := es.all notStar
def noSuper : Expr → Bool | .Call (.Name ..) [] [] _ => false | _ => true
def plainIx : Expr → Bool | .Slice .. => false | .Tuple .. => false | _ => true
def notSet : Expr → Bool | .Set .. => false | _ => true
def notSL : Expr → Bool | .Set .. => false | .List .. => false | _ => true

def vName : Expr → Option Str | .Name x _ => some x | _ => none
def vCon : Expr → Option Const | .Constant c _ _ => some c | _ => none
def vBin : Expr → Option (Expr × Operator × Expr) | .BinOp a o b _ => some (a, o, b) | _ => none
def vNeg : Expr → Option Expr | .UnaryOp .USub a _ => some a | _ => none
def vNot : Expr → Option Expr | .UnaryOp .Not a _ => some a | _ => none
def vBool : Expr → Option (BoolOp × Expr × Expr × List Expr × Pos) | .BoolOp o (a :: b :: r) p => some (o, a, b, r, p) | _ => none
def vCmp : Expr → Option (Expr × CmpOp × Expr) | .Compare a [o] [b] _ => some (a, o, b) | _ => none
def vChain : Expr → Option (Expr × CmpOp × CmpOp × Expr × Expr) | .Compare a [o, q] [b, c] _ => some (a, o, q, b, c) | _ => none
def vIte : Expr → Option (Expr × Expr × Expr) | .IfExp c a b _ => some (c, a, b) | _ => none
def vTup : Expr → Option (List Expr) | .Tuple es _ _ => some es | _ => none
def vLst : Expr → Option (List Expr) | .List es _ => some es | _ => none
def vStar : Expr → Option Expr | .Starred e _ => some e | _ => none
def vIdx : Expr → Option (Expr × Expr) | .Subscript a i _ => some (a, i) | _ => none
def vSlc : Expr → Option (Expr × Option Expr × Option Expr) | .Subscript a (.Slice l h none _) _ => some (a, l, h) | _ => none
def vCall : Expr → Option (Str × List Expr) | .Call (.Name x _) es [] _ => some (x, es) | _ => none
def vMeth : Expr → Option (Expr × Str × List Expr × Bool) | .Call (.Attribute o f ap) es [] p => some (o, f, es, ap.endLine == p.line) | _ => none
def vLc : Expr → Option (Expr × Expr × Expr × List Expr × Scope) | .ListComp elt [⟨tg, iter, ifs, 0⟩] sc _ => some (elt, tg, iter, ifs, sc) | _ => none
def vGen : Expr → Option (Str × Expr × Expr × Expr × List Expr × Scope) | .Call (.Name x _) [.GeneratorExp elt [⟨tg, iter, ifs, 0⟩] sc _] [] _ => some (x, elt, tg, iter, ifs, sc) | _ => none
section
variable {e : Expr}
theorem vName_eq {x : Str} (h : vName e = some x) : ∃ p, e = .Name x p := by
  cases e <;> simp [vName] at h; subst h; exact ⟨_, rfl⟩
theorem vCon_eq {c : Const} (h : vCon e = some c) : ∃ k p, e = .Constant c k p := by
  cases e <;> simp [vCon] at h; subst h; exact ⟨_, _, rfl⟩
theorem vBin_eq {a b : Expr} {o : Operator} (h : vBin e = some (a, o, b)) : ∃ p, e = .BinOp a o b p := by
  cases e <;> simp [vBin] at h; obtain ⟨rfl, rfl, rfl⟩ := h; exact ⟨_, rfl⟩
theorem vNeg_eq {a : Expr} (h : vNeg e = some a) : ∃ p, e = .UnaryOp .USub a p := by
  unfold vNeg at h; split at h <;> cases h; exact ⟨_, rfl⟩
theorem vNot_eq {a : Expr} (h : vNot e = some a) : ∃ p, e = .UnaryOp .Not a p := by
  unfold vNot at h; split at h <;> cases h; exact ⟨_, rfl⟩
theorem vBool_eq {o : BoolOp} {a b : Expr} {r : List Expr} {p : Pos} (h : vBool e = some (o, a, b, r, p)) : e = .BoolOp o (a :: b :: r) p := by
  unfold vBool at h; split at h <;> cases h; rfl
theorem vCmp_eq {a b : Expr} {o : CmpOp} (h : vCmp e = some (a, o, b)) : ∃ p, e = .Compare a [o] [b] p := by
  unfold vCmp at h; split at h <;> cases h; exact ⟨_, rfl⟩
theorem vChain_eq {a b c : Expr} {o q : CmpOp} (h : vChain e = some (a, o, q, b, c)) : ∃ p, e = .Compare a [o, q] [b, c] p := by
  unfold vChain at h; split at h <;> cases h; exact ⟨_, rfl⟩
theorem vIte_eq {a b c : Expr} (h : vIte e = some (c, a, b)) : ∃ p, e = .IfExp c a b p := by
  unfold vIte at h; split at h <;> cases h; exact ⟨_, rfl⟩
theorem vTup_eq {es : List Expr} (h : vTup e = some es) : ∃ k p, e = .Tuple es k p := by
  unfold vTup at h; split at h <;> cases h; exact ⟨_, _, rfl⟩
theorem vLst_eq {es : List Expr} (h : vLst e = some es) : ∃ p, e = .List es p := by
  unfold vLst at h; split at h <;> cases h; exact ⟨_, rfl⟩
theorem vStar_eq {a : Expr} (h : vStar e = some a) : ∃ p, e = .Starred a p := by
  unfold vStar at h; split at h <;> cases h; exact ⟨_, rfl⟩
theorem vIdx_eq {a i : Expr} (h : vIdx e = some (a, i)) : ∃ p, e = .Subscript a i p := by
  unfold vIdx at h; split at h <;> cases h; exact ⟨_, rfl⟩
theorem vSlc_eq {a : Expr} {l u : Option Expr} (h : vSlc e = some (a, l, u)) : ∃ p p2, e = .Subscript a (.Slice l u none p2) p := by
  unfold vSlc at h; split at h <;> cases h; exact ⟨_, _, rfl⟩
theorem vCall_eq {x : Str} {es : List Expr} (h : vCall e = some (x, es)) : ∃ p p2, e = .Call (.Name x p) es [] p2 := by
  unfold vCall at h; split at h <;> cases h; exact ⟨_, _, rfl⟩
theorem vMeth_eq {o : Expr} {f : Str} {es : List Expr} {b : Bool} (h : vMeth e = some (o, f, es, b)) : ∃ ap p, e = .Call (.Attribute o f ap) es [] p ∧ (ap.endLine == p.line) = b := by
  unfold vMeth at h; split at h <;> cases h; exact ⟨_, _, rfl, rfl⟩
theorem vLc_eq {elt tg iter : Expr} {ifs : List Expr} {sc : Scope} (h : vLc e = some (elt, tg, iter, ifs, sc)) : ∃ p, e = .ListComp elt [⟨tg, iter, ifs, 0⟩] sc p := by
  unfold vLc at h; split at h <;> cases h; exact ⟨_, rfl⟩
theorem vGen_eq {x : Str} {elt tg iter : Expr} {ifs : List Expr} {sc : Scope} (h : vGen e = some (x, elt, tg, iter, ifs, sc)) : ∃ p p2 p3, e = .Call (.Name x p) [.GeneratorExp elt [⟨tg, iter, ifs, 0⟩] sc p3] [] p2 := by
  unfold vGen at h; split at h <;> cases h; exact ⟨_, _, _, rfl⟩
end

def ownL (N : List Str) (own : List Nat) : List (Str × Nat) := own.map fun i => ((N[i]?).getD "", i)
theorem ownL_snd (N : List Str) (own : List Nat) : (ownL N own).map (·.2) = own := by
  induction own with
  | nil => rfl
  | cons a r ih => simp only [ownL, List.map_cons] at ih ⊢; rw [ih]
def genC (scope : Scope) : Bool := !scope.isCoroutine && (scope.names.all fun y => y.2 != .cell) && decide (scope.names.lookup (".0" : Str) = some NameKind.local)
def subN (t : Tg) (own : List Nat) : Bool := t.names.all fun i => own.contains i
mutual
def okE (G : GT) (N : List Str) : Nat → Scope → CE → Expr → Bool
  | g, sc, .var i, e => match vName e with
    | some x => decide (N[i]? = some x) && (visC sc x && (decide (x ≠ ("__debug__" : Str)) && decide (x ≠ ("__classdict__" : Str))))
    | none => false
  | g, sc, .con d, e => match vCon e with
    | some c => conC c d
    | none => false
  | g, sc, .glob d, e => match vName e with
    | some x => match glb G sc x with
      | some (.con d') => d'.same d
      | _ => false
    | none => false
  | g, sc, .bin op a b, e => match vBin e with
    | some (a', o, b') => decide (o = op.py) && (okE G N g sc a a' && okE G N g sc b b')
    | none => false
  | g, sc, .neg a, e => match vNeg e with
    | some a' => okE G N g sc a a'
    | none => false
  | g, sc, .not a, e => match vNot e with
    | some a' => okE G N g sc a a'
    | none => false
  | g, sc, .and a b, e => match vBool e with
    | some (.And, a', b', r, p) => okE G N g sc a a' && okE G N g sc b (if r.isEmpty then b' else .BoolOp .And (b' :: r) p)
    | _ => false
  | g, sc, .or a b, e => match vBool e with
    | some (.Or, a', b', r, p) => okE G N g sc a a' && okE G N g sc b (if r.isEmpty then b' else .BoolOp .Or (b' :: r) p)
    | _ => false
  | g, sc, .cmp op a b, e => match vCmp e with
    | some (a', o, b') => decide (o = op.py) && (notSet b' && (okE G N g sc a a' && okE G N g sc b b'))
    | none => false
  | g, sc, .chain o1 o2 a b c, e => match vChain e with
    | some (a', p1, p2, b', c') => (decide (p1 = o1.py) && decide (p2 = o2.py)) && (notSet c' && (okE G N g sc a a' && (okE G N g sc b b' && okE G N g sc c c')))
    | none => false
  | g, sc, .ite c a b, e => match vIte e with
    | some (c', a', b') => okE G N g sc c c' && (okE G N g sc a a' && okE G N g sc b b')
    | none => false
  | g, sc, .tup xs, e => match vTup e with
    | some es => okA G N g sc xs es
    | none => false
  | g, sc, .lst xs, e => match vLst e with
    | some es => okA G N g sc xs es
    | none => false
  | _, _, .star _, _ => false
  | g, sc, .idx a i, e => match vIdx e with
    | some (a', i') => plainIx i' && (okE G N g sc a a' && okE G N g sc i i')
    | none => false
  | g, sc, .slc a lo hi, e => match vSlc e with
    | some (a', l', h') => okE G N g sc a a' && (okO G N g sc lo l' && okO G N g sc hi h')
    | none => false
  | g, sc, .isa a t, e => match vCall e with
    | some (x, [a', y]) => match vName y with
      | some y => (GE.isBlt (glb G sc x) && decide (x = ("isinstance" : Str))) && ((GE.isBlt (glb G sc y) && decide (y = Str.ofString t.name)) && (notStar a' && okE G N g sc a a'))
      | none => false
    | _ => false
  | g, sc, .call f xs, e => match vCall e with
    | some (x, a :: es) => match glb G sc x with
      | some (.fn i m) => decide (i = f) && (plainL (a :: es) && okA G N g sc xs (a :: es))
      | _ => false
    | _ => false
  | g, sc, .bi b xs, e => match vCall e with
    | some (x, a :: es) => (b.sole && (GE.isBlt (glb G sc x) && decide (x = Str.ofString b.name))) && (plainL (a :: es) && okA G N g sc xs (a :: es))
    | _ => false
  | g, sc, .bm m o xs, e => match vMeth e with
    | some (o', f, a :: es, true) => (decide (f = m.name) && (noSuper o' && decide (es.length < 20))) && (plainL (a :: es) && (okE G N g sc o o' && okA G N g sc xs (a :: es)))
    | _ => false
  | g, sc, .mm m o xs, e => match vMeth e with
    | some (o', f, a :: es, true) => (decide (f = m.name) && (noSuper o' && decide (es.length < 20))) && ((match m with | .pop => false | _ => true) && (plainL (a :: es) && (okE G N g sc o o' && okA G N g sc xs (a :: es))))
    | some (o', f, [], true) => (decide (f = m.name) && noSuper o') && ((match m with | .pop => true | _ => false) && (xs.isEmpty && okE G N g sc o o'))
    | _ => false
  | g, sc, .lc elt t src ifs own, e => match vLc e with
    | some (elt', tg, iter, ifs', scope) => (blkC N sc scope (ownL N own) && subN t own) && ((tgC N (relS scope sc) (fun x => scope.names.lookup x == some .cell) t tg && notSet iter) &&
        (okI G N g sc src tg iter && (okT G N g (relS scope sc) ifs ifs' && okE G N g (relS scope sc) elt elt')))
    | none => false
  | g, sc, .gen all elt t src ifs own, e => match vGen e with
    | some (x, elt', tg, iter, ifs', scope) => match g with
      | 0 => false
      | g + 1 => (GE.isBlt (glb G sc x) && decide (x = (if all then ("all" : Str) else ("any" : Str)))) && ((blkC N sc scope (ownL N own) && (subN t own && genC scope)) && ((tgC N scope (fun x => scope.names.lookup x == some .cell) t tg && notSL iter) &&
        (okI G N (g + 1) sc src tg iter && (okT G N 0 scope ifs ifs' && okE G N 0 scope elt elt'))))
    | none => false
  | g, sc, .cell a, e => okE G N g sc a e
  | g, sc, .gin neg a kvs, e => match vCmp e with
    | some (a', o, b') => match vName b' with
      | some x => match glb G sc x with
        | some (.dic kvs') => decide (o = if neg then .NotIn else .In) && (kvB kvs' kvs && okE G N g sc a a')
        | _ => false
      | none => false
    | none => false
  | g, sc, .gix kvs a, e => match vIdx e with
    | some (b', a') => match vName b' with
      | some x => match glb G sc x with
        | some (.dic kvs') => plainIx a' && (kvB kvs' kvs && okE G N g sc a a')
        | _ => false
      | none => false
    | none => false
  | g, sc, .rev a, e => match vCall e with
    | some (x, [y]) => match vCall y with
      | some (z, [a']) => (GE.isBlt (glb G sc x) && decide (x = ("list" : Str))) && ((GE.isBlt (glb G sc z) && decide (z = ("reversed" : Str))) && (notStar a' && okE G N g sc a a'))
      | _ => false
    | _ => false
def okA (G : GT) (N : List Str) : Nat → Scope → List CE → List Expr → Bool
  | _, _, [], [] => true
  | g, sc, .star a :: r, e :: es => match vStar e with
    | some a' => okE G N g sc a a' && okA G N g sc r es
    | none => false
  | g, sc, a :: r, e :: es => notStar e && (okE G N g sc a e && okA G N g sc r es)
  | _, _, _, _ => false
def okO (G : GT) (N : List Str) : Nat → Scope → Option CE → Option Expr → Bool
  | _, _, none, none => true
  | g, sc, some a, some e => okE G N g sc a e
  | _, _, _, _ => false
def okT (G : GT) (N : List Str) : Nat → Scope → List CE → List Expr → Bool
  | _, _, [], [] => true
  | g, sc, [a], [e] => okE G N g sc a e
  | _, _, _, _ => false
def okI (G : GT) (N : List Str) : Nat → Scope → Src → Expr → Expr → Bool
  | g, sc, .seq a, _, e => okE G N g sc a e
  | g, sc, .chars a, _, e => okE G N g sc a e
  | g, sc, .rng1 a, _, e => match vCall e with
    | some (x, [a']) => (GE.isBlt (glb G sc x) && decide (x = ("range" : Str))) && (notStar a' && okE G N g sc a a')
    | _ => false
  | g, sc, .rng2 a b, _, e => match vCall e with
    | some (x, [a', b']) => (GE.isBlt (glb G sc x) && decide (x = ("range" : Str))) && ((notStar a' && notStar b') && (okE G N g sc a a' && okE G N g sc b b'))
    | _ => false
  | g, sc, .enum a, tg, e => false
end
end L3
end

section -- IV
set_option autoImplicit false
set_option linter.all false
set_option maxRecDepth 100000
set_option maxHeartbeats 2000000
namespace L3
open PySem PySem.Spec PyProof.Rows L2 GxR

/-- isinstance(e, C), C the class of number k -/
def isiC (G : GT) (sc : Scope) (en : Str) (k : Nat) : Expr → Bool
  | .Call (.Name x _) [.Name y _, .Name c _] [] _ => (decide (x = ("isinstance" : Str)) && GE.isBlt (glb G sc x)) && (decide (y = en) && (match glb G sc c with | some (.cls k') => decide (k' = k) | _ => false))
  | _ => false
def wStr (z : List Nat) : Expr → Bool
  | .Constant (.str s) _ _ => s.cps.toList == z
  | _ => false
def wordB (G : GT) (N : List Str) (sc : Scope) (body : List Stmt) : Bool := match N, body with
  | [en, kn, on], [.Assign [.Name kn1 _] (.List [c1, c2, c3, c4, c5] _) _, .If (.Compare (.Call (.Name ln _) [.ListComp (.Name o1 _) [⟨.Name o2 _, .Name kn2 _, [.Name o3 _], 0⟩] bs _] [] _) [.NotEq] [.Constant (.int 1) _ _] _) [.Return (some s0) _] [] _,
      .Return (some (.Subscript (.List [s1, s2, s3, s4, s5] _) (.Call (.Attribute (.Name kn3 _) ("index" : Str) ap) [.Constant (.bool true) _ _] [] cp) _)) _] =>
    (ap.endLine == cp.line) && (
    ((isiC G sc en 1 c1 && (isiC G sc en 2 c2 && (isiC G sc en 3 c3 && (isiC G sc en 4 c4 && isiC G sc en 5 c5)))) && (wStr (wordX 0) s0 && (wStr (wordX 1) s1 && (wStr (wordX 2) s2 && (wStr (wordX 3) s3 && (wStr (wordX 4) s4 && wStr (wordX 5) s5)))))) &&
      (((decide (ln = ("len" : Str)) && GE.isBlt (glb G sc ln)) && (decide (kn1 = kn) && (decide (kn2 = kn) && (decide (kn3 = kn) && (decide (o1 = on) && (decide (o2 = on) && decide (o3 = on))))))) &&
        ((decide (sc.names.lookup en = some .local) && decide (sc.names.lookup kn = some .local)) && ((blkC N sc bs [(on, 2)] && (decide (bs.names.lookup on = some .local) && visC (relS bs sc) kn && visC (relS bs sc) on)) &&
          ((en != ("__debug__" : Str) && (kn != ("__debug__" : Str) && on != ("__debug__" : Str))) && (en != ("__classdict__" : Str) && (kn != ("__classdict__" : Str) && on != ("__classdict__" : Str))))))))
  | _, _ => false
/-- what the classes of the program's exceptions say -/
structure WordK (K : Fr) (cl : XC) : Prop where
  ex : ∀ k, k ≤ 5 → ∃ C, cl k = .ref C ∧ ExcC K C
  is : ∀ k c, k ≤ 5 → 1 ≤ c → c ≤ 5 → PySem.W.kitOne K (cl k) (cl c) = some (k == c)
/-- where that def stands -/
structure WordF (K : Fr) (mg : Str → Option Value) (cl : XC) (G : GT) (x : Str) : Prop where
  ex : ∃ (f : Addr) (fd : FuncData) (ps N : List Str) (name qual : Str) (params : Arguments) (body : List Stmt) (scope : Scope) (kws : List (Str × V)), mg x = some (.ref f) ∧ PySem.W.keepIn K (.ref f) = true ∧ Binds K fd ps [] ∧
    FunD K name qual params body scope [] kws f fd ∧ FnScope N ps scope ∧ ps.length = 1 ∧ N.length = 3 ∧ wordB G N scope body = true
  wk : WordK K cl
  blt : ∀ x, G.lookup x = some .blt → mg x = none
  cls : ∀ x c, G.lookup x = some (.cls c) → mg x = some (cl c)
end L3
end

section -- I17
set_option autoImplicit false
set_option linter.all false
set_option maxRecDepth 100000
set_option maxHeartbeats 2000000
namespace L3
open PySem PySem.Spec PyProof.Rows L2 GxR

/-- the globals stand for what the table says -/
structure GOk (X : Cx) (Ps : List Addr) (cl : XC) (k : Nat) (fs : Nat → List D → S → R D) (G : GT) : Prop where
  fn : ∀ x i m, G.lookup x = some (.fn i m) → FnF X Ps cl k m (fs i) x
  con : ∀ x d, G.lookup x = some (.con d) → ∃ v u, X.mg x = some u ∧ RelV v u ∧ (∀ xs, d ≠ .lv true xs) ∧ ∀ ρ n H, Rel X.K ρ n none H d v
  blt : ∀ x, G.lookup x = some .blt → X.mg x = none
  cls : ∀ x c, G.lookup x = some (.cls c) → ∃ (C : Addr) (bmB : List Value) (B newId initId : String), cl c = .ref C ∧ X.mg x = some (.ref C) ∧ ExcBaseFacts B newId initId bmB ∧ PySem.W.excIn X.K C bmB newId = true ∧ PySem.W.keepIn X.K (.ref C) = true ∧ Raises X (.ref C)
  dic : ∀ x kvs, G.lookup x = some (.dic kvs) → ∃ A, X.mg x = some (.ref A) ∧ KdAt X A kvs
  exm : ∀ x k c, k ≤ 5 → G.lookup x = some (.cls c) → PySem.W.exmOne X.K (cl k) (cl c) = some (subX k c)
  word : ∀ x i, G.lookup x = some (.word i) → WordF X.K X.mg cl G x
/-- the context of an expression; g: how many generators it may lie over -/
structure Okx (X : Cx) (Ps : List Addr) (cl : XC) (W : WX) (G : GT) (N : List Str) (g k : Nat) (sc : Scope) (fs : Nat → List D → S → R D) : Prop where
  nN : X.N = N
  nd : N.Nodup
  calm : X.calm = true
  esc : X.env.scope = sc
  room : Room (k + g) X.A
  tk : L2N.Takes X W
  gl : GOk X Ps cl k fs G
  gen : 0 < g → ∃ c P, TabB X.base X.mg c P ∧ X.env.code = .ref c ∧ P ∈ Ps

section
variable {X : Cx} {Ps : List Addr} {cl : XC} {W : WX} {G : GT} {N : List Str} {g k : Nat} {sc : Scope} {fs : Nat → List D → S → R D} {e : Expr}
theorem Okx.blk (o : Okx X Ps cl W G N g k sc fs) (s : Shared) (H : Hp) (scope : Scope) (C : Addr) (ce : List (Str × Addr)) (fp : List Addr) : Okx (X.blk s H scope (compEnvC scope ce C X.env) fp) Ps cl WF G N g k (relS scope sc) fs where
  nN := o.nN
  nd := o.nd
  calm := o.calm
  esc := by show relS scope X.env.scope = _; rw [o.esc]
  room := o.room
  tk := fun u s' ⟨a, B, sI, pins, σ, H, cls, d, _, _, _, _, _, _, _, _, w⟩ => w.elim
  gl := ⟨fun x i m h => ⟨(o.gl.fn x i m h).ex, (o.gl.fn x i m h).ar⟩, o.gl.con, o.gl.blt, o.gl.cls, o.gl.dic, o.gl.exm, o.gl.word⟩
  gen := o.gen
theorem Okx.gCx (o : Okx X Ps cl W G N g k sc fs) {A' : Around} (s : Shared) (H : Hp) (scope : Scope) (clo : List (Str × Addr)) (C : Addr) (code : Value) (fp : List Addr) (pn : List (Addr × Obj)) (r : Room k A') : Okx (gCx X A' s H scope clo C code fp pn) Ps cl WF G N 0 k scope fs where
  nN := o.nN
  nd := o.nd
  calm := rfl
  esc := rfl
  room := r
  tk := fun u s' ⟨a, B, sI, pins, σ, H, cls, d, _, _, _, _, _, _, _, _, w⟩ => w.elim
  gl := ⟨fun x i m h => ⟨(o.gl.fn x i m h).ex, (o.gl.fn x i m h).ar⟩, o.gl.con, o.gl.blt, o.gl.cls, o.gl.dic, o.gl.exm, o.gl.word⟩
  gen := fun h => absurd h (Nat.lt_irrefl _)
theorem glb_eq {x : Str} {ge : GE} (h : glb G sc x = some ge) : sc.names.lookup x = some .globalImplicit ∧ (x == ("__debug__" : Str)) = false ∧ x ≠ "__name__" ∧ G.lookup x = some ge := by
  unfold glb at h
  split at h
  · rename_i q
    exact ⟨q.1, by simpa using q.2.1, q.2.2, h⟩
  · cases h
theorem isBlt_eq {o : Option GE} (h : GE.isBlt o = true) : o = some .blt := by
  unfold GE.isBlt at h; split at h <;> first | rfl | cases h
theorem Okx.blt (o : Okx X Ps cl W G N g k sc fs) {x : Str} (h : GE.isBlt (glb G sc x) = true) : Gl X x ∧ X.mg x = none ∧ x ≠ "__name__" ∧ (x == ("__debug__" : Str)) = false := by
  obtain ⟨h1, h2, h3, h4⟩ := glb_eq (isBlt_eq h)
  exact ⟨by show X.env.scope.names.lookup x = _; rw [o.esc]; exact h1, o.gl.blt x h4, h3, h2⟩
theorem star_cons {a : Expr} {es : List Expr} {env : PySem.Env} (h : notStar a = true) : starEach (a :: es) env = (false, eval a env) :: starEach es env := by
  cases a <;> first | rfl | simp [notStar] at h
theorem star_plain {env : PySem.Env} {pos : Pos} : ∀ {es : List Expr}, plainL es = true → (backTo pos (starEach es env)).any (·.1) = false
  | [], _ => rfl
  | a :: es, h => by
    simp only [plainL, List.all_cons, Bool.and_eq_true] at h
    rw [star_cons h.1]
    have ih := star_plain (env := env) (pos := pos) (es := es) h.2
    unfold backTo at ih ⊢
    rw [List.map_cons, List.any_cons, ih]
    rfl
theorem star_few {env : PySem.Env} {pos : Pos} {es : List Expr} (h : plainL es = true) (hl : es.length < 30) :
    ((backTo pos (starEach es env)).all (fun x => !x.1) && (backToKw pos (keywordEach [] env)).all (fun x => x.1.isSome)
      && decide (es.length + ([] : List Keyword).length + (if ([] : List Keyword).isEmpty then 0 else 1) < 30)) = true := by
  have h1 : (backTo pos (starEach es env)).all (fun x => !x.1) = true := by
    have := star_plain (env := env) (pos := pos) h
    rw [List.any_eq_false] at this
    rw [List.all_eq_true]
    intro x hx
    have := this x hx
    simpa using this
  rw [h1]
  simp [backToKw, keywordEach, hl]
theorem noSuper_eq {o : Expr} {f : Str} {env : PySem.Env} {w : Sem Value} (h : noSuper o = true) : attributeBase o f env w = w := by
  unfold attributeBase
  split
  · simp [noSuper] at h
  · rfl
theorem plainIx_eq {b : Expr} (h : plainIx b = true) : PlainIx b := by
  intro o i
  cases b <;> first | rfl | simp [plainIx] at h
theorem notSet_eq {iter : Expr} {env : PySem.Env} (h : notSet iter = true) : ∀ x, foldedSetIterable iter env x = pure x := by
  intro x
  cases iter <;> first | rfl | simp [notSet] at h
theorem notSL_eq {iter : Expr} {env : PySem.Env} (h : notSL iter = true) : ∀ x, genFold iter env x = pure x := by
  intro x
  cases iter <;> first | rfl | simp [notSL] at h
theorem notSet_mark {op : CmpOp} {b : Expr} (h : notSet b = true) : behindInMarks op b = false := by
  cases b <;> first | rfl | simp [notSet] at h
theorem bi_boot (b : BI) (h : b.sole = true) : bootBuiltins (Str.ofString b.name) = some b.val := by
  cases b <;> first | (simp [BI.sole] at h; done) | decide +kernel
theorem ty_boot (t : Ty) : bootBuiltins (Str.ofString t.name) = some (.type t.name) := by
  cases t <;> decide +kernel
theorem isi_boot : bootBuiltins ("isinstance" : Str) = some (.builtin "isinstance") := by decide +kernel
theorem visC_eq {x : Str} (h : visC sc x = true) : Vis sc x := by
  simp only [visC, Bool.or_eq_true, decide_eq_true_eq] at h
  exact h
theorem toS_toList (s : Str) : toS s.cps.toList = s := by
  cases s; simp [toS]
theorem conC_eq {c : Const} {d : D} (h : conC c d = true) {j : Nat} {p : Pos} : E1 X Ps cl W (.Constant c j p) fun _ s => .ok d s := by
  cases c <;> cases d <;> simp [conC] at h
  · exact e_con pe_non (by simp) fun _ _ _ => .non
  · subst h; exact e_con pe_bl (by simp) fun _ _ _ => .bl _
  · subst h; exact e_con pe_int (by simp) fun _ _ _ => .int _
  · subst h
    refine e_con pe_str (by simp) fun ρ n H => ?_
    have := Rel.str (K := X.K) (ρ := ρ) (n := n) (x := none) (H := H) (‹Str›.cps.toList)
    rw [toS_toList] at this
    exact this
/-- one test more than the value -/
def E3 (X : Cx) (Ps : List Addr) (cl : XC) (W : WX) (e : Expr) (f : Env → S → R D) : Prop := E1 X Ps cl W e f ∧ T1 X Ps cl W e f ∧ ∀ o vs p, e = .BoolOp o vs p → W1 X Ps cl W e f
theorem E3.of {f : Env → S → R D} (h : E1 X Ps cl W e f) (hb : ∀ o vs p, e ≠ .BoolOp o vs p) (he : ∀ whole, isTrue e X.env whole = (do let v ← whole; standAt e.pos; holding [v] (truthy v))) : E3 X Ps cl W e f :=
  ⟨h, t_val h he, fun o vs p q => absurd q (hb o vs p)⟩
theorem pts_of {ifs : List CE} {es : List Expr} {C : Nat → List D → S → R D} (h : (ifs = [] ∧ es = []) ∨ ∃ a b, ifs = [a] ∧ es = [b] ∧ T1 X Ps cl W b (ev C a)) : PTs X es (TXB X.K Ps cl W (tests C ifs)) := by
  rcases h with ⟨rfl, rfl⟩ | ⟨a, b, rfl, rfl, ht⟩
  · exact ⟨fun pins s σ H Q I ⟨ρ, e, st, g, er, p⟩ => pts_nil.run pins s σ H Q I (p ρ H Ext.refl g)⟩
  · refine ⟨fun pins s σ H Q I ⟨ρ, e, st, g, er, p⟩ => (pts_one ht).run pins s σ H Q I ⟨ρ, e, st, g, er, ?_⟩⟩
    have p : PostG X.K Ps ρ H st (tests C [a] e st) (GV X.K Ps Q) fun c H' => W (cl c) none σ H' := p
    unfold tests at p
    unfold bl
    cases q : ev C a e st with
    | bad => rw [q] at p; exact p
    | exc c s' => rw [q] at p; exact p
    | ok d s' =>
      rw [q] at p
      simp only [R.bind_ok] at p ⊢
      cases hb : d.bool with
      | none => rw [hb] at p; exact p
      | some b =>
        rw [hb] at p
        cases b with
        | true => unfold tests at p; exact p
        | false => exact p
end
end L3
end

section -- I18
set_option autoImplicit false
set_option linter.all false
set_option maxRecDepth 100000
set_option maxHeartbeats 4000000
namespace L3
open PySem PySem.Spec PyProof.Rows L2 GxR

theorem str_beq_false {x y : Str} (h : x ≠ y) : (x == y) = false := by simpa using h
section
variable {X : Cx} {Ps : List Addr} {cl : XC} {W : WX} {a b : Expr} {fa fb : Env → S → R D} {pos : Pos} {e : Expr}
theorem E3.one {op : BoolOp} {f : Env → S → R D} (h : E3 X Ps cl W a f) : E3 X Ps cl W (.BoolOp op [a] pos) f := by
  have w : W1 X Ps cl W (.BoolOp op [a] pos) f := by cases op with
    | And => exact pw_and1 h.2.1
    | Or => exact pw_or1 h.2.1
  exact ⟨pe_one h.1, w.pt, fun _ _ _ q => by cases q; exact w⟩
theorem E3.and {rest : List Expr} (ha : E3 X Ps cl W a fa) (hb : E3 X Ps cl W (.BoolOp .And (b :: rest) pos) fb) : E3 X Ps cl W (.BoolOp .And (a :: b :: rest) pos) (fAnd fa fb) := by
  have w := w_and ha.2.1 (hb.2.2 _ _ _ rfl)
  exact ⟨e_and ha.1 hb.1, w.pt, fun _ _ _ q => by cases q; exact w⟩
theorem E3.or {rest : List Expr} (ha : E3 X Ps cl W a fa) (hb : E3 X Ps cl W (.BoolOp .Or (b :: rest) pos) fb) : E3 X Ps cl W (.BoolOp .Or (a :: b :: rest) pos) (fOr fa fb) := by
  have w := w_or ha.2.1 (hb.2.2 _ _ _ rfl)
  exact ⟨e_or ha.1 hb.1, w.pt, fun _ _ _ q => by cases q; exact w⟩
theorem cell_bl {K : Fr} {ρ : Rh} {H : Hp} {s : S} {f : Env → S → R D} {en : Env} {G : GQ Bool} {XQ : Nat → Hp → Prop} (p : PostG K Ps ρ H s (bl (fun e s => (f e s).bind fun x s => newCell x s) en s) G XQ) : PostG K Ps ρ H s (bl f en s) G XQ := by
  unfold bl at p ⊢
  dsimp only at p
  cases q : f en s with
  | bad => rw [q] at p; exact p
  | exc c s' => rw [q] at p; exact p
  | ok x s' =>
    rw [q] at p
    simp only [R.bind_ok] at p
    unfold newCell at p
    split at p <;> exact p.elim
theorem E3.cell {f : Env → S → R D} (h : E3 X Ps cl W e f) : E3 X Ps cl W e fun e s => (f e s).bind fun x s => newCell x s :=
  ⟨e_cell h.1, PT.imp h.2.1 fun σ H Q ⟨ρ, en, s, g, er, p⟩ => ⟨ρ, en, s, g, er, cell_bl p⟩, fun o vs p q => PW.imp (h.2.2 o vs p q) fun σ H Q ⟨ρ, en, s, g, er, p⟩ => ⟨ρ, en, s, g, er, cell_bl p⟩⟩
end
section
variable {Ps : List Addr} {cl : XC} {G : GT} {N : List Str} {k : Nat} {fs : Nat → List D → S → R D}
mutual
theorem ok_e : ∀ (ce : CE) {X : Cx} {W : WX} {g : Nat} {sc : Scope} {e : Expr}, Okx X Ps cl W G N g k sc fs → okE G N g sc ce e = true → E3 X Ps cl W e fun en s => ev fs ce en s
  | .var i, X, W, g, sc, e, o, h => by
    unfold okE at h
    split at h
    · rename_i x hv
      obtain ⟨p, rfl⟩ := vName_eq hv
      simp only [Bool.and_eq_true, decide_eq_true_eq] at h
      simp only [ev]
      exact .of (e_var (by rw [o.nN]; exact h.1) (by rw [o.esc]; exact visC_eq h.2.1) (str_beq_false h.2.2.1) (str_beq_false h.2.2.2)) (by intros; simp) fun _ => rfl
    · cases h
  | .con d, X, W, g, sc, e, o, h => by
    unfold okE at h
    split at h
    · rename_i c hv
      obtain ⟨j, p, rfl⟩ := vCon_eq hv
      simp only [ev]
      exact .of (conC_eq h) (by intros; simp) fun _ => rfl
    · cases h
  | .glob d, X, W, g, sc, e, o, h => by
    unfold okE at h
    split at h
    · rename_i x hv
      obtain ⟨p, rfl⟩ := vName_eq hv
      split at h
      · rename_i d' hg
        have := D.same_eq _ _ h
        subst this
        obtain ⟨h1, h2, h3, h4⟩ := glb_eq hg
        obtain ⟨v, u, q1, q2, q3, q4⟩ := o.gl.con x _ h4
        simp only [ev]
        exact .of (e_con (pe_glob (by show X.env.scope.names.lookup x = _; rw [o.esc]; exact h1) q1 q2 h2) q3 q4) (by intros; simp) fun _ => rfl
      · cases h
    · cases h
  | .bin op a b, X, W, g, sc, e, o, h => by
    unfold okE at h
    split at h
    · rename_i a' op' b' hv
      obtain ⟨p, rfl⟩ := vBin_eq hv
      simp only [Bool.and_eq_true, decide_eq_true_eq] at h
      obtain ⟨rfl, h1, h2⟩ := h
      simp only [ev]
      exact .of (e_bin op (ok_e a o h1).1 (ok_e b o h2).1) (by intros; simp) fun _ => rfl
    · cases h
  | .neg a, X, W, g, sc, e, o, h => by
    unfold okE at h
    split at h
    · rename_i a' hv
      obtain ⟨p, rfl⟩ := vNeg_eq hv
      simp only [ev]
      exact .of (e_neg (ok_e a o h).1) (by intros; simp) fun _ => rfl
    · cases h
  | .not a, X, W, g, sc, e, o, h => by
    unfold okE at h
    split at h
    · rename_i a' hv
      obtain ⟨p, rfl⟩ := vNot_eq hv
      simp only [ev]
      have r := ok_e a o h
      exact ⟨e_not r.1, t_not r.2.1, fun _ _ _ q => by cases q⟩
    · cases h
  | .and a b, X, W, g, sc, e, o, h => by
    unfold okE at h
    split at h
    · rename_i a' b' r p hv
      have := vBool_eq hv
      subst this
      simp only [Bool.and_eq_true] at h
      simp only [ev]
      have ra := ok_e a o h.1
      have rb := ok_e b o h.2
      cases r with
      | nil => exact ra.and (E3.one rb)
      | cons c r => exact ra.and rb
    · cases h
  | .or a b, X, W, g, sc, e, o, h => by
    unfold okE at h
    split at h
    · rename_i a' b' r p hv
      have := vBool_eq hv
      subst this
      simp only [Bool.and_eq_true] at h
      simp only [ev]
      have ra := ok_e a o h.1
      have rb := ok_e b o h.2
      cases r with
      | nil => exact ra.or (E3.one rb)
      | cons c r => exact ra.or rb
    · cases h
  | .cmp op a b, X, W, g, sc, e, o, h => by
    unfold okE at h
    split at h
    · rename_i a' op' b' hv
      obtain ⟨p, rfl⟩ := vCmp_eq hv
      simp only [Bool.and_eq_true, decide_eq_true_eq] at h
      obtain ⟨rfl, hm, h1, h2⟩ := h
      simp only [ev]
      have hu : X.A.units + 65 < cLine := by have := o.room.un; omega
      have ra := ok_e a o h1
      have rb := ok_e b o h2
      exact ⟨e_cmp hu op ra.1 rb.1 (notSet_mark hm), t_cmp hu op ra.1 rb.1 (notSet_mark hm), fun _ _ _ q => by cases q⟩
    · cases h
  | .chain o1 o2 a b c, X, W, g, sc, e, o, h => by
    unfold okE at h
    split at h
    · rename_i a' p1 p2 b' c' hv
      obtain ⟨p, rfl⟩ := vChain_eq hv
      simp only [Bool.and_eq_true, decide_eq_true_eq] at h
      obtain ⟨⟨rfl, rfl⟩, hm, h1, h2, h3⟩ := h
      simp only [ev]
      have hu : X.A.units + 65 < cLine := by have := o.room.un; omega
      have ra := ok_e a o h1
      have rb := ok_e b o h2
      have rc := ok_e c o h3
      have hl : lastMarks [o1.py, o2.py] [b', c'] = false := by
        show behindInMarks o2.py c' = false
        exact notSet_mark hm
      exact ⟨e_chain hu o1 o2 ra.1 rb.1 rc.1 hl, t_chain hu o1 o2 ra.1 rb.1 rc.1 hl, fun _ _ _ q => by cases q⟩
    · cases h
  | .ite c a b, X, W, g, sc, e, o, h => by
    unfold okE at h
    split at h
    · rename_i c' a' b' hv
      obtain ⟨p, rfl⟩ := vIte_eq hv
      simp only [Bool.and_eq_true] at h
      simp only [ev]
      have rc := ok_e c o h.1
      have ra := ok_e a o h.2.1
      have rb := ok_e b o h.2.2
      exact ⟨e_ite rc.2.1 ra.1 rb.1, t_ite rc.2.1 ra.2.1 rb.2.1, fun _ _ _ q => by cases q⟩
    · cases h
  | .tup xs, X, W, g, sc, e, o, h => by
    unfold okE at h
    split at h
    · rename_i es hv
      obtain ⟨j, p, rfl⟩ := vTup_eq hv
      simp only [ev]
      exact .of (e_tup (ok_a xs o h)) (by intros; simp) fun _ => rfl
    · cases h
  | .lst xs, X, W, g, sc, e, o, h => by
    unfold okE at h
    split at h
    · rename_i es hv
      obtain ⟨p, rfl⟩ := vLst_eq hv
      simp only [ev]
      exact .of (e_lst (ok_a xs o h)) (by intros; simp) fun _ => rfl
    · cases h
  | .star a, X, W, g, sc, e, o, h => by
    unfold okE at h; cases h
  | .idx a i, X, W, g, sc, e, o, h => by
    unfold okE at h
    split at h
    · rename_i a' i' hv
      obtain ⟨p, rfl⟩ := vIdx_eq hv
      simp only [Bool.and_eq_true] at h
      simp only [ev]
      exact .of (e_idx (ok_e a o h.2.1).1 (ok_e i o h.2.2).1 (plainIx_eq h.1)) (by intros; simp) fun _ => rfl
    · cases h
  | .slc a lo hi, X, W, g, sc, e, o, h => by
    unfold okE at h
    split at h
    · rename_i a' l' h' hv
      obtain ⟨p, p2, rfl⟩ := vSlc_eq hv
      simp only [Bool.and_eq_true] at h
      simp only [ev]
      exact .of (e_slc (ok_e a o h.1).1 (ok_o lo o h.2.1) (ok_o hi o h.2.2)) (by intros; simp) fun _ => rfl
    · cases h
  | .isa a t, X, W, g, sc, e, o, h => by
    unfold okE at h
    split at h
    · rename_i x a' y' hv
      obtain ⟨p, p2, rfl⟩ := vCall_eq hv
      split at h
      · rename_i y hy
        obtain ⟨p3, rfl⟩ := vName_eq hy
        simp only [Bool.and_eq_true, decide_eq_true_eq] at h
        obtain ⟨⟨h1, rfl⟩, ⟨h2, rfl⟩, h3, h4⟩ := h
        obtain ⟨q1, q2, q3, q4⟩ := o.blt h1
        obtain ⟨r1, r2, r3, r4⟩ := o.blt h2
        simp only [ev]
        exact .of (e_isa t (ok_e a o h4).1 q1 q2 isi_boot r1 r2 (ty_boot t) q3 q4 r3 r4 (star_cons h3)) (by intros; simp) fun _ => rfl
      · cases h
    · cases h
  | .call f xs, X, W, g, sc, e, o, h => by
    unfold okE at h
    split at h
    · rename_i x a' es hv
      obtain ⟨p, p2, rfl⟩ := vCall_eq hv
      split at h
      · rename_i i m hg
        simp only [Bool.and_eq_true, decide_eq_true_eq] at h
        obtain ⟨rfl, hp, ha⟩ := h
        obtain ⟨h1, h2, h3, h4⟩ := glb_eq hg
        have hp' := hp
        simp only [plainL, List.all_cons, Bool.and_eq_true] at hp'
        simp only [ev]
        exact .of (e_call (o.gl.fn x i m h4) (o.room.mono (Nat.le_add_right _ _)) o.tk (by show X.env.scope.names.lookup x = _; rw [o.esc]; exact h1) (ok_a xs o ha) h2 (star_cons hp'.1) (star_plain hp'.2)) (by intros; simp) fun _ => rfl
      · cases h
    · cases h
  | .bi b xs, X, W, g, sc, e, o, h => by
    unfold okE at h
    split at h
    · rename_i x a' es hv
      obtain ⟨p, p2, rfl⟩ := vCall_eq hv
      simp only [Bool.and_eq_true, decide_eq_true_eq] at h
      obtain ⟨⟨hs, hb, rfl⟩, hp, ha⟩ := h
      obtain ⟨q1, q2, q3, q4⟩ := o.blt hb
      have hp' := hp
      simp only [plainL, List.all_cons, Bool.and_eq_true] at hp'
      simp only [ev]
      exact .of (e_bi o.calm b hs q1 q2 (bi_boot b hs) (ok_a xs o ha) q3 q4 (star_cons hp'.1) (star_plain hp'.2)) (by intros; simp) fun _ => rfl
    · cases h
  | .bm m ob xs, X, W, g, sc, e, o, h => by
    unfold okE at h
    split at h
    · rename_i o' f a' es hv
      obtain ⟨ap, p, rfl, hl⟩ := vMeth_eq hv
      simp only [Bool.and_eq_true, decide_eq_true_eq] at h
      obtain ⟨⟨rfl, hn, hz⟩, hp, ho, ha⟩ := h
      have hp' := hp
      simp only [plainL, List.all_cons, Bool.and_eq_true] at hp'
      simp only [ev]
      exact .of (e_bm m (ok_e ob o ho).1 (ok_a xs o ha) (noSuper_eq hn) (star_few hp (by simp; omega)) hl (star_cons hp'.1) (star_plain hp'.2)) (by intros; simp) fun _ => rfl
    · cases h
  | .mm m ob xs, X, W, g, sc, e, o, h => by
    unfold okE at h
    split at h
    · rename_i o' f a' es hv
      obtain ⟨ap, p, rfl, hl⟩ := vMeth_eq hv
      simp only [Bool.and_eq_true, decide_eq_true_eq] at h
      obtain ⟨⟨rfl, hn, hz⟩, hm, hp, ho, ha⟩ := h
      have hp' := hp
      simp only [plainL, List.all_cons, Bool.and_eq_true] at hp'
      simp only [ev]
      exact .of (e_mm m (by intro q; subst q; simp at hm) (ok_e ob o ho).1 (ok_a xs o ha) (noSuper_eq hn) (star_few hp (by simp; omega)) hl (star_cons hp'.1) (star_plain hp'.2)) (by intros; simp) fun _ => rfl
    · rename_i o' f hv
      obtain ⟨ap, p, rfl, hl⟩ := vMeth_eq hv
      simp only [Bool.and_eq_true, decide_eq_true_eq] at h
      obtain ⟨⟨rfl, hn⟩, hm, hx, ho⟩ := h
      cases xs with
      | cons _ _ => simp at hx
      | nil =>
        cases m with
        | append => simp at hm
        | extend => simp at hm
        | pop =>
          simp only [ev, evs]
          exact .of (e_pop (ok_e ob o ho).1 (noSuper_eq hn) hl) (by intros; simp) fun _ => rfl
    · cases h
  | .lc elt t src ifs own, X, W, g, sc, e, o, h => by
    unfold okE at h
    split at h
    · rename_i elt' tg iter ifs' scope hv
      obtain ⟨p, rfl⟩ := vLc_eq hv
      simp only [Bool.and_eq_true] at h
      obtain ⟨⟨h1, h2⟩, ⟨h3, h4⟩, h5, h6, h7⟩ := h
      simp only [ev]
      refine .of ?_ (by intros; simp) fun _ => rfl
      have hN : X.N.Nodup := by rw [o.nN]; exact o.nd
      have hown : ∀ i ∈ t.names, i ∈ (ownL N own).map (·.2) := by
        rw [ownL_snd]
        simp only [subN, List.all_eq_true] at h2
        intro i hi
        simpa using h2 i hi
      have r := e_lc (Ps := Ps) (cl := cl) (W := W) (pos := p) (own := ownL N own) (t := t) o.calm hN (ok_i src o h5) (blkOk_by (by rw [o.nN, o.esc]; exact h1)) hown
        (fun s H C ce fp => g_of (X := X.blk s H scope (compEnvC scope ce C X.env) fp) (by rw [(o.blk s H scope C ce fp).nN]; exact o.nd) o.calm (fnb := fun x => scope.names.lookup x == some .cell) (fun x hx => hx) (by rw [(o.blk s H scope C ce fp).nN, (o.blk s H scope C ce fp).esc]; exact h3))
        (fun s H C ce fp => ok_t ifs (o.blk s H scope C ce fp) h6) (fun s H C ce fp => (ok_e elt (o.blk s H scope C ce fp) h7).1) (notSet_eq h4)
      rw [ownL_snd] at r
      exact r
    · cases h
  | .gen all elt t src ifs own, X, W, g, sc, e, o, h => by
    unfold okE at h
    split at h
    · rename_i x elt' tg iter ifs' scope hv
      obtain ⟨p, p2, p3, rfl⟩ := vGen_eq hv
      cases g with
      | zero => cases h
      | succ g =>
        simp only [Bool.and_eq_true, decide_eq_true_eq] at h
        obtain ⟨⟨hb, rfl⟩, ⟨h1, h2, hgc⟩, ⟨h3, h4⟩, h5, h6, h7⟩ := h
        obtain ⟨q1, q2, q3, q4⟩ := o.blt hb
        simp only [genC, Bool.and_eq_true, Bool.not_eq_true', List.all_eq_true, decide_eq_true_eq] at hgc
        obtain ⟨⟨c1, c2⟩, c3⟩ := hgc
        simp only [ev]
        refine .of ?_ (by intros; simp) fun _ => rfl
        have hN : X.N.Nodup := by rw [o.nN]; exact o.nd
        have hown : ∀ i ∈ t.names, i ∈ (ownL N own).map (·.2) := by
          rw [ownL_snd]
          simp only [subN, List.all_eq_true] at h2
          intro i hi
          simpa using h2 i hi
        obtain ⟨c, P, TB, hcode, hP⟩ := o.gen (Nat.succ_pos g)
        have r := e_gen (Ps := Ps) (cl := cl) (W := W) (p := p) (pos := p2) (gpos := p3) (own := ownL N own) (t := t) (k := k) all (o.room.mono (by omega)) hN q1 q2 TB hcode hP (blkOk_by (by rw [o.nN, o.esc]; exact h1)) hown c1
          (fun y hy q => by have := c2 y hy; simp [q] at this) c3 (ok_i src o h5)
          ⟨fun A' s H C clo code fp pn rA => g_of (X := gCx X A' s H scope clo C code fp pn) (by rw [(o.gCx s H scope clo C code fp pn rA).nN]; exact o.nd) rfl (fnb := fun x => scope.names.lookup x == some .cell) (fun x hx => hx) (by rw [(o.gCx s H scope clo C code fp pn rA).nN]; exact h3),
           fun A' s H C clo code fp pn rA => ok_t ifs (o.gCx s H scope clo C code fp pn rA) h6, fun A' s H C clo code fp pn rA => (ok_e elt (o.gCx s H scope clo C code fp pn rA) h7).1⟩ (notSL_eq h4) rfl
        rw [ownL_snd] at r
        exact r
    · cases h
  | .cell a, X, W, g, sc, e, o, h => by
    unfold okE at h
    simp only [ev]
    exact (ok_e a o h).cell
  | .gin neg a kvs, X, W, g, sc, e, o, h => by
    unfold okE at h
    split at h
    · rename_i a' op b' hv
      obtain ⟨p, rfl⟩ := vCmp_eq hv
      split at h
      · rename_i x hx
        obtain ⟨p2, rfl⟩ := vName_eq hx
        split at h
        · rename_i kvs' hg
          simp only [Bool.and_eq_true, decide_eq_true_eq] at h
          obtain ⟨rfl, hk, ha⟩ := h
          have := kvB_eq hk
          subst this
          obtain ⟨h1, h2, h3, h4⟩ := glb_eq hg
          obtain ⟨A, q1, q2⟩ := o.gl.dic x _ h4
          have hgl : Gl X x := by show X.env.scope.names.lookup x = _; rw [o.esc]; exact h1
          simp only [ev]
          exact ⟨e_gin neg hgl q1 h2 q2 (ok_e a o ha).1, t_gin neg hgl q1 h2 q2 (ok_e a o ha).1, fun _ _ _ q => by cases q⟩
        · cases h
      · cases h
    · cases h
  | .gix kvs a, X, W, g, sc, e, o, h => by
    unfold okE at h
    split at h
    · rename_i b' a' hv
      obtain ⟨p, rfl⟩ := vIdx_eq hv
      split at h
      · rename_i x hx
        obtain ⟨p2, rfl⟩ := vName_eq hx
        split at h
        · rename_i kvs' hg
          simp only [Bool.and_eq_true, decide_eq_true_eq] at h
          obtain ⟨hp, hk, ha⟩ := h
          have := kvB_eq hk
          subst this
          obtain ⟨h1, h2, h3, h4⟩ := glb_eq hg
          obtain ⟨A, q1, q2⟩ := o.gl.dic x _ h4
          have hgl : Gl X x := by show X.env.scope.names.lookup x = _; rw [o.esc]; exact h1
          simp only [ev]
          exact .of (e_gix hgl q1 h2 q2 (ok_e a o ha).1 (plainIx_eq hp)) (by intros; simp) fun _ => rfl
        · cases h
      · cases h
    · cases h
  | .rev a, X, W, g, sc, e, o, h => by
    unfold okE at h
    split at h
    · rename_i x y hv
      obtain ⟨p, p2, rfl⟩ := vCall_eq hv
      split at h
      · rename_i z a' hy
        obtain ⟨p3, p4, rfl⟩ := vCall_eq hy
        simp only [Bool.and_eq_true, decide_eq_true_eq] at h
        obtain ⟨⟨h1, rfl⟩, ⟨h2, rfl⟩, h3, h4⟩ := h
        obtain ⟨q1, q2, q3, q4⟩ := o.blt h1
        obtain ⟨r1, r2, r3, r4⟩ := o.blt h2
        simp only [ev]
        exact .of (e_rev o.calm q1 q2 r1 r2 (ok_e a o h4).1 (star_cons h3)) (by intros; simp) fun _ => rfl
      · cases h
    · cases h
theorem ok_s : ∀ (ce : CE) (a' : CE), ce = .star a' → ∀ {X : Cx} {W : WX} {g : Nat} {sc : Scope} {e : Expr}, Okx X Ps cl W G N g k sc fs → okE G N g sc a' e = true → E3 X Ps cl W e fun en s => ev fs a' en s
  | .star a, a', q, X, W, g, sc, e, o, h => by cases q; exact ok_e a o h
  | .var _, a', q, X, W, g, sc, e, o, h => by cases q
  | .con _, a', q, X, W, g, sc, e, o, h => by cases q
  | .glob _, a', q, X, W, g, sc, e, o, h => by cases q
  | .bin _ _ _, a', q, X, W, g, sc, e, o, h => by cases q
  | .neg _, a', q, X, W, g, sc, e, o, h => by cases q
  | .not _, a', q, X, W, g, sc, e, o, h => by cases q
  | .and _ _, a', q, X, W, g, sc, e, o, h => by cases q
  | .or _ _, a', q, X, W, g, sc, e, o, h => by cases q
  | .cmp _ _ _, a', q, X, W, g, sc, e, o, h => by cases q
  | .chain _ _ _ _ _, a', q, X, W, g, sc, e, o, h => by cases q
  | .ite _ _ _, a', q, X, W, g, sc, e, o, h => by cases q
  | .tup _, a', q, X, W, g, sc, e, o, h => by cases q
  | .lst _, a', q, X, W, g, sc, e, o, h => by cases q
  | .idx _ _, a', q, X, W, g, sc, e, o, h => by cases q
  | .slc _ _ _, a', q, X, W, g, sc, e, o, h => by cases q
  | .isa _ _, a', q, X, W, g, sc, e, o, h => by cases q
  | .call _ _, a', q, X, W, g, sc, e, o, h => by cases q
  | .bi _ _, a', q, X, W, g, sc, e, o, h => by cases q
  | .bm _ _ _, a', q, X, W, g, sc, e, o, h => by cases q
  | .mm _ _ _, a', q, X, W, g, sc, e, o, h => by cases q
  | .lc _ _ _ _ _, a', q, X, W, g, sc, e, o, h => by cases q
  | .gen _ _ _ _ _ _, a', q, X, W, g, sc, e, o, h => by cases q
  | .cell _, a', q, X, W, g, sc, e, o, h => by cases q
  | .gin _ _ _, a', q, X, W, g, sc, e, o, h => by cases q
  | .gix _ _, a', q, X, W, g, sc, e, o, h => by cases q
  | .rev _, a', q, X, W, g, sc, e, o, h => by cases q
theorem ok_a : ∀ (ces : List CE) {X : Cx} {W : WX} {g : Nat} {sc : Scope} {es : List Expr}, Okx X Ps cl W G N g k sc fs → okA G N g sc ces es = true → PA X es (TXA X.K Ps cl W fun en s => evs fs ces en s)
  | [], X, W, g, sc, es, o, h => by
    cases es with
    | nil => simp only [evs]; exact a_nil
    | cons e es => unfold okA at h; cases h
  | a :: r, X, W, g, sc, es, o, h => by
    have ra := @ok_e a
    have rs := @ok_s a
    have rr := @ok_a r
    cases es with
    | nil => cases a <;> simp [okA] at h
    | cons e es =>
      by_cases hs : ∃ a', a = .star a'
      · obtain ⟨a', rfl⟩ := hs
        unfold okA at h
        split at h
        · rename_i e' hv
          obtain ⟨p, rfl⟩ := vStar_eq hv
          simp only [Bool.and_eq_true] at h
          simp only [evs]
          exact a_star (rs a' rfl o h.1).1 (rr o h.2)
        · cases h
      · have hn : ∀ a', a = .star a' → False := fun a' q => hs ⟨a', q⟩
        rw [okA] at h
        · simp only [Bool.and_eq_true] at h
          have q : (fun en s => evs fs (a :: r) en s) = fun en s => (ev fs a en s).bind fun x s => (evs fs r en s).bind fun ys s => .ok (x.frz :: ys) s := by
            funext en s
            rw [evs]
            exact hn
          rw [q]
          exact a_cons (ra o h.2.1).1 (rr o h.2.2) (star_cons h.1)
        · exact hn
theorem ok_o : ∀ (co : Option CE) {X : Cx} {W : WX} {g : Nat} {sc : Scope} {eo : Option Expr}, Okx X Ps cl W G N g k sc fs → okO G N g sc co eo = true → PO X eo (TXO X.K Ps cl W fun en s => evo fs co en s)
  | none, X, W, g, sc, eo, o, h => by
    cases eo with
    | none => simp only [evo]; exact o_none
    | some e => simp [okO] at h
  | some a, X, W, g, sc, eo, o, h => by
    cases eo with
    | none => simp [okO] at h
    | some e => unfold okO at h; simp only [evo]; exact o_some (ok_e a o h).1
theorem ok_t : ∀ (ces : List CE) {X : Cx} {W : WX} {g : Nat} {sc : Scope} {es : List Expr}, Okx X Ps cl W G N g k sc fs → okT G N g sc ces es = true → PTs X es (TXB X.K Ps cl W fun en s => tests fs ces en s)
  | [], X, W, g, sc, es, o, h => by
    cases es with
    | nil => exact pts_of (.inl ⟨rfl, rfl⟩)
    | cons e es => simp [okT] at h
  | [a], X, W, g, sc, es, o, h => by
    match es, h with
    | [e], h => unfold okT at h; exact pts_of (.inr ⟨a, e, rfl, rfl, (ok_e a o h).2.1⟩)
    | [], h => simp [okT] at h
    | _ :: _ :: _, h => simp [okT] at h
  | _ :: _ :: _, X, W, g, sc, es, o, h => by
    cases es <;> simp [okT] at h
theorem ok_i : ∀ (src : Src) {X : Cx} {W : WX} {g : Nat} {sc : Scope} {tg e : Expr}, Okx X Ps cl W G N g k sc fs → okI G N g sc src tg e = true → I1 X Ps cl W tg e fun en s => items fs src en s
  | .seq a, X, W, g, sc, tg, e, o, h => by
    unfold okI at h; simp only [items]; exact i_seq (ok_e a o h).1
  | .chars a, X, W, g, sc, tg, e, o, h => by
    unfold okI at h; simp only [items]; exact i_chars (ok_e a o h).1
  | .rng1 a, X, W, g, sc, tg, e, o, h => by
    unfold okI at h
    split at h
    · rename_i x a' hv
      obtain ⟨p, p2, rfl⟩ := vCall_eq hv
      simp only [Bool.and_eq_true, decide_eq_true_eq] at h
      obtain ⟨⟨h1, rfl⟩, h2, h3⟩ := h
      obtain ⟨q1, q2, q3, q4⟩ := o.blt h1
      simp only [items]
      exact i_rng1 q1 q2 (ok_e a o h3).1 (star_cons h2)
    · cases h
  | .rng2 a b, X, W, g, sc, tg, e, o, h => by
    unfold okI at h
    split at h
    · rename_i x a' b' hv
      obtain ⟨p, p2, rfl⟩ := vCall_eq hv
      simp only [Bool.and_eq_true, decide_eq_true_eq] at h
      obtain ⟨⟨h1, rfl⟩, ⟨h2, h2'⟩, h3, h4⟩ := h
      obtain ⟨q1, q2, q3, q4⟩ := o.blt h1
      simp only [items]
      exact i_rng2 q1 q2 (ok_e a o h3).1 (ok_e b o h4).1 (by rw [star_cons h2, star_cons h2']; rfl) (star_cons h2')
    · cases h
  | .enum a, X, W, g, sc, tg, e, o, h => by
    unfold okI at h; cases h
end
end
end L3
end

section -- I19
set_option autoImplicit false
set_option linter.all false
set_option maxRecDepth 100000
set_option maxHeartbeats 4000000
namespace L3
open PySem PySem.Spec PyProof.Rows L2 GxR

/-- swappedStores of two tuples, told by the scope -/
def swT (ts vs : List Expr) (sc : Scope) : Option (Option (List Str)) :=
    if !(ts.length == 2 || ts.length == 3) || vs.length != ts.length then some none else
    if !plainL vs then some none else
    match ts.filterMap (fun
      | .Name id pos => if sc.names.lookup id == some .local && pos.line == ((ts.head?.map (·.pos.line)).getD 0) then some id else none
      | _ => none) with
    | names => if names.length != ts.length || names.eraseDups.length != names.length then some none else
      if vs.all (foldedForSure 8) then some none else
      if vs.all (constantsAlone 8) then none else some (some names)
def isTupE : Expr → Bool | .Tuple .. => true | _ => false
def isTL : Expr → Bool | .Tuple .. => true | .List .. => true | _ => false
theorem sw_notT {targets : List Expr} {value : Expr} {env : PySem.Env} (h : isTupE value = false) : swappedStores targets value env = pure none := by
  unfold swappedStores
  split
  · rename_i hm
    split at hm
    · simp [isTupE] at h
    · simp [isTupE] at h
    · cases hm
  · rfl
theorem sw_notG {t value : Expr} {env : PySem.Env} (h : isTL t = false) : swappedStores [t] value env = pure none := by
  unfold swappedStores
  split
  · rename_i hm
    split at hm
    · rename_i q; cases q; simp [isTL] at h
    · rename_i q; cases q; simp [isTL] at h
    · cases hm
  · rfl
theorem swT_eq {ts vs : List Expr} {k k2 : Nat} {p p2 : Pos} {env : PySem.Env} {r : Option (List Str)} (hk : env.scope.kind = .function) (h : swT ts vs env.scope = some r) : swappedStores [.Tuple ts k p] (.Tuple vs k2 p2) env = pure r := by
  have hb : env.blockKind = .function := by unfold Env.blockKind; rw [hk]; rfl
  have hbb : (env.blockKind != ScopeKind.function) = false := by rw [hb]; rfl
  unfold swT at h
  show (do
      if !(ts.length == 2 || ts.length == 3) || vs.length != ts.length || env.blockKind != .function then return none
      if vs.any fun | .Starred .. => true | _ => false then return none
      let line := (ts.head?.map (·.pos.line)).getD 0
      let names := ts.filterMap fun
        | .Name id pos => if env.kindOf id == some .local && pos.line == line then some id else none
        | _ => none
      if names.length != ts.length || names.eraseDups.length != names.length then return none
      if vs.all (foldedForSure 8) then return none
      if vs.all (constantsAlone 8) then unsupported "assign.tuple-of-constant-expressions:order-of-the-stores"
      return some names : Sem (Option (List Str))) = _
  rw [hbb, Bool.or_false]
  have hst : (vs.any fun | .Starred .. => true | _ => false) = !plainL vs := by
    unfold plainL
    rw [List.all_eq_not_any_not, Bool.not_not]
    congr 1
    funext e
    cases e <;> rfl
  rw [hst]
  split at h
  · rename_i c1
    cases h
    rw [if_pos c1]
  · rename_i c1
    rw [if_neg c1]
    split at h
    · rename_i c2
      cases h
      rw [if_pos c2]
    · rename_i c2
      rw [if_neg c2]
      dsimp only at h
      dsimp only
      split at h
      · rename_i c3
        cases h
        exact if_pos c3
      · rename_i c3
        refine (if_neg c3).trans ?_
        split at h
        · rename_i c4
          cases h
          exact if_pos c4
        · rename_i c4
          refine (if_neg c4).trans ?_
          split at h
          · cases h
          · rename_i c5
            cases h
            exact if_neg c5
/-- swapsWith, for a name -/
def isComp : Expr → Option Scope | .ListComp _ _ s _ => some s | .SetComp _ _ s _ => some s | .DictComp _ _ _ s _ => some s | _ => none
theorem sw_no {e : Expr} {t : Option Expr} {l : Nat} {env : PySem.Env} (h : isComp e = none) : swapsWith e t l env = pure false := by
  unfold swapsWith
  cases e <;> first | rfl | simp [isComp] at h
theorem sole_no {e tg : Expr} {l : Nat} {env : PySem.Env} (h : isComp e = none) : swapsWithSole [tg] e l env = pure false := sw_no h
/-- the value of a list comprehension goes to that name at once -/
def swOn (sc : Scope) (tg e : Expr) : Bool := match tg, e with
  | .Name y py, .ListComp _ _ scope pos => decide (sc.names.lookup y = some .local) && (py.line == pos.line) && !(scope.names.any fun (n, k) => n == y && (k == .local || k == .cell))
  | _, _ => false
end L3
end

section -- I20
set_option autoImplicit false
set_option linter.all false
set_option maxRecDepth 100000
set_option maxHeartbeats 4000000
namespace L3
open PySem PySem.Spec PyProof.Rows L2 GxR

def noSD : Expr → Bool | .SetComp .. => false | .DictComp .. => false | _ => true
theorem sw_on {e tg : Expr} {l : Nat} {env : PySem.Env} (hk : env.scope.kind = .function) (h : noSD e = true) : swapsWith e (some tg) l env = pure (swOn env.scope tg e) := by
  have hb : env.blockKind = .function := by unfold Env.blockKind; rw [hk]; rfl
  cases e with
  | ListComp elt gs scope pos =>
    unfold swapsWith
    cases tg with
    | Name y py =>
      show (pure (env.blockKind == .function && env.kindOf y == some .local && py.line == pos.line && !(scope.names.any fun (n, k) => n == y && (k == .local || k == .cell))) : Sem Bool) = _
      rw [hb]
      congr 1
      unfold swOn Env.kindOf
      by_cases q : env.scope.names.lookup y = some .local
      · simp [q]
      · have : (env.scope.names.lookup y == some NameKind.local) = false := by simpa using q
        simp [q, this]
    | _ => rfl
  | SetComp _ _ _ _ => simp [noSD] at h
  | DictComp _ _ _ _ _ => simp [noSD] at h
  | _ => cases tg <;> rfl
theorem swN_on {e : Expr} {l : Nat} {env : PySem.Env} (h : isComp e = none) : swapsWith e none l env = pure false := sw_no h

def vAsg : Stmt → Option (Expr × Expr × Pos) | .Assign [t] e p => some (t, e, p) | _ => none
def vAug : Stmt → Option (Str × Operator × Expr) | .AugAssign (.Name x _) o e _ => some (x, o, e) | _ => none
def vExpr : Stmt → Option Expr | .Expr e _ => some e | _ => none
def vRet : Stmt → Option (Option Expr) | .Return e _ => some e | _ => none
def vIf : Stmt → Option (Expr × List Stmt × List Stmt) | .If c a b _ => some (c, a, b) | _ => none
def vWhl : Stmt → Option (Expr × List Stmt) | .While c b [] _ => some (c, b) | _ => none
def vFor : Stmt → Option (Expr × Expr × List Stmt) | .For t i b [] _ => some (t, i, b) | _ => none
def vRaise : Stmt → Option (Str × Str) | .Raise (some (.Call (.Name x _) [.Constant (.str m) _ _] [] _)) none _ => some (x, m) | _ => none
def vTry : Stmt → Option (List Stmt × Str × Stmt × List Stmt) | .Try b [.ExceptHandler (some (.Name x _)) none (s :: r) _] [] [] _ => some (b, x, s, r) | _ => none
def vTryAs : Stmt → Option (List Stmt × Str × Str × Stmt × List Stmt) | .Try b [.ExceptHandler (some (.Name x _)) (some n) (s :: r) _] [] [] _ => some (b, x, n, s, r) | _ => none
def vSub : Expr → Option (Expr × Expr) | .Subscript o i _ => some (o, i) | _ => none
section
variable {s : Stmt}
theorem vAsg_eq {t e : Expr} {p : Pos} (h : vAsg s = some (t, e, p)) : s = .Assign [t] e p := by
  unfold vAsg at h; split at h <;> cases h; rfl
theorem vAug_eq {x : Str} {o : Operator} {e : Expr} (h : vAug s = some (x, o, e)) : ∃ p q, s = .AugAssign (.Name x p) o e q := by
  unfold vAug at h; split at h <;> cases h; exact ⟨_, _, rfl⟩
theorem vExpr_eq {e : Expr} (h : vExpr s = some e) : ∃ p, s = .Expr e p := by
  unfold vExpr at h; split at h <;> cases h; exact ⟨_, rfl⟩
theorem vRet_eq {e : Option Expr} (h : vRet s = some e) : ∃ p, s = .Return e p := by
  unfold vRet at h; split at h <;> cases h; exact ⟨_, rfl⟩
theorem vIf_eq {c : Expr} {a b : List Stmt} (h : vIf s = some (c, a, b)) : ∃ p, s = .If c a b p := by
  unfold vIf at h; split at h <;> cases h; exact ⟨_, rfl⟩
theorem vWhl_eq {c : Expr} {b : List Stmt} (h : vWhl s = some (c, b)) : ∃ p, s = .While c b [] p := by
  unfold vWhl at h; split at h <;> cases h; exact ⟨_, rfl⟩
theorem vFor_eq {t i : Expr} {b : List Stmt} (h : vFor s = some (t, i, b)) : ∃ p, s = .For t i b [] p := by
  unfold vFor at h; split at h <;> cases h; exact ⟨_, rfl⟩
theorem vRaise_eq {x m : Str} (h : vRaise s = some (x, m)) : ∃ p j q r u, s = .Raise (some (.Call (.Name x p) [.Constant (.str m) j q] [] r)) none u := by
  unfold vRaise at h; split at h <;> cases h; exact ⟨_, _, _, _, _, rfl⟩
theorem vTry_eq {b r : List Stmt} {x : Str} {t : Stmt} (h : vTry s = some (b, x, t, r)) : ∃ p q u, s = .Try b [.ExceptHandler (some (.Name x p)) none (t :: r) q] [] [] u := by
  unfold vTry at h; split at h <;> cases h; exact ⟨_, _, _, rfl⟩
theorem vTryAs_eq {b r : List Stmt} {x n : Str} {t : Stmt} (h : vTryAs s = some (b, x, n, t, r)) : ∃ p q u, s = .Try b [.ExceptHandler (some (.Name x p)) (some n) (t :: r) q] [] [] u := by
  unfold vTryAs at h; split at h <;> cases h; exact ⟨_, _, _, rfl⟩
theorem vSub_eq {e o i : Expr} (h : vSub e = some (o, i)) : ∃ p, e = .Subscript o i p := by
  unfold vSub at h; split at h <;> cases h; exact ⟨_, rfl⟩
end
/-- the except suite -/
def okH (h : Suite) (t : Stmt) (r : List Stmt) : Bool := match h, t, r with
  | .pass, .Pass _, [] => true
  | .cont, .Continue _, [] => true
  | .con d, .Return (some (.Constant c _ _)) _, [] => conC c d
  | _, _, _ => false
/-- an except suite that may name the caught exception -/
def okHA (G : GT) (N : List Str) (sc : Scope) (i : Nat) (h : Suite) (t : Stmt) (r : List Stmt) : Bool := match h with
  | .word f => (match t, r with
    | .Return (some (.Call (.Name x _) [.Name y _] [] _)) _, [] => (match glb G sc x with | some (.word f') => decide (f' = f) | _ => false) && (decide (N[i]? = some y) && (decide (sc.names.lookup y = some .local) && (y != ("__debug__" : Str) && y != ("__classdict__" : Str))))
    | _, _ => false)
  | _ => okH h t r
/-- the stores of an assignment in which no comprehension's value goes to the name at once -/
def stC (N : List Str) (sc : Scope) (t : Tg) (x : CE) (tg e : Expr) : Bool := if isTupE e then (if isTL tg then (match tg, e with
    | .Tuple ts _ _, .Tuple vs _ _ => (match swT ts vs sc with
      | none => false
      | some none => true
      | some (some ns) => (match t, x, ts, vs, ns with
        | .tup [.nm i, .nm j], .tup _, [.Name a _, .Name b _], [_, _], [a', b'] => ((decide (a' = a) && decide (b' = b)) && (decide (i ≠ j) && (decide (sc.names.lookup a = some .local) && decide (sc.names.lookup b = some .local))))
        | .tup [.nm i, .nm j, .nm l], .tup _, [.Name a _, .Name b _, .Name c _], [_, _, _], [a', b', c'] => ((decide (a' = a) && (decide (b' = b) && decide (c' = c))) && ((decide (i ≠ j) && (decide (i ≠ l) && decide (j ≠ l))) && (decide (sc.names.lookup a = some .local) && (decide (sc.names.lookup b = some .local) && decide (sc.names.lookup c = some .local)))))
        | _, _, _, _, _ => false))
    | _, _ => false) else true) else true
def isLc : CE → Bool | .lc .. => true | .cell (.lc ..) => true | _ => false
def isPM : Op2 → Bool | .add => true | .sub => true | _ => false
mutual
def okST (G : GT) (N : List Str) (g : Nat) (sc : Scope) : CS → Stmt → Bool
  | .asg t x, s => match vAsg s with
    | some (tg, e, p) => (tgC N sc (fun _ => true) t tg && noSD e) && (okE G N g sc x e && (if swOn sc tg e then (isLc x && (match t with | .nm _ => true | _ => false)) else stC N sc t x tg e))
    | none => false
  | .aug i op x, s => match vAug s with
    | some (y, o, e) => (decide (N[i]? = some y) && (decide (o = op.py) && isPM op)) && ((decide (sc.names.lookup y = some .local) || decide (sc.names.lookup y = some .cell)) && okE G N g sc x e)
    | none => false
  | .put o i x, s => match vAsg s with
    | some (tg, e, p) => match vSub tg with
      | some (o', i') => (plainIx i' && (noSD e && (isComp e).isNone)) && (okE G N g sc x e && (okE G N g sc o o' && okE G N g sc i i'))
      | none => false
    | none => false
  | .expr x, s => match vExpr s with
    | some e => (isComp e).isNone && okE G N g sc x e
    | none => false
  | .ret x, s => match vRet s with
    | some (some e) => okE G N g sc x e
    | _ => false
  | .retN, s => match vRet s with
    | some none => true
    | _ => false
  | .ite c a b, s => match vIf s with
    | some (c', a', b') => okE G N g sc c c' && (okSTs G N g sc a a' && okSTs G N g sc b b')
    | none => false
  | .whl c b, s => match vWhl s with
    | some (c', b') => okE G N g sc c c' && okSTs G N g sc b b'
    | none => false
  | .forr t src b, s => match vFor s with
    | some (tg, it, b') => (tgC N sc (fun _ => true) t tg && notSet it) && (okI G N g sc src tg it && okSTs G N g sc b b')
    | none => false
  | .raise c, s => match vRaise s with
    | some (x, m) => match glb G sc x with
      | some (.cls c') => decide (c' = c)
      | _ => false
    | none => false
  | .tryy b c i h, s => match i with
    | none => match vTry s with
      | some (b', x, t, r) => (match glb G sc x with
        | some (.cls c') => decide (c' = c)
        | _ => false) && (okH h t r && okSTs G N g sc b b')
      | none => false
    | some i => match vTryAs s with
      | some (b', x, n, t, r) => (match glb G sc x with
        | some (.cls c') => decide (c' = c)
        | _ => false) && ((decide (N[i]? = some n) && decide (sc.names.lookup n = some .local)) && (okHA G N sc i h t r && okSTs G N g sc b b'))
      | none => false
  | .pass, s => match s with | .Pass _ => true | _ => false
  | .brk, s => match s with | .Break _ => true | _ => false
  | .cont, s => match s with | .Continue _ => true | _ => false
def okSTs (G : GT) (N : List Str) (g : Nat) (sc : Scope) : List CS → List Stmt → Bool
  | [], [] => true
  | x :: r, s :: t => okST G N g sc x s && okSTs G N g sc r t
  | _, _ => false
end
end L3
end

section -- IH
set_option autoImplicit false
set_option linter.all false
set_option maxRecDepth 100000
set_option maxHeartbeats 4000000
namespace L3
open PySem PySem.Spec PyProof.Rows L2 GxR

section
variable {prog : Program} {w : World} {A : Around} {E : Value → Shared → Prop} {s : Shared}
theorem list_end_hot {it l x1 : Addr} {i : Nat} {items : Array Value} {Q : Option Value → Shared → Prop} (hot : HotX.HotAt A x1 s.heap) (nx : it ≠ x1) (st : s.heap.IsListIter it l i) (hl : s.heap.IsList l items) (hi : items[i]? = none)
    (hQ : ∀ h', Heap.ExtBut it s.heap h' → Q none { s with heap := h' }) : wpAny (model prog w) A (pyNext (.ref it)) Q E s := by
  obtain ⟨oi, ei, ci, di⟩ := id st
  obtain ⟨ol, el, _, nl, dl⟩ := hl
  obtain ⟨hh, o1, vs1, h1, d1, c1⟩ := hot
  unfold pyNext
  refine wpAny_bind (wpAny_attempt (wpAny_callSpecial?_slot (name := Str.ofString "__next__") st.typeIs slot_listiter_next (wpAny_call_entry slot_listiter_next st.typeIs entry_listiter_next ?_ (args_listiter_next _))))
  show wpAny _ _ (field (.ref it) 0 >>= _) _ _ s
  refine wpAny_bind (wpAny_field ei di (x := .ref l) rfl ?_)
  show wpAny _ _ (if (Value.ref l == Value.none) = true then _ else _) _ _ s
  rw [if_neg (show ¬ ((Value.ref l == Value.none) = true) from nofun)]
  show wpAny _ _ (field (.ref it) 1 >>= _) _ _ s
  refine wpAny_bind (wpAny_field ei di (x := .int i 0) rfl ?_)
  show wpAny _ _ (seqItems? (.ref l) >>= _) _ _ s
  refine wpAny_bind (wpAny_seqItems el dl ?_)
  simp only [Int.toNat_natCast, hi]
  refine wpAny_bind (wpAny_rule (wpAny_bind (wpAny_setField ei di (by simp) ?_)))
  show wpAny _ _ (newExc (.type "StopIteration") [] >>= _) _ _ _
  refine wpAny_bind ?_
  simp only [newExc, newTuple]
  refine wpAny_bind (wpAny_newObj_type ?_ (by size_fits))
  refine wpAny_bind (m := firstArgMember _ _) (wpAny_of_eq (a := Value.none) (by first | rfl | (simp only [firstArgMember]; rfl)) ?_)
  refine wpAny_newObj_type ?_ (by size_fits)
  have h1' := (Heap.get?_update_other s.heap (Obj.mapFields (fun x => x.setIfInBounds 0 Value.none)) nx).trans h1
  refine HotX.raiseNew_hot ⟨hh, o1, vs1, Heap.get?_push_of_some _ (Heap.get?_push_of_some _ h1'), d1, c1⟩ (Nat.ne_of_lt (Heap.lt_size (Heap.get?_push_of_some _ h1'))) (Heap.get?_push_size _ rfl) rfl (by first | (simp; done) | (simp; omega) | (simp only [Array.size_append]; simp; omega)) ?_
  refine wpAny_bind (wpAny_isInstance (T := "StopIteration") (b := true) ⟨_, Heap.get?_update_self _ (Heap.get?_push_size _ rfl) rfl, rfl⟩ isSubtype_stop ?_)
  refine wpAny_pure (hQ _ fun b o hb e => ?_)
  have e' := (Heap.get?_update_other s.heap (Obj.mapFields (fun x => x.setIfInBounds 0 Value.none)) (Ne.symm hb)).trans e
  rw [Heap.get?_update_other _ _ (Nat.ne_of_gt (Heap.lt_size (Heap.get?_push_of_some _ e')))]
  exact Heap.get?_push_of_some _ (Heap.get?_push_of_some _ e')
end
section
variable {X : Cx}
/-- [elt for tg in iter if ..] over a list, while the exception p is handled -/
def tLcH (K : Fr) (ti : TE) (g : TG) (tt : TT) (te : TE) (own : List Nat) : TE := fun σ H Q => ti σ H fun x H1 => ∃ (a : Addr) (xs : List V), x = .ref a ∧ SqL K H1 a xs ∧ ∀ B : Addr, H1 B = none → ∃ Iv : Nat → Hp → Prop,
  Iv 0 (upd H1 B (.lst [])) ∧ (∀ i h, Iv i h → SqL K h a xs) ∧ (∀ h, Iv xs.length h → Q (.ref B) h) ∧ ∀ i y h, xs[i]? = some y → Iv i h → g y (L2.wipe σ own) h fun σ2 h2 => L2.wipe σ2 own = L2.wipe σ own ∧ tt σ2 h2 fun b h3 =>
    if b = true then te σ2 h3 fun z h4 => ∃ acc, h4 B = some (.lst acc) ∧ acc.length < sizeLine ∧ Iv (i + 1) (upd h4 B (.lst (acc ++ [z]))) else Iv (i + 1) h3
theorem pe_lcH {p : Addr × Obj} (hot : L2H.Hot1 X.A p) (hp : p ∈ X.pn) {elt tg iter : Expr} {ifs : List Expr} {scope : Scope} {own : List (Str × Nat)} {pos : Pos} {ti : TE} {g : TG} {tt : TT} {te : TE} (nd : X.N.Nodup) (hi : PE X iter ti) (ok : BlkOk X.N X.env.scope scope own)
    (hg : ∀ (s0 : Shared) (H0 : Hp) (C : Addr) (ce : List (Str × Addr)) (fp : List Addr), PG (X.blk s0 H0 scope (compEnvC scope ce C X.env) fp) tg g) (ht : ∀ (s0 : Shared) (H0 : Hp) (C : Addr) (ce : List (Str × Addr)) (fp : List Addr), PTs (X.blk s0 H0 scope (compEnvC scope ce C X.env) fp) ifs tt)
    (he : ∀ (s0 : Shared) (H0 : Hp) (C : Addr) (ce : List (Str × Addr)) (fp : List Addr), PE (X.blk s0 H0 scope (compEnvC scope ce C X.env) fp) elt te) (hs : ∀ x, foldedSetIterable iter X.env x = pure x) (hgo : ∀ (v u : Value), letOwnedTupleGo tg v u = pure ()) :
    PE X (.ListComp elt [⟨tg, iter, ifs, 0⟩] scope pos) (tLcH X.K ti g tt te (own.map (·.2))) := by
  refine ⟨fun pins s σ H Q I h => ?_⟩
  rw [eval_ListComp]
  have frees : ∀ y ∈ scope.names, y.2 = .free → ∃ c, X.env.cells.lookup y.1 = some c := fun y hy e => (ok.free y hy e).elim (fun k => I.ok.has _ (.inl k)) fun k => I.ok.has _ (.inr k)
  refine wpAny_comprehension_free (use := none) rfl hs (closure_ok frees) ok.kind (fun y hy e => by rw [ok.uniq y hy, e]) (thn (hi.run pins s σ H _ I h) fun xv s1 hx => ?_)
  obtain ⟨x, H1, I1, r1, a, xs, rfl, hq, q⟩ := hx
  cases r1
  obtain ⟨its, rv, pl, hz⟩ := I1.list hq
  refine wpAny_pyIter_list pl.isList ?_
  -- the iterator, then the new list, then the block's names
  generalize hit : s1.heap.objs.size = it
  generalize hs2 : ({ s1 with heap := s1.heap.push { cls := .type "list_iterator", data := .fields #[.ref a, .int 0 0] } } : Shared) = s2
  have k2 : ∀ b o, s1.heap.get? b = some o → s2.heap.get? b = some o := fun b o e => by rw [← hs2]; exact Heap.get?_push_of_some _ e
  have I2 : Inv X pins σ H1 s2 := by
    rw [← hs2]
    exact I1.kept (t' := s1.toks) fun b o e => Heap.get?_push_of_some _ e
  have st2 : s2.heap.IsListIter it a 0 := by
    rw [← hs2, ← hit]
    exact ⟨_, Heap.get?_push_size _ rfl, rfl, rfl⟩
  have f2 : FpOk X pins H1 it := by
    rw [← hit]
    exact I1.fpOk (Nat.le_refl _) (I1.hok.fresh (Nat.le_refl _))
  have sz2 : it < s2.heap.objs.size := by obtain ⟨o, e, _⟩ := id st2; exact Heap.lt_size e
  refine wpAny_newObj_type (newEnv_comp ?_) (by show 0 ≤ sizeLine; decide)
  generalize hB : s2.heap.objs.size = B
  have nB : H1 B = none := I2.hok.fresh (Nat.le_of_eq hB)
  obtain ⟨Iv, iv0, ivL, ivE, step⟩ := q B nB
  generalize hs3 : ({ s2 with heap := s2.heap.push { cls := .type "list", data := .seq ([] : List Value).toArray } } : Shared) = s3
  have h3 : s3.heap = s2.heap.push { cls := .type "list", data := .seq ([] : List Value).toArray } := by rw [← hs3]
  have k3 : ∀ b o, s2.heap.get? b = some o → s3.heap.get? b = some o := fun b o e => by rw [h3]; exact Heap.get?_push_of_some _ e
  have I3 : Inv X pins σ (upd H1 B (.lst [])) s3 := by
    rw [← hs3]
    refine I2.laid (t' := s2.toks) (fun b o e => Heap.get?_push_of_some _ e) (Nat.le_of_eq hB) ⟨Nat.zero_le _, [], 0, .nil, ?_⟩
    rw [← hB]
    exact Heap.get?_push_size _ rfl
  have f3 : FpOk X pins (upd H1 B (.lst [])) it ∧ it < s3.heap.objs.size := by
    refine ⟨⟨?_, f2.2⟩, by rw [h3, Heap.size_push]; exact Nat.lt_succ_of_lt sz2⟩
    rw [upd_ne (by rw [← hB]; exact Nat.ne_of_lt sz2)]
    exact f2.1
  have st3 : s3.heap.IsListIter it a 0 := st2.at fun o e => k3 it o e
  have I4 := block_start I3 ok nd (fp := [it]) fun b hb => by rw [List.mem_singleton.mp hb]; exact f3
  have pg := hg s3 (upd H1 B (.lst [])) s3.heap.objs.size (cellsFrom (s3.heap.objs.size + 1) scope.names (cloFrom X.env.cells scope.names [])) [it]
  have pt := ht s3 (upd H1 B (.lst [])) s3.heap.objs.size (cellsFrom (s3.heap.objs.size + 1) scope.names (cloFrom X.env.cells scope.names [])) [it]
  have pe := he s3 (upd H1 B (.lst [])) s3.heap.objs.size (cellsFrom (s3.heap.objs.size + 1) scope.names (cloFrom X.env.cells scope.names [])) [it]
  have P3 := I3.pin p (List.mem_append_left _ hp)
  show codeAny _ _ (.compStart (.ListComp elt [⟨tg, iter, ifs, 0⟩] scope pos) 0 (.ref it) (.ref B) (compEnvC scope (cellsFrom (s3.heap.objs.size + 1) scope.names (cloFrom X.env.cells scope.names [])) s3.heap.objs.size X.env)) (compPost (model X.prog X.w) X.A X.xe none (EP X pins σ Q) (.ref B) s3.heap.objs.size) { s3 with heap := pushCells (s3.heap.push { cls := .type "dict", data := .dict #[] }) scope.names }
  generalize hce : compEnvC scope (cellsFrom (s3.heap.objs.size + 1) scope.names (cloFrom X.env.cells scope.names [])) s3.heap.objs.size X.env = ce at I4 pg pt pe ⊢
  have cL : ce.locals = s3.heap.objs.size := by subst hce; rfl
  generalize hH3 : upd H1 B (.lst []) = H3 at I3 I4 pg pt pe iv0 f3 P3
  generalize hs4 : ({ s3 with heap := pushCells (s3.heap.push { cls := .type "dict", data := .dict #[] }) scope.names } : Shared) = s4 at I4 ⊢
  have k4 : ∀ b o, s3.heap.get? b = some o → s4.heap.get? b = some o := fun b o e => by rw [← hs4]; exact pushCells_keeps _ _ _ _ (Heap.get?_push_of_some _ e)
  have st4 : s4.heap.IsListIter it a 0 := st3.at fun o e => k4 it o e
  -- the handled exception is pinned in the block, too
  have pinB : ∀ {σ' : L2.St} {H' : Hp} {s' : Shared} {pl : List (Addr × Obj)}, Inv (X.blk s3 H3 scope ce [it]) pl σ' H' s' → s'.heap.get? p.1 = some p.2 → H' p.1 = none → Inv (X.blk s3 H3 scope ce [it]) [p] σ' H' s' := fun {σ' H' s' pl} J e n => by
    refine J.pins_of fun q hq => ?_
    rw [List.mem_singleton.mp hq]
    refine ⟨e, n, ?_, ?_, P3.2.2.2.2⟩
    · show p.1 ≠ ce.locals
      rw [cL]
      exact Nat.ne_of_lt (Heap.lt_size P3.1)
    · exact fun hm => (List.mem_cons.mp (I3.stkSub p.1 hm)).elim P3.2.2.1 P3.2.2.2.1
  have I5 := pinB I4 (k4 _ _ P3.1) P3.2.1
  have nit : it ≠ p.1 := fun e => f3.1.2.2.2.2.2 p (List.mem_append_left _ hp) e.symm
  have hotA : ∀ {σ' : L2.St} {H' : Hp} {s' : Shared}, Inv (X.blk s3 H3 scope ce [it]) [p] σ' H' s' → HotX.HotAt X.A p.1 s'.heap := fun {σ' H' s'} J => by
    obtain ⟨hh, v1, e1, c1⟩ := hot
    exact ⟨hh, p.2, v1, (J.pin p (List.mem_append_right _ (List.mem_singleton.mpr rfl))).1, e1, c1⟩
  have fpB : ∀ {σ' : L2.St} {H' : Hp} {s' : Shared}, Inv (X.blk s3 H3 scope ce [it]) [p] σ' H' s' → H' it = none → FpOk (X.blk s3 H3 scope ce [it]) [p] H' it := fun {σ' H' s'} J n =>
    ⟨n, (J.ok.exf it (List.mem_singleton.mpr rfl)).1, J.ok.exfs it (List.mem_singleton.mpr rfl), .inl (List.mem_singleton.mpr rfl), fun x c e => (J.ok.exf it (List.mem_singleton.mpr rfl)).2 x c e, fun q hq => by
      have : q = p := by simpa using (show q ∈ ([] : List (Addr × Obj)) ++ [p] from hq)
      rw [this]; exact Ne.symm nit⟩
  have loop : codeAny (model X.prog X.w) X.A (.compLoop (.ListComp elt [⟨tg, iter, ifs, 0⟩] scope pos) 0 (.ref it) (.ref B) ce) (compPost (model X.prog X.w) X.A X.xe none (EP X pins σ Q) (.ref B) s3.heap.objs.size) s4 := by
    refine compLoop_any (fun n s' => ∃ i H', n = xs.length - i ∧ i ≤ xs.length ∧ Inv (X.blk s3 H3 scope ce [it]) [p] (L2.wipe σ (own.map (·.2))) H' s' ∧ s'.heap.IsListIter it a i ∧ H' it = none ∧ Iv i H') ?_ xs.length ⟨0, H3, by simp, Nat.zero_le _, I5, st4, f3.1.1, iv0⟩
    rintro n s5 ⟨i, H5, rfl, hil, J5, st5, n5, iv5⟩
    obtain ⟨its5, rv5, pl5, hz5⟩ := J5.list (ivL i H5 iv5)
    have f5 := fpB J5 n5
    have hl5 := rv5.length
    by_cases hlt : i < xs.length
    · have hy : xs[i]? = some xs[i] := by simp [hlt]
      obtain ⟨u, hu, ru⟩ := rv5.get hy
      refine wpAny_pyNext_list_item st5 pl5.isList (x := u) (by simpa using hu) fun h6 st6 sb => ?_
      have J6 : Inv (X.blk s3 H3 scope ce [it]) [p] (L2.wipe σ (own.map (·.2))) H5 { s5 with heap := h6 } := J5.turned (t' := s5.toks) (fun b o hb e => (sb.2 b hb).trans e) f5.1 f5.2.1 f5.2.2.2.1 f5.2.2.2.2.1 f5.2.2.2.2.2
      show wpAny _ _ (letOwnedTupleGo tg (.ref it) u) _ _ _
      rw [hgo]
      refine wpAny_pure ?_
      -- the iterator is pinned, too, while the turn runs
      obtain ⟨o6, e6, c6, d6⟩ := id st6
      have J7 := J6.pinned (fp := [it]) (fun b hb => by rw [List.mem_singleton.mp hb]; exact fpB J6 n5) fun b hb => by rw [List.mem_singleton.mp hb]; exact ⟨o6, e6, fun v z => by rw [d6] at z; cases z⟩
      refine thnF (pg.run _ _ _ H5 _ u _ J7 ru (step i _ H5 hy iv5)) fun _ s8 ⟨σ8, H8, J8, hw8, q8⟩ => ?_
      refine thnF (pt.run _ s8 σ8 H8 _ J8 q8) fun b s9 ⟨H9, J9, q9⟩ => ?_
      have fin : ∀ {s' : Shared} {H' : Hp}, Inv (X.blk s3 H3 scope ce [it]) ([p] ++ pinsAt [it] h6) σ8 H' s' → Iv (i + 1) H' → ∃ m, m < xs.length - i ∧ ∃ i H', m = xs.length - i ∧ i ≤ xs.length ∧ Inv (X.blk s3 H3 scope ce [it]) [p] (L2.wipe σ (own.map (·.2))) H' s' ∧ s'.heap.IsListIter it a i ∧ H' it = none ∧ Iv i H' := fun {s' H'} J' iv => by
        have pit := J'.pin (it, o6) (List.mem_append_right _ (List.mem_append_right _ (mem_pinsAt (List.mem_singleton.mpr rfl) e6)))
        have hl : (L2.wipe σ (own.map (·.2))).length = σ8.length := by rw [← hw8, L2.wipe_length]
        refine ⟨xs.length - (i + 1), by omega, i + 1, H', rfl, hlt, (J'.unpinned (pins := [p])).weak hl (fun j v e => ?_), ⟨o6, pit.1, c6, d6⟩, pit.2.1, iv⟩
        rw [← hw8] at e
        exact (L2.wipe_some e).1
      cases b with
      | false =>
        simp only [Bool.false_eq_true, if_false] at q9 ⊢
        exact fin J9 q9
      | true =>
        simp only [if_true] at q9 ⊢
        exact thnF (pe.run _ s9 σ8 H9 _ J9 q9) fun z s10 ⟨yv, H10, J10, r10, acc, hB10, hz10, iv10⟩ => app_ok (X := X.blk s3 H3 scope ce [it]) J10 hB10 hz10 r10 fun s11 J11 => fin J11 iv10
    · have he : i = xs.length := by omega
      subst he
      refine list_end_hot (hotA J5) nit st5 pl5.isList (by simp; omega) fun h6 eb => ?_
      have J6 : Inv (X.blk s3 H3 scope ce [it]) [p] (L2.wipe σ (own.map (·.2))) H5 { s5 with heap := h6 } := J5.turned (t' := s5.toks) (fun b o hb e => eb b o hb e) f5.1 f5.2.1 f5.2.2.2.1 f5.2.2.2.2.1 f5.2.2.2.2.2
      have I7 : Inv X pins σ H5 { s5 with heap := h6 } := I3.call' (ch := [it]) J6.os J6.base J6.hok J6.bare fun b hb => by
        rw [List.mem_singleton.mp hb]
        exact ⟨f3.1.2.2.2.1, f3.1.2.1, f3.1.2.2.2.2.1, f3.1.2.2.2.2.2⟩
      have nC : H5 s3.heap.objs.size = none := by
        have z : H5 ce.locals = none := J6.free
        rw [cL] at z
        exact z
      obtain ⟨m, hn, _⟩ := J6.loc
      have hn : h6.Ns ce.locals m := hn
      rw [cL] at hn
      refine ⟨m, hn, fun h'' sb => ?_⟩
      obtain ⟨f0, f1, f2, f3, f4, f5⟩ := I3.fpOk (H' := H5) (Nat.le_refl _) nC
      exact ⟨.ref B, H5, I7.turned (t' := s5.toks) (fun b o hb e => (sb.2 b hb).trans e) f0 f1 f3 f4 f5, rfl, ivE H5 iv5⟩
  exact codeAny_compStart_list loop (wpAny_pyIter_listiter st4 loop)
end
end L3
end

section -- IW
set_option autoImplicit false
set_option linter.all false
set_option maxRecDepth 100000
set_option maxHeartbeats 4000000
namespace L3
open PySem PySem.Spec PyProof.Rows L2 GxR

section
variable {X : Cx} {G : GT} {cl : XC} {sc : Scope} {en : Str} {a : Addr} {oe : Obj} {k : Nat}
theorem call_isP {C : Addr} (E : ExcC X.K C) (hp : (a, oe) ∈ X.pn) (hz : Zc (.ref C) none oe) (hf : ∃ vs, oe.data = .fields vs) : CallR X (.builtin "isinstance") (rIsE X.K C a) := by
  intro pins s σ H xs us Q I r h
  obtain ⟨c, cv, b, rfl, hcv, e, q⟩ := h
  cases r with
  | cons r1 rr =>
    cases rr with
    | cons r2 rr =>
      cases rr
      cases r1
      have ec := hcv _ r2
      subst ec
      obtain ⟨hget, _⟩ := I.pin (a, oe) (List.mem_append_left _ hp)
      obtain ⟨vs, hv⟩ := hf
      have J : PySem.W.InstAt s.heap a oe C none := by
        obtain ⟨oc, od, oda, osl⟩ := oe
        obtain ⟨z1, z2⟩ := hz
        dsimp only at z1 z2 hv
        subst z1 z2 hv
        exact ⟨hget, rfl, rfl, trivial⟩
      exact PySem.W.kia_one (PySem.W.handS_kitx_exc E.hg E.hk E.hs E.hd E.ha E.hn E.ht E.hm) I.kIn J e (fun z => nomatch z) fun tk => ⟨.bl b, H, I.kept (t' := tk) fun _ _ z => z, rfl, q⟩
def tIs (a : Addr) (b : Bool) : TE := fun σ H Q => σ[0]? = some (some (.ref a)) ∧ Q (.bl b) H
theorem isiC_eq {c : Nat} {e : Expr} (wk : WordK X.K cl) (hk : k ≤ 5) (h1 : 1 ≤ c) (h5 : c ≤ 5) (esc : X.env.scope = sc) (hN : X.N[0]? = some en) (hv : sc.names.lookup en = some .local) (hd : (en == ("__debug__" : Str)) = false) (hcd : (en == ("__classdict__" : Str)) = false)
    (blt : ∀ x, G.lookup x = some .blt → X.mg x = none) (cls : ∀ x c, G.lookup x = some (.cls c) → X.mg x = some (cl c)) (hp : (a, oe) ∈ X.pn) (hz : Zc (cl k) none oe) (hf : ∃ vs, oe.data = .fields vs) (h : isiC G sc en c e = true) : PE X e (tIs a (k == c)) := by
  unfold isiC at h
  split at h
  · rename_i x p1 y p2 cn p3 p4
    simp only [Bool.and_eq_true, decide_eq_true_eq] at h
    obtain ⟨⟨rfl, g1⟩, rfl, g2⟩ := h
    split at g2
    · rename_i k' hg
      simp only [decide_eq_true_eq] at g2
      subst g2
      obtain ⟨n1, n2, n3, n4⟩ := glb_eq (isBlt_eq g1)
      obtain ⟨m1, m2, m3, m4⟩ := glb_eq hg
      obtain ⟨C, hC, E⟩ := wk.ex k hk
      obtain ⟨C2, hC2, _⟩ := wk.ex k' h5
      rw [hC] at hz
      have hm := cls _ _ m4
      refine PE.imp (pe_callB (call_isP E hp hz hf) (by show X.env.scope.names.lookup _ = _; rw [esc]; exact n1) (blt _ n4) isi_boot (pa_cons (pe_var hN (.inl (by rw [esc]; exact hv)) hd hcd) (pa_cons (pe_glob (v := .ref C2) (by show X.env.scope.names.lookup _ = _; rw [esc]; exact m1) hm (by rw [hC2]; rfl) m2) pa_nil)) n3 n2 rfl rfl) fun σ H Q h => ?_
      obtain ⟨h0, q⟩ := h
      refine ⟨_, h0, .ref C2, cl k', k == k', rfl, fun u ru => ?_, ?_, q⟩
      · rw [hC2]; exact ru
      · have := wk.is k k' hk h1 h5
        rw [hC] at this
        exact this
    · cases g2
  · cases h
theorem wStr_eq {z : List Nat} {e : Expr} (h : wStr z e = true) : PE X e (tC (.str (toS z))) := by
  unfold wStr at h
  split at h
  · simp only [beq_iff_eq] at h
    rw [← h, toS_toList]
    exact pe_str
  · cases h
/-- a heap with new objects alone -/
def Newer (H H' : Hp) : Prop := ∀ (K : Fr) (Ps : List Addr) (ρ : Rh) (s : S), Good K Ps ρ none H s → Ext K ρ H s ρ H' s ∧ Good K Ps ρ none H' s
theorem Newer.refl {H : Hp} : Newer H H := fun _ _ _ _ g => ⟨Ext.refl, g⟩
theorem Newer.new {H H1 : Hp} {b : Addr} {o : HO} (n : Newer H H1) (h : H1 b = none) : Newer H (upd H1 b o) := fun K Ps ρ s g => by
  obtain ⟨e, g1⟩ := n K Ps ρ s g
  exact ⟨e.trans (Ext.new h), g1.new h⟩
theorem word_pss {N : List Str} {body : List Stmt} (hN : X.N = N) (nd : N.Nodup) (esc : X.env.scope = sc) (fk : sc.kind = .function) (fn : ∀ x, X.fn x = true) (wk : WordK X.K cl) (hk : k ≤ 5) (hot : L2H.Hot1 X.A (a, oe)) (hp : (a, oe) ∈ X.pn) (hz : Zc (cl k) none oe)
    (hf : ∃ vs, oe.data = .fields vs) (blt : ∀ x, G.lookup x = some .blt → X.mg x = none) (cls : ∀ x c, G.lookup x = some (.cls c) → X.mg x = some (cl c)) (h : wordB G N sc body = true) :
    PSs X body (fun D σ H => σ[0]? = some (some (.ref a)) ∧ σ.length = 3 ∧ ∀ H', Newer H H' → D.rt (.str (toS (wordX k))) H') := by
  unfold wordB at h
  split at h
  · rename_i en kn on kn1 q1 c1 c2 c3 c4 c5 q2 q3 ln q4 o1 q5 o2 q6 kn2 q7 o3 q8 bs q9 q10 j1 q11 q12 s0 q13 q14 s1 s2 s3 s4 s5 q15 kn3 q19 ap j2 q16 cp q17 q18
    simp only [Bool.and_eq_true, decide_eq_true_eq, bne_iff_ne, ne_eq] at h
    obtain ⟨hl, ⟨⟨hc1, hc2, hc3, hc4, hc5⟩, hs0, hs1, hs2, hs3, hs4, hs5⟩, ⟨⟨rfl, gl⟩, rfl, rfl, rfl, rfl, rfl, rfl⟩, ⟨hve, hvk⟩, ⟨hb, ⟨hvo, hbk⟩, hbo⟩, ⟨d1, d2, d3⟩, e1, e2, e3⟩ := h
    have v0 : X.N[0]? = some en := by rw [hN]; rfl
    have v1 : X.N[1]? = some kn3 := by rw [hN]; rfl
    have v2 : X.N[2]? = some o3 := by rw [hN]; rfl
    have ndX : X.N.Nodup := by rw [hN]; exact nd
    have fkX : X.env.scope.kind = .function := by rw [esc]; exact fk
    have db1 : (kn3 == ("__debug__" : Str)) = false := by simpa using d2
    have db2 : (kn3 == ("__classdict__" : Str)) = false := by simpa using e2
    have db3 : (o3 == ("__debug__" : Str)) = false := by simpa using d3
    have db4 : (o3 == ("__classdict__" : Str)) = false := by simpa using e3
    have I : ∀ {c : Nat} {e : Expr}, 1 ≤ c → c ≤ 5 → isiC G sc en c e = true → PE X e (tIs a (k == c)) := fun c1 c5 hc => isiC_eq wk hk c1 c5 esc v0 hve (by simpa using d1) (by simpa using e1) blt cls hp hz hf hc
    have lN : Loc X.env.scope kn3 := .inl (by rw [esc]; exact hvk)
    obtain ⟨n1, n2, n3, n4⟩ := glb_eq (isBlt_eq gl)
    have st1 : ∀ {tp : Pos} {e : Expr}, isiC G sc en 1 e = true → e = e := fun _ => rfl
    have noS : ∀ {c : Nat} {e : Expr}, isiC G sc en c e = true → notStar e = true := fun hc => by
      unfold isiC at hc
      split at hc
      · rfl
      · cases hc
    have noW : ∀ {z : List Nat} {e : Expr}, wStr z e = true → notStar e = true := fun hc => by
      unfold wStr at hc
      split at hc
      · rfl
      · cases hc
    have pL := pe_lst (pa_cons (I (c := 1) (by decide) (by decide) hc1) (pa_cons (I (c := 2) (by decide) (by decide) hc2) (pa_cons (I (c := 3) (by decide) (by decide) hc3) (pa_cons (I (c := 4) (by decide) (by decide) hc4) (pa_cons (I (c := 5) (by decide) (by decide) hc5) pa_nil (star_cons (noS hc5))) (star_cons (noS hc4))) (star_cons (noS hc3))) (star_cons (noS hc2))) (star_cons (noS hc1))) (pos := q2)
    have p1 := ps_set (pos := q3) (pos' := q1) ndX v1 lN pL (by rw [sw_on fkX rfl]; rfl) (.inl (fn _))
    have ho : ∀ (s0 : Shared) (H0 : Hp) (C : Addr) (ce : List (Str × Addr)) (fp : List Addr), (X.blk s0 H0 bs (compEnvC bs ce C X.env) fp).env.scope.names.lookup o3 = some .local := fun s0 H0 C ce fp => lookup_relS_keep (sc := X.env.scope) (by decide) hvo
    have lc := pe_lcH (pos := q9) (tg := .Name o3 q6) (elt := .Name o3 q5) (iter := .Name kn3 q7) (ifs := [.Name o3 q8]) (own := [(o3, 2)]) hot hp ndX (pe_var (pos := q7) v1 (.inl (by rw [esc]; exact hvk)) db1 db2) (blkOk_by (by rw [hN, esc]; exact hb))
      (fun s0 H0 C ce fp => pg_name (X := X.blk s0 H0 bs (compEnvC bs ce C X.env) fp) (i := 2) ndX v2 (.inl (ho s0 H0 C ce fp)) (.inr (ho s0 H0 C ce fp)))
      (fun s0 H0 C ce fp => pts_one (pt_val (pe_var (X := X.blk s0 H0 bs (compEnvC bs ce C X.env) fp) (i := 2) v2 (.inl (ho s0 H0 C ce fp)) db3 db4)))
      (fun s0 H0 C ce fp => pe_var (X := X.blk s0 H0 bs (compEnvC bs ce C X.env) fp) (i := 2) v2 (.inl (ho s0 H0 C ce fp)) db3 db4) (fun _ => rfl) (fun _ _ => rfl)
    have p2 := ps_if (pos := q14) (pt_cmpR (pos := q12) op_ne (pe_callB (p := q4) (pos := q10) call_len (by show X.env.scope.names.lookup _ = _; rw [esc]; exact n1) (blt _ n4) (bi_boot .len rfl) (pa_cons lc pa_nil) n3 n2 rfl rfl) (pe_int (i := 1) (j := j1) (pos := q11)) rfl) (pss_one (ps_ret (wStr_eq hs0) (pos := q13))) pss_nil
    have p3 := ps_ret (pos := q18) (pe_ix (pos := q17) ix_seq (pe_lst (pos := q15) (pa_cons (wStr_eq hs1) (pa_cons (wStr_eq hs2) (pa_cons (wStr_eq hs3) (pa_cons (wStr_eq hs4) (pa_cons (wStr_eq hs5) pa_nil (star_cons (noW hs5))) (star_cons (noW hs4))) (star_cons (noW hs3))) (star_cons (noW hs2))) (star_cons (noW hs1))))
      (pe_bm (apos := ap) (cpos := cp) PySem.F.plainAttrs_list PySem.F.slot_list_index PySem.F.type_list_index mt_index (pe_var (pos := q19) v1 (.inl (by rw [esc]; exact hvk)) db1 db2) (pa_cons (pe_bl (b := true) (j := j2) (pos := q16)) pa_nil) rfl rfl hl rfl rfl) (fun _ _ => rfl))
    refine ⟨fun pins s σ H D J q => (pss_cons p1 (pss_cons p2 (pss_one p3))).run pins s σ H D J ?_⟩
    obtain ⟨h0, hl, q⟩ := q
    refine ⟨h0, h0, h0, h0, h0, by show 5 ≤ sizeLine; decide, fun p np => ?_⟩
    have wk5 : k = 0 ∨ k = 1 ∨ k = 2 ∨ k = 3 ∨ k = 4 ∨ k = 5 := by omega
    generalize hbs : [V.bl (k == 1), V.bl (k == 2), V.bl (k == 3), V.bl (k == 4), V.bl (k == 5)] = vs
    have hlen : vs.length = 5 := by rw [← hbs]; rfl
    have gs : ∀ {σ : L2.St} {u : V}, σ.length = 3 → (σ.set 1 (some u))[1]? = some (some u) := fun {σ u} h => by rw [List.getElem?_set_self (by omega)]
    show tSeq _ _ _ (σ.set 1 (some (V.ref p))) (upd H p (.lst vs))
    have s1 := gs (u := V.ref p) hl
    -- the comprehension: what is true of the five
    let flt : Nat → List V := fun i => (vs.take i).filter fun v => decide (v = V.bl true)
    have fl5 : ∀ i, (flt i).length ≤ 5 := fun i => by
      have := List.length_filter_le (fun v => decide (v = V.bl true)) (vs.take i)
      rw [List.length_take] at this
      show ((vs.take i).filter fun v => decide (v = V.bl true)).length ≤ 5
      omega
    have z5 : 5 < sizeLine := by decide
    have npB : ∀ {B : Addr}, (upd H p (.lst vs)) B = none → p ≠ B := fun nB e => by rw [← e, upd_same] at nB; cases nB
    refine ⟨V.ref p, s1, p, vs, rfl, .inl (.inl upd_same), fun B nB => ⟨fun i h => h = upd (upd H p (.lst vs)) B (.lst (flt i)), rfl, ?_, ?_, ?_⟩⟩
    · rintro i h rfl
      refine .inl (.inl ?_)
      rw [upd_ne (npB nB), upd_same]
    · rintro h rfl
      have nw : Newer H (upd (upd H p (.lst vs)) B (.lst (flt vs.length))) := (Newer.refl.new np).new nB
      refine ⟨V.ref B, (flt vs.length).length, rfl, .inl ⟨_, .inl (.inl upd_same), rfl⟩, rfl, _, rfl, ?_⟩
      have hpv : (upd (upd H p (.lst vs)) B (.lst (flt vs.length))) p = some (.lst vs) := by rw [upd_ne (npB nB), upd_same]
      have fin : ∀ {j : Nat}, j < 5 → vs[j]? = some (V.bl true) → (∀ m z, m < j → vs[m]? = some z → eqV z (V.bl true) = false) → (∀ i, [V.str (toS (wordX 1)), .str (toS (wordX 2)), .str (toS (wordX 3)), .str (toS (wordX 4)), .str (toS (wordX 5))][j]? = some i → i = V.str (toS (wordX k))) → vs.all flatV = true →
          tRet (tOp (L2.rIx X.K) (tLst (tCons (tC (V.str (toS (wordX 1)))) (tCons (tC (V.str (toS (wordX 2)))) (tCons (tC (V.str (toS (wordX 3)))) (tCons (tC (V.str (toS (wordX 4)))) (tCons (tC (V.str (toS (wordX 5)))) tNil)))))) (tBM X.K "list" (rIndex X.K) (tVar 1) (tCons (tC (V.bl true)) tNil))) D (σ.set 1 (some (V.ref p))) (upd (upd H p (.lst vs)) B (.lst (flt vs.length))) := fun {j} hj h1 h2 h3 h4 => by
        have z6 : 5 ≤ sizeLine := by decide
        refine ⟨z6, fun C nC => ?_⟩
        have npC : p ≠ C := fun e => by rw [← e, hpv] at nC; cases nC
        have hp3 : ∀ u, (upd (upd (upd H p (.lst vs)) B (.lst (flt vs.length))) C u) p = some (.lst vs) := fun u => by rw [upd_ne npC, hpv]
        refine ⟨V.ref p, s1, .inl ⟨rfl, vs, .inl (.inl (hp3 _))⟩, p, vs, V.bl true, j, V.bl true, rfl, rfl, .inl (.inl (hp3 _)), rfl, h4, h1, rfl, h2, ?_⟩
        have hj5 : ∃ v, [V.str (toS (wordX 1)), .str (toS (wordX 2)), .str (toS (wordX 3)), .str (toS (wordX 4)), .str (toS (wordX 5))][j]? = some v := ⟨_, List.getElem?_eq_getElem hj⟩
        obtain ⟨v, hv⟩ := hj5
        have ev := h3 v hv
        subst ev
        refine .inl ⟨C, _, (j : Int), _, rfl, rfl, .inl (.inl upd_same), ?_, q _ (nw.new nC)⟩
        rw [L2.atI_nat]
        exact hv
      rcases wk5 with rfl | rfl | rfl | rfl | rfl | rfl
      · subst hbs
        exact q _ nw
      · subst hbs
        exact fin (j := 0) (by decide) rfl (fun m z h => absurd h (by omega)) (fun i h => by cases h; rfl) rfl
      · subst hbs
        exact fin (j := 1) (by decide) rfl (fun m z h e => by (obtain rfl : m = 0 := by omega); cases e; rfl) (fun i h => by cases h; rfl) rfl
      · subst hbs
        refine fin (j := 2) (by decide) rfl (fun m z h e => ?_) (fun i h => by cases h; rfl) rfl
        (obtain rfl | rfl : m = 0 ∨ m = 1 := by omega) <;> (cases e; rfl)
      · subst hbs
        refine fin (j := 3) (by decide) rfl (fun m z h e => ?_) (fun i h => by cases h; rfl) rfl
        (obtain rfl | rfl | rfl : m = 0 ∨ m = 1 ∨ m = 2 := by omega) <;> (cases e; rfl)
      · subst hbs
        refine fin (j := 4) (by decide) rfl (fun m z h e => ?_) (fun i h => by cases h; rfl) rfl
        (obtain rfl | rfl | rfl | rfl : m = 0 ∨ m = 1 ∨ m = 2 ∨ m = 3 := by omega) <;> (cases e; rfl)
    · rintro i y h hy rfl
      obtain ⟨b, rfl⟩ : ∃ b, y = V.bl b := by
        have := List.mem_of_getElem? hy
        rw [← hbs] at this
        simp only [List.mem_cons, List.not_mem_nil, or_false] at this
        rcases this with rfl | rfl | rfl | rfl | rfl <;> exact ⟨_, rfl⟩
      have e1 : flt (i + 1) = flt i ++ if b = true then [V.bl b] else [] := by
        show (vs.take (i + 1)).filter _ = (vs.take i).filter _ ++ _
        rw [List.take_add_one, List.filter_append, hy]
        cases b <;> simp
      have hl2 : (L2.wipe (σ.set 1 (some (V.ref p))) (List.map (fun x => x.snd) [(o3, 2)])).length = 3 := by rw [L2.wipe_length, List.length_set, hl]
      have g2 : ((L2.wipe (σ.set 1 (some (V.ref p))) (List.map (fun x => x.snd) [(o3, 2)])).set 2 (some (V.bl b)))[2]? = some (some (V.bl b)) := by rw [List.getElem?_set_self (by omega)]
      refine ⟨?_, V.bl b, g2, b, rfl, ?_⟩
      · show L2.wipe _ [2] = L2.wipe _ [2]
        simp [L2.wipe]
      · cases b with
        | false =>
          rw [if_neg (by simp)]
          show upd _ _ _ = upd _ _ (.lst (flt (i + 1)))
          rw [e1]; simp
        | true =>
          rw [if_pos rfl]
          refine ⟨V.bl true, g2, flt i, upd_same, by have := fl5 i; omega, ?_⟩
          show upd _ _ _ = upd _ _ (.lst (flt (i + 1)))
          rw [upd_upd, e1]; rfl
  · cases h
theorem pe_word {x y : Str} {i : Nat} {q p2 pos : Pos} (W : WordF X.K X.mg cl G x) (hg : Gl X x) (hdb : (x == ("__debug__" : Str)) = false) (hot : L2H.Hot1 X.A (a, oe)) (hp : (a, oe) ∈ X.pn) (hz : Zc (cl k) none oe) (hf : ∃ vs, oe.data = .fields vs) (hk : k ≤ 5)
    (hr : L2H.RoomH 1 X.A) (hN : X.N[i]? = some y) (hv : Vis X.env.scope y) (hd : (y == ("__debug__" : Str)) = false) (hcd : (y == ("__classdict__" : Str)) = false) :
    PE X (.Call (.Name x q) [.Name y p2] [] pos) (fun σ H Q => σ[i]? = some (some (.ref a)) ∧ ∀ H', Newer H H' → Q (.str (toS (wordX k))) H') := by
  obtain ⟨⟨f, fd, ps, N, name, qual, params, body, scope, kws, hm, kp, hb, F, S, lp, lN, wb⟩, wk, blt, cls⟩ := W
  refine ⟨fun pins s σ H Q I ⟨h0, qq⟩ => ?_⟩
  refine wpAny_Call_Name_kw (ld_glob I hg hm ?_ hdb)
  have ha : PA X [.Name y p2] (tCons (tVar i) tNil) := pa_cons (pe_var hN hv hd hcd) pa_nil
  refine PySem.W.callWith_K (h₀ := X.base) I.ok.mod.kin kp (thn (ha.run pos pins s σ H (fun vs H1 => vs = [V.ref a] ∧ H1 = H) I ⟨_, h0, rfl, rfl⟩) fun us s1 ⟨vs, H1, I1, r, ev, eH⟩ => ⟨I1.kIn, ?_⟩) rfl rfl
  subst ev eH
  cases r with
  | cons r1 rr =>
    cases rr
    cases r1
    -- the def's own run
    have P1 := I1.pin (a, oe) (List.mem_append_left _ hp)
    have hpin : L2H.PinOk X.stack H1 s1 (a, oe) := ⟨P1.1, P1.2.1, fun hm => (List.mem_cons.mp (I1.stkSub a hm)).elim P1.2.2.1 P1.2.2.2.1, P1.2.2.2.2⟩
    obtain ⟨oc, od, dV, kV, doc, pm, an, cdv, ct, osl, rfl, lk, hcd2, _, _⟩ := F.ex
    have b := hb s1 [.ref a] I1.kIn (by rw [List.append_nil]; simp [lp])
    rw [List.append_nil] at b
    have e0 := I1.env0
    have lim : s1.heap.NoLimit := I1.nolimit
    have vals : Vals [V.ref a] [Value.ref a] := .cons rfl .nil
    have hkind : ∀ z ∈ ps.zip [Value.ref a], scope.names.lookup z.1 = some .local ∨ (scope.names.lookup z.1 = some .cell ∧ ((cellsFrom (s1.heap.objs.size + 1) scope.names []).lookup z.1).isSome = true) := fun ⟨n, v⟩ hz => (S.par n (List.of_mem_zip hz).1).elim .inl fun e => .inr ⟨e, PySem.W.cellsFrom_some _ _ _ (.inl e)⟩
    have key : codeAny (model X.prog X.w) X.A (.call (.ref f) ⟨[.ref a], []⟩) (CR (L2N.CX X.prog X.w) X.stack X.prog X.w H1 s1 Q (fun _ _ _ => False)) s1 := by
      refine codeAny_call_function hr.depth (I1.kIn _ _ lk) rfl S.co S.gen rfl (PySem.W.codeRec_of I1.kIn hcd2) (b _ _ _ _ ?_)
      refine wpAny_newFunctionEnv_cells S.kind hkind fun env he s2 xx => ?_
      subst he
      refine ⟨lim.keeps xx.toInCall.keep, codeAny_func ?_⟩
      have J := L2H.inv_startH (CX := L2N.CX X.prog X.w) (P := X.prog) (w := X.w) (K := X.K) (mg := X.mg) (base := X.base) (A := X.A) (E := fun _ _ _ => False) (f := f) S hpin e0 (by simp [lp]) vals xx
      have B := word_pss (X := L2H.cxH (L2N.CX X.prog X.w) X.prog X.w X.K X.mg X.base N qual scope f cdv X.A X.stack s1 H1 (fun _ _ _ => False) (a, oe)) (cl := cl) (sc := scope) rfl S.nd rfl S.kind (fun _ => rfl) wk hk hot (List.mem_singleton.mpr rfl) hz hf blt cls wb
      have hst : L2.start N [V.ref a] = some (V.ref a) :: List.replicate (N.length - 1) none := rfl
      refine wpAny_mono (B.run [] s2 (L2.start N [V.ref a]) H1 { nx := fun _ H' => Q .non H', rt := Q } J ⟨by rw [hst]; rfl, by rw [hst]; simp [lN], fun H' nw => qq H' nw⟩) (fun fl s' hs => ?_) fun e s' hs => hs
      have fin : ∀ {σ' : L2.St} {H' : Hp} {v : V} {u : Value}, Inv (L2H.cxH (L2N.CX X.prog X.w) X.prog X.w X.K X.mg X.base N qual scope f cdv X.A X.stack s1 H1 (fun _ _ _ => False) (a, oe)) [] σ' H' s' → RelV v u → Q v H' → L2.CE X.stack X.prog X.w H1 s1 Q u s' := fun {σ' H' v u} J' rv q =>
        ⟨v, H', J'.os, J'.bare, J'.base, J'.hok, rv, q⟩
      cases fl with
      | ret u =>
        obtain ⟨v, σ', H', J', rv, q⟩ := hs
        exact fin J' rv q
      | next =>
        obtain ⟨σ', H', J', q⟩ := hs
        exact fin (v := V.non) (u := Value.none) J' rfl q
      | brk => exact (hs.elim fun _ h => h.elim fun _ h => h.2).elim
      | cont => exact (hs.elim fun _ h => h.elim fun _ h => h.2).elim
    refine wpAny_call (codeAny_mono key fun r s' hq => ?_)
    cases r with
    | error e =>
      obtain ⟨_, _, _, _, _, _, _, _, _, _, _, _, h⟩ := (show L2N.CX X.prog X.w X.stack H1 s1 (fun _ _ _ => False) e s' from hq)
      exact h.elim
    | ok fl =>
      cases fl with
      | ret u => exact I1.after hq
      | next => exact (show False from hq).elim
      | brk => exact (show False from hq).elim
      | cont => exact (show False from hq).elim
end
end L3
end

section -- I21
set_option autoImplicit false
set_option linter.all false
set_option maxRecDepth 100000
set_option maxHeartbeats 4000000
namespace L3
open PySem PySem.Spec PyProof.Rows L2 GxR

def conV : Const → V
  | .none => .non
  | .bool b => .bl b
  | .int i => .int i
  | .str s => .str s
  | _ => .non
theorem conV_rel {c : Const} {d : D} (h : conC c d = true) : (∀ xs, d ≠ .lv true xs) ∧ ∀ (K : Fr) ρ n x H, Rel K ρ n x H d (conV c) := by
  cases c <;> cases d <;> simp [conC] at h
  · exact ⟨by simp, fun _ _ _ _ _ => .non⟩
  · subst h; exact ⟨by simp, fun _ _ _ _ _ => .bl _⟩
  · subst h; exact ⟨by simp, fun _ _ _ _ _ => .int _⟩
  · subst h
    refine ⟨by simp, fun K ρ n x H => ?_⟩
    have := Rel.str (K := K) (ρ := ρ) (n := n) (x := x) (H := H) (‹Str›.cps.toList)
    rw [toS_toList] at this
    exact this
theorem conV_eq {c : Const} {d : D} (h : conC c d = true) {X : Cx} {j : Nat} {p : Pos} : PE X (.Constant c j p) (tC (conV c)) := by
  cases c <;> cases d <;> simp [conC] at h
  · exact pe_non
  · exact pe_bl
  · exact pe_int
  · exact pe_str
/-- the reading of an except suite -/
def tSu (v : V) : Suite → TS
  | .pass => tNext
  | .cont => tCont
  | .con d => tRet (tC v)
  | .word _ => fun _ _ _ => False
def suV : List Stmt → V
  | [.Return (some (.Constant c _ _)) _] => conV c
  | _ => .non
theorem okH_eq {h : Suite} {t : Stmt} {r : List Stmt} (hh : okH h t r = true) (X : Cx) : PSs X (t :: r) (tSu (suV (t :: r)) h) := by
  unfold okH at hh
  split at hh
  · exact pss_one ps_pass
  · exact pss_one ps_continue
  · exact pss_one (ps_ret (conV_eq hh))
  · cases hh
theorem okH_rel {d : D} {t : Stmt} {r : List Stmt} (hh : okH (.con d) t r = true) : (∀ xs, d ≠ .lv true xs) ∧ ∀ (K : Fr) ρ n x H, Rel K ρ n x H d (suV (t :: r)) := by
  unfold okH at hh
  split at hh
  · rename_i h; cases h
  · rename_i h; cases h
  · rename_i h; cases h; exact conV_rel hh
  · cases hh
def fTry (c : Nat) (i : Option Nat) (h : Suite) (fb : Env → S → F) : Env → S → F := fun e s => match fb e s with
      | .ex k e' s' => if k ≤ 5 then (if subX k c then (match suite h k e' s' with
          | .nx e s => .nx (clr i e) s
          | .ct e s => .ct (clr i e) s
          | f => f) else .ex k e' s') else .bad
      | f => f
section
variable {X : Cx} {Ps : List Addr} {cl : XC} {W : WX} {b suite : List Stmt} {b₀ : Stmt} {x n : Str} {c : Nat} {fb : Env → S → F} {h : Suite} {np pos pos' : Pos}
theorem s_try (hs : X.stack = X.env :: X.outer) (hf : X.env.frame = some X.env.locals) (hc : Names X x (cl c)) (tk : L2N.Takes X W) (hex : ∀ k, k ≤ 5 → PySem.W.exmOne X.K (cl k) (cl c) = some (subX k c))
    (hb : ∀ (W : WX) (pn : List (Addr × Obj)) (xe : Value → Shared → Prop), L2N.Takes (X.tr pn xe) W → PassesOwn (model X.prog X.w) X.A X.env xe → SS1 (X.tr pn xe) Ps cl W b fb) (hsu : okH h b₀ suite = true) :
    S1 X Ps cl W (.Try b [.ExceptHandler (some (.Name x np)) none (b₀ :: suite) pos'] [] [] pos) (fTry c none h fb) := by
  refine PS.imp (L2N.ps_try_many (tb := fun W => TXS X.K Ps cl W fb) (l := [(cl c, fun _ _ _ => tSu (suV (b₀ :: suite)) h)]) hs hf tk hb (.cons hc (fun _ _ _ _ _ _ _ => okH_eq hsu _) .nil)) fun Dn σ H ⟨ρ, e, s, g, er, p⟩ => ⟨ρ, e, s, g, er, ?_⟩
  unfold fTry at p
  cases q : fb e s with
  | nx e' s' => rw [q] at p; exact p
  | bk e' s' => rw [q] at p; exact p
  | ct e' s' => rw [q] at p; exact p
  | rt d s' => rw [q] at p; exact p
  | bad => rw [q] at p; exact p
  | ex k e' s' =>
    rw [q] at p
    dsimp only at p
    split at p
    · rename_i hk
      intro ρ' H' σ' x' g' er'
      refine ⟨subX k c, hex k hk, fun hsub a ha => ?_, fun hsub => ?_⟩
      · rw [if_pos hsub] at p
        cases h with
        | pass => exact p ρ' H' σ' x' g' er'
        | cont => exact p ρ' H' σ' x' g' er'
        | con d =>
          obtain ⟨q1, q2⟩ := okH_rel hsu
          exact p ρ' H' _ x' (.of q1 g' (q2 _ _ _ _ _))
        | word f => exact (by simp [okH] at hsu : False).elim
      · rw [if_neg (by rw [hsub]; simp)] at p
        exact p ρ' H' σ' x' g' er'
    · exact p.elim
theorem s_tryAs {i : Nat} (hs : X.stack = X.env :: X.outer) (hf : X.env.frame = some X.env.locals) (hN : X.N.Nodup) (hi : X.N[i]? = some n) (hln : X.env.kindOf n = some .local) (hc : Names X x (cl c)) (tk : L2N.Takes X W) (hex : ∀ k, k ≤ 5 → PySem.W.exmOne X.K (cl k) (cl c) = some (subX k c))
    (hb : ∀ (W : WX) (pn : List (Addr × Obj)) (xe : Value → Shared → Prop), L2N.Takes (X.tr pn xe) W → PassesOwn (model X.prog X.w) X.A X.env xe → SS1 (X.tr pn xe) Ps cl W b fb) (hsu : okH h b₀ suite = true) :
    S1 X Ps cl W (.Try b [.ExceptHandler (some (.Name x np)) (some n) (b₀ :: suite) pos'] [] [] pos) (fTry c (some i) h fb) := by
  refine PS.imp (L2N.ps_try_as (tb := fun W => TXS X.K Ps cl W fb) (ts := fun _ _ _ => tSu (suV (b₀ :: suite)) h) hs hf hN hi hln hc tk hb (fun _ _ _ _ _ _ _ => okH_eq hsu _)) fun Dn σ H ⟨ρ, e, s, g, er, p⟩ => ⟨ρ, e, s, g, er, ?_⟩
  unfold fTry at p
  cases q : fb e s with
  | nx e' s' => rw [q] at p; exact p
  | bk e' s' => rw [q] at p; exact p
  | ct e' s' => rw [q] at p; exact p
  | rt d s' => rw [q] at p; exact p
  | bad => rw [q] at p; exact p
  | ex k e' s' =>
    rw [q] at p
    dsimp only at p
    split at p
    · rename_i hk
      intro ρ' H' σ' x' g' er'
      have erc : ∀ o, EnvRel X.K ρ' s'.n H' ((σ'.set i o).set i none) (e'.set i none) := fun o => by
        rw [List.set_set]; exact er'.setN none
      refine ⟨subX k c, hex k hk, fun hsub a ha => ?_, fun hsub => ?_⟩
      · rw [if_pos hsub] at p
        cases h with
        | pass => exact p ρ' H' _ x' g' (erc _)
        | cont => exact p ρ' H' _ x' g' (erc _)
        | con d =>
          obtain ⟨q1, q2⟩ := okH_rel hsu
          exact p ρ' H' _ x' (.of q1 g' (q2 _ _ _ _ _))
        | word f => exact (by simp [okH] at hsu : False).elim
      · rw [if_neg (by rw [hsub]; simp)] at p
        exact p ρ' H' σ' x' g' er'
    · exact p.elim
/-- except C as n: return w(n) -/
theorem s_tryAsW {G : GT} {i : Nat} {w : Str} {q p2 p3 p4 : Pos} {f : Nat} (hs : X.stack = X.env :: X.outer) (hf : X.env.frame = some X.env.locals) (nd : X.N.Nodup) (hi : X.N[i]? = some n) (hln : X.env.kindOf n = some .local) (hc : Names X x (cl c)) (tk : L2N.Takes X W)
    (hex : ∀ k, k ≤ 5 → PySem.W.exmOne X.K (cl k) (cl c) = some (subX k c)) (hb : ∀ (W : WX) (pn : List (Addr × Obj)) (xe : Value → Shared → Prop), L2N.Takes (X.tr pn xe) W → PassesOwn (model X.prog X.w) X.A X.env xe → SS1 (X.tr pn xe) Ps cl W b fb)
    (F : WordF X.K X.mg cl G w) (hg : Gl X w) (d1 : (w == ("__debug__" : Str)) = false) (d2 : (n == ("__debug__" : Str)) = false) (d3 : (n == ("__classdict__" : Str)) = false) (rm : L2H.RoomH 1 X.A) :
    S1 X Ps cl W (.Try b [.ExceptHandler (some (.Name x np)) (some n) [.Return (some (.Call (.Name w q) [.Name n p2] [] p3)) p4] pos'] [] [] pos) (fTry c (some i) (.word f) fb) := by
  refine PS.imp (L2N.ps_try_as (tb := fun W => TXS X.K Ps cl W fb) (ts := fun a u d => fun D σ H => ∃ (k : Nat) (σ0 : L2.St), k ≤ 5 ∧ u = cl k ∧ d = none ∧ σ = σ0.set i (some (.ref a)) ∧ ∀ H', Newer H H' → D.rt (.str (toS (wordX k))) H') hs hf nd hi hln hc tk hb (fun a oe u d pn hz hfd => ?_))
    fun Dn σ H ⟨ρ, e, s, g, er, p⟩ => ⟨ρ, e, s, g, er, ?_⟩
  · refine ⟨fun pins s σ H D I ⟨k, σ0, hk, e1, e2, e3, qq⟩ => ?_⟩
    subst e1 e2 e3
    obtain ⟨vs, hv⟩ := hfd
    have hot : L2H.Hot1 (X.suite a ((a, oe) :: pn)).A (a, oe) := ⟨rfl, vs, hv, hz.2.2 vs hv⟩
    refine (pss_one (ps_ret (pe_word (X := X.suite a ((a, oe) :: pn)) (i := i) F hg d1 hot List.mem_cons_self hz.zc ⟨vs, hv⟩ hk ⟨rm.dp, rm.un⟩ hi (.inl hln) d2 d3))).run pins s (σ0.set i (some (.ref a))) H D I ⟨?_, qq⟩
    have hl := I.len
    rw [List.length_set] at hl
    rw [List.getElem?_set_self (by rw [hl]; exact (List.getElem?_eq_some_iff.mp hi).1)]
  · unfold fTry at p
    cases q : fb e s with
    | nx e' s' => rw [q] at p; exact p
    | bk e' s' => rw [q] at p; exact p
    | ct e' s' => rw [q] at p; exact p
    | rt d s' => rw [q] at p; exact p
    | bad => rw [q] at p; exact p
    | ex k e' s' =>
      rw [q] at p
      dsimp only at p
      split at p
      · rename_i hk
        intro ρ' H' σ' x' g' er'
        refine ⟨subX k c, hex k hk, fun hsub a ha => ?_, fun hsub => ?_⟩
        · rw [if_pos hsub] at p
          refine ⟨k, σ', hk, rfl, rfl, rfl, fun H'' nw => ?_⟩
          obtain ⟨x2, g2⟩ := nw X.K Ps ρ' s' g'
          exact p ρ' H'' _ (x'.trans x2) (.of (by simp) g2 (.str _))
        · rw [if_neg (by rw [hsub]; simp)] at p
          exact p ρ' H' σ' x' g' er'
      · exact p.elim
end

/-- the context of a def's statements -/
structure Oks (X : Cx) (Ps : List Addr) (cl : XC) (W : WX) (G : GT) (N : List Str) (g k : Nat) (sc : Scope) (fs : Nat → List D → S → R D) : Prop extends Okx X Ps cl W G N g k sc fs where
  fn : ∀ x, X.fn x = true
  kind : sc.kind = .function
  po : PassesOwn (model X.prog X.w) X.A X.env X.xe
  stk : X.stack = X.env :: X.outer
  frm : X.env.frame = some X.env.locals
  rm : Room 1 X.A
section
variable {X : Cx} {Ps : List Addr} {cl : XC} {W : WX} {G : GT} {N : List Str} {g k : Nat} {sc : Scope} {fs : Nat → List D → S → R D}
theorem Oks.tr (o : Oks X Ps cl W G N g k sc fs) {W' : WX} {pn : List (Addr × Obj)} {xe : Value → Shared → Prop} (tk : L2N.Takes (X.tr pn xe) W') (po : PassesOwn (model X.prog X.w) X.A X.env xe) : Oks (X.tr pn xe) Ps cl W' G N g k sc fs where
  nN := o.nN
  nd := o.nd
  calm := o.calm
  esc := o.esc
  room := o.room
  tk := tk
  gl := ⟨fun x i m h => ⟨(o.gl.fn x i m h).ex, (o.gl.fn x i m h).ar⟩, o.gl.con, o.gl.blt, o.gl.cls, o.gl.dic, o.gl.exm, o.gl.word⟩
  gen := o.gen
  fn := o.fn
  kind := o.kind
  po := po
  stk := o.stk
  frm := o.frm
  rm := o.rm
theorem Oks.names (o : Oks X Ps cl W G N g k sc fs) {x : Str} {c : Nat} (h : glb G sc x = some (.cls c)) : Names X x (cl c) ∧ ∀ k, k ≤ 5 → PySem.W.exmOne X.K (cl k) (cl c) = some (subX k c) := by
  obtain ⟨h1, h2, h3, h4⟩ := glb_eq h
  obtain ⟨C, _, _, _, _, q1, q2, _⟩ := o.gl.cls x c h4
  exact ⟨⟨by show X.env.scope.names.lookup x = _; rw [o.esc]; exact h1, h2, .inl (by rw [q1]; exact q2)⟩, fun k hk => o.gl.exm x k c hk h4⟩
theorem isTL_view {t : Tg} {tg : Expr} (h : tgC N sc (fun _ => true) t tg = true) (h1 : isTL tg = true) : ∃ ts es k p, t = .tup ts ∧ tg = .Tuple es k p := by
  cases t with
  | nm i => obtain ⟨x, p, rfl, _⟩ := tgC_nm h; simp [isTL] at h1
  | tup ts => obtain ⟨es, k, p, rfl, _⟩ := tgC_tup h; exact ⟨_, _, _, _, rfl, rfl⟩
theorem assignEach_one {tg : Expr} {t : Tg} {env : PySem.Env} (h : tgC N sc (fun _ => true) t tg = true) : (assignEach [tg] env).map (·.2) = [assign tg env] := by
  rw [tgC_plain h]; rfl
theorem plain_sub {b c : Expr} {tp : Pos} {env : PySem.Env} (h : plainIx c = true) : ∀ v, assign (.Subscript b c tp) env v = (do
      let x ← holding [v] (eval b env)
      let y ← holding [v, x] (eval c env)
      standAt tp
      holding [v, x, y] (setItem x y v)
      release [v, x, y] []) := by
  intro v
  cases c <;> first | rfl | simp [plainIx] at h
end
end L3
end

section -- I22
set_option autoImplicit false
set_option linter.all false
set_option maxRecDepth 100000
set_option maxHeartbeats 4000000
namespace L3
open PySem PySem.Spec PyProof.Rows L2 GxR

section
variable {Ps : List Addr} {cl : XC} {G : GT} {N : List Str} {k : Nat} {fs : Nat → List D → S → R D}
section
variable {X : Cx} {W : WX} {g : Nat} {sc : Scope}
/-- a comprehension's value, to a mutable name at once -/
theorem lc_parts {elt : CE} {t : Tg} {src : Src} {ifs : List CE} {own : List Nat} {e : Expr} {y : Str} {py spos : Pos} {i : Nat} (o : Oks X Ps cl W G N g k sc fs) (h : okE G N g sc (.lc elt t src ifs own) e = true)
    (hi : X.N[i]? = some y) (hsw : swapsWith e (some (.Name y py)) spos.line X.env = pure true) (hl : X.env.scope.names.lookup y = some .local) :
    S1 X Ps cl W (.Assign [.Name y py] e spos) (fAsg (.nm i) fun en s => ev fs (.lc elt t src ifs own) en s) ∧
    S1 X Ps cl W (.Assign [.Name y py] e spos) (fAsg (.nm i) fun en s => ev fs (.cell (.lc elt t src ifs own)) en s) := by
  unfold okE at h
  split at h
  · rename_i elt' tg iter ifs' scope hv
    obtain ⟨p, rfl⟩ := vLc_eq hv
    simp only [Bool.and_eq_true] at h
    obtain ⟨⟨h1, h2⟩, ⟨h3, h4⟩, h5, h6, h7⟩ := h
    simp only [ev]
    have hN : X.N.Nodup := by rw [o.nN]; exact o.nd
    have hown : ∀ i ∈ t.names, i ∈ (ownL N own).map (·.2) := by
      rw [ownL_snd]
      simp only [subN, List.all_eq_true] at h2
      intro i hi
      simpa using h2 i hi
    have ob := fun s H C ce fp => o.toOkx.blk s H scope C ce fp
    have r := ps_setLc (te := TX X.K Ps cl WF (fun en s => ev fs elt en s)) (tt := TXB X.K Ps cl WF (fun en s => tests fs ifs en s)) (g := TXG X.K t) (wi := TXI X.K Ps cl W (fun en s => items fs src en s)) (own := ownL N own) o.calm hN hi hl hsw (ok_i src o.toOkx h5) (blkOk_by (by rw [o.nN, o.esc]; exact h1))
      (fun s H C ce fp => g_of (X := X.blk s H scope (compEnvC scope ce C X.env) fp) (by rw [(ob s H C ce fp).nN]; exact o.nd) o.calm (fnb := fun x => scope.names.lookup x == some .cell) (fun x hx => hx) (by rw [(ob s H C ce fp).nN, (ob s H C ce fp).esc]; exact h3))
      (fun s H C ce fp => ok_t ifs (ob s H C ce fp) h6) (fun s H C ce fp => (ok_e elt (ob s H C ce fp) h7).1) (notSet_eq h4)
    rw [ownL_snd] at r hown
    have hlt : ∀ σ : L2.St, σ.length = X.N.length → i < σ.length := fun σ hl => by rw [hl]; exact (List.getElem?_eq_some_iff.mp hi).1
    constructor
    · refine PS.len r fun Dn σ H hl h => ?_
      obtain ⟨ρ, e, s, g, er, p⟩ := h
      refine lc_read hown ⟨ρ, e, s, g, er, PostF.of p g er fun d s1 ρ1 H1 v x1 o er1 p => ?_⟩
      exact gName_read (hlt σ hl) ⟨ρ1, s1.n, d, e, _, o.frz, er1, rfl, fun σ' _ _ er' => p ρ1 H1 σ' Ext.refl o.good er'⟩
    · refine PS.len r fun Dn σ H hl h => ?_
      obtain ⟨ρ, e, s, g, er, p⟩ := h
      have p : PostF X.K Ps ρ H s (F.of (((items fs src e s).bind fun it s => lcI (lcF t own (fun en s => tests fs ifs en s) (fun en s => ev fs elt en s) e) it s).bind fun x s => newCell x s) e fun d s => match asg (.nm i) d e with
          | some e' => .nx e' s
          | none => .bad) Dn fun c σ' H' => W (cl c) none σ' H' := p
      refine lc_read hown ⟨ρ, e, s, g, er, ?_⟩
      show Post X.K Ps ρ H s ((items fs src e s).bind fun it s => lcI (lcF t own (fun en s => tests fs ifs en s) (fun en s => ev fs elt en s) e) it s) _ _
      cases q : (items fs src e s).bind fun it s => lcI (lcF t own (fun en s => tests fs ifs en s) (fun en s => ev fs elt en s) e) it s with
      | bad => rw [q] at p; exact p
      | exc c s' => rw [q] at p; exact fun ρ' H' x g' => p ρ' H' σ x g' (er.ext g x)
      | ok d s' =>
        rw [q] at p
        intro ρ' H' v x1 o1
        simp only [R.bind_ok] at p
        unfold newCell at p
        split at p
        · obtain ⟨ρ2, x2, g2, r2⟩ := okR_cell x1 o1
          simp only [F.of_ok, asg] at p
          have hn : S.n ⟨s'.cells ++ [.lst ‹_›], s'.base, s'.up⟩ = s'.n + 1 := by simp [S.n]
          have er2 := er.ext g x2
          rw [hn] at er2
          exact gName_read (X := X) (hlt σ hl) ⟨ρ2, s'.n + 1, D.ref s'.n, e, e.set i (some (D.ref s'.n)), r2, er2, rfl, fun σ' _ _ er' => p ρ2 H' σ' x2 g2 (by rw [hn]; exact er')⟩
        · exact p.elim
  · cases h
theorem stC_ok {x : CE} {t : Tg} {tg e : Expr} {pos : Pos} (o : Oks X Ps cl W G N g k sc fs) (h1 : tgC N sc (fun _ => true) t tg = true) (h2 : noSD e = true) (h3 : okE G N g sc x e = true) (h4 : swOn sc tg e = false) (h5 : stC N sc t x tg e = true) :
    S1 X Ps cl W (.Assign [tg] e pos) (fAsg t fun en s => ev fs x en s) := by
  have hN : X.N.Nodup := by rw [o.nN]; exact o.nd
  have hk : X.env.scope.kind = .function := by rw [o.esc]; exact o.kind
  have hs : ∀ l, swapsWithSole [tg] e l X.env = pure false := fun l => by
    have := sw_on (tg := tg) (l := l) hk h2
    rw [o.esc, h4] at this
    exact this
  have gen : swappedStores [tg] e X.env = pure none → S1 X Ps cl W (.Assign [tg] e pos) (fAsg t fun en s => ev fs x en s) := fun hw =>
    s_asg (ok_e x o.toOkx h3).1 (g_of hN o.calm (fnb := fun _ => true) (fun x _ => o.fn x) (by rw [o.nN, o.esc]; exact h1)) (hs _) hw (assignEach_one h1)
  unfold stC at h5
  split at h5
  · rename_i he
    split at h5
    · rename_i ht
      split at h5
      · rename_i ts kk pp vs k2 p2
        split at h5
        · cases h5
        · rename_i hsw
          exact gen (swT_eq hk (by rw [o.esc]; exact hsw))
        · rename_i ns hsw
          have hsw' := swT_eq (k := kk) (p := pp) (k2 := k2) (p2 := p2) hk (by rw [o.esc]; exact hsw)
          split at h5
          · rename_i i j xs a pa b pb va vb a' b'
            simp only [Bool.and_eq_true, decide_eq_true_eq] at h5
            obtain ⟨⟨rfl, rfl⟩, hij, ha, hb⟩ := h5
            simp only [tgC, tgsC, Bool.and_eq_true, decide_eq_true_eq, Bool.and_true] at h1
            unfold okE at h3
            simp only [vTup] at h3
            have := s_par (Ps := Ps) (cl := cl) (W := W) (px := pa) (py := pb) (pt := pp) (kt := kk) (k2 := k2) (pt2 := p2) (pos := pos) o.calm hN (by rw [o.nN]; exact h1.1.1) (by rw [o.nN]; exact h1.2.1) hij (by rw [o.esc]; exact ha) (by rw [o.esc]; exact hb) (ok_a xs o.toOkx h3) hsw' (hs _)
            simp only [ev]
            exact this
          · rename_i i j l xs a pa b pb c pc va vb vc a' b' c'
            simp only [Bool.and_eq_true, decide_eq_true_eq] at h5
            obtain ⟨⟨rfl, rfl, rfl⟩, ⟨hij, hil, hjl⟩, ha, hb, hc⟩ := h5
            simp only [tgC, tgsC, Bool.and_eq_true, decide_eq_true_eq, Bool.and_true] at h1
            unfold okE at h3
            simp only [vTup] at h3
            have := s_par3 (Ps := Ps) (cl := cl) (W := W) (px := pa) (py := pb) (pz := pc) (pt := pp) (kt := kk) (k2 := k2) (pt2 := p2) (pos := pos) o.calm hN (by rw [o.nN]; exact h1.1.1) (by rw [o.nN]; exact h1.2.1.1) (by rw [o.nN]; exact h1.2.2.1) hij hil hjl (by rw [o.esc]; exact ha) (by rw [o.esc]; exact hb) (by rw [o.esc]; exact hc) (ok_a xs o.toOkx h3) hsw' (hs _)
            simp only [ev]
            exact this
          · cases h5
      · cases h5
    · rename_i ht
      exact gen (sw_notG (by simpa using ht))
  · rename_i he
    exact gen (sw_notT (by simpa using he))
end
mutual
theorem ok_st : ∀ (cs : CS) {X : Cx} {W : WX} {g : Nat} {sc : Scope} {st : Stmt} {w : Nat}, Oks X Ps cl W G N g k sc fs → okST G N g sc cs st = true → S1 X Ps cl W st fun en s => ex fs w cs en s
  | .asg t x, X, W, g, sc, st, w, o, h => by
    unfold okST at h
    split at h
    · rename_i tg e p hv
      have := vAsg_eq hv
      subst this
      simp only [Bool.and_eq_true] at h
      obtain ⟨⟨h1, h2⟩, h3, h4⟩ := h
      simp only [ex]
      split at h4
      · rename_i hsw
        simp only [Bool.and_eq_true] at h4
        obtain ⟨h4, h5⟩ := h4
        cases t with
        | tup ts => simp at h5
        | nm i =>
          obtain ⟨y, py, rfl, hn, _⟩ := tgC_nm h1
          have hk : X.env.scope.kind = .function := by rw [o.esc]; exact o.kind
          have hs := sw_on (tg := .Name y py) (l := p.line) hk h2
          rw [o.esc, hsw] at hs
          have hl : X.env.scope.names.lookup y = some .local := by
            rw [o.esc]
            unfold swOn at hsw
            split at hsw
            · rename_i q1
              cases q1
              simp only [Bool.and_eq_true, decide_eq_true_eq] at hsw
              exact hsw.1.1
            · cases hsw
          unfold isLc at h4
          split at h4
          · exact (lc_parts o h3 (by rw [o.nN]; exact hn) hs hl).1
          · unfold okE at h3
            exact (lc_parts o h3 (by rw [o.nN]; exact hn) hs hl).2
          · cases h4
      · rename_i hsw
        exact stC_ok o h1 h2 h3 (by simpa using hsw) h4
    · cases h
  | .aug i op x, X, W, g, sc, st, w, o, h => by
    unfold okST at h
    split at h
    · rename_i y op' e hv
      obtain ⟨p, q, rfl⟩ := vAug_eq hv
      simp only [Bool.and_eq_true, Bool.or_eq_true, decide_eq_true_eq] at h
      obtain ⟨⟨h1, rfl, h2⟩, h3, h4⟩ := h
      simp only [ex]
      exact s_aug (by cases op <;> simp [isPM] at h2 <;> simp) (by rw [o.nN]; exact o.nd) (by rw [o.nN]; exact h1) (by rw [o.esc]; exact h3) (.inl (o.fn y)) (ok_e x o.toOkx h4).1
    · cases h
  | .put ob i x, X, W, g, sc, st, w, o, h => by
    unfold okST at h
    split at h
    · rename_i tg e p hv
      have := vAsg_eq hv
      subst this
      split at h
      · rename_i o' i' hs
        obtain ⟨tp, rfl⟩ := vSub_eq hs
        simp only [Bool.and_eq_true, Option.isNone_iff_eq_none] at h
        obtain ⟨⟨h1, h2, h3⟩, h4, h5, h6⟩ := h
        simp only [ex]
        exact s_put (ok_e x o.toOkx h4).1 (ok_e ob o.toOkx h5).1 (ok_e i o.toOkx h6).1 (sole_no h3) (sw_notG rfl) rfl (plain_sub h1)
      · cases h
    · cases h
  | .expr x, X, W, g, sc, st, w, o, h => by
    unfold okST at h
    split at h
    · rename_i e hv
      obtain ⟨p, rfl⟩ := vExpr_eq hv
      simp only [Bool.and_eq_true, Option.isNone_iff_eq_none] at h
      simp only [ex]
      exact s_expr (ok_e x o.toOkx h.2).1 (sw_no h.1)
    · cases h
  | .ret x, X, W, g, sc, st, w, o, h => by
    unfold okST at h
    split at h
    · rename_i e hv
      obtain ⟨p, rfl⟩ := vRet_eq hv
      simp only [ex]
      exact s_ret (ok_e x o.toOkx h).1
    · cases h
  | .retN, X, W, g, sc, st, w, o, h => by
    unfold okST at h
    split at h
    · rename_i hv
      obtain ⟨p, rfl⟩ := vRet_eq hv
      simp only [ex]
      exact s_retN
    · cases h
  | .ite c a b, X, W, g, sc, st, w, o, h => by
    unfold okST at h
    split at h
    · rename_i c' a' b' hv
      obtain ⟨p, rfl⟩ := vIf_eq hv
      simp only [Bool.and_eq_true] at h
      simp only [ex]
      exact s_ite (ok_e c o.toOkx h.1).2.1 (ok_sts a o h.2.1) (ok_sts b o h.2.2)
    · cases h
  | .whl c b, X, W, g, sc, st, w, o, h => by
    unfold okST at h
    split at h
    · rename_i c' b' hv
      obtain ⟨p, rfl⟩ := vWhl_eq hv
      simp only [Bool.and_eq_true] at h
      simp only [ex]
      exact s_whl o.po (ok_e c o.toOkx h.1).2.1 (ok_sts b o h.2)
    · cases h
  | .forr t src b, X, W, g, sc, st, w, o, h => by
    unfold okST at h
    split at h
    · rename_i tg it b' hv
      obtain ⟨p, rfl⟩ := vFor_eq hv
      simp only [Bool.and_eq_true] at h
      obtain ⟨⟨h1, h2⟩, h3, h4⟩ := h
      simp only [ex]
      exact s_for o.po o.calm (ok_i src o.toOkx h3) (g_of (by rw [o.nN]; exact o.nd) o.calm (fnb := fun _ => true) (fun x _ => o.fn x) (by rw [o.nN, o.esc]; exact h1)) (ok_sts b o h4) (notSet_eq h2)
    · cases h
  | .raise c, X, W, g, sc, st, w, o, h => by
    unfold okST at h
    split at h
    · rename_i x m hv
      obtain ⟨p, j, q, r, u, rfl⟩ := vRaise_eq hv
      split at h
      · rename_i c' hg
        simp only [decide_eq_true_eq] at h
        subst h
        obtain ⟨h1, h2, h3, h4⟩ := glb_eq hg
        obtain ⟨C, bmB, B, newId, initId, q1, q2, q3, q4, q5, q6⟩ := o.gl.cls x _ h4
        simp only [ex]
        refine PS.imp (L2N.ps_raise o.calm o.tk (L2N.pmk_own q3 q4 q2 q5 q6 (by show X.env.scope.names.lookup x = _; rw [o.esc]; exact h1) h2)) fun Dn σ H ⟨ρ, e, s, g, er, p⟩ => ?_
        rw [← q1]
        exact p ρ H σ Ext.refl g er
      · cases h
    · cases h
  | .tryy b c none hn, X, W, g, sc, st, w, o, h => by
    unfold okST at h
    dsimp only at h
    split at h
    · rename_i b' x t r hv
      obtain ⟨p, q, u, rfl⟩ := vTry_eq hv
      simp only [Bool.and_eq_true] at h
      obtain ⟨h1, h2, h3⟩ := h
      split at h1
      · rename_i c' hg
        simp only [decide_eq_true_eq] at h1
        subst h1
        obtain ⟨n1, n2⟩ := o.names hg
        simp only [ex]
        exact s_try o.stk o.frm n1 o.tk n2 (fun W' pn xe tk po => ok_sts b (o.tr tk po) h3) h2
      · cases h1
    · cases h
  | .tryy b c (some i) hn, X, W, g, sc, st, w, o, h => by
    unfold okST at h
    dsimp only at h
    split at h
    · rename_i b' x n t r hv
      obtain ⟨p, q, u, rfl⟩ := vTryAs_eq hv
      simp only [Bool.and_eq_true, decide_eq_true_eq] at h
      obtain ⟨h1, ⟨h4, h5⟩, h2, h3⟩ := h
      split at h1
      · rename_i c' hg
        simp only [decide_eq_true_eq] at h1
        subst h1
        obtain ⟨n1, n2⟩ := o.names hg
        simp only [ex]
        unfold okHA at h2
        split at h2
        · split at h2
          · rename_i f x2 q2 y q3 q4 q5
            simp only [Bool.and_eq_true, decide_eq_true_eq, bne_iff_ne, ne_eq] at h2
            obtain ⟨hw, h6, h7, h8, h9⟩ := h2
            split at hw
            · rename_i f' hg2
              obtain ⟨m1, m2, m3, m4⟩ := glb_eq hg2
              have ey : n = y := Option.some.inj (h4.symm.trans h6)
              subst ey
              exact s_tryAsW o.stk o.frm (by rw [o.nN]; exact o.nd) (by rw [o.nN]; exact h4) (by show X.env.scope.names.lookup n = _; rw [o.esc]; exact h5) n1 o.tk n2 (fun W' pn xe tk po => ok_sts b (o.tr tk po) h3) (o.gl.word _ _ m4) (by show X.env.scope.names.lookup _ = _; rw [o.esc]; exact m1) m2 (by simpa using h8) (by simpa using h9) (L2H.roomH_of o.rm)
            · cases hw
          · cases h2
        · exact s_tryAs o.stk o.frm (by rw [o.nN]; exact o.nd) (by rw [o.nN]; exact h4) (by show X.env.scope.names.lookup n = _; rw [o.esc]; exact h5) n1 o.tk n2 (fun W' pn xe tk po => ok_sts b (o.tr tk po) h3) h2
      · cases h1
    · cases h
  | .pass, X, W, g, sc, st, w, o, h => by
    unfold okST at h
    split at h
    · simp only [ex]; exact s_pass
    · cases h
  | .brk, X, W, g, sc, st, w, o, h => by
    unfold okST at h
    split at h
    · simp only [ex]; exact s_brk
    · cases h
  | .cont, X, W, g, sc, st, w, o, h => by
    unfold okST at h
    split at h
    · simp only [ex]; exact s_cont
    · cases h
theorem ok_sts : ∀ (css : List CS) {X : Cx} {W : WX} {g : Nat} {sc : Scope} {sts : List Stmt} {w : Nat}, Oks X Ps cl W G N g k sc fs → okSTs G N g sc css sts = true → SS1 X Ps cl W sts fun en s => exs fs w css en s
  | [], X, W, g, sc, sts, w, o, h => by
    cases sts with
    | nil => simp only [exs]; exact s_nil
    | cons s t => simp [okSTs] at h
  | x :: r, X, W, g, sc, sts, w, o, h => by
    cases sts with
    | nil => simp [okSTs] at h
    | cons s t =>
      unfold okSTs at h
      simp only [Bool.and_eq_true] at h
      simp only [exs]
      exact s_cons (ok_st x o h.1) (ok_sts r o h.2)
end
end
end L3
end

section -- I23
set_option autoImplicit false
set_option linter.all false
set_option maxRecDepth 100000
set_option maxHeartbeats 2000000
namespace L3
open PySem PySem.Spec PyProof.Rows L2 GxR

/-- a def of the text with its small form -/
structure DefE where
  d : He.DefD
  ps : List Str
  N : List Str
  g : Nat
  b : Fn
structure DefOk (G : GT) (e : DefE) : Prop where
  sc : FnScope e.N e.ps e.d.scope
  par : e.b.par = e.ps.length
  len : e.b.par + e.b.more = e.N.length
  chk : okSTs G e.N e.g e.d.scope e.b.body e.d.body = true ∨ (e.b.body = [.brk] ∧ wordB G e.N e.d.scope e.d.body = true)
  g1 : e.g ≤ 1
  bind : ∀ (kV doc pm : Value) (an : Option Addr) (cdv ct : Value) (us : List Value), us.length = e.ps.length → bindArgs (PySem.W.fnOf e.d.name e.d.qual e.d.params e.d.body e.d.scope .none kV doc pm an cdv ct) ⟨us, []⟩ = pure (e.ps.zip us)
/-- the module's names stand for what the table says -/
structure TopOk (K : Fr) (w : World) (mg : Str → Option Value) (base : Heap) (Ps : List Addr) (cl : XC) (G : GT) (defs : List DefE) : Prop where
  fn : ∀ x i m, G.lookup x = some (.fn i m) → ∃ e, defs[i]? = some e ∧ e.ps.length = m ∧ DefOk G e ∧ ∃ A fd kws, mg x = some (.ref A) ∧ FunD K e.d.name e.d.qual e.d.params e.d.body e.d.scope [] kws A fd ∧ (0 < e.g → ∃ c P, fd.code = .ref c ∧ TabB base mg c P ∧ P ∈ Ps)
  con : ∀ x d, G.lookup x = some (.con d) → ∃ v u, mg x = some u ∧ RelV v u ∧ (∀ xs, d ≠ .lv true xs) ∧ ∀ ρ n H, Rel K ρ n none H d v
  blt : ∀ x, G.lookup x = some .blt → mg x = none
  cls : ∀ x c, G.lookup x = some (.cls c) → ∃ (C : Addr) (bmB : List Value) (B newId initId : String), cl c = .ref C ∧ mg x = some (.ref C) ∧ ExcBaseFacts B newId initId bmB ∧ PySem.W.excIn K C bmB newId = true ∧ PySem.W.keepIn K (.ref C) = true ∧ ∀ X : Cx, X.K = K → Raises X (.ref C)
  dic : ∀ x kvs, G.lookup x = some (.dic kvs) → ∃ A, mg x = some (.ref A) ∧ KdK K w A kvs
  exm : ∀ x k c, k ≤ 5 → G.lookup x = some (.cls c) → PySem.W.exmOne K (cl k) (cl c) = some (subX k c)
  word : ∀ x i, G.lookup x = some (.word i) → WordF K mg cl G x
def fnsOf (defs : List DefE) : Array Fn := (defs.map (·.b)).toArray
section
variable {P : Program} {w : World} {K : Fr} {mg : Str → Option Value} {base : Heap} {Ps : List Addr} {cl : XC} {G : GT} {defs : List DefE} {wN : Nat}
theorem env_start {ρ : Rh} {n m : Nat} {H : Hp} {ds : List D} {vs : List V} {N : List Str} (r : RelL K ρ n none H ds vs) : EnvRel K ρ n H (L2.start N vs) (ds.map some ++ List.replicate m none) := fun i d q => by
  have hi : ds[i]? = some d := by
    unfold getV at q
    by_cases hl : i < ds.length
    · rw [List.getElem?_append_left (by simpa using hl), List.getElem?_map, List.getElem?_eq_getElem hl] at q
      simp only [Option.map_some, Option.some.injEq] at q
      rw [List.getElem?_eq_getElem hl, ← q]
    · rw [List.getElem?_append_right (by simpa using hl), List.getElem?_replicate] at q
      split at q
      · rename_i h
        split at h <;> cases h
      · cases q
  obtain ⟨v, h1, h2⟩ := r.get hi
  refine ⟨v, ?_, h2⟩
  unfold L2.start
  have hl : i < vs.length := (List.getElem?_eq_some_iff.mp h1).1
  rw [List.getElem?_append_left (by simpa using hl), List.getElem?_map, h1]
  rfl
theorem fnok {n i m : Nat} {e : DefE} {A : Addr} {fd : FuncData} {kws : List (Str × V)} (ih : ∀ X : Cx, X.prog = P → X.w = w → X.K = K → X.mg = mg → X.base = base → GOk X Ps cl (2 * n) (fun i => calls (fnsOf defs) wN n i) G) (h1 : defs[i]? = some e) (h2 : e.ps.length = m) (ok : DefOk G e)
    (F : FunD K e.d.name e.d.qual e.d.params e.d.body e.d.scope [] kws A fd) (hg : 0 < e.g → ∃ c P, fd.code = .ref c ∧ TabB base mg c P ∧ P ∈ Ps) : FnOk P w K mg base (L2N.CX P w) (2 * (n + 1)) A fd e.ps (spI K Ps cl m fun ds s => calls (fnsOf defs) wN (n + 1) i ds s) := by
  have hf : (fnsOf defs)[i]? = some e.b := by
    unfold fnsOf
    rw [List.getElem?_toArray, List.getElem?_map, h1]
    rfl
  obtain ⟨oc, od, dV, kV, doc, pm, an, cdv, ct, osl, rfl, lk, hcd, _, _⟩ := F.ex
  have := fn_of (CX := L2N.CX P w) (P := P) (w := w) (mg := mg) (base := base) (k := 2 * n + 1) (sp := spI K Ps cl m fun ds s => calls (fnsOf defs) wN (n + 1) i ds s) lk hcd ok.sc (fun vs H Q E q => q.1.trans h2.symm) (fun A' outer s H vs Q E hr q => ?_)
  · exact this
  · obtain ⟨hl, ρ, ds, st, g, r, p⟩ := q
    have hds : ds.length = e.b.par := by rw [r.length, hl, ok.par, h2]
    have O : Oks (cxOf (L2N.CX P w) P w K mg base e.N e.d.qual e.d.scope A cdv A' outer s H E) Ps cl (fun cls d _ H => E cls d H) G e.N e.g (2 * n) e.d.scope (fun i => calls (fnsOf defs) wN n i) := by
      refine { nN := rfl, nd := ok.sc.nd, calm := rfl, esc := rfl, room := hr.mono (by have := ok.g1; omega), tk := L2N.takes_of rfl rfl rfl rfl, gl := ih _ rfl rfl rfl rfl rfl, gen := fun h0 => ?_, fn := fun _ => rfl, kind := ok.sc.kind, po := passes_of rfl, stk := rfl, frm := rfl, rm := hr.mono (by omega) }
      obtain ⟨c, Pt, q1, q2, q3⟩ := hg h0
      exact ⟨c, Pt, q2, q1, q3⟩
    rcases ok.chk with chk | ⟨hb, _⟩
    rotate_left
    · unfold calls at p
      rw [hf] at p
      dsimp only at p
      unfold run at p
      rw [if_pos hds, hb] at p
      simp only [exs, ex] at p
      exact p.elim
    refine ⟨_, ok_sts e.b.body (w := wN) O chk, ρ, ds.map some ++ List.replicate e.b.more none, st.entry, g, env_start r, ?_⟩
    unfold calls at p
    rw [hf] at p
    dsimp only at p
    unfold run at p
    rw [if_pos hds] at p
    show PostF K Ps ρ H st.entry (exs (fun i => calls (fnsOf defs) wN n i) wN e.b.body (ds.map some ++ List.replicate e.b.more none) st.entry) _ _
    cases q : exs (fun i => calls (fnsOf defs) wN n i) wN e.b.body (ds.map some ++ List.replicate e.b.more none) st.entry with
    | nx e' s' => rw [q] at p; exact fun ρ' H' σ' x' g' er' => p ρ' H' .non x' ⟨g', .non⟩
    | rt d s' => rw [q] at p; exact p
    | ex c e' s' => rw [q] at p; exact fun ρ' H' σ' x' g' er' => p ρ' H' x' g'
    | bk e' s' => rw [q] at p; exact p.elim
    | ct e' s' => rw [q] at p; exact p.elim
    | bad => rw [q] at p; exact p.elim
theorem gok (T : TopOk K w mg base Ps cl G defs) : ∀ (n : Nat) (X : Cx), X.prog = P → X.w = w → X.K = K → X.mg = mg → X.base = base → GOk X Ps cl (2 * n) (fun i => calls (fnsOf defs) wN n i) G := by
  intro n
  induction n with
  | zero =>
    intro X e1 e2 e3 e4 e5
    subst e1 e2 e3 e4 e5
    refine ⟨fun x i m h => ?_, T.con, T.blt, fun x c h => ?_, T.dic, T.exm, T.word⟩
    · obtain ⟨e, h1, h2, ok, A, fd, kws, hm, F, _⟩ := T.fn x i m h
      refine ⟨⟨A, fd, e.ps, hm, F.kp, F.bindsN ok.bind, fun vs H Q E q => q.1.trans h2.symm, fun A' outer s H args us vs Q E hr e0 hb r q => ?_⟩, fun ds s _ => rfl⟩
      obtain ⟨_, ρ, ds, st, _, _, p⟩ := q
      exact p.elim
    · obtain ⟨C, bmB, B, n1, n2, q1, q2, q3, q4, q5, q6⟩ := T.cls x c h
      exact ⟨C, bmB, B, n1, n2, q1, q2, q3, q4, q5, q6 X rfl⟩
  | succ n ih =>
    intro X e1 e2 e3 e4 e5
    subst e1 e2 e3 e4 e5
    refine ⟨fun x i m h => ?_, T.con, T.blt, fun x c h => ?_, T.dic, T.exm, T.word⟩
    · obtain ⟨e, h1, h2, ok, A, fd, kws, hm, F, hg⟩ := T.fn x i m h
      refine ⟨⟨A, fd, e.ps, hm, F.kp, F.bindsN ok.bind, fnok ih h1 h2 ok F hg⟩, fun ds s hne => ?_⟩
      have hf : (fnsOf defs)[i]? = some e.b := by
        unfold fnsOf
        rw [List.getElem?_toArray, List.getElem?_map, h1]
        rfl
      unfold calls
      rw [hf]
      dsimp only
      unfold run
      rw [if_neg (by rw [ok.par, h2]; exact hne)]
    · obtain ⟨C, bmB, B, n1, n2, q1, q2, q3, q4, q5, q6⟩ := T.cls x c h
      exact ⟨C, bmB, B, n1, n2, q1, q2, q3, q4, q5, q6 X rfl⟩
end
end L3
end

section -- I24
set_option autoImplicit false
set_option linter.all false
set_option maxRecDepth 100000
set_option maxHeartbeats 2000000
namespace L3
open PySem PySem.Spec PyProof.Rows L2 GxR

mutual
/-- a written constant's object -/
def relDB (K : Fr) : D → Value → Bool
  | .non, .none => true
  | .bl a, .bool b => a == b
  | .int a, .int b _ => decide (a = b)
  | .str a, .str b _ => b.cps.toList == a
  | .tup xs, .ref a => match K.lookup a with
    | some ⟨.type c, _, .seq its _, _⟩ => decide (c = "tuple") && (decide (its.size ≤ sizeLine) && relDBs K xs its.toList)
    | _ => false
  | _, _ => false
def relDBs (K : Fr) : List D → List Value → Bool
  | [], [] => true
  | x :: xs, u :: us => relDB K x u && relDBs K xs us
  | _, _ => false
end
mutual
theorem relDB_ok {K : Fr} : ∀ (d : D) (u : Value), relDB K d u = true → ∃ v, RelV v u ∧ (∀ xs, d ≠ .lv true xs) ∧ ∀ ρ n H, Rel K ρ n none H d v
  | .non, u, h => by
    cases u <;> simp [relDB] at h
    exact ⟨.non, rfl, by simp, fun _ _ _ => .non⟩
  | .bl a, u, h => by
    cases u <;> simp [relDB] at h
    subst h
    exact ⟨.bl _, rfl, by simp, fun _ _ _ => .bl _⟩
  | .int a, u, h => by
    cases u <;> simp [relDB] at h
    subst h
    exact ⟨.int _, ⟨_, rfl⟩, by simp, fun _ _ _ => .int _⟩
  | .str a, u, h => by
    cases u <;> simp [relDB] at h
    subst h
    refine ⟨.str _, ⟨_, rfl⟩, by simp, fun ρ n H => ?_⟩
    have := Rel.str (K := K) (ρ := ρ) (n := n) (x := none) (H := H) (‹Str›.cps.toList)
    rw [toS_toList] at this
    exact this
  | .tup xs, u, h => by
    cases u with
    | ref a =>
      unfold relDB at h
      split at h
      · rename_i q
        simp only [Bool.and_eq_true, decide_eq_true_eq] at h
        obtain ⟨rfl, h2, h3⟩ := h
        obtain ⟨vs, r1, r2⟩ := relDBs_ok xs _ h3
        exact ⟨.ref a, rfl, by simp, fun ρ n H => .tup (.inr ⟨_, _, _, q, rfl, rfl, h2, r1⟩) (r2 ρ n H)⟩
      · cases h
    | _ => simp [relDB] at h
  | .lv o xs, u, h => by cases u <;> simp [relDB] at h
  | .ref n, u, h => by cases u <;> simp [relDB] at h
  | .scr n, u, h => by cases u <;> simp [relDB] at h
theorem relDBs_ok {K : Fr} : ∀ (ds : List D) (us : List Value), relDBs K ds us = true → ∃ vs, Vals vs us ∧ ∀ ρ n H, RelL K ρ n none H ds vs
  | [], us, h => by
    cases us with
    | nil => exact ⟨[], .nil, fun _ _ _ => .nil⟩
    | cons u us => simp [relDBs] at h
  | d :: ds, us, h => by
    cases us with
    | nil => simp [relDBs] at h
    | cons u us =>
      simp only [relDBs, Bool.and_eq_true] at h
      obtain ⟨v, r1, _, r2⟩ := relDB_ok d u h.1
      obtain ⟨vs, r3, r4⟩ := relDBs_ok ds us h.2
      exact ⟨v :: vs, .cons r1 r3, fun ρ n H => .cons (r2 ρ n H) (r4 ρ n H)⟩
end

def clN (G : GT) (c : Nat) : Str := match G.find? (fun p => match p.2 with | .cls c' => c' == c | _ => false) with
  | some p => p.1
  | none => match G.find? (fun p => match p.2 with | .cls c' => c' == 0 | _ => false) with
    | some p => p.1
    | none => ""
def clv (K : Fr) (G : GT) : XC := fun c => .ref (He.ga K (clN G c))
def exmB (K : Fr) (G : GT) (c : Nat) : Bool := (List.range 6).all fun k => decide (PySem.W.exmOne K (clv K G k) (clv K G c) = some (subX k c))
/-- a table's entries are these -/
def dicBs (K : Fr) : List DictEntry → List (List Nat × D) → Bool
  | [], [] => true
  | e :: es, (k, d) :: r => ((match e.key with | .str x _ => x.cps.toList == k | _ => false) && relDB K d e.val) && dicBs K es r
  | _, _ => false
def dicB (K : Fr) (a : Addr) (kvs : List (List Nat × D)) : Bool := match K.lookup a with
  | some ⟨_, _, .dict es _, _⟩ => dicBs K es.toList kvs
  | _ => false
theorem dicBs_ok {K : Fr} : ∀ {es : List DictEntry} {kvs : List (List Nat × D)}, dicBs K es kvs = true → es.any (·.refKey) = false ∧ ∀ z : List Nat, match kvs.lookup z with
    | none => es.find? (·.key.isStr (toS z)) = none
    | some d => ∃ e, es.find? (·.key.isStr (toS z)) = some e ∧ relDB K d e.val = true
  | [], [], _ => ⟨rfl, fun z => rfl⟩
  | e :: es, (k, d) :: r, h => by
    simp only [dicBs, Bool.and_eq_true] at h
    obtain ⟨⟨h1, h2⟩, h3⟩ := h
    obtain ⟨i1, i2⟩ := dicBs_ok h3
    split at h1
    · rename_i x t q
      simp only [beq_iff_eq] at h1
      subst h1
      refine ⟨?_, fun z => ?_⟩
      · rw [List.any_cons, i1]
        simp [DictEntry.refKey, q]
      · have i3 := i2 z
        rw [List.lookup_cons, List.find?_cons]
        have hs : e.key.isStr (toS z) = (z == x.cps.toList) := by
          rw [q]
          show (x == toS z) = _
          rw [Bool.eq_iff_iff]
          simp only [beq_iff_eq]
          constructor
          · intro e; subst e; simp [toS]
          · intro e; rw [e, toS_toList]
        rw [hs]
        cases hz : z == x.cps.toList with
        | true => exact ⟨e, rfl, h2⟩
        | false => exact i3
    · cases h1
  | [], _ :: _, h => by simp [dicBs] at h
  | _ :: _, [], h => by simp [dicBs] at h
theorem kdK_of {K : Fr} {w : World} {a : Addr} {kvs : List (List Nat × D)} {ks : List Str} (h : He.dicW K a = some (He.keysIn w.params ks)) (hb : dicB K a kvs = true) : KdK K w a kvs := by
  obtain ⟨es, n, D⟩ := He.dicW_ok h
  refine ⟨es, n, D, fun z => ?_⟩
  unfold dicB at hb
  rw [D.at_] at hb
  obtain ⟨h1, h2⟩ := dicBs_ok hb
  have h3 := h2 z
  unfold PySem.W.nsIn
  rw [D.at_]
  dsimp only
  cases q : kvs.lookup z with
  | none =>
    rw [q] at h3
    rw [h3, h1]
    exact ⟨none, rfl, rfl⟩
  | some d =>
    rw [q] at h3
    obtain ⟨e, h4, h5⟩ := h3
    rw [h4]
    obtain ⟨v, r1, r2, r3⟩ := relDB_ok d _ h5
    exact ⟨some e.val, rfl, e.val, v, rfl, r1, r2, r3⟩
def dicsOf (G : GT) : List (Str × List (List Nat × D)) := G.filterMap fun p => match p.2 with | .dic kvs => some (p.1, kvs) | _ => none
/-- the exceptions' classes -/
def exB (K : Fr) : Value → Bool
  | .ref C => (decide (PySem.W.findIn K (.ref C) "__getattribute__" = some (some (.builtin "BaseException.__getattribute__"))) && decide (PySem.W.findIn K (.ref C) "__getattr__" = some none)) &&
    ((decide (PySem.W.subIn K (.ref C) (.type "BaseException") = some true) && PySem.W.hasDictIn K C) && ((decide (PySem.W.findIn K (.ref C) "__class__" = some (some (.builtin "object.__class__"))) && decide (PySem.W.specialIn K (.builtin "object.__class__") "__get__" = some (some (.builtin "getset_descriptor.__get__")))) &&
      (decide (PySem.W.takesIn K (.builtin "object.__class__") = some true) && decide (PySem.W.mroIn K C (.type "object") = some true))))
  | _ => false
def wkB (K : Fr) (G : GT) : Bool := (List.range 6).all fun k => exB K (clv K G k) && (List.range 5).all fun c => decide (PySem.W.kitOne K (clv K G k) (clv K G (c + 1)) = some (k == c + 1))
theorem wkB_ok {K : Fr} {G : GT} (h : wkB K G = true) : WordK K (clv K G) := by
  unfold wkB at h
  simp only [List.all_eq_true, Bool.and_eq_true, List.mem_range, decide_eq_true_eq] at h
  refine ⟨fun k hk => ⟨He.ga K (clN G k), rfl, ?_⟩, fun k c hk h1 h5 => ?_⟩
  · have := (h k (by omega)).1
    unfold clv exB at this
    simp only [Bool.and_eq_true, decide_eq_true_eq] at this
    obtain ⟨⟨a1, a2⟩, ⟨a3, a4⟩, ⟨a5, a6⟩, a7, a8⟩ := this
    exact ⟨a1, a2, a3, a4, a5, a6, a7, a8⟩
  · have := (h k (by omega)).2 (c - 1) (by omega)
    rw [show c - 1 + 1 = c by omega] at this
    exact this
def geB (K : Fr) (G : GT) (defs : List DefE) (p : Str × GE) : Bool := match p.2 with
  | .fn i m => (He.Fa.glo p.1).ok K && (match defs[i]? with
    | some e => decide (e.d.at_ = (p.1, none)) && (decide (e.ps.length = m) && (e.d.dfl.isEmpty && e.d.kwd.isEmpty))
    | none => false)
  | .con d => match PySem.W.nsIn K mainGlobals p.1 with
    | some (some u) => relDB K d u
    | _ => false
  | .blt => (He.Fa.free p.1).ok K
  | .dic kvs => (He.Fa.glo p.1).ok K && dicB K (He.ga K p.1) kvs
  | .word i => (He.Fa.glo p.1).ok K && ((match defs[i]? with
    | some e => decide (e.d.at_ = (p.1, none)) && ((decide (e.ps.length = 1) && decide (e.N.length = 3)) && ((e.d.dfl.isEmpty && e.d.kwd.isEmpty) && wordB G e.N e.d.scope e.d.body))
    | none => false) && wkB K G)
  | .cls c => ((He.Fa.glo p.1).ok K && decide (clN G c = p.1)) && ((He.Fa.exc p.1).ok K && exmB K G c)
/-- the code object of a def, its table -/
def tabOf (K : Fr) (x : Str × Option Str) : Option (Addr × Addr) := match K.lookup (He.fAd K x) with
  | some ⟨_, _, .func fd, _⟩ => (match fd.code with
    | .ref c => (match K.lookup c with
      | some ⟨_, _, .fields vs, _⟩ => (match (vs[11]? : Option Value) with
        | some (.ref P) => some (c, P)
        | _ => none)
      | _ => none)
    | _ => none)
  | _ => none
def tabsOf (K : Fr) (defs : List DefE) : List (Addr × Addr) := defs.filterMap fun e => if 0 < e.g then tabOf K e.d.at_ else none
def codeB (K : Fr) (p : Addr × Addr) : Bool := match K.lookup p.1 with
  | some ⟨.type c, _, .fields vs, _⟩ => (decide (c = "code") && decide (vs[11]? = some (.ref p.2))) && ((match vs.getD 18 .none with | .str _ _ => true | _ => false) && ((match vs.getD 7 .none with | .int _ _ => true | _ => false) && ((match vs.getD 9 .none with | .bool _ => true | _ => false) && ((match vs.getD 10 .none with | .int _ _ => true | _ => false) && decide (p.1 ≠ p.2)))))
  | _ => false
def tblB : Option Obj → Bool
  | some ⟨.none, none, .fields vs, sl⟩ => vs.isEmpty && sl.isEmpty
  | _ => false
def chkM (G : GT) (defs : List DefE) (K T : Fr) : Bool := ((G.all (geB K G defs) && defs.all fun e => e.d.ok K) && (defs.all fun e => decide (e.g = 0) || (tabOf K e.d.at_).isSome)) &&
  ((tabsOf K defs).all fun p => (K.lookup p.2).isNone && (codeB K p && tblB (T.lookup p.2)))
abbrev AlM : Type := Bool × (List He.FnW × List (Option (List (Option (Str × Int)))))
def isRec : Option Obj → Bool
  | some ⟨.none, _, .fields _, _⟩ => true
  | _ => false
def frK (n : Nat) (g : Addr → Option Obj) : Fr := He.frG g ((He.asD g n).filter fun a => !isRec (g a))
def obsM (G : GT) (defs : List DefE) (K T : Fr) : AlM := (chkM G defs K T, (defs.map fun e => He.fnW K e.d.at_, (dicsOf G).map fun p => He.dicW K (He.ga K p.1)))
def valM (G : GT) (defs : List DefE) (w : World) : AlM := (true, (defs.map fun e => e.d.val, (dicsOf G).map fun p => some (He.keysIn w.params (p.2.map fun q => toS q.1))))
def obsMG (n : Nat) (G : GT) (defs : List DefE) (g : Addr → Option Obj) : AlM := obsM G defs (frK n g) (He.frG g ((tabsOf (frK n g) defs).map (·.2)))
def hookM (n : Nat) (G : GT) (defs : List DefE) : PySem.W.Hook where
  α := AlM
  obs := fun s => obsMG n G defs s.heap.get?
  val := valM G defs
  says := fun w h => ∃ K T : Fr, K.In h ∧ T.In h ∧ obsM G defs K T = valM G defs w
  of := fun _ _ e => ⟨_, _, He.frG_in, He.frG_in, e⟩
  keeps := fun _ _ _ ⟨K, T, hK, hT, c⟩ k => ⟨K, T, PySem.W.Frag.In.keeps hK k, PySem.W.Frag.In.keeps hT k, c⟩
theorem obsMG_eq {n : Nat} {G : GT} {defs : List DefE} {g : Addr → Option Obj} {s : Shared} (h : ∀ a, g a = s.heap.get? a) : obsMG n G defs g = (hookM n G defs).obs s := by
  have e : g = s.heap.get? := funext h
  rw [e] <;> rfl
section
variable {w : World} {G : GT} {defs : List DefE} {K T : Fr} {h : Heap} {mg : Str → Option Value}
theorem sayM_def (c : obsM G defs K T = valM G defs w) {i : Nat} {e : DefE} (hi : defs[i]? = some e) : ∃ fd, FunD K e.d.name e.d.qual e.d.params e.d.body e.d.scope (e.d.dvs K) (e.d.kws K) (He.fAd K e.d.at_) fd := by
  have c1 : chkM G defs K T = true := congrArg (fun z : AlM => z.1) c
  have c2 : (defs.map fun e => He.fnW K e.d.at_) = defs.map fun e => e.d.val := congrArg (fun z : AlM => z.2.1) c
  have e2 : (defs.map fun e => He.fnW K e.d.at_)[i]? = (defs.map fun e => e.d.val)[i]? := by rw [c2]
  rw [List.getElem?_map, List.getElem?_map, hi] at e2
  unfold chkM at c1
  simp only [Bool.and_eq_true, List.all_eq_true] at c1
  exact He.DefD.funD (Option.some.inj e2) (c1.1.1.2 e (List.mem_of_getElem? hi))
theorem lookup_mem {x : Str} {ge : GE} : ∀ {G : GT}, G.lookup x = some ge → (x, ge) ∈ G := fun h => PySem.mem_of_lookup h
theorem tab_code (c : obsM G defs K T = valM G defs w) (X : K.In h) {p : Addr × Addr} (hp : p ∈ tabsOf K defs) : PySem.W.CodeHd h p.1 p.2 := by
  have c1 : chkM G defs K T = true := congrArg (fun z : AlM => z.1) c
  unfold chkM at c1
  simp only [Bool.and_eq_true, List.all_eq_true] at c1
  have q := (c1.2 p hp).2.1
  unfold codeB at q
  split at q
  · rename_i c' dd vs sl hl
    simp only [Bool.and_eq_true, decide_eq_true_eq] at q
    obtain ⟨⟨rfl, h11⟩, h18, h7, h9, h10, hne⟩ := q
    have a18 : ∃ f t, vs.getD 18 .none = .str f t := by
      split at h18
      · exact ⟨_, _, ‹_›⟩
      · cases h18
    have a7 : ∃ f t, vs.getD 7 .none = .int f t := by
      split at h7
      · exact ⟨_, _, ‹_›⟩
      · cases h7
    have a9 : ∃ f, vs.getD 9 .none = .bool f := by
      split at h9
      · exact ⟨_, ‹_›⟩
      · cases h9
    have a10 : ∃ f t, vs.getD 10 .none = .int f t := by
      split at h10
      · exact ⟨_, _, ‹_›⟩
      · cases h10
    obtain ⟨f18, t18, e18⟩ := a18
    obtain ⟨f7, t7, e7⟩ := a7
    obtain ⟨f9, e9⟩ := a9
    obtain ⟨f10, t10, e10⟩ := a10
    refine ⟨_, vs, f18, t18, f7, t7, f9, f10, t10, X _ _ hl, rfl, rfl, h11, ?_, e18, e7, e9, e10, hne⟩
    rw [Array.getD_eq_getD_getElem?, h11]
    rfl
  · cases q
theorem tab_at (c : obsM G defs K T = valM G defs w) (X : T.In h) {p : Addr × Addr} (hp : p ∈ tabsOf K defs) : h.get? p.2 = some { cls := .none, data := .fields #[] } ∧ K.lookup p.2 = none := by
  have c1 : chkM G defs K T = true := congrArg (fun z : AlM => z.1) c
  unfold chkM at c1
  simp only [Bool.and_eq_true, List.all_eq_true] at c1
  have q := (c1.2 p hp)
  refine ⟨?_, by simpa using q.1⟩
  have q2 := q.2.2
  unfold tblB at q2
  split at q2
  · rename_i vs sl hl
    simp only [Bool.and_eq_true, Array.isEmpty_iff] at q2
    obtain ⟨rfl, rfl⟩ := q2
    exact X _ _ hl
  · cases q2
theorem topOk (c : obsM G defs K T = valM G defs w) (X : K.In h) (Gn : h.Ns mainGlobals mg) (hd : ∀ e ∈ defs, DefOk G e) {base : Heap} (TB : ∀ p ∈ tabsOf K defs, TabB base mg p.1 p.2) :
    TopOk K w mg base ((tabsOf K defs).map (·.2)) (clv K G) G defs := by
  have c1 : chkM G defs K T = true := congrArg (fun z : AlM => z.1) c
  have c0 := c1
  unfold chkM at c1
  simp only [Bool.and_eq_true, List.all_eq_true] at c1
  have ge : ∀ x g, G.lookup x = some g → geB K G defs (x, g) = true := fun x g hl => c1.1.1.1 (x, g) (lookup_mem hl)
  refine ⟨fun x i m hl => ?_, fun x d hl => ?_, fun x hl => ?_, fun x k hl => ?_, fun x kvs hl => ?_, fun x k k' hk hl => ?_, fun x i hl => ?_⟩
  · have q := ge x _ hl
    unfold geB at q
    simp only [Bool.and_eq_true] at q
    obtain ⟨q1, q2⟩ := q
    split at q2
    · rename_i e he
      simp only [Bool.and_eq_true, decide_eq_true_eq, List.isEmpty_iff] at q2
      obtain ⟨q2, q3, q4, q5⟩ := q2
      obtain ⟨fd, F⟩ := sayM_def c he
      have hv : e.d.dvs K = [] := by unfold He.DefD.dvs; rw [q4]; rfl
      rw [hv] at F
      have ha : He.fAd K e.d.at_ = He.ga K x := by rw [q2]; rfl
      have F0 := F
      rw [ha] at F
      refine ⟨e, he, q3, hd e (List.mem_of_getElem? he), _, fd, _, He.glo_ok X Gn q1, F, fun hg => ?_⟩
      have hs := c1.1.2 e (List.mem_of_getElem? he)
      simp only [Bool.or_eq_true, decide_eq_true_eq] at hs
      rcases hs with hs | hs
      · omega
      · obtain ⟨⟨cc, P⟩, ht⟩ := Option.isSome_iff_exists.mp hs
        have hm : (cc, P) ∈ tabsOf K defs := List.mem_filterMap.mpr ⟨e, List.mem_of_getElem? he, by rw [if_pos hg]; exact ht⟩
        refine ⟨cc, P, ?_, TB _ hm, List.mem_map.mpr ⟨_, hm, rfl⟩⟩
        obtain ⟨oc, od, dV, kV, doc, pm, an, cdv, ct, osl, rfl, lk, _, _, _⟩ := F0.ex
        unfold tabOf at ht
        rw [lk] at ht
        dsimp only at ht
        split at ht
        · rename_i c2 hc2
          split at ht
          · split at ht
            · cases ht; rfl
            · cases ht
          · cases ht
        · cases ht
    · cases q2
  · have q := ge x _ hl
    unfold geB at q
    dsimp only at q
    split at q
    · rename_i u hu
      obtain ⟨v, r1, r2, r3⟩ := relDB_ok d u q
      exact ⟨v, u, PySem.W.mg_of X Gn hu, r1, r2, r3⟩
    · cases q
  · exact He.free_ok X Gn (ge x _ hl)
  · have q := ge x _ hl
    unfold geB at q
    simp only [Bool.and_eq_true, decide_eq_true_eq] at q
    obtain ⟨⟨q1, q2⟩, q3, q4⟩ := q
    obtain ⟨e1, e2, e3, e4⟩ := He.exc_ok q3
    refine ⟨He.ga K x, He.veBase, "ValueError", "ValueError.__new__", _, by unfold clv; rw [q2], He.glo_ok X Gn q1, PySem.F.excBase_ValueError, e1, e2, fun X' hX => raises_own (by rw [hX]; exact e3) (by rw [hX]; exact e4)⟩
  · have q := ge x _ hl
    unfold geB at q
    simp only [Bool.and_eq_true] at q
    have c3 : ((dicsOf G).map fun p => He.dicW K (He.ga K p.1)) = (dicsOf G).map fun p => some (He.keysIn w.params (p.2.map fun q => toS q.1)) := congrArg (fun z : AlM => z.2.2) c
    have hm : (x, kvs) ∈ dicsOf G := List.mem_filterMap.mpr ⟨(x, .dic kvs), lookup_mem hl, rfl⟩
    have c4 : He.dicW K (He.ga K x) = some (He.keysIn w.params (kvs.map fun q => toS q.1)) := List.map_inj_left.mp c3 _ hm
    exact ⟨_, He.glo_ok X Gn q.1, kdK_of c4 q.2⟩
  · have q := ge x _ hl
    unfold geB at q
    simp only [Bool.and_eq_true, decide_eq_true_eq] at q
    obtain ⟨_, _, q4⟩ := q
    unfold exmB at q4
    rw [List.all_eq_true] at q4
    simpa using q4 k (List.mem_range.mpr (by omega))
  · have q := ge x _ hl
    unfold geB at q
    simp only [Bool.and_eq_true] at q
    obtain ⟨q1, q2, q3⟩ := q
    split at q2
    · rename_i e he
      simp only [Bool.and_eq_true, decide_eq_true_eq, List.isEmpty_iff] at q2
      obtain ⟨q2, ⟨q4, q5⟩, ⟨q6, q7⟩, q8⟩ := q2
      obtain ⟨fd, F⟩ := sayM_def c he
      have hv : e.d.dvs K = [] := by unfold He.DefD.dvs; rw [q6]; rfl
      rw [hv] at F
      have ha : He.fAd K e.d.at_ = He.ga K x := by rw [q2]; rfl
      rw [ha] at F
      have ok := hd e (List.mem_of_getElem? he)
      refine ⟨⟨_, fd, e.ps, e.N, _, _, _, _, _, _, He.glo_ok X Gn q1, F.kp, F.bindsN ok.bind, F, ok.sc, q4, q5, q8⟩, wkB_ok q3, fun y hy => He.free_ok X Gn (ge y _ hy), fun y k hy => ?_⟩
      have q := ge y _ hy
      unfold geB at q
      simp only [Bool.and_eq_true, decide_eq_true_eq] at q
      obtain ⟨⟨q1, q2⟩, _⟩ := q
      unfold clv
      rw [q2]
      exact He.glo_ok X Gn q1
    · cases q2
end
end L3
end

section -- I25
set_option autoImplicit false
set_option linter.all false
set_option maxRecDepth 100000
set_option maxHeartbeats 2000000
namespace L3
open PySem PySem.Spec PyProof.Rows L2 GxR

/-- the script, as data -/
def IsScr (d : D) (ns : List Int) : Prop := d = .scr ns ∨ d = .lv false (ns.map .int)
/-- the law holds, in the small syntax -/
def Plain (defs : List DefE) (wN n i : Nat) : Prop := ∀ ns : List Int, ns.length ≤ 63 → (∀ z ∈ ns, Builtin.Int.intBits z ≤ 1048576) → ∀ d, IsScr d ns → ∃ s', calls (fnsOf defs) wN (n + 1) i [d] ⟨[], 0, none⟩ = .ok (.bl true) s'
theorem fn_fact {w : World} {G : GT} {defs : List DefE} {K T : Fr} {h : Heap} {mg : Str → Option Value} (c : obsM G defs K T = valM G defs w) (X : K.In h) (Gn : h.Ns mainGlobals mg) {x : Str} {i m : Nat} (hl : G.lookup x = some (.fn i m)) :
    ∃ e fd kws, defs[i]? = some e ∧ e.ps.length = m ∧ mg x = some (.ref (He.ga K x)) ∧ FunD K e.d.name e.d.qual e.d.params e.d.body e.d.scope [] kws (He.ga K x) fd := by
  have c1 : chkM G defs K T = true := congrArg (fun z : AlM => z.1) c
  unfold chkM at c1
  simp only [Bool.and_eq_true, List.all_eq_true] at c1
  have q : geB K G defs (x, .fn i m) = true := c1.1.1.1 _ (lookup_mem hl)
  unfold geB at q
  simp only [Bool.and_eq_true] at q
  obtain ⟨q1, q2⟩ := q
  split at q2
  · rename_i e he
    simp only [Bool.and_eq_true, decide_eq_true_eq, List.isEmpty_iff] at q2
    obtain ⟨q2, q3, q4, q5⟩ := q2
    obtain ⟨fd, F⟩ := sayM_def c he
    have hv : e.d.dvs K = [] := by unfold He.DefD.dvs; rw [q4]; rfl
    rw [hv] at F
    have ha : He.fAd K e.d.at_ = He.ga K x := by rw [q2]; rfl
    rw [ha] at F
    exact ⟨e, fd, _, he, q3, He.glo_ok X Gn q1, F⟩
  · cases q2
theorem law_at {l : PySem.W.OpenLaw} {w : World} {G : GT} {defs : List DefE} {wN n i : Nat} {h : Heap} {mg : Str → Option Value} {fa : Addr} (hg : G.lookup ("law" : Str) = some (GE.fn i 1)) (hps : ∀ e, defs[i]? = some e → e.ps = [("script" : Str)]) (hd : ∀ e ∈ defs, DefOk G e)
    (pl : Plain defs wN n i) (Y : ∃ K T : Fr, K.In h ∧ T.In h ∧ obsM G defs K T = valM G defs w) (Gn : h.Ns mainGlobals mg) (hfa : mg ("law" : Str) = some (.ref fa)) :
    ∃ K : Fr, K.In h ∧ LamX.LawAtS l w K (L2N.CX l.prog w) (2 * (n + 1)) 63 "script" mg fa h := by
  obtain ⟨K, T, hK, hT, c⟩ := Y
  refine ⟨K, hK, ?_⟩
  obtain ⟨e, fd, kws, he, hm, hA, F⟩ := fn_fact c hK Gn hg
  have : fa = He.ga K "law" := by rw [hfa] at hA; cases hA; rfl
  subst this
  have ok := hd e (List.mem_of_getElem? he)
  have ep := hps e he
  refine ⟨fd, tabsOf K defs, spI K ((tabsOf K defs).map (·.2)) (clv K G) 1 (fun ds s => calls (fnsOf defs) wN (n + 1) i ds s), fun p hp => (tab_at c hT hp).1, fun p hp => (tab_at c hT hp).2, fun p hp => tab_code c hK hp, fun s v => ?_, fun H a ns hl hb hH hS => ?_, fun base hKb hGb TB => ?_⟩
  · have b := FunD.bindsA F ok.bind s [v] (by rw [ep]; rfl)
    rw [ep] at b
    exact b
  · refine ⟨rfl, ?_⟩
    have gd : Good K ((tabsOf K defs).map (·.2)) ⟨fun _ => 0, []⟩ none H ⟨[], 0, none⟩ := by
      refine ⟨fun i j hi => absurd hi (by simp [S.n]), fun i o e => by simp at e, fun i o hi e => by simp at e, Nat.le_refl _, fun P hP => ?_, fun a ha => by cases ha⟩
      obtain ⟨p, hp, rfl⟩ := List.mem_map.mp hP
      exact ⟨#[], hH p hp, trivial⟩
    have key : ∀ d, IsScr d ns → Rel K ⟨fun _ => 0, []⟩ 0 none H d (.ref a) → ∃ (ρ : Rh) (ds : List D) (s : S), Good K ((tabsOf K defs).map (·.2)) ρ none H s.entry ∧ RelL K ρ s.n none H ds [V.ref a] ∧
        Post K ((tabsOf K defs).map (·.2)) ρ H s.entry (calls (fnsOf defs) wN (n + 1) i ds s.entry) (fun v _ => v = .bl true) fun c H' => False := fun d hd r => by
      refine ⟨⟨fun _ => 0, []⟩, [d], ⟨[], 0, none⟩, gd, .cons r .nil, ?_⟩
      obtain ⟨s', q⟩ := pl ns hl hb d hd
      show Post K _ _ H _ (calls (fnsOf defs) wN (n + 1) i [d] ⟨[], 0, none⟩) _ _
      rw [q]
      intro ρ' H' v x o
      obtain ⟨_, r⟩ := o
      cases r
      rfl
    rcases hS with (hS | ⟨o, hS⟩) | hS
    · exact key _ (.inr rfl) (.lv hS (fun i hi => absurd hi (Nat.not_lt_zero _)) (by simp) (by simp) (relL_intv (s := ⟨[], 0, none⟩) ns))
    · exact key _ (.inl rfl) (.scr (.inl ⟨o, hS⟩))
    · exact key _ (.inl rfl) (.scr (.inr hS))
  · have TB' : ∀ p ∈ tabsOf K defs, TabB base mg p.1 p.2 := fun p hp => ⟨(TB p hp).code, (TB p hp).bm, (TB p hp).gP⟩
    have top := topOk (mg := mg) c hK Gn hd TB'
    have := fnok (P := l.prog) (w := w) (wN := wN) (gok (P := l.prog) (w := w) (wN := wN) top n) he hm ok F (fun h0 => by
      obtain ⟨e', he', _, _, A, fd', kws', hA', F', hg'⟩ := top.fn _ _ _ hg
      rw [he] at he'
      cases he'
      rw [hA] at hA'
      cases hA'
      obtain ⟨oc, od, dV, kV, doc, pm, an, cdv, ct, osl, e1, lk, _⟩ := F.ex
      obtain ⟨oc', od', dV', kV', doc', pm', an', cdv', ct', osl', e2, lk', _⟩ := F'.ex
      rw [lk] at lk'
      cases lk'
      exact hg' h0)
    rw [ep] at this
    exact this
end L3
end

section -- P0
set_option autoImplicit false
namespace L3
section
variable {C : Nat → List D → S → R D} {w : Nat} {e : Env} {s : S}
@[simp] theorem ev_var (i : Nat) : ev C (.var i) e s = R.opt (getV e i) s := by simp only [ev]
@[simp] theorem ev_con (d : D) : ev C (.con d) e s = .ok d s := by simp only [ev]
@[simp] theorem ev_glob (d : D) : ev C (.glob d) e s = .ok d s := by simp only [ev]
@[simp] theorem ev_bin (o : Op2) (a b : CE) : ev C (.bin o a b) e s = (ev C a e s).bind fun x s => (ev C b e s).bind fun y s => R.opt (bin2 o (x.rd s) (y.rd s)) s := by simp only [ev]
@[simp] theorem ev_neg (a : CE) : ev C (.neg a) e s = (ev C a e s).bind fun x s => R.opt (x.toInt.map fun i => .int (-i)) s := by simp only [ev]
@[simp] theorem ev_not (a : CE) : ev C (.not a) e s = (ev C a e s).bind fun x s => R.opt (x.bool.map fun b => .bl (!b)) s := by simp only [ev]
@[simp] theorem ev_and (a b : CE) : ev C (.and a b) e s = (ev C a e s).bind fun x s => (R.opt x.bool s).bind fun t s => if t then ev C b e s else .ok (.bl false) s := by simp only [ev]
@[simp] theorem ev_or (a b : CE) : ev C (.or a b) e s = (ev C a e s).bind fun x s => (R.opt x.bool s).bind fun t s => if t then .ok (.bl true) s else ev C b e s := by simp only [ev]
@[simp] theorem ev_cmp (o : Cmp) (a b : CE) : ev C (.cmp o a b) e s = (ev C a e s).bind fun x s => (ev C b e s).bind fun y s => R.opt ((cmp2 o (x.rd s) (y.rd s)).map .bl) s := by simp only [ev]
@[simp] theorem ev_chain (o1 o2 : Cmp) (a b c : CE) : ev C (.chain o1 o2 a b c) e s = (ev C a e s).bind fun x s => (ev C b e s).bind fun y s => (R.opt (cmp2 o1 (x.rd s) (y.rd s)) s).bind fun t s =>
      if t then (ev C c e s).bind fun z s => R.opt ((cmp2 o2 (y.rd s) (z.rd s)).map .bl) s else .ok (.bl false) s := by simp only [ev]
@[simp] theorem ev_ite (c a b : CE) : ev C (.ite c a b) e s = (ev C c e s).bind fun x s => (R.opt x.bool s).bind fun t s => if t then ev C a e s else ev C b e s := by simp only [ev]
@[simp] theorem ev_tup (xs : List CE) : ev C (.tup xs) e s = (evs C xs e s).bind fun ds s => R.chk (decide (ds.length ≤ big)) (.ok (.tup ds) s) := by simp only [ev]
@[simp] theorem ev_lst (xs : List CE) : ev C (.lst xs) e s = (evs C xs e s).bind fun ds s => R.chk (decide (ds.length ≤ big)) (.ok (.lv true ds) s) := by simp only [ev]
@[simp] theorem ev_idx (a i : CE) : ev C (.idx a i) e s = (ev C a e s).bind fun x s => (ev C i e s).bind fun y s => R.opt (idx2 (x.rd s) y) s := by simp only [ev]
@[simp] theorem ev_slc (a : CE) (lo hi : Option CE) : ev C (.slc a lo hi) e s = (ev C a e s).bind fun x s => (evo C lo e s).bind fun l s => (evo C hi e s).bind fun h s => R.opt (slc2 l h (x.rd s)) s := by simp only [ev]
@[simp] theorem ev_isa (a : CE) (t : Ty) : ev C (.isa a t) e s = (ev C a e s).bind fun x s => R.opt ((isTy t (x.rd s)).map .bl) s := by simp only [ev]
@[simp] theorem ev_call (f : Nat) (xs : List CE) : ev C (.call f xs) e s = (evs C xs e s).bind fun ds s => callR (C f) ds s := by simp only [ev]
@[simp] theorem ev_bi (b : BI) (xs : List CE) : ev C (.bi b xs) e s = (evs C xs e s).bind fun ds s => R.opt (bi b (ds.map (·.rd s))) s := by simp only [ev]
@[simp] theorem ev_bm (m : BM) (o : CE) (xs : List CE) : ev C (.bm m o xs) e s = (ev C o e s).bind fun x s => (R.opt (strOf x) s).bind fun z s => (evs C xs e s).bind fun ds s => R.opt (bm m (.str z) (ds.map (·.rd s))) s := by simp only [ev]
@[simp] theorem ev_mm (m : MM) (o : CE) (xs : List CE) : ev C (.mm m o xs) e s = (ev C o e s).bind fun x s => (R.opt (cellOf x s) s).bind fun n s => (evs C xs e s).bind fun ds s => mmS m n ds s := by simp only [ev]
/-- one turn of a comprehension -/
def lcT (C : Nat → List D → S → R D) (elt : CE) (t : Tg) (ifs : List CE) (own : List Nat) (e : Env) (x : D) (s : S) : R (Option D) := match asg t x (wipe e own) with
  | none => .bad
  | some e1 => ((tests C ifs e1 s).bind fun b s => if b then (ev C elt e1 s).bind fun d s => .ok (some d) s else .ok none s).nox
def geT (C : Nat → List D → S → R D) (elt : CE) (t : Tg) (ifs : List CE) (own : List Nat) (e : Env) (x : D) (s : S) : R (Option Bool) := match asg t x (wipe e own) with
  | none => .bad
  | some e1 => ((tests C ifs e1 s).bind fun b s => if b then (ev C elt e1 s).bind fun d s => (R.opt d.bool s).bind fun b s => .ok (some b) s else .ok none s).nox
@[simp] theorem ev_lc (elt : CE) (t : Tg) (src : Src) (ifs : List CE) (own : List Nat) : ev C (.lc elt t src ifs own) e s = (items C src e s).bind fun it s => lcI (lcT C elt t ifs own e) it s := by simp only [ev]; rfl
@[simp] theorem ev_gen (all : Bool) (elt : CE) (t : Tg) (src : Src) (ifs : List CE) (own : List Nat) : ev C (.gen all elt t src ifs own) e s = (items C src e s).bind fun it s => geI all (geT C elt t ifs own e) it s := by simp only [ev]; rfl
@[simp] theorem ev_cell (a : CE) : ev C (.cell a) e s = (ev C a e s).bind fun x s => newCell x s := by simp only [ev]
@[simp] theorem ev_gin (neg : Bool) (a : CE) (kvs : List (List Nat × D)) : ev C (.gin neg a kvs) e s = (ev C a e s).bind fun x s => R.opt ((strOf x).map fun z => .bl (if neg then !(kvs.lookup z).isSome else (kvs.lookup z).isSome)) s := by simp only [ev]
@[simp] theorem ev_gix (a : CE) (kvs : List (List Nat × D)) : ev C (.gix kvs a) e s = (ev C a e s).bind fun x s => R.opt ((strOf x).bind fun z => kvs.lookup z) s := by simp only [ev]
@[simp] theorem ev_rev (a : CE) : ev C (.rev a) e s = (ev C a e s).bind fun x s => R.opt (revOf (x.rd s)) s := by simp only [ev]
@[simp] theorem evs_nil : evs C [] e s = .ok [] s := by simp only [evs]
@[simp] theorem evs_star (a : CE) (r : List CE) : evs C (.star a :: r) e s = (ev C a e s).bind fun x s => (R.opt (x.rd s).items s).bind fun xs s => (evs C r e s).bind fun ys s => .ok (xs ++ ys) s := by simp only [evs]
@[simp] theorem evs_cons (a : CE) (r : List CE) (h : ∀ b, a = .star b → False) : evs C (a :: r) e s = (ev C a e s).bind fun x s => (evs C r e s).bind fun ys s => .ok (x.frz :: ys) s := by
  rw [evs]; exact h
@[simp] theorem evo_none : evo C none e s = .ok none s := by simp only [evo]
@[simp] theorem evo_some (a : CE) : evo C (some a) e s = (ev C a e s).bind fun x s => (R.opt x.toInt s).bind fun i s => .ok (some i) s := by simp only [evo]
@[simp] theorem tests_nil : tests C [] e s = .ok true s := by simp only [tests]
@[simp] theorem tests_cons (c : CE) (r : List CE) : tests C (c :: r) e s = (ev C c e s).bind fun x s => (R.opt x.bool s).bind fun b s => if b then tests C r e s else .ok false s := by simp only [tests]
@[simp] theorem items_seq (a : CE) : items C (.seq a) e s = (ev C a e s).bind fun x s => R.opt (seqOf x) s := by simp only [items]
/-- the numbers below one, between two; simp must not look into them (the kernel would run deep) -/
def rng1D (x : D) : Option It := x.toInt.bind fun i => rng 0 i
def rng2D (x y : D) : Option It := x.toInt.bind fun i => y.toInt.bind fun j => rng i j
@[simp] theorem items_rng1 (a : CE) : items C (.rng1 a) e s = (ev C a e s).bind fun x s => R.opt (rng1D x) s := by simp only [items, rng1D]
@[simp] theorem items_rng2 (a b : CE) : items C (.rng2 a b) e s = (ev C a e s).bind fun x s => (ev C b e s).bind fun y s => R.opt (rng2D x y) s := by simp only [items, rng2D]
theorem rng_ok {a b : Int} (h : -4611686018427387904 < a) (h2 : a < 4611686018427387904) (h3 : -4611686018427387904 < b) (h4 : b < 4611686018427387904) : rng a b = some (.fix ((List.range (b - a).toNat).map fun (i : Nat) => .int (a + (i : Int)))) := by
  unfold rng
  rw [if_pos]
  omega
theorem rng1D_int {i : Int} (h : i < 4611686018427387904) (h0 : -4611686018427387904 < i) : rng1D (.int i) = some (.fix ((List.range i.toNat).map fun (j : Nat) => .int j)) := by
  unfold rng1D
  rw [show D.toInt (.int i) = some i from rfl, Option.bind_some, rng_ok (by omega) (by omega) (by omega) (by omega), Int.sub_zero]
  congr 3
  funext j
  rw [Int.zero_add]
theorem rng1D_nat {k : Nat} (h : k < 4611686018427387904) : rng1D (.int (k : Int)) = some (.fix ((List.range k).map fun (j : Nat) => .int j)) := by
  rw [rng1D_int (by omega) (by omega), Int.toNat_natCast]
theorem rng2D_nat {a b : Nat} (h : a < 4611686018427387904) (h2 : b < 4611686018427387904) : rng2D (.int (a : Int)) (.int (b : Int)) = some (.fix ((List.range (b - a)).map fun (j : Nat) => .int ((a : Int) + j))) := by
  unfold rng2D
  rw [show D.toInt (.int (a : Int)) = some (a : Int) from rfl, Option.bind_some, show D.toInt (.int (b : Int)) = some (b : Int) from rfl, Option.bind_some, rng_ok (by omega) (by omega) (by omega) (by omega)]
  congr 3
  rw [show ((b : Int) - (a : Int)).toNat = b - a by omega]
@[simp] theorem ex_asg (t : Tg) (x : CE) : ex C w (.asg t x) e s = F.of (ev C x e s) e fun d s => match asg t d e with
      | some e' => .nx e' s
      | none => .bad := by simp only [ex] <;> rfl
@[simp] theorem ex_aug (i : Nat) (op : Op2) (x : CE) : ex C w (.aug i op x) e s = match getV e i with
      | some a => F.of (ev C x e s) e fun d s => match aug2 op a d with
        | some r => .nx (e.set i (some r)) s
        | none => .bad
      | none => .bad := by simp only [ex] <;> rfl
@[simp] theorem ex_expr (x : CE) : ex C w (.expr x) e s = F.of (ev C x e s) e fun _ s => .nx e s := by simp only [ex]
@[simp] theorem ex_ret (x : CE) : ex C w (.ret x) e s = F.of (ev C x e s) e fun d s => .rt d s := by simp only [ex]
@[simp] theorem ex_retN : ex C w .retN e s = .rt .non s := by simp only [ex]
@[simp] theorem ex_ite (c : CE) (a b : List CS) : ex C w (.ite c a b) e s = F.of (ev C c e s) e fun d s => match d.bool with
      | some true => exs C w a e s
      | some false => exs C w b e s
      | none => .bad := by simp only [ex] <;> rfl
/-- a while loop's test, its turn -/
def whC (C : Nat → List D → S → R D) (c : CE) (e : Env) (s : S) : R Bool := (ev C c e s).bind fun d s => R.opt d.bool s
def whB (C : Nat → List D → S → R D) (w : Nat) (b : List CS) (e : Env) (s : S) : F := exs C w b e s
@[simp] theorem ex_whl (c : CE) (b : List CS) : ex C w (.whl c b) e s = whI (whC C c) (whB C w b) w e s := by simp only [ex] <;> rfl
/-- one turn of a loop -/
def foT (C : Nat → List D → S → R D) (w : Nat) (t : Tg) (b : List CS) (x : D) (e : Env) (s : S) : F := match asg t x e with
      | some e' => exs C w b e' s
      | none => .bad
@[simp] theorem ex_forr (t : Tg) (src : Src) (b : List CS) : ex C w (.forr t src b) e s = F.of (items C src e s) e fun it s => foI (foT C w t b) it e s := by simp only [ex] <;> rfl
@[simp] theorem ex_pass : ex C w .pass e s = .nx e s := by simp only [ex]
@[simp] theorem ex_brk : ex C w .brk e s = .bk e s := by simp only [ex]
@[simp] theorem ex_cont : ex C w .cont e s = .ct e s := by simp only [ex]
@[simp] theorem exs_nil : exs C w [] e s = .nx e s := by simp only [exs]
@[simp] theorem exs_cons (x : CS) (r : List CS) : exs C w (x :: r) e s = (ex C w x e s).next fun e s => exs C w r e s := by simp only [exs]
@[simp] theorem asg_nm (i : Nat) (d : D) : asg (.nm i) d e = some (e.set i (some d.frz)) := by simp only [asg]
@[simp] theorem asg_tup (ts : List Tg) (xs : List D) : asg (.tup ts) (.tup xs) e = asgs ts xs e := by simp only [asg]
@[simp] theorem asgs_nil : asgs [] [] e = some e := by simp only [asgs]
@[simp] theorem asgs_cons (t : Tg) (ts : List Tg) (x : D) (xs : List D) : asgs (t :: ts) (x :: xs) e = (asg t x e).bind fun e' => asgs ts xs e' := by simp only [asgs]
end
/-- the store at the entry of a call -/
def S.ent (s : S) : S := ⟨s.cells, s.cells.length, none⟩
theorem D.lt_of_le : ∀ {d : D} {m n : Nat}, m ≤ n → d.lt m = true → d.lt n = true := by
  have key : ∀ (m n : Nat), m ≤ n → ∀ d : D, (d.lt m = true → d.lt n = true) := by
    intro m n h
    refine @D.rec (fun d => d.lt m = true → d.lt n = true) (fun l => D.ltL m l = true → D.ltL n l = true) ?_ ?_ ?_ ?_ ?_ ?_ ?_ ?_ ?_ ?_
    all_goals (try intros; try simp_all [D.lt, D.lt.ltL])
    omega
  intro d m n h; exact key m n h d
theorem callR_pure {f : List D → S → R D} {vs : List D} {s : S} {d : D} (h : f vs s.ent = .ok d s.ent) (hd : d.lt 0 = true) : callR f vs s = .ok d s := by
  have h' : f vs ⟨s.cells, s.cells.length, none⟩ = .ok d s.ent := h
  unfold callR
  rw [h']
  have hv : s.ent.viol = false := rfl
  have hg : S.gone s s.ent = s := by unfold S.gone S.ent; simp
  have hl : d.lt s.ent.base = true := D.lt_of_le (Nat.zero_le _) hd
  unfold norm
  simp only [hv, Bool.false_eq_true, if_false]
  cases d with
  | ref m => simp [D.lt] at hd
  | _ => simp [hl, hg]
theorem calls_eq {fs : Array Fn} {w n f : Nat} {vs : List D} {s : S} {b : Fn} (h : fs[f]? = some b) : calls fs w (n + 1) f vs s = run (calls fs w n) w b vs s := by
  rw [calls, h]
theorem geL_all {f : D → S → R (Option Bool)} {p : D → Bool} {s : S} : ∀ {xs : List D}, (∀ x ∈ xs, f x s = .ok (some (p x)) s) → geL true f xs s = .ok (.bl (xs.all p)) s
  | [], _ => rfl
  | x :: r, h => by
    simp only [geL, h x List.mem_cons_self, R.bind_ok, List.all_cons]
    cases p x with
    | true => simpa using geL_all fun y hy => h y (List.mem_cons_of_mem _ hy)
    | false => simp
theorem geL_any {f : D → S → R (Option Bool)} {p : D → Bool} {s : S} : ∀ {xs : List D}, (∀ x ∈ xs, f x s = .ok (some (p x)) s) → geL false f xs s = .ok (.bl (xs.any p)) s
  | [], _ => rfl
  | x :: r, h => by
    simp only [geL, h x List.mem_cons_self, R.bind_ok, List.any_cons]
    cases p x with
    | false => simpa using geL_any fun y hy => h y (List.mem_cons_of_mem _ hy)
    | true => simp
theorem lcL_fm {f : D → S → R (Option D)} {g : D → Option D} {s : S} : ∀ {xs acc : List D}, acc.length + xs.length ≤ big → (∀ x ∈ xs, f x s = .ok (g x) s) → lcL f xs acc s = .ok (.lv true (acc ++ (xs.filterMap g).map D.frz)) s
  | [], acc, _, _ => by simp [lcL]
  | x :: r, acc, hl, h => by
    have hl' : acc.length + (r.length + 1) ≤ big := hl
    simp only [lcL, h x List.mem_cons_self, R.bind_ok]
    cases q : g x with
    | none =>
      simp only [List.filterMap_cons, q]
      exact lcL_fm (by omega) fun y hy => h y (List.mem_cons_of_mem _ hy)
    | some d =>
      simp only [List.filterMap_cons, q, if_pos (show acc.length < big by omega)]
      rw [lcL_fm (by simp; omega) fun y hy => h y (List.mem_cons_of_mem _ hy)]
      simp
/-- a loop with an invariant -/
theorem foL_inv {f : D → Env → S → F} {P : Nat → Env → S → Prop} : ∀ {xs : List D} {k : Nat} {e : Env} {s : S}, P k e s → (∀ i x e s, xs[i]? = some x → P (k + i) e s → ∃ e' s', (f x e s = .nx e' s' ∨ f x e s = .ct e' s') ∧ P (k + i + 1) e' s') →
    ∃ e' s', foL f xs e s = .nx e' s' ∧ P (k + xs.length) e' s'
  | [], k, e, s, h, _ => ⟨e, s, rfl, h⟩
  | x :: r, k, e, s, h, hs => by
    obtain ⟨e1, s1, h1, h2⟩ := hs 0 x e s rfl h
    obtain ⟨e2, s2, h3, h4⟩ := foL_inv (xs := r) (k := k + 1) (e := e1) (s := s1) h2 fun i y e s hy hp => by
      have := hs (i + 1) y e s hy (by rw [show k + (i + 1) = k + 1 + i by omega]; exact hp)
      rw [show k + (i + 1) + 1 = k + 1 + i + 1 by omega] at this
      exact this
    refine ⟨e2, s2, ?_, by rw [show k + (x :: r).length = k + 1 + r.length by simp; omega]; exact h4⟩
    unfold foL
    rcases h1 with h1 | h1 <;> rw [h1] <;> exact h3
section
variable {s : S}
@[simp] theorem rd_non  : D.rd s .non = .non := rfl
@[simp] theorem frz_non  : D.frz .non = .non := rfl
@[simp] theorem isTy_int_non  : isTy .int .non = some false := rfl
@[simp] theorem isTy_bool_non  : isTy .bool .non = some false := rfl
@[simp] theorem isTy_str_non  : isTy .str .non = some false := rfl
@[simp] theorem isTy_list_non  : isTy .list .non = some false := rfl
@[simp] theorem isTy_tuple_non  : isTy .tuple .non = some false := rfl
@[simp] theorem is_non_non  : cmp2 .is .non .non = some true := rfl
@[simp] theorem isnot_non_non  : cmp2 .isnot .non .non = some false := rfl
@[simp] theorem rd_bl (b : Bool) : D.rd s (.bl b) = (.bl b) := rfl
@[simp] theorem frz_bl (b : Bool) : D.frz (.bl b) = (.bl b) := rfl
@[simp] theorem isTy_int_bl (b : Bool) : isTy .int (.bl b) = some true := rfl
@[simp] theorem isTy_bool_bl (b : Bool) : isTy .bool (.bl b) = some true := rfl
@[simp] theorem isTy_str_bl (b : Bool) : isTy .str (.bl b) = some false := rfl
@[simp] theorem isTy_list_bl (b : Bool) : isTy .list (.bl b) = some false := rfl
@[simp] theorem isTy_tuple_bl (b : Bool) : isTy .tuple (.bl b) = some false := rfl
@[simp] theorem is_non_bl (b : Bool) : cmp2 .is (.bl b) .non = some false := rfl
@[simp] theorem isnot_non_bl (b : Bool) : cmp2 .isnot (.bl b) .non = some true := rfl
@[simp] theorem rd_int (i : Int) : D.rd s (.int i) = (.int i) := rfl
@[simp] theorem frz_int (i : Int) : D.frz (.int i) = (.int i) := rfl
@[simp] theorem isTy_int_int (i : Int) : isTy .int (.int i) = some true := rfl
@[simp] theorem isTy_bool_int (i : Int) : isTy .bool (.int i) = some false := rfl
@[simp] theorem isTy_str_int (i : Int) : isTy .str (.int i) = some false := rfl
@[simp] theorem isTy_list_int (i : Int) : isTy .list (.int i) = some false := rfl
@[simp] theorem isTy_tuple_int (i : Int) : isTy .tuple (.int i) = some false := rfl
@[simp] theorem is_non_int (i : Int) : cmp2 .is (.int i) .non = some false := rfl
@[simp] theorem isnot_non_int (i : Int) : cmp2 .isnot (.int i) .non = some true := rfl
@[simp] theorem rd_str (z : List Nat) : D.rd s (.str z) = (.str z) := rfl
@[simp] theorem frz_str (z : List Nat) : D.frz (.str z) = (.str z) := rfl
@[simp] theorem isTy_int_str (z : List Nat) : isTy .int (.str z) = some false := rfl
@[simp] theorem isTy_bool_str (z : List Nat) : isTy .bool (.str z) = some false := rfl
@[simp] theorem isTy_str_str (z : List Nat) : isTy .str (.str z) = some true := rfl
@[simp] theorem isTy_list_str (z : List Nat) : isTy .list (.str z) = some false := rfl
@[simp] theorem isTy_tuple_str (z : List Nat) : isTy .tuple (.str z) = some false := rfl
@[simp] theorem is_non_str (z : List Nat) : cmp2 .is (.str z) .non = some false := rfl
@[simp] theorem isnot_non_str (z : List Nat) : cmp2 .isnot (.str z) .non = some true := rfl
@[simp] theorem rd_tup (xs : List D) : D.rd s (.tup xs) = (.tup xs) := rfl
@[simp] theorem frz_tup (xs : List D) : D.frz (.tup xs) = (.tup xs) := rfl
@[simp] theorem isTy_int_tup (xs : List D) : isTy .int (.tup xs) = some false := rfl
@[simp] theorem isTy_bool_tup (xs : List D) : isTy .bool (.tup xs) = some false := rfl
@[simp] theorem isTy_str_tup (xs : List D) : isTy .str (.tup xs) = some false := rfl
@[simp] theorem isTy_list_tup (xs : List D) : isTy .list (.tup xs) = some false := rfl
@[simp] theorem isTy_tuple_tup (xs : List D) : isTy .tuple (.tup xs) = some true := rfl
@[simp] theorem is_non_tup (xs : List D) : cmp2 .is (.tup xs) .non = some false := rfl
@[simp] theorem isnot_non_tup (xs : List D) : cmp2 .isnot (.tup xs) .non = some true := rfl
@[simp] theorem rd_lv (o : Bool) (xs : List D) : D.rd s (.lv o xs) = (.lv o xs) := rfl
@[simp] theorem frz_lv (o : Bool) (xs : List D) : D.frz (.lv o xs) = (.lv false xs) := rfl
@[simp] theorem isTy_int_lv (o : Bool) (xs : List D) : isTy .int (.lv o xs) = some false := rfl
@[simp] theorem isTy_bool_lv (o : Bool) (xs : List D) : isTy .bool (.lv o xs) = some false := rfl
@[simp] theorem isTy_str_lv (o : Bool) (xs : List D) : isTy .str (.lv o xs) = some false := rfl
@[simp] theorem isTy_list_lv (o : Bool) (xs : List D) : isTy .list (.lv o xs) = some true := rfl
@[simp] theorem isTy_tuple_lv (o : Bool) (xs : List D) : isTy .tuple (.lv o xs) = some false := rfl
@[simp] theorem is_non_lv (o : Bool) (xs : List D) : cmp2 .is (.lv o xs) .non = some false := rfl
@[simp] theorem isnot_non_lv (o : Bool) (xs : List D) : cmp2 .isnot (.lv o xs) .non = some true := rfl
@[simp] theorem frz_ref (m : Nat) : D.frz (.ref m) = .ref m := rfl
@[simp] theorem bool_bl (b : Bool) : D.bool (.bl b) = some b := rfl
@[simp] theorem toInt_int (i : Int) : D.toInt (.int i) = some i := rfl
@[simp] theorem items_tup (xs : List D) : D.items (.tup xs) = some xs := rfl
@[simp] theorem items_lv (o : Bool) (xs : List D) : D.items (.lv o xs) = some xs := rfl
@[simp] theorem bin_add (a b : Int) : bin2 .add (.int a) (.int b) = some (.int (a + b)) := rfl
@[simp] theorem bin_sub (a b : Int) : bin2 .sub (.int a) (.int b) = some (.int (a - b)) := rfl
@[simp] theorem bin_mul (a b : Int) : bin2 .mul (.int a) (.int b) = if wide a || wide b then some (.int (a * b)) else none := rfl
@[simp] theorem bin_fdiv (a b : Int) : bin2 .fdiv (.int a) (.int b) = if 0 < b ∧ b < 1073741824 then some (.int (a / b)) else none := rfl
@[simp] theorem bin_mod (a b : Int) : bin2 .mod (.int a) (.int b) = if 0 < b then some (.int (a % b)) else none := rfl
@[simp] theorem bin_pow (a b : Int) : bin2 .pow (.int a) (.int b) = if 0 ≤ b ∧ b ≤ 1000 ∧ wide a then some (.int (a ^ b.toNat)) else none := rfl
@[simp] theorem bin_addS (a b : List Nat) : bin2 .add (.str a) (.str b) = if a.length + b.length ≤ big then some (.str (a ++ b)) else none := rfl
@[simp] theorem bin_addT (a b : List D) : bin2 .add (.tup a) (.tup b) = if a.length + b.length ≤ big then some (.tup (a ++ b)) else none := rfl
@[simp] theorem bin_addL (o p : Bool) (a b : List D) : bin2 .add (.lv o a) (.lv p b) = if a.length + b.length ≤ big then some (.lv true (a ++ b)) else none := rfl
@[simp] theorem bin_mulT (a : List D) (k : Int) : bin2 .mul (.tup a) (.int k) = if a.length ≤ 1000 ∧ a ≠ [] ∧ 2 ≤ k ∧ k ≤ 1000 then some (.tup (List.replicate k.toNat a).flatten) else none := rfl
@[simp] theorem bin_mulS (a : List Nat) (k : Int) : bin2 .mul (.str a) (.int k) = if 2 ≤ k ∧ k ≤ 100000 ∧ a.length = 1 then some (.str (List.replicate k.toNat a).flatten) else none := rfl
@[simp] theorem cmp_lt (a b : Int) : cmp2 .lt (.int a) (.int b) = some (decide (a < b)) := rfl
@[simp] theorem cmp_le (a b : Int) : cmp2 .le (.int a) (.int b) = some (decide (a ≤ b)) := rfl
@[simp] theorem cmp_gt (a b : Int) : cmp2 .gt (.int a) (.int b) = some (decide (b < a)) := rfl
@[simp] theorem cmp_ge (a b : Int) : cmp2 .ge (.int a) (.int b) = some (decide (b ≤ a)) := rfl
@[simp] theorem cmp_eqI (a b : Int) : cmp2 .eq (.int a) (.int b) = some (decide (a = b)) := rfl
@[simp] theorem cmp_neI (a b : Int) : cmp2 .ne (.int a) (.int b) = some (!decide (a = b)) := rfl
@[simp] theorem cmp_eqS (a b : List Nat) : cmp2 .eq (.str a) (.str b) = some (a == b) := rfl
@[simp] theorem cmp_neS (a b : List Nat) : cmp2 .ne (.str a) (.str b) = some (!(a == b)) := rfl
@[simp] theorem cmp_ltS (a b : List Nat) : cmp2 .lt (.str a) (.str b) = some (strLt a b) := rfl
@[simp] theorem cmp_leS (a b : List Nat) : cmp2 .le (.str a) (.str b) = some (!strLt b a) := rfl
@[simp] theorem cmp_ltT (a b : List D) : cmp2 .lt (.tup a) (.tup b) = if D.fitL 63 a && D.fitL 63 b then ordD 64 (.tup a) (.tup b) else none := rfl
@[simp] theorem cmp_isB (a b : Bool) : cmp2 .is (.bl a) (.bl b) = some (a == b) := rfl
@[simp] theorem cmp_isnotB (a b : Bool) : cmp2 .isnot (.bl a) (.bl b) = some (!(a == b)) := rfl
@[simp] theorem cmp_inS (c : Nat) (z : List Nat) : cmp2 .inn (.str [c]) (.str z) = some (z.contains c) := rfl
@[simp] theorem cmp_notinS (c : Nat) (z : List Nat) : cmp2 .notin (.str [c]) (.str z) = some (!z.contains c) := rfl
theorem cmp_eq {a b : D} (ha : a.fit 64 = true) (hb : b.fit 64 = true) : cmp2 .eq a b = some (a.eqv b) := by
  cases a <;> cases b <;> simp_all [cmp2] <;> rfl
theorem cmp_ne {a b : D} (ha : a.fit 64 = true) (hb : b.fit 64 = true) : cmp2 .ne a b = some (!a.eqv b) := by
  cases a <;> cases b <;> simp_all [cmp2] <;> rfl
theorem cmp_inT {a : D} {xs : List D} (ha : a.fit 64 = true) (hb : D.fitL 63 xs = true) : cmp2 .inn a (.tup xs) = some (xs.any fun x => x.eqv a) := by
  cases a <;> simp_all [cmp2]
theorem cmp_notinT {a : D} {xs : List D} (ha : a.fit 64 = true) (hb : D.fitL 63 xs = true) : cmp2 .notin a (.tup xs) = some (!xs.any fun x => x.eqv a) := by
  cases a <;> simp_all [cmp2]
theorem cmp_inL {a : D} {o : Bool} {xs : List D} (ha : a.fit 64 = true) (hb : D.fitL 63 xs = true) : cmp2 .inn a (.lv o xs) = some (xs.any fun x => x.eqv a) := by
  cases a <;> simp_all [cmp2]
theorem cmp_notinL {a : D} {o : Bool} {xs : List D} (ha : a.fit 64 = true) (hb : D.fitL 63 xs = true) : cmp2 .notin a (.lv o xs) = some (!xs.any fun x => x.eqv a) := by
  cases a <;> simp_all [cmp2]
@[simp] theorem idx_tup (xs : List D) (i : Int) : idx2 (.tup xs) (.int i) = atI xs i := rfl
@[simp] theorem idx_lv (o : Bool) (xs : List D) (i : Int) : idx2 (.lv o xs) (.int i) = atI xs i := rfl
@[simp] theorem idx_scr (ns : List Int) (i : Int) : idx2 (.scr ns) (.int i) = (atI ns i).map .int := rfl
theorem atI_nat {α : Type} (xs : List α) (k : Nat) : atI xs (k : Int) = xs[k]? := by
  unfold atI ixN
  by_cases h : k < xs.length
  · rw [if_pos (by omega), if_pos (by omega)]
    rfl
  · rw [if_pos (by omega), if_neg (by omega)]
    rw [List.getElem?_eq_none (by omega)]
    rfl
@[simp] theorem atI_0 {α : Type} (xs : List α) : atI xs 0 = xs[0]? := atI_nat xs 0
@[simp] theorem atI_1 {α : Type} (xs : List α) : atI xs 1 = xs[1]? := atI_nat xs 1
@[simp] theorem atI_2 {α : Type} (xs : List α) : atI xs 2 = xs[2]? := atI_nat xs 2
@[simp] theorem atI_3 {α : Type} (xs : List α) : atI xs 3 = xs[3]? := atI_nat xs 3
@[simp] theorem atI_4 {α : Type} (xs : List α) : atI xs 4 = xs[4]? := atI_nat xs 4
@[simp] theorem atI_5 {α : Type} (xs : List α) : atI xs 5 = xs[5]? := atI_nat xs 5
@[simp] theorem atI_6 {α : Type} (xs : List α) : atI xs 6 = xs[6]? := atI_nat xs 6
@[simp] theorem atI_7 {α : Type} (xs : List α) : atI xs 7 = xs[7]? := atI_nat xs 7
@[simp] theorem atI_8 {α : Type} (xs : List α) : atI xs 8 = xs[8]? := atI_nat xs 8
@[simp] theorem atI_9 {α : Type} (xs : List α) : atI xs 9 = xs[9]? := atI_nat xs 9
@[simp] theorem atI_10 {α : Type} (xs : List α) : atI xs 10 = xs[10]? := atI_nat xs 10
@[simp] theorem atI_11 {α : Type} (xs : List α) : atI xs 11 = xs[11]? := atI_nat xs 11
@[simp] theorem atI_12 {α : Type} (xs : List α) : atI xs 12 = xs[12]? := atI_nat xs 12
@[simp] theorem slc_tup (l h : Option Int) (xs : List D) : slc2 l h (.tup xs) = some (.tup (cut xs l h)) := rfl
@[simp] theorem slc_lv (l h : Option Int) (o : Bool) (xs : List D) : slc2 l h (.lv o xs) = some (.lv true (cut xs l h)) := rfl
@[simp] theorem bi_len_tup (xs : List D) : bi .len [.tup xs] = some (.int xs.length) := rfl
@[simp] theorem bi_len_lv (o : Bool) (xs : List D) : bi .len [.lv o xs] = some (.int xs.length) := rfl
@[simp] theorem bi_tuple_tup (xs : List D) : bi .tuple [.tup xs] = some (.tup xs) := rfl
@[simp] theorem bi_tuple_lv (o : Bool) (xs : List D) : bi .tuple [.lv o xs] = some (.tup xs) := rfl
@[simp] theorem bi_list_tup (xs : List D) : bi .list [.tup xs] = some (.lv true xs) := rfl
@[simp] theorem bi_list_lv (o : Bool) (xs : List D) : bi .list [.lv o xs] = some (.lv true xs) := rfl
@[simp] theorem bi_len_scr (ns : List Int) : bi .len [.scr ns] = some (.int ns.length) := rfl
@[simp] theorem bi_len_str (z : List Nat) : bi .len [.str z] = if z.length ≤ big then some (.int z.length) else none := rfl
@[simp] theorem bi_int (i : Int) : bi .int [.int i] = some (.int i) := rfl
@[simp] theorem bi_abs (i : Int) : bi .abs [.int i] = some (.int (if i < 0 then -i else i)) := rfl
@[simp] theorem bi_max2 (a b : Int) : bi .max [.int a, .int b] = some (.int (if a < b then b else a)) := rfl
@[simp] theorem bi_min2 (a b : Int) : bi .min [.int a, .int b] = some (.int (if b < a then b else a)) := rfl
@[simp] theorem seqOf_tup (xs : List D) : seqOf (.tup xs) = some (.fix xs) := rfl
@[simp] theorem seqOf_lv (o : Bool) (xs : List D) : seqOf (.lv o xs) = some (.fix xs) := rfl
@[simp] theorem seqOf_ref (n : Nat) : seqOf (.ref n) = some (.at n) := rfl
@[simp] theorem seqOf_scr (ns : List Int) : seqOf (.scr ns) = some (.fix (ns.map .int)) := rfl
@[simp] theorem seqOf_str (z : List Nat) : seqOf (.str z) = some (.fix (z.map fun c => .str [c])) := rfl
@[simp] theorem strOf_str (z : List Nat) : strOf (.str z) = some z := rfl
@[simp] theorem lcI_fix (f : D → S → R (Option D)) (xs : List D) : lcI f (.fix xs) s = lcL f xs [] s := rfl
@[simp] theorem geI_fix (a : Bool) (f : D → S → R (Option Bool)) (xs : List D) : geI a f (.fix xs) s = geL a f xs s := rfl
@[simp] theorem foI_fix (f : D → Env → S → F) (xs : List D) (e : Env) : foI f (.fix xs) e s = foL f xs e s := rfl
@[simp] theorem getV_0 (o : Option D) (e : Env) : getV (o :: e) 0 = o := by cases o <;> rfl
@[simp] theorem getV_s (o : Option D) (e : Env) (i : Nat) : getV (o :: e) (i + 1) = getV e i := rfl
@[simp] theorem getV_1 (o0 o1 : Option D) (e : Env) : getV (o0 :: o1 :: e) 1 = o1 := by cases o1 <;> rfl
@[simp] theorem getV_2 (o0 o1 o2 : Option D) (e : Env) : getV (o0 :: o1 :: o2 :: e) 2 = o2 := by cases o2 <;> rfl
@[simp] theorem getV_3 (o0 o1 o2 o3 : Option D) (e : Env) : getV (o0 :: o1 :: o2 :: o3 :: e) 3 = o3 := by cases o3 <;> rfl
@[simp] theorem getV_4 (o0 o1 o2 o3 o4 : Option D) (e : Env) : getV (o0 :: o1 :: o2 :: o3 :: o4 :: e) 4 = o4 := by cases o4 <;> rfl
@[simp] theorem getV_5 (o0 o1 o2 o3 o4 o5 : Option D) (e : Env) : getV (o0 :: o1 :: o2 :: o3 :: o4 :: o5 :: e) 5 = o5 := by cases o5 <;> rfl
@[simp] theorem getV_6 (o0 o1 o2 o3 o4 o5 o6 : Option D) (e : Env) : getV (o0 :: o1 :: o2 :: o3 :: o4 :: o5 :: o6 :: e) 6 = o6 := by cases o6 <;> rfl
@[simp] theorem getV_7 (o0 o1 o2 o3 o4 o5 o6 o7 : Option D) (e : Env) : getV (o0 :: o1 :: o2 :: o3 :: o4 :: o5 :: o6 :: o7 :: e) 7 = o7 := by cases o7 <;> rfl
@[simp] theorem getV_8 (o0 o1 o2 o3 o4 o5 o6 o7 o8 : Option D) (e : Env) : getV (o0 :: o1 :: o2 :: o3 :: o4 :: o5 :: o6 :: o7 :: o8 :: e) 8 = o8 := by cases o8 <;> rfl
@[simp] theorem getV_9 (o0 o1 o2 o3 o4 o5 o6 o7 o8 o9 : Option D) (e : Env) : getV (o0 :: o1 :: o2 :: o3 :: o4 :: o5 :: o6 :: o7 :: o8 :: o9 :: e) 9 = o9 := by cases o9 <;> rfl
@[simp] theorem getV_10 (o0 o1 o2 o3 o4 o5 o6 o7 o8 o9 o10 : Option D) (e : Env) : getV (o0 :: o1 :: o2 :: o3 :: o4 :: o5 :: o6 :: o7 :: o8 :: o9 :: o10 :: e) 10 = o10 := by cases o10 <;> rfl
@[simp] theorem getV_11 (o0 o1 o2 o3 o4 o5 o6 o7 o8 o9 o10 o11 : Option D) (e : Env) : getV (o0 :: o1 :: o2 :: o3 :: o4 :: o5 :: o6 :: o7 :: o8 :: o9 :: o10 :: o11 :: e) 11 = o11 := by cases o11 <;> rfl
@[simp] theorem getV_12 (o0 o1 o2 o3 o4 o5 o6 o7 o8 o9 o10 o11 o12 : Option D) (e : Env) : getV (o0 :: o1 :: o2 :: o3 :: o4 :: o5 :: o6 :: o7 :: o8 :: o9 :: o10 :: o11 :: o12 :: e) 12 = o12 := by cases o12 <;> rfl
@[simp] theorem getV_13 (o0 o1 o2 o3 o4 o5 o6 o7 o8 o9 o10 o11 o12 o13 : Option D) (e : Env) : getV (o0 :: o1 :: o2 :: o3 :: o4 :: o5 :: o6 :: o7 :: o8 :: o9 :: o10 :: o11 :: o12 :: o13 :: e) 13 = o13 := by cases o13 <;> rfl
@[simp] theorem getV_14 (o0 o1 o2 o3 o4 o5 o6 o7 o8 o9 o10 o11 o12 o13 o14 : Option D) (e : Env) : getV (o0 :: o1 :: o2 :: o3 :: o4 :: o5 :: o6 :: o7 :: o8 :: o9 :: o10 :: o11 :: o12 :: o13 :: o14 :: e) 14 = o14 := by cases o14 <;> rfl
@[simp] theorem getV_15 (o0 o1 o2 o3 o4 o5 o6 o7 o8 o9 o10 o11 o12 o13 o14 o15 : Option D) (e : Env) : getV (o0 :: o1 :: o2 :: o3 :: o4 :: o5 :: o6 :: o7 :: o8 :: o9 :: o10 :: o11 :: o12 :: o13 :: o14 :: o15 :: e) 15 = o15 := by cases o15 <;> rfl
@[simp] theorem getV_16 (o0 o1 o2 o3 o4 o5 o6 o7 o8 o9 o10 o11 o12 o13 o14 o15 o16 : Option D) (e : Env) : getV (o0 :: o1 :: o2 :: o3 :: o4 :: o5 :: o6 :: o7 :: o8 :: o9 :: o10 :: o11 :: o12 :: o13 :: o14 :: o15 :: o16 :: e) 16 = o16 := by cases o16 <;> rfl
@[simp] theorem getV_17 (o0 o1 o2 o3 o4 o5 o6 o7 o8 o9 o10 o11 o12 o13 o14 o15 o16 o17 : Option D) (e : Env) : getV (o0 :: o1 :: o2 :: o3 :: o4 :: o5 :: o6 :: o7 :: o8 :: o9 :: o10 :: o11 :: o12 :: o13 :: o14 :: o15 :: o16 :: o17 :: e) 17 = o17 := by cases o17 <;> rfl
@[simp] theorem getV_18 (o0 o1 o2 o3 o4 o5 o6 o7 o8 o9 o10 o11 o12 o13 o14 o15 o16 o17 o18 : Option D) (e : Env) : getV (o0 :: o1 :: o2 :: o3 :: o4 :: o5 :: o6 :: o7 :: o8 :: o9 :: o10 :: o11 :: o12 :: o13 :: o14 :: o15 :: o16 :: o17 :: o18 :: e) 18 = o18 := by cases o18 <;> rfl
@[simp] theorem getV_19 (o0 o1 o2 o3 o4 o5 o6 o7 o8 o9 o10 o11 o12 o13 o14 o15 o16 o17 o18 o19 : Option D) (e : Env) : getV (o0 :: o1 :: o2 :: o3 :: o4 :: o5 :: o6 :: o7 :: o8 :: o9 :: o10 :: o11 :: o12 :: o13 :: o14 :: o15 :: o16 :: o17 :: o18 :: o19 :: e) 19 = o19 := by cases o19 <;> rfl
@[simp] theorem getV_20 (o0 o1 o2 o3 o4 o5 o6 o7 o8 o9 o10 o11 o12 o13 o14 o15 o16 o17 o18 o19 o20 : Option D) (e : Env) : getV (o0 :: o1 :: o2 :: o3 :: o4 :: o5 :: o6 :: o7 :: o8 :: o9 :: o10 :: o11 :: o12 :: o13 :: o14 :: o15 :: o16 :: o17 :: o18 :: o19 :: o20 :: e) 20 = o20 := by cases o20 <;> rfl
@[simp] theorem getV_21 (o0 o1 o2 o3 o4 o5 o6 o7 o8 o9 o10 o11 o12 o13 o14 o15 o16 o17 o18 o19 o20 o21 : Option D) (e : Env) : getV (o0 :: o1 :: o2 :: o3 :: o4 :: o5 :: o6 :: o7 :: o8 :: o9 :: o10 :: o11 :: o12 :: o13 :: o14 :: o15 :: o16 :: o17 :: o18 :: o19 :: o20 :: o21 :: e) 21 = o21 := by cases o21 <;> rfl
@[simp] theorem getV_22 (o0 o1 o2 o3 o4 o5 o6 o7 o8 o9 o10 o11 o12 o13 o14 o15 o16 o17 o18 o19 o20 o21 o22 : Option D) (e : Env) : getV (o0 :: o1 :: o2 :: o3 :: o4 :: o5 :: o6 :: o7 :: o8 :: o9 :: o10 :: o11 :: o12 :: o13 :: o14 :: o15 :: o16 :: o17 :: o18 :: o19 :: o20 :: o21 :: o22 :: e) 22 = o22 := by cases o22 <;> rfl
@[simp] theorem getV_23 (o0 o1 o2 o3 o4 o5 o6 o7 o8 o9 o10 o11 o12 o13 o14 o15 o16 o17 o18 o19 o20 o21 o22 o23 : Option D) (e : Env) : getV (o0 :: o1 :: o2 :: o3 :: o4 :: o5 :: o6 :: o7 :: o8 :: o9 :: o10 :: o11 :: o12 :: o13 :: o14 :: o15 :: o16 :: o17 :: o18 :: o19 :: o20 :: o21 :: o22 :: o23 :: e) 23 = o23 := by cases o23 <;> rfl
@[simp] theorem wipe_nil (e : Env) : wipe e [] = e := rfl
@[simp] theorem wipe_cons (e : Env) (v : Nat) (vs : List Nat) : wipe e (v :: vs) = (wipe e vs).set v none := rfl
theorem run_eq {C : Nat → List D → S → R D} {w : Nat} {f : Fn} {vs : List D} (h : vs.length = f.par) : run C w f vs s = match exs C w f.body (vs.map some ++ List.replicate f.more none) s with
  | .nx _ s => .ok .non s
  | .rt d s => .ok d s
  | .ex c _ s => .exc c s
  | _ => .bad := by unfold run; rw [if_pos h] <;> rfl
theorem bigN : big = 16777216 := rfl
end
/-- a loop that looks for a fault -/
theorem foL_all {f : D → Env → S → F} {p : D → Bool} {r : D} {s : S} {P : Env → Prop} : ∀ {xs : List D} {e : Env}, P e → (∀ x ∈ xs, ∀ e, P e → if p x then ∃ e', f x e s = .nx e' s ∧ P e' else f x e s = .rt r s) →
    if xs.all p then ∃ e', foL f xs e s = .nx e' s ∧ P e' else foL f xs e s = .rt r s
  | [], e, h, _ => ⟨e, rfl, h⟩
  | x :: xs, e, h, hs => by
    have h1 := hs x List.mem_cons_self e h
    have ih := fun e' (h' : P e') => foL_all (f := f) (p := p) (r := r) (s := s) (xs := xs) h' fun y hy => hs y (List.mem_cons_of_mem _ hy)
    rw [List.all_cons]
    cases q : p x with
    | false =>
      rw [q] at h1
      simp only [Bool.false_eq_true, if_false] at h1
      simp only [Bool.false_and, Bool.false_eq_true, if_false]
      unfold foL
      rw [h1]; rfl
    | true =>
      rw [q] at h1
      simp only [if_true] at h1
      obtain ⟨e', h2, h3⟩ := h1
      have h4 := ih e' h3
      unfold foL
      rw [h2]
      simpa using h4
/-- a loop of m turns -/
theorem whI_count {c : Env → S → R Bool} {b : Env → S → F} {P : Nat → Env → S → Prop} {m : Nat} (ht : ∀ k e s, k < m → P k e s → c e s = .ok true s ∧ ∃ e' s', b e s = .nx e' s' ∧ P (k + 1) e' s') (hf : ∀ e s, P m e s → c e s = .ok false s) :
    ∀ (j k fuel : Nat) (e : Env) (s : S), k + j = m → j < fuel → P k e s → ∃ e' s', whI c b fuel e s = .nx e' s' ∧ P m e' s'
  | 0, k, fuel + 1, e, s, hk, _, h => by
    have : k = m := by omega
    subst this
    refine ⟨e, s, ?_, h⟩
    unfold whI
    rw [hf e s h]; rfl
  | j + 1, k, fuel + 1, e, s, hk, hfu, h => by
    obtain ⟨h1, e1, s1, h2, h3⟩ := ht k e s (by omega) h
    obtain ⟨e2, s2, h4, h5⟩ := whI_count (c := c) (b := b) (P := P) ht hf j (k + 1) fuel e1 s1 (by omega) (by omega) h3
    refine ⟨e2, s2, ?_, h5⟩
    unfold whI
    rw [h1]
    simp only [F.of_ok, if_true, h2, F.turn_nx]
    exact h4
  | j, k, 0, e, s, _, hfu, _ => by omega
theorem sIx_nat (n d k : Nat) : sIx n d (some (k : Int)) = min k n := by
  show (if (k : Int) < 0 then ((k : Int) + (n : Int)).toNat else min (k : Int).toNat n) = _
  rw [if_neg (by omega)]
  simp
theorem cut_to {α : Type} (xs : List α) (k : Nat) : cut xs none (some (k : Int)) = xs.take k := by
  unfold cut
  rw [sIx_nat]
  show (xs.drop 0).take (min k xs.length - 0) = _
  rw [List.drop_zero, Nat.sub_zero]
  by_cases h : k ≤ xs.length
  · rw [Nat.min_eq_left h]
  · rw [Nat.min_eq_right (by omega), List.take_of_length_le (Nat.le_refl _), List.take_of_length_le (by omega)]
theorem cut_from {α : Type} (xs : List α) (k : Nat) : cut xs (some (k : Int)) none = xs.drop k := by
  unfold cut
  rw [sIx_nat]
  show (xs.drop (min k xs.length)).take (xs.length - min k xs.length) = _
  by_cases h : k ≤ xs.length
  · rw [Nat.min_eq_left h]
    apply List.take_of_length_le
    simp
  · rw [Nat.min_eq_right (by omega), List.drop_of_length_le (Nat.le_refl _), List.drop_of_length_le (by omega)]
    simp
end L3
end

section -- TAB
set_option autoImplicit false
set_option linter.all false
set_option maxRecDepth 100000
set_option maxHeartbeats 0
namespace LW
open PySem
def top (i : Nat) : Stmt := PySem.Challenge.pw_treeschanged_k67_whole_ranks_and_operati.main.body.getD i (.Pass ⟨0, 0, 0, 0⟩)
end LW
namespace LW
open PySem PySem.Spec PyProof.Rows L2 L3
/-- is_number -/
def b0 : Fn := ⟨3, 0, [
.ret (.and (.isa (.var 0) .int) (.and (.not (.isa (.var 0) .bool)) (.chain .le .le (.var 1) (.var 0) (.var 2))))]⟩
/-- is_word -/
def b1 : Fn := ⟨1, 1, [
.ret (.and (.isa (.var 0) .str) (.and (.chain .le .le (.con (.int 1)) (.bi .len [.var 0]) (.glob (.int 6))) (.gen true (.cmp .inn (.var 1) (.glob (.str [97, 98, 99, 100, 101, 102, 103, 104, 105, 106, 107, 108, 109, 110, 111, 112, 113, 114, 115, 116, 117, 118, 119, 120, 121, 122]))) (.nm 1) (.seq (.var 0)) [] [1])))]⟩
/-- are_signs -/
def b2 : Fn := ⟨1, 1, [
.ite (.or (.not (.isa (.var 0) .str)) (.cmp .gt (.bi .len [.var 0]) (.glob (.int 20)))) [
.ret (.con (.bl false))] [], 
.ret (.gen true (.and (.chain .le .le (.con (.str [32])) (.var 1) (.con (.str [126]))) (.cmp .notin (.var 1) (.con (.str [92, 34])))) (.nm 1) (.seq (.var 0)) [] [1])]⟩
/-- is_key -/
def b3 : Fn := ⟨1, 0, [
.ite (.and (.cmp .eq (.var 0) (.glob (.tup [.int 0, .str []]))) (.isa (.var 0) .tuple)) [
.ret (.not (.isa (.idx (.var 0) (.con (.int 0))) .bool))] [], 
.ite (.or (.not (.isa (.var 0) .tuple)) (.cmp .ne (.bi .len [.var 0]) (.con (.int 2)))) [
.ret (.con (.bl false))] [], 
.ret (.and (.call 0 [.idx (.var 0) (.con (.int 0)), .con (.int 1), .glob (.int 1000000)]) (.call 1 [.idx (.var 0) (.con (.int 1))]))]⟩
/-- is_time -/
def b4 : Fn := ⟨1, 0, [
.ret (.and (.call 3 [.var 0]) (.cmp .ne (.var 0) (.glob (.tup [.int 0, .str []]))))]⟩
/-- is_rank -/
def b5 : Fn := ⟨1, 1, [
.ite (.or (.not (.isa (.var 0) .tuple)) (.not (.chain .le .le (.con (.int 1)) (.bi .len [.var 0]) (.glob (.int 60))))) [
.ret (.con (.bl false))] [], 
.forr (.nm 1) (.seq (.var 0)) [
.ite (.or (.not (.isa (.var 1) .tuple)) (.or (.cmp .ne (.bi .len [.var 1]) (.con (.int 2))) (.not (.call 0 [.idx (.var 1) (.con (.int 0)), .neg (.glob (.int 1000000)), .glob (.int 1000000)])))) [
.ret (.con (.bl false))] [], 
.ite (.not (.call 4 [.idx (.var 1) (.con (.int 1))])) [
.ret (.con (.bl false))] []], 
.ret (.con (.bl true))]⟩
/-- alike_ahead -/
def b6 : Fn := ⟨2, 1, [
.asg (.nm 2) (.con (.int 0)), 
.whl (.and (.cmp .lt (.var 2) (.bi .min [.bi .len [.var 0], .bi .len [.var 1]])) (.cmp .eq (.idx (.var 0) (.var 2)) (.idx (.var 1) (.var 2)))) [
.aug 2 .add (.con (.int 1))], 
.ret (.var 2)]⟩
/-- rank_between -/
def b7 : Fn := ⟨3, 2, [
.ite (.cmp .is (.var 0) (.con .non)) [
.ret (.tup [.tup [.ite (.cmp .is (.var 1) (.con .non)) (.con (.int 0)) (.bin .sub (.idx (.idx (.var 1) (.con (.int 0))) (.con (.int 0))) (.con (.int 1))), .var 2]])] [], 
.ite (.cmp .is (.var 1) (.con .non)) [
.ret (.tup [.tup [.bin .add (.idx (.idx (.var 0) (.con (.int 0))) (.con (.int 0))) (.con (.int 1)), .var 2]])] [], 
.asg (.nm 3) (.call 6 [.var 0, .var 1]), 
.ite (.cmp .eq (.bi .len [.var 0]) (.var 3)) [
.ret (.tup [.star (.var 0), .tup [.bin .sub (.idx (.idx (.var 1) (.var 3)) (.con (.int 0))) (.con (.int 1)), .var 2]])] [], 
.ite (.cmp .lt (.bin .add (.idx (.idx (.var 0) (.var 3)) (.con (.int 0))) (.con (.int 1))) (.idx (.idx (.var 1) (.var 3)) (.con (.int 0)))) [
.ret (.tup [.star (.slc (.var 0) none (some (.var 3))), .tup [.bin .add (.idx (.idx (.var 0) (.var 3)) (.con (.int 0))) (.con (.int 1)), .var 2]])] [], 
.asg (.nm 4) (.ite (.cmp .gt (.bi .len [.var 0]) (.bin .add (.var 3) (.con (.int 1)))) (.bin .add (.idx (.idx (.var 0) (.bin .add (.var 3) (.con (.int 1)))) (.con (.int 0))) (.con (.int 1))) (.con (.int 0))), 
.ret (.tup [.star (.slc (.var 0) none (some (.bin .add (.var 3) (.con (.int 1))))), .tup [.var 4, .var 2]])]⟩
/-- is_ahead -/
def b8 : Fn := ⟨2, 0, [
.ret (.and (.call 3 [.var 0]) (.cmp .lt (.var 0) (.var 1)))]⟩
/-- is_place -/
def b9 : Fn := ⟨3, 0, [
.ret (.and (.or (.cmp .is (.var 0) (.con .non)) (.call 8 [.var 0, .var 2])) (.call 5 [.var 1]))]⟩
/-- is_operation -/
def b10 : Fn := ⟨1, 0, [
.ite (.or (.not (.isa (.var 0) .tuple)) (.or (.cmp .eq (.bi .len [.var 0]) (.con (.int 0))) (.or (.not (.isa (.idx (.var 0) (.con (.int 0))) .str)) (.gin true (.idx (.var 0) (.con (.int 0))) [([110, 101, 119], .int 6), ([112, 117, 116], .int 5), ([115, 101, 116], .int 5)])))) [
.ret (.con (.bl false))] [], 
.ite (.or (.cmp .ne (.bi .len [.var 0]) (.gix [([110, 101, 119], .int 6), ([112, 117, 116], .int 5), ([115, 101, 116], .int 5)] (.idx (.var 0) (.con (.int 0))))) (.not (.call 4 [.idx (.var 0) (.con (.int 1))]))) [
.ret (.con (.bl false))] [], 
.ite (.cmp .eq (.idx (.var 0) (.con (.int 0))) (.con (.str [110, 101, 119]))) [
.ret (.and (.call 1 [.idx (.var 0) (.con (.int 2))]) (.and (.call 2 [.idx (.var 0) (.con (.int 3))]) (.call 9 [.idx (.var 0) (.con (.int 4)), .idx (.var 0) (.con (.int 5)), .idx (.var 0) (.con (.int 1))])))] [], 
.ite (.not (.call 8 [.idx (.var 0) (.con (.int 2)), .idx (.var 0) (.con (.int 1))])) [
.ret (.con (.bl false))] [], 
.ite (.cmp .eq (.idx (.var 0) (.con (.int 0))) (.con (.str [112, 117, 116]))) [
.ret (.and (.cmp .ne (.idx (.var 0) (.con (.int 2))) (.glob (.tup [.int 0, .str []]))) (.call 9 [.idx (.var 0) (.con (.int 3)), .idx (.var 0) (.con (.int 4)), .idx (.var 0) (.con (.int 1))]))] [], 
.ite (.cmp .notin (.idx (.var 0) (.con (.int 3))) (.tup [.con (.str [119, 111, 114, 100]), .con (.str [115, 105, 103, 110, 115])])) [
.ret (.con (.bl false))] [], 
.ret (.ite (.cmp .eq (.idx (.var 0) (.con (.int 3))) (.con (.str [119, 111, 114, 100]))) (.call 1 [.idx (.var 0) (.con (.int 4))]) (.call 2 [.idx (.var 0) (.con (.int 4))]))]⟩
/-- _law_draws -/
def b11 : Fn := ⟨1, 6, [
.asg (.nm 1) (.cell (.lst [])), 
.forr (.nm 2) (.seq (.var 0)) [
.asg (.nm 3) (.bi .abs [.var 2]), 
.ite (.cmp .lt (.var 3) (.bin .pow (.con (.int 10)) (.con (.int 18)))) [
.asg (.nm 4) (.bin .mod (.bi .int [.bin .add (.bin .mul (.var 3) (.con (.int 48271))) (.con (.int 11))]) (.con (.int 2147483647))), 
.expr (.mm .append (.var 1) [.bin .mod (.bi .int [.bin .add (.bin .mul (.var 4) (.con (.int 69621))) (.var 3)]) (.con (.int 2147483629))]), 
.expr (.mm .append (.var 1) [.bin .mod (.bi .int [.bin .add (.var 4) (.bin .fdiv (.var 3) (.con (.int 7)))]) (.con (.int 1000003))]), 
.asg (.nm 3) (.con (.int 0))] [], 
.forr (.nm 5) (.rng1 (.con (.int 60))) [
.ite (.cmp .gt (.var 3) (.con (.int 0))) [
.expr (.mm .append (.var 1) [.bin .mod (.bi .int [.var 3]) (.con (.int 997))]), 
.asg (.nm 3) (.bin .fdiv (.var 3) (.con (.int 997)))] []]], 
.asg (.nm 6) (.con (.int 1)), 
.ite (.cmp .gt (.bi .len [.var 0]) (.con (.int 0))) [
.asg (.nm 6) (.bin .add (.con (.int 1)) (.bi .abs [.idx (.var 0) (.con (.int 0))]))] [], 
.forr (.nm 5) (.rng1 (.con (.int 900))) [
.asg (.nm 6) (.bin .mod (.bi .int [.bin .add (.bin .mul (.var 6) (.con (.int 48271))) (.con (.int 69621))]) (.con (.int 2147483647))), 
.expr (.mm .append (.var 1) [.bin .fdiv (.var 6) (.con (.int 5))])], 
.ret (.rev (.var 1))]⟩
/-- _law_take -/
def b12 : Fn := ⟨2, 0, [
.ite (.cmp .eq (.bi .len [.var 0]) (.con (.int 0))) [
.ret (.con (.int 0))] [], 
.ret (.bin .mod (.bi .int [.mm .pop (.var 0) []]) (.var 1))]⟩
/-- _law_alike -/
def b13 : Fn := ⟨2, 1, [
.ite (.or (.isa (.var 1) .list) (.isa (.var 1) .tuple)) [
.ite (.or (.cmp .ne (.isa (.var 0) .list) (.isa (.var 1) .list)) (.cmp .ne (.isa (.var 0) .tuple) (.isa (.var 1) .tuple))) [
.ret (.con (.bl false))] [], 
.ret (.and (.cmp .eq (.bi .len [.var 0]) (.bi .len [.var 1])) (.cmp .eq (.lc (.var 2) (.nm 2) (.rng1 (.bi .len [.var 1])) [.not (.call 13 [.idx (.var 0) (.var 2), .idx (.var 1) (.var 2)])] [2]) (.lst [])))] [], 
.ite (.cmp .is (.var 1) (.con .non)) [
.ret (.cmp .is (.var 0) (.con .non))] [], 
.ite (.or (.isa (.var 1) .bool) (.isa (.var 0) .bool)) [
.ret (.and (.isa (.var 0) .bool) (.and (.isa (.var 1) .bool) (.cmp .eq (.var 0) (.var 1))))] [], 
.ite (.isa (.var 1) .int) [
.ret (.and (.isa (.var 0) .int) (.cmp .eq (.var 0) (.var 1)))] [], 
.ret (.and (.isa (.var 0) .str) (.cmp .eq (.var 0) (.var 1)))]⟩
/-- _law_rank -/
def b14 : Fn := ⟨3, 1, [
.ite (.and (.cmp .is (.var 0) (.con .non)) (.cmp .is (.var 1) (.con .non))) [
.ret (.tup [.tup [.con (.int 0), .var 2]])] [], 
.ite (.or (.cmp .is (.var 0) (.con .non)) (.cmp .is (.var 1) (.con .non))) [
.ret (.tup [.tup [.ite (.cmp .is (.var 0) (.con .non)) (.bin .sub (.idx (.idx (.var 1) (.con (.int 0))) (.con (.int 0))) (.con (.int 1))) (.bin .add (.idx (.idx (.var 0) (.con (.int 0))) (.con (.int 0))) (.con (.int 1))), .var 2]])] [], 
.asg (.nm 3) (.con (.int 0)), 
.whl (.and (.cmp .lt (.var 3) (.bi .len [.var 0])) (.and (.cmp .lt (.var 3) (.bi .len [.var 1])) (.cmp .eq (.idx (.var 0) (.var 3)) (.idx (.var 1) (.var 3))))) [
.asg (.nm 3) (.bin .add (.var 3) (.con (.int 1)))], 
.ite (.cmp .eq (.var 3) (.bi .len [.var 0])) [
.ret (.bin .add (.var 0) (.tup [.tup [.bin .sub (.idx (.idx (.var 1) (.var 3)) (.con (.int 0))) (.con (.int 1)), .var 2]]))] [], 
.ite (.cmp .lt (.bin .add (.idx (.idx (.var 0) (.var 3)) (.con (.int 0))) (.con (.int 1))) (.idx (.idx (.var 1) (.var 3)) (.con (.int 0)))) [
.ret (.bin .add (.slc (.var 0) none (some (.var 3))) (.tup [.tup [.bin .add (.idx (.idx (.var 0) (.var 3)) (.con (.int 0))) (.con (.int 1)), .var 2]]))] [], 
.ret (.bin .add (.slc (.var 0) none (some (.bin .add (.var 3) (.con (.int 1))))) (.tup [.tup [.ite (.cmp .gt (.bi .len [.var 0]) (.bin .add (.var 3) (.con (.int 1)))) (.bin .add (.idx (.idx (.var 0) (.bin .add (.var 3) (.con (.int 1)))) (.con (.int 0))) (.con (.int 1))) (.con (.int 0)), .var 2]]))]⟩
/-- _law_odd -/
def b15 : Fn := ⟨1, 5, [
.asg (.nm 1) (.idx (.var 0) (.con (.int 1))), 
.asg (.nm 2) (.lst [.con .non, .con (.int 5), .con (.str [110, 101, 119]), .tup [], .bi .list [.var 0], .slc (.var 0) none (some (.neg (.con (.int 1)))), .bin .add (.var 0) (.tup [.con (.int 0)]), .bin .add (.tup [.con (.str [78, 101, 119])]) (.slc (.var 0) (some (.con (.int 1))) none), .bin .add (.tup [.con .non]) (.slc (.var 0) (some (.con (.int 1))) none)]), 
.asg (.nm 2) (.bin .add (.var 2) (.lc (.bin .add (.bin .add (.slc (.var 0) none (some (.con (.int 1)))) (.tup [.var 3])) (.slc (.var 0) (some (.con (.int 2))) none)) (.nm 3) (.seq (.lst [.con .non, .tup [.con (.int 0), .con (.str [])], .tup [.idx (.var 1) (.con (.int 0))], .lst [.idx (.var 1) (.con (.int 0)), .con (.str [97])], .tup [.con (.int 0), .con (.str [97])], .tup [.idx (.var 1) (.con (.int 0)), .con (.str [65])], .tup [.bin .add (.bin .pow (.con (.int 10)) (.con (.int 6))) (.con (.int 1)), .con (.str [97])], .tup [.con (.bl true), .con (.str [97])]])) [] [3])), 
.asg (.nm 4) (.lst [.con .non, .tup [], .tup [.tup [.con (.int 0), .tup [.con (.int 0), .con (.str [])]]], .tup [.tup [.con (.int 0), .var 1, .con (.int 0)]], .tup [.con (.int 0), .var 1], .tup [.tup [.con (.int 0)]], .lst [.tup [.con (.int 0), .var 1]], .tup [.tup [.bin .add (.bin .pow (.con (.int 10)) (.con (.int 6))) (.con (.int 1)), .var 1]], .tup [.tup [.con .non, .var 1]], .tup [.tup [.con (.bl true), .var 1]], .bin .mul (.tup [.tup [.con (.int 0), .var 1]]) (.con (.int 61))]), 
.asg (.nm 5) (.lst [.var 1, .tup [.bin .add (.idx (.var 1) (.con (.int 0))) (.con (.int 1)), .con (.str [97])], .tup [.con (.int 0), .con (.str [97])], .con (.str [114, 111, 111, 116]), .con (.int 5), .tup []]), 
.ite (.cmp .eq (.idx (.var 0) (.con (.int 0))) (.con (.str [110, 101, 119]))) [
.asg (.nm 2) (.bin .add (.bin .add (.var 2) (.lc (.bin .add (.bin .add (.slc (.var 0) none (some (.con (.int 2)))) (.tup [.var 3])) (.slc (.var 0) (some (.con (.int 3))) none)) (.nm 3) (.seq (.lst [.con (.str []), .con (.str [65]), .con .non, .con (.str [116, 111, 111, 108, 111, 110, 103])])) [] [3])) (.lc (.bin .add (.bin .add (.slc (.var 0) none (some (.con (.int 3)))) (.tup [.var 3])) (.slc (.var 0) (some (.con (.int 4))) none)) (.nm 3) (.seq (.lst [.con .non, .con (.str [34]), .bin .mul (.con (.str [120])) (.con (.int 21))])) [] [3])), 
.ret (.bin .add (.bin .add (.var 2) (.lc (.bin .add (.bin .add (.slc (.var 0) none (some (.con (.int 4)))) (.tup [.var 3])) (.slc (.var 0) (some (.con (.int 5))) none)) (.nm 3) (.seq (.var 5)) [] [3])) (.lc (.bin .add (.slc (.var 0) none (some (.con (.int 5)))) (.tup [.var 3])) (.nm 3) (.seq (.var 4)) [] [3]))] [], 
.asg (.nm 2) (.bin .add (.var 2) (.lc (.bin .add (.bin .add (.slc (.var 0) none (some (.con (.int 2)))) (.tup [.var 3])) (.slc (.var 0) (some (.con (.int 3))) none)) (.nm 3) (.seq (.lst [.con .non, .var 1, .tup [.bin .add (.idx (.var 1) (.con (.int 0))) (.con (.int 1)), .con (.str [97])], .con (.str [114, 111, 111, 116]), .tup [.con (.int 0), .con (.str [97])]])) [] [3])), 
.ite (.cmp .eq (.idx (.var 0) (.con (.int 0))) (.con (.str [112, 117, 116]))) [
.ret (.bin .add (.bin .add (.bin .add (.var 2) (.lst [.bin .add (.bin .add (.slc (.var 0) none (some (.con (.int 2)))) (.tup [.tup [.con (.int 0), .con (.str [])]])) (.slc (.var 0) (some (.con (.int 3))) none)])) (.lc (.bin .add (.bin .add (.slc (.var 0) none (some (.con (.int 3)))) (.tup [.var 3])) (.slc (.var 0) (some (.con (.int 4))) none)) (.nm 3) (.seq (.var 5)) [] [3])) (.lc (.bin .add (.slc (.var 0) none (some (.con (.int 4)))) (.tup [.var 3])) (.nm 3) (.seq (.var 4)) [] [3]))] [], 
.ret (.bin .add (.bin .add (.var 2) (.lc (.bin .add (.bin .add (.slc (.var 0) none (some (.con (.int 3)))) (.tup [.var 3])) (.slc (.var 0) (some (.con (.int 4))) none)) (.nm 3) (.seq (.lst [.con .non, .con (.str [116, 101, 120, 116]), .con (.str [87, 79, 82, 68]), .con (.int 5)])) [] [3])) (.lc (.bin .add (.slc (.var 0) none (some (.con (.int 4)))) (.tup [.var 3])) (.nm 3) (.seq (.lst [.con .non, .con (.str [65, 10]), .con (.int 5), .bin .mul (.con (.str [120])) (.con (.int 21))])) [] [3]))]⟩
/-- law -/
def b16 : Fn := ⟨1, 13, [
.asg (.nm 1) (.cell (.call 11 [.var 0])), 
.asg (.nm 2) (.lst []), 
.forr (.nm 3) (.rng1 (.bin .add (.con (.int 4)) (.call 12 [.var 1, .con (.int 22)]))) [
.asg (.tup [.nm 4, .nm 5]) (.tup [.idx (.lst [.con (.int 0), .bi .len [.var 2], .call 12 [.var 1, .bin .add (.bi .len [.var 2]) (.con (.int 1))], .call 12 [.var 1, .bi .min [.con (.int 3), .bin .add (.bi .len [.var 2]) (.con (.int 1))]]]) (.call 12 [.var 1, .con (.int 4)]), .tup [.bin .add (.var 3) (.con (.int 1)), .idx (.lst [.con (.str [97]), .con (.str [98]), .con (.str [122, 122])]) (.call 12 [.var 1, .con (.int 3)])]]), 
.asg (.tup [.nm 6, .nm 7]) (.tup [.ite (.cmp .gt (.var 4) (.con (.int 0))) (.idx (.var 2) (.bin .sub (.var 4) (.con (.int 1)))) (.con .non), .ite (.cmp .lt (.var 4) (.bi .len [.var 2])) (.idx (.var 2) (.var 4)) (.con .non)]), 
.asg (.nm 8) (.call 7 [.var 6, .var 7, .var 5]), 
.ite (.or (.not (.call 13 [.var 8, .call 14 [.var 6, .var 7, .var 5]])) (.or (.and (.cmp .isnot (.var 6) (.con .non)) (.not (.cmp .lt (.var 6) (.var 8)))) (.or (.and (.cmp .isnot (.var 7) (.con .non)) (.not (.cmp .lt (.var 8) (.var 7)))) (.cmp .isnot (.call 5 [.var 8]) (.con (.bl true)))))) [
.ret (.con (.bl false))] [], 
.asg (.nm 2) (.bin .add (.bin .add (.slc (.var 2) none (some (.var 4))) (.lst [.var 8])) (.slc (.var 2) (some (.var 4)) none))], 
.asg (.tup [.nm 8, .nm 5]) (.tup [.idx (.var 2) (.call 12 [.var 1, .bi .len [.var 2]]), .tup [.bin .add (.con (.int 50)) (.call 12 [.var 1, .con (.int 9)]), .idx (.lst [.con (.str [97]), .con (.str [122, 122, 122, 122, 122, 122])]) (.call 12 [.var 1, .con (.int 2)])]]), 
.asg (.nm 9) (.lst [.con .non, .tup [.con (.int 0), .con (.str [])], .tup [.con (.int 1), .con (.str [98])], .tup [.con (.int 49), .con (.str [122, 122])]]), 
.asg (.nm 10) (.lst [.tup [.con (.str [110, 101, 119]), .var 5, .con (.str [97]), .con (.str [115, 111, 32, 105, 116, 32, 105, 115]), .idx (.var 9) (.call 12 [.var 1, .con (.int 4)]), .var 8], .tup [.con (.str [112, 117, 116]), .var 5, .tup [.con (.int 3), .con (.str [97])], .idx (.var 9) (.call 12 [.var 1, .con (.int 4)]), .var 8], .tup [.con (.str [115, 101, 116]), .var 5, .tup [.con (.int 0), .con (.str [])], .con (.str [119, 111, 114, 100]), .con (.str [97, 98, 99, 100, 101, 102])]]), 
.asg (.nm 10) (.bin .add (.var 10) (.lst [.tup [.con (.str [115, 101, 116]), .var 5, .tup [.con (.int 2), .con (.str [98])], .con (.str [115, 105, 103, 110, 115]), .con (.str [])], .tup [.con (.str [112, 117, 116]), .var 5, .tup [.con (.int 3), .con (.str [97])], .tup [.con (.int 3), .con (.str [97])], .bin .mul (.tup [.tup [.neg (.bin .pow (.con (.int 10)) (.con (.int 6))), .var 5]]) (.con (.int 60))], .tup [.con (.str [110, 101, 119]), .tup [.con (.int 1), .con (.str [97])], .con (.str [97]), .con (.str []), .tup [.con (.int 0), .con (.str [])], .tup [.tup [.con (.int 0), .tup [.con (.int 1), .con (.str [97])]]]]])), 
.forr (.nm 11) (.seq (.var 10)) [
.ite (.or (.cmp .isnot (.call 10 [.var 11]) (.con (.bl true))) (.cmp .ne (.lc (.var 12) (.nm 12) (.seq (.call 15 [.var 11])) [.cmp .isnot (.call 10 [.var 12]) (.con (.bl false))] [12]) (.lst []))) [
.ret (.con (.bl false))] []], 
.ite (.cmp .ne (.lc (.var 13) (.nm 13) (.seq (.lst [.tup [.con (.int 1), .con (.str [97])], .tup [.bin .pow (.con (.int 10)) (.con (.int 6)), .con (.str [97, 98, 99, 100, 101, 102])]])) [.cmp .isnot (.call 4 [.var 13]) (.con (.bl true))] [13]) (.lst [])) [
.ret (.con (.bl false))] [], 
.ret (.cmp .eq (.lc (.var 13) (.nm 13) (.seq (.lst [.con .non, .tup [.con (.int 0), .con (.str [])], .tup [.con (.int 0), .con (.str [97])], .tup [.con (.int 1), .con (.str [])], .tup [.con (.int 1), .con (.str [65])], .tup [.con (.bl true), .con (.str [97])], .lst [.con (.int 1), .con (.str [97])], .tup [.con (.int 1)], .tup [.bin .add (.bin .pow (.con (.int 10)) (.con (.int 6))) (.con (.int 1)), .con (.str [97])], .con (.int 5)])) [.cmp .isnot (.call 4 [.var 13]) (.con (.bl false))] [13]) (.lst []))]⟩
def G : GT := [(Str.ofString "is_number", GE.fn 0 3),
  (Str.ofString "is_word", GE.fn 1 1),
  (Str.ofString "are_signs", GE.fn 2 1),
  (Str.ofString "is_key", GE.fn 3 1),
  (Str.ofString "is_time", GE.fn 4 1),
  (Str.ofString "is_rank", GE.fn 5 1),
  (Str.ofString "alike_ahead", GE.fn 6 2),
  (Str.ofString "rank_between", GE.fn 7 3),
  (Str.ofString "is_ahead", GE.fn 8 2),
  (Str.ofString "is_place", GE.fn 9 3),
  (Str.ofString "is_operation", GE.fn 10 1),
  (Str.ofString "_law_draws", GE.fn 11 1),
  (Str.ofString "_law_take", GE.fn 12 2),
  (Str.ofString "_law_alike", GE.fn 13 2),
  (Str.ofString "_law_rank", GE.fn 14 3),
  (Str.ofString "_law_odd", GE.fn 15 1),
  (Str.ofString "law", GE.fn 16 1),
  (Str.ofString "MOST_WORD", GE.con (.int 6)),
  (Str.ofString "MOST_SIGNS", GE.con (.int 20)),
  (Str.ofString "LETTERS", GE.con (.str [97, 98, 99, 100, 101, 102, 103, 104, 105, 106, 107, 108, 109, 110, 111, 112, 113, 114, 115, 116, 117, 118, 119, 120, 121, 122])),
  (Str.ofString "MOST_COUNT", GE.con (.int 1000000)),
  (Str.ofString "ROOT", GE.con (.tup [.int 0, .str []])),
  (Str.ofString "MOST_NUMBER", GE.con (.int 1000000)),
  (Str.ofString "MOST_LONG", GE.con (.int 60)),
  (Str.ofString "LENGTHS", GE.dic [([110, 101, 119], .int 6), ([112, 117, 116], .int 5), ([115, 101, 116], .int 5)]),
  (Str.ofString "abs", GE.blt),
  (Str.ofString "all", GE.blt),
  (Str.ofString "bool", GE.blt),
  (Str.ofString "int", GE.blt),
  (Str.ofString "isinstance", GE.blt),
  (Str.ofString "len", GE.blt),
  (Str.ofString "list", GE.blt),
  (Str.ofString "min", GE.blt),
  (Str.ofString "range", GE.blt),
  (Str.ofString "reversed", GE.blt),
  (Str.ofString "str", GE.blt),
  (Str.ofString "tuple", GE.blt)]
def e0 : DefE := ⟨⟨("is_number", none), "is_number", "is_number", defArgs (top 1), defBody (top 1), defScope (top 1), [], []⟩, [Str.ofString "value", Str.ofString "least", Str.ofString "most"], [Str.ofString "value", Str.ofString "least", Str.ofString "most"], 0, b0⟩
def e1 : DefE := ⟨⟨("is_word", none), "is_word", "is_word", defArgs (top 6), defBody (top 6), defScope (top 6), [], []⟩, [Str.ofString "value"], [Str.ofString "value", Str.ofString "sign"], 1, b1⟩
def e2 : DefE := ⟨⟨("are_signs", none), "are_signs", "are_signs", defArgs (top 7), defBody (top 7), defScope (top 7), [], []⟩, [Str.ofString "value"], [Str.ofString "value", Str.ofString "sign"], 1, b2⟩
def e3 : DefE := ⟨⟨("is_key", none), "is_key", "is_key", defArgs (top 11), defBody (top 11), defScope (top 11), [], []⟩, [Str.ofString "value"], [Str.ofString "value"], 0, b3⟩
def e4 : DefE := ⟨⟨("is_time", none), "is_time", "is_time", defArgs (top 15), defBody (top 15), defScope (top 15), [], []⟩, [Str.ofString "value"], [Str.ofString "value"], 0, b4⟩
def e5 : DefE := ⟨⟨("is_rank", none), "is_rank", "is_rank", defArgs (top 16), defBody (top 16), defScope (top 16), [], []⟩, [Str.ofString "value"], [Str.ofString "value", Str.ofString "row"], 0, b5⟩
def e6 : DefE := ⟨⟨("alike_ahead", none), "alike_ahead", "alike_ahead", defArgs (top 17), defBody (top 17), defScope (top 17), [], []⟩, [Str.ofString "one", Str.ofString "other"], [Str.ofString "one", Str.ofString "other", Str.ofString "found"], 0, b6⟩
def e7 : DefE := ⟨⟨("rank_between", none), "rank_between", "rank_between", defArgs (top 18), defBody (top 18), defScope (top 18), [], []⟩, [Str.ofString "low", Str.ofString "high", Str.ofString "time"], [Str.ofString "low", Str.ofString "high", Str.ofString "time", Str.ofString "same", Str.ofString "number"], 0, b7⟩
def e8 : DefE := ⟨⟨("is_ahead", none), "is_ahead", "is_ahead", defArgs (top 21), defBody (top 21), defScope (top 21), [], []⟩, [Str.ofString "value", Str.ofString "time"], [Str.ofString "value", Str.ofString "time"], 0, b8⟩
def e9 : DefE := ⟨⟨("is_place", none), "is_place", "is_place", defArgs (top 22), defBody (top 22), defScope (top 22), [], []⟩, [Str.ofString "value", Str.ofString "rank", Str.ofString "time"], [Str.ofString "value", Str.ofString "rank", Str.ofString "time"], 0, b9⟩
def e10 : DefE := ⟨⟨("is_operation", none), "is_operation", "is_operation", defArgs (top 23), defBody (top 23), defScope (top 23), [], []⟩, [Str.ofString "value"], [Str.ofString "value"], 0, b10⟩
def e11 : DefE := ⟨⟨("_law_draws", none), "_law_draws", "_law_draws", defArgs (top 25), defBody (top 25), defScope (top 25), [], []⟩, [Str.ofString "script"], [Str.ofString "script", Str.ofString "draws", Str.ofString "cell", Str.ofString "number", Str.ofString "first", Str.ofString "k", Str.ofString "seed"], 0, b11⟩
def e12 : DefE := ⟨⟨("_law_take", none), "_law_take", "_law_take", defArgs (top 26), defBody (top 26), defScope (top 26), [], []⟩, [Str.ofString "draws", Str.ofString "limit"], [Str.ofString "draws", Str.ofString "limit"], 0, b12⟩
def e13 : DefE := ⟨⟨("_law_alike", none), "_law_alike", "_law_alike", defArgs (top 27), defBody (top 27), defScope (top 27), [], []⟩, [Str.ofString "found", Str.ofString "due"], [Str.ofString "found", Str.ofString "due", Str.ofString "k"], 0, b13⟩
def e14 : DefE := ⟨⟨("_law_rank", none), "_law_rank", "_law_rank", defArgs (top 28), defBody (top 28), defScope (top 28), [], []⟩, [Str.ofString "low", Str.ofString "high", Str.ofString "time"], [Str.ofString "low", Str.ofString "high", Str.ofString "time", Str.ofString "same"], 0, b14⟩
def e15 : DefE := ⟨⟨("_law_odd", none), "_law_odd", "_law_odd", defArgs (top 29), defBody (top 29), defScope (top 29), [], []⟩, [Str.ofString "operation"], [Str.ofString "operation", Str.ofString "time", Str.ofString "found", Str.ofString "one", Str.ofString "ranks", Str.ofString "parents"], 0, b15⟩
def e16 : DefE := ⟨⟨("law", none), "law", "law", defArgs (top 30), defBody (top 30), defScope (top 30), [], []⟩, [Str.ofString "script"], [Str.ofString "script", Str.ofString "draws", Str.ofString "rows", Str.ofString "turn", Str.ofString "place", Str.ofString "time", Str.ofString "low", Str.ofString "high", Str.ofString "rank", Str.ofString "parents", Str.ofString "good", Str.ofString "operation", Str.ofString "value", Str.ofString "one"], 0, b16⟩
def defs : List DefE := [e0, e1, e2, e3, e4, e5, e6, e7, e8, e9, e10, e11, e12, e13, e14, e15, e16]
theorem o0 : DefOk G e0 := ⟨⟨rfl, rfl, rfl, by decide +kernel, rfl, by decide +kernel, by decide +kernel⟩, rfl, rfl, .inl (by decide +kernel), by decide, fun _ _ _ _ _ _ us hl => match us, hl with | [_, _, _], _ => rfl⟩
theorem o1 : DefOk G e1 := ⟨⟨rfl, rfl, rfl, by decide +kernel, rfl, by decide +kernel, by decide +kernel⟩, rfl, rfl, .inl (by decide +kernel), by decide, fun _ _ _ _ _ _ us hl => match us, hl with | [_], _ => rfl⟩
theorem o2 : DefOk G e2 := ⟨⟨rfl, rfl, rfl, by decide +kernel, rfl, by decide +kernel, by decide +kernel⟩, rfl, rfl, .inl (by decide +kernel), by decide, fun _ _ _ _ _ _ us hl => match us, hl with | [_], _ => rfl⟩
theorem o3 : DefOk G e3 := ⟨⟨rfl, rfl, rfl, by decide +kernel, rfl, by decide +kernel, by decide +kernel⟩, rfl, rfl, .inl (by decide +kernel), by decide, fun _ _ _ _ _ _ us hl => match us, hl with | [_], _ => rfl⟩
theorem o4 : DefOk G e4 := ⟨⟨rfl, rfl, rfl, by decide +kernel, rfl, by decide +kernel, by decide +kernel⟩, rfl, rfl, .inl (by decide +kernel), by decide, fun _ _ _ _ _ _ us hl => match us, hl with | [_], _ => rfl⟩
theorem o5 : DefOk G e5 := ⟨⟨rfl, rfl, rfl, by decide +kernel, rfl, by decide +kernel, by decide +kernel⟩, rfl, rfl, .inl (by decide +kernel), by decide, fun _ _ _ _ _ _ us hl => match us, hl with | [_], _ => rfl⟩
theorem o6 : DefOk G e6 := ⟨⟨rfl, rfl, rfl, by decide +kernel, rfl, by decide +kernel, by decide +kernel⟩, rfl, rfl, .inl (by decide +kernel), by decide, fun _ _ _ _ _ _ us hl => match us, hl with | [_, _], _ => rfl⟩
theorem o7 : DefOk G e7 := ⟨⟨rfl, rfl, rfl, by decide +kernel, rfl, by decide +kernel, by decide +kernel⟩, rfl, rfl, .inl (by decide +kernel), by decide, fun _ _ _ _ _ _ us hl => match us, hl with | [_, _, _], _ => rfl⟩
theorem o8 : DefOk G e8 := ⟨⟨rfl, rfl, rfl, by decide +kernel, rfl, by decide +kernel, by decide +kernel⟩, rfl, rfl, .inl (by decide +kernel), by decide, fun _ _ _ _ _ _ us hl => match us, hl with | [_, _], _ => rfl⟩
theorem o9 : DefOk G e9 := ⟨⟨rfl, rfl, rfl, by decide +kernel, rfl, by decide +kernel, by decide +kernel⟩, rfl, rfl, .inl (by decide +kernel), by decide, fun _ _ _ _ _ _ us hl => match us, hl with | [_, _, _], _ => rfl⟩
theorem o10 : DefOk G e10 := ⟨⟨rfl, rfl, rfl, by decide +kernel, rfl, by decide +kernel, by decide +kernel⟩, rfl, rfl, .inl (by decide +kernel), by decide, fun _ _ _ _ _ _ us hl => match us, hl with | [_], _ => rfl⟩
theorem o11 : DefOk G e11 := ⟨⟨rfl, rfl, rfl, by decide +kernel, rfl, by decide +kernel, by decide +kernel⟩, rfl, rfl, .inl (by decide +kernel), by decide, fun _ _ _ _ _ _ us hl => match us, hl with | [_], _ => rfl⟩
theorem o12 : DefOk G e12 := ⟨⟨rfl, rfl, rfl, by decide +kernel, rfl, by decide +kernel, by decide +kernel⟩, rfl, rfl, .inl (by decide +kernel), by decide, fun _ _ _ _ _ _ us hl => match us, hl with | [_, _], _ => rfl⟩
theorem o13 : DefOk G e13 := ⟨⟨rfl, rfl, rfl, by decide +kernel, rfl, by decide +kernel, by decide +kernel⟩, rfl, rfl, .inl (by decide +kernel), by decide, fun _ _ _ _ _ _ us hl => match us, hl with | [_, _], _ => rfl⟩
theorem o14 : DefOk G e14 := ⟨⟨rfl, rfl, rfl, by decide +kernel, rfl, by decide +kernel, by decide +kernel⟩, rfl, rfl, .inl (by decide +kernel), by decide, fun _ _ _ _ _ _ us hl => match us, hl with | [_, _, _], _ => rfl⟩
theorem o15 : DefOk G e15 := ⟨⟨rfl, rfl, rfl, by decide +kernel, rfl, by decide +kernel, by decide +kernel⟩, rfl, rfl, .inl (by decide +kernel), by decide, fun _ _ _ _ _ _ us hl => match us, hl with | [_], _ => rfl⟩
theorem o16 : DefOk G e16 := ⟨⟨rfl, rfl, rfl, by decide +kernel, rfl, by decide +kernel, by decide +kernel⟩, rfl, rfl, .inl (by decide +kernel), by decide, fun _ _ _ _ _ _ us hl => match us, hl with | [_], _ => rfl⟩
end LW
end

section -- QF67
set_option autoImplicit false
namespace LW
open L3
def fs : Array Fn := #[b0, b1, b2, b3, b4, b5, b6, b7, b8, b9, b10, b11, b12, b13, b14, b15, b16]
end LW
end

section -- Q67
set_option autoImplicit false
set_option linter.all false
set_option maxRecDepth 10000
namespace L3
/-- common data: nothing mutable, not deep, short texts -/
def D.nice : Nat → D → Bool
  | n + 1, .tup xs => niceL n xs
  | n + 1, .lv _ xs => niceL n xs
  | 0, .tup _ => false
  | 0, .lv _ _ => false
  | _, .ref _ => false
  | _, .scr _ => false
  | _, .str s => okS s && decide (s.length ≤ 1000)
  | _, _ => true
where niceL (n : Nat) : List D → Bool
  | [] => true
  | x :: xs => D.nice n x && niceL n xs
theorem nice_fit_aux : ∀ (n : Nat) (d : D), (d.nice n = true → d.fit n = true ∧ d.fit (n + 1) = true ∧ d.nice (n + 1) = true ∧ d.lt 0 = true) := by
  intro n
  induction n with
  | zero => intro d; cases d <;> simp [D.nice, D.fit, D.lt] <;> (intros; simp_all)
  | succ n ih =>
    have ihL : ∀ xs : List D, D.nice.niceL n xs = true → D.fit.fitL n xs = true ∧ D.fit.fitL (n + 1) xs = true ∧ D.nice.niceL (n + 1) xs = true ∧ D.lt.ltL 0 xs = true := by
      intro xs
      induction xs with
      | nil => intro _; exact ⟨rfl, rfl, rfl, rfl⟩
      | cons x xs ihx =>
        intro h
        simp only [D.nice.niceL, Bool.and_eq_true] at h
        have h1 := ih x h.1
        have h2 := ihx h.2
        simp [D.fit.fitL, D.nice.niceL, D.lt.ltL, h1, h2]
    intro d
    cases d with
    | tup xs => intro h; have := ihL xs (by simpa [D.nice] using h); simpa [D.nice, D.fit, D.lt] using this
    | lv o xs => intro h; have := ihL xs (by simpa [D.nice] using h); simpa [D.nice, D.fit, D.lt] using this
    | _ => simp [D.nice, D.fit, D.lt] <;> (intros; simp_all)
theorem nice_fit {n : Nat} {d : D} (h : d.nice n = true) : d.fit n = true := (nice_fit_aux n d h).1
theorem nice_succ {n : Nat} {d : D} (h : d.nice n = true) : d.nice (n + 1) = true := (nice_fit_aux n d h).2.2.1
theorem nice_lt {n : Nat} {d : D} (h : d.nice n = true) : d.lt 0 = true := (nice_fit_aux n d h).2.2.2
theorem nice_mono {m n : Nat} {d : D} (h : d.nice m = true) (hl : m ≤ n) : d.nice n = true := by
  induction hl with
  | refl => exact h
  | step _ ih => exact nice_succ ih
theorem niceL_mem {n : Nat} : ∀ {xs : List D}, D.nice.niceL n xs = true → ∀ x ∈ xs, x.nice n = true
  | [], _, x, hx => by cases hx
  | y :: ys, h, x, hx => by
    simp only [D.nice.niceL, Bool.and_eq_true] at h
    rcases List.mem_cons.mp hx with rfl | hx
    · exact h.1
    · exact niceL_mem h.2 x hx
theorem nice_rd {n : Nat} {d : D} {s : S} (h : d.nice n = true) : d.rd s = d := by
  cases d <;> first | rfl | (cases n <;> simp [D.nice] at h)
theorem nice_frz {n : Nat} {d : D} (h : d.nice n = true) : d.frz.nice n = true := by
  cases d <;> first | exact h | (cases n <;> simp_all [D.nice])
end L3
namespace LW
open L3
def isNum (v : D) (a b : Int) : Bool := match v with | .int i => decide (a ≤ i) && decide (i ≤ b) | _ => false
def letters : List Nat := [97, 98, 99, 100, 101, 102, 103, 104, 105, 106, 107, 108, 109, 110, 111, 112, 113, 114, 115, 116, 117, 118, 119, 120, 121, 122]
def isWord : D → Bool
  | .str z => decide (1 ≤ z.length) && (decide (z.length ≤ 6) && z.all (fun c => letters.contains c))
  | _ => false
variable {w n : Nat} {s : S}
theorem r_num {v : D} {a b : Int} {k : Nat} (hv : v.nice k = true) : calls fs w (n + 1) 0 [v, .int a, .int b] s = .ok (.bl (isNum v a b)) s := by
  rw [calls_eq (b := b0) rfl]
  cases v with
  | int i => 
    simp [run, b0, isNum]
    by_cases h : a ≤ i <;> simp [h]
  | ref m => cases k <;> simp [D.nice] at hv
  | scr m => cases k <;> simp [D.nice] at hv
  | _ => simp [run, b0, isNum]
theorem c_num {v : D} {a b : Int} {k : Nat} (hv : v.nice k = true) : callR (calls fs w (n + 1) 0) [v, .int a, .int b] s = .ok (.bl (isNum v a b)) s := callR_pure (r_num hv) rfl
theorem nice_str {k : Nat} {z : List Nat} (h : (D.str z).nice k = true) : okS z = true ∧ z.length ≤ 1000 := by
  cases k <;> simpa [D.nice] using h
theorem big_len {z : List Nat} (h : z.length ≤ 1000) : z.length ≤ big := by rw [bigN]; omega
theorem r_word {v : D} {k : Nat} (hv : v.nice k = true) : calls fs w (n + 1) 1 [v] s = .ok (.bl (isWord v)) s := by
  rw [calls_eq (b := b1) rfl]
  cases v with
  | str z =>
    have hb := big_len (nice_str hv).2
    have key : ∀ s : S, geL true (geT (calls fs w n) (.cmp .inn (.var 1) (.glob (.str letters))) (.nm 1) [] [1] [some (.str z), none]) (z.map fun c => .str [c]) s = .ok (.bl (z.all fun c => letters.contains c)) s := fun s => by
      rw [geL_all (p := fun d => match d with | .str [c] => letters.contains c | _ => false)]
      · simp [List.all_map, Function.comp_def]
      · intro x hx
        obtain ⟨c, _, rfl⟩ := List.mem_map.mp hx
        simp [geT]
    unfold letters at key
    simp [run, b1, isWord, hb, letters, key]
    by_cases h1 : 1 ≤ z.length
    · by_cases h2 : z.length ≤ 6
      · have h2' : (z.length : Int) ≤ 6 := by omega
        have h1' : (1 : Int) ≤ z.length := by omega
        simp [h1, h2, h1', h2']
      · have h2' : ¬ (z.length : Int) ≤ 6 := by omega
        have h1' : (1 : Int) ≤ z.length := by omega
        simp [h1, h2, h1', h2']
    · have h1' : ¬ (1 : Int) ≤ z.length := by omega
      simp [h1, h1']
  | ref m => cases k <;> simp [D.nice] at hv
  | scr m => cases k <;> simp [D.nice] at hv
  | _ => simp [run, b1, isWord]
theorem c_word {v : D} {k : Nat} (hv : v.nice k = true) : callR (calls fs w (n + 1) 1) [v] s = .ok (.bl (isWord v)) s := callR_pure (r_word hv) rfl

def signOk (c : Nat) : Bool := decide (32 ≤ c) && (decide (c ≤ 126) && !([92, 34].contains c))
def areSigns : D → Bool
  | .str z => decide (z.length ≤ 20) && z.all signOk
  | _ => false
@[simp] theorem strLt1 (a b : Nat) : strLt [a] [b] = decide (a < b) := by
  unfold strLt
  by_cases h : a = b
  · subst h; simp [strLt]
  · simp [h]
theorem r_signs {v : D} {k : Nat} (hv : v.nice k = true) : calls fs w (n + 1) 2 [v] s = .ok (.bl (areSigns v)) s := by
  rw [calls_eq (b := b2) rfl]
  cases v with
  | str z =>
    have hb := big_len (nice_str hv).2
    have key : ∀ s : S, geL true (geT (calls fs w n) (.and (.chain .le .le (.con (.str [32])) (.var 1) (.con (.str [126]))) (.cmp .notin (.var 1) (.con (.str [92, 34])))) (.nm 1) [] [1] [some (.str z), none]) (z.map fun c => .str [c]) s = .ok (.bl (z.all signOk)) s := fun s => by
      rw [geL_all (p := fun d => match d with | .str [c] => signOk c | _ => false)]
      · simp [List.all_map, Function.comp_def]
      · intro x hx
        obtain ⟨c, _, rfl⟩ := List.mem_map.mp hx
        simp only [geT, wipe_cons, wipe_nil, List.set_cons_succ, List.set_cons_zero, asg_nm, frz_str, tests_nil, R.bind_ok, if_true, ev_and, ev_chain, ev_con, ev_var, getV_1, R.opt_some, rd_str, cmp_leS, strLt1, Option.map_some, ev_cmp, cmp_notinS]
        by_cases h1 : 32 ≤ c
        · by_cases h2 : c ≤ 126
          · have h1' : ¬ c < 32 := by omega
            have h2' : ¬ 126 < c := by omega
            simp [signOk, h1, h2, h1', h2']
          · have h1' : ¬ c < 32 := by omega
            have h2' : 126 < c := by omega
            simp [signOk, h1, h2, h1', h2']
        · have h1' : c < 32 := by omega
          simp [signOk, h1, h1']
    simp [run, b2, areSigns, hb]
    by_cases h1 : z.length ≤ 20
    · have h1' : ¬ (20 : Int) < z.length := by omega
      simp [h1, h1', key]
    · have h1' : (20 : Int) < z.length := by omega
      simp [h1, h1']
  | ref m => cases k <;> simp [D.nice] at hv
  | scr m => cases k <;> simp [D.nice] at hv
  | _ => simp [run, b2, areSigns]
theorem c_signs {v : D} {k : Nat} (hv : v.nice k = true) : callR (calls fs w (n + 1) 2) [v] s = .ok (.bl (areSigns v)) s := callR_pure (r_signs hv) rfl
def root : D := .tup [.int 0, .str []]
def isKey : D → Bool
  | .tup xs => if (D.tup xs).eqv root then (match xs with | x :: _ => !x.isBl | [] => false) else (match xs with | [a, b] => isNum a 1 1000000 && isWord b | _ => false)
  | _ => false
theorem nice_tup {k : Nat} {xs : List D} (h : (D.tup xs).nice k = true) : ∀ x ∈ xs, x.nice k = true := by
  cases k with
  | zero => simp [D.nice] at h
  | succ k => intro x hx; exact nice_succ (niceL_mem (by simpa [D.nice] using h) x hx)
theorem isTy_bool {v : D} {k : Nat} (hv : v.nice k = true) : isTy .bool v = some v.isBl := by
  cases v with
  | ref m => cases k <;> simp [D.nice] at hv
  | scr m => cases k <;> simp [D.nice] at hv
  | _ => rfl
theorem root_fit : root.fit 64 = true := by decide
theorem r_key {v : D} (hv : v.nice 64 = true) : calls fs w (n + 2) 3 [v] s = .ok (.bl (isKey v)) s := by
  rw [calls_eq (b := b3) rfl]
  have hq := cmp_eq (nice_fit hv) root_fit
  have hr : v.rd s = v := nice_rd hv
  unfold root at hq
  cases v with
  | tup xs =>
    simp only [run, b3, List.length_cons, List.length_nil, if_true, List.map_cons, List.map_nil, List.replicate_zero, List.append_nil, exs_cons, ex_ite, ev_and, ev_cmp, ev_var, getV_0, R.opt_some, R.bind_ok, ev_glob, rd_tup, hq, Option.map_some, bool_bl]
    unfold isKey root
    cases he : (D.tup xs).eqv (.tup [.int 0, .str []]) with
    | true =>
      simp
      cases xs with
      | nil => simp [D.eqv, D.eqv.eqvL] at he
      | cons x r =>
        have hx := nice_tup hv x List.mem_cons_self
        simp [nice_rd hx, isTy_bool hx, he]
    | false =>
      simp
      match xs, hv with
      | [], _ => simp [he]
      | [a], _ => simp [he]
      | [a, b], hv =>
        have ha := nice_tup hv a (by simp)
        have hb := nice_tup hv b (by simp)
        have fa : a.frz.nice 64 = true ∧ isNum a.frz = isNum a := by cases a <;> first | exact ⟨ha, rfl⟩ | exact ⟨by simpa [D.nice] using ha, rfl⟩
        have fb : b.frz.nice 64 = true ∧ isWord b.frz = isWord b := by cases b <;> first | exact ⟨hb, rfl⟩ | exact ⟨by simpa [D.nice] using hb, rfl⟩
        simp [c_num fa.1, c_word fb.1, fa.2, fb.2, he]
        cases isNum a 1 1000000 <;> simp
      | a :: b :: c :: r, _ =>
        have : ¬ ((r.length : Int) + 1 + 1 + 1 = 2) := by omega
        simp [this, he]
  | ref m => simp [D.nice] at hv
  | scr m => simp [D.nice] at hv
  | _ => simp [run, b3, isKey, hq, D.eqv]
theorem c_key {v : D} (hv : v.nice 64 = true) : callR (calls fs w (n + 2) 3) [v] s = .ok (.bl (isKey v)) s := callR_pure (r_key hv) rfl
def isTime (v : D) : Bool := isKey v && !v.eqv root
theorem r_time {v : D} (hv : v.nice 64 = true) : calls fs w (n + 3) 4 [v] s = .ok (.bl (isTime v)) s := by
  rw [calls_eq (b := b4) rfl]
  have hq := cmp_ne (nice_fit hv) root_fit
  have hr : ∀ s, v.rd s = v := fun s => nice_rd hv
  have fv : v.frz.nice 64 = true ∧ isKey v.frz = isKey v := by cases v <;> first | exact ⟨hv, rfl⟩ | exact ⟨by simpa [D.nice] using hv, rfl⟩
  unfold root at hq
  simp [run, b4, c_key fv.1, fv.2, hr, hq, isTime]
  cases isKey v <;> simp [root]
theorem c_time {v : D} (hv : v.nice 64 = true) : callR (calls fs w (n + 3) 4) [v] s = .ok (.bl (isTime v)) s := callR_pure (r_time hv) rfl

@[simp] theorem isNum_frz (v : D) (a b : Int) : isNum v.frz a b = isNum v a b := by cases v <;> rfl
@[simp] theorem isWord_frz (v : D) : isWord v.frz = isWord v := by cases v <;> rfl
@[simp] theorem areSigns_frz (v : D) : areSigns v.frz = areSigns v := by cases v <;> rfl
@[simp] theorem isKey_frz (v : D) : isKey v.frz = isKey v := by cases v <;> rfl
@[simp] theorem isTime_frz (v : D) : isTime v.frz = isTime v := by cases v <;> first | rfl | (unfold isTime; simp [D.eqv, root, isKey])
def isItem : D → Bool
  | .tup [a, t] => isNum a (-1000000) 1000000 && isTime t
  | _ => false
def isRank : D → Bool
  | .tup xs => decide (1 ≤ xs.length) && (decide (xs.length ≤ 60) && xs.all isItem)
  | _ => false
theorem r_rank {v : D} (hv : v.nice 64 = true) : calls fs w (n + 4) 5 [v] s = .ok (.bl (isRank v)) s := by
  rw [calls_eq (b := b5) rfl]
  cases v with
  | tup xs =>
    have key := foL_all (f := foT (calls fs w (n + 3)) w (.nm 1) [
        .ite (.or (.not (.isa (.var 1) .tuple)) (.or (.cmp .ne (.bi .len [.var 1]) (.con (.int 2))) (.not (.call 0 [.idx (.var 1) (.con (.int 0)), .neg (.glob (.int 1000000)), .glob (.int 1000000)])))) [
        .ret (.con (.bl false))] [],
        .ite (.not (.call 4 [.idx (.var 1) (.con (.int 1))])) [
        .ret (.con (.bl false))] []]) (p := isItem) (r := .bl false) (s := s) (P := fun e => ∃ o, e = [some (.tup xs), o]) (xs := xs) (e := [some (.tup xs), none]) ⟨none, rfl⟩ (fun x hx e he => by
      obtain ⟨o, rfl⟩ := he
      have hx := nice_tup hv x hx
      cases x with
      | tup ys =>
        match ys, hx with
        | [], _ => simp [isItem, foT]
        | [a], _ => simp [isItem, foT]
        | [a, t], hx =>
          have ha := nice_tup hx a (by simp)
          have ht := nice_tup hx t (by simp)
          simp [isItem, foT, c_num (nice_frz ha), c_time (nice_frz ht)]
          cases isNum a (-1000000) 1000000 with
          | false => simp
          | true =>
            simp [c_time (nice_frz ht)]
            cases isTime t <;> simp
        | a :: b :: c :: r, _ =>
          have : ¬ ((r.length : Int) + 1 + 1 + 1 = 2) := by omega
          simp [isItem, foT, this]
      | ref m => simp [D.nice] at hx
      | scr m => simp [D.nice] at hx
      | _ => simp [isItem, foT])
    simp [run, b5, isRank]
    by_cases h1 : 1 ≤ xs.length
    · have h1' : (1 : Int) ≤ xs.length := by omega
      by_cases h2 : xs.length ≤ 60
      · have h2' : (xs.length : Int) ≤ 60 := by omega
        simp only [h1, h2, h1', h2', decide_true, Bool.true_and]
        cases ha : xs.all isItem with
        | true =>
          rw [ha] at key
          simp only [if_true] at key
          obtain ⟨e', k1, o, rfl⟩ := key
          simp [k1]
        | false =>
          rw [ha] at key
          simp only [Bool.false_eq_true, if_false] at key
          simp [key]
      · have h2' : ¬ (xs.length : Int) ≤ 60 := by omega
        simp [h1, h2, h1', h2']
    · have h1' : ¬ (1 : Int) ≤ xs.length := by omega
      simp [h1, h1']
  | ref m => simp [D.nice] at hv
  | scr m => simp [D.nice] at hv
  | _ => simp [run, b5, isRank]
theorem c_rank {v : D} (hv : v.nice 64 = true) : callR (calls fs w (n + 4) 5) [v] s = .ok (.bl (isRank v)) s := callR_pure (r_rank hv) rfl

theorem key_shape {v : D} (h : isKey v = true) : ∃ i y, v = .tup [.int i, .str y] := by
  cases v with
  | tup xs =>
    match xs, h with
    | [], h => simp [isKey, root, D.eqv, D.eqv.eqvL] at h
    | [a], h => simp [isKey, root, D.eqv, D.eqv.eqvL] at h
    | [a, b], h =>
      cases he : (D.tup [a, b]).eqv root with
      | true =>
        simp only [isKey, he, if_true] at h
        simp only [root, D.eqv, D.eqv.eqvL, Bool.and_eq_true] at he
        obtain ⟨h1, h2, _⟩ := he
        cases a <;> simp [D.eqv, D.isBl] at h1 h
        cases b <;> simp [D.eqv] at h2
        exact ⟨_, _, rfl⟩
      | false =>
        simp only [isKey, he, Bool.false_eq_true, if_false, Bool.and_eq_true] at h
        obtain ⟨h1, h2⟩ := h
        cases a <;> simp [isNum] at h1
        cases b <;> simp [isWord] at h2
        exact ⟨_, _, rfl⟩
    | a :: b :: c :: r, h => simp [isKey, root, D.eqv, D.eqv.eqvL] at h
  | _ => simp [isKey] at h
def keyLt (i : Int) (y : List Nat) (a : Int) (z : List Nat) : Bool := if i = a then (if y == z then false else strLt y z) else decide (i < a)
def isAhead (v t : D) : Bool := isKey v && (match v, t with | .tup [.int i, .str y], .tup [.int a, .str z] => keyLt i y a z | _, _ => false)
theorem ord_key (i a : Int) (y z : List Nat) : ordD 64 (.tup [.int i, .str y]) (.tup [.int a, .str z]) = some (keyLt i y a z) := by
  simp only [ordD, ordL, Option.bind_some, D.eqv, keyLt]
  by_cases h : i = a
  · by_cases h2 : y = z <;> simp [h, h2]
  · by_cases h2 : y = z <;> simp [h, h2]
theorem r_ahead {v : D} {a : Int} {z : List Nat} (hv : v.nice 64 = true) (hz : okS z = true) : calls fs w (n + 3) 8 [v, .tup [.int a, .str z]] s = .ok (.bl (isAhead v (.tup [.int a, .str z]))) s := by
  rw [calls_eq (b := b8) rfl]
  simp [run, b8, c_key (nice_frz hv)]
  cases hk : isKey v with
  | false => simp [isAhead, hk]
  | true =>
    obtain ⟨i, y, rfl⟩ := key_shape hk
    have f1 : okS y = true := by
      have := nice_tup hv (.str y) (by simp)
      exact (nice_str this).1
    simp [isAhead, hk, D.fit.fitL, D.fit, f1, hz, ord_key]
theorem c_ahead {v : D} {a : Int} {z : List Nat} (hv : v.nice 64 = true) (hz : okS z = true) : callR (calls fs w (n + 3) 8) [v, .tup [.int a, .str z]] s = .ok (.bl (isAhead v (.tup [.int a, .str z]))) s := callR_pure (r_ahead hv hz) rfl
def isPlace (v r t : D) : Bool := (v.isNon || isAhead v t) && isRank r
@[simp] theorem isAhead_frz (v t : D) : isAhead v.frz t = isAhead v t := by cases v <;> first | rfl | (unfold isAhead; simp [isKey])
@[simp] theorem isRank_frz (v : D) : isRank v.frz = isRank v := by cases v <;> rfl
@[simp] theorem isNon_frz (v : D) : v.frz.isNon = v.isNon := by cases v <;> rfl
@[simp] theorem isPlace_frz1 (v r t : D) : isPlace v.frz r t = isPlace v r t := by unfold isPlace; simp
@[simp] theorem isPlace_frz2 (v r t : D) : isPlace v r.frz t = isPlace v r t := by unfold isPlace; simp
theorem is_nonD {v : D} : cmp2 .is v .non = some v.isNon := by cases v <;> rfl
theorem r_place {v r : D} {a : Int} {z : List Nat} (hv : v.nice 64 = true) (hr : r.nice 64 = true) (hz : okS z = true) : calls fs w (n + 5) 9 [v, r, .tup [.int a, .str z]] s = .ok (.bl (isPlace v r (.tup [.int a, .str z]))) s := by
  rw [calls_eq (b := b9) rfl]
  have e1 : ∀ s, v.rd s = v := fun s => nice_rd hv
  simp [run, b9, e1, is_nonD, isPlace, c_ahead (nice_frz hv) hz, c_rank (nice_frz hr)]
  cases v.isNon with
  | true => simp
  | false =>
    simp
    cases isAhead v (.tup [.int a, .str z]) <;> simp
theorem c_place {v r : D} {a : Int} {z : List Nat} (hv : v.nice 64 = true) (hr : r.nice 64 = true) (hz : okS z = true) : callR (calls fs w (n + 5) 9) [v, r, .tup [.int a, .str z]] s = .ok (.bl (isPlace v r (.tup [.int a, .str z]))) s := callR_pure (r_place hv hr hz) rfl
def kNew : List Nat := [110, 101, 119]
def kPut : List Nat := [112, 117, 116]
def kSet : List Nat := [115, 101, 116]
def isOp : D → Bool
  | .tup [.str k, t, a, b, c, d] => k == kNew && (isTime t && (isWord a && (areSigns b && isPlace c d t)))
  | .tup [.str k, t, a, b, c] => if k == kPut then isTime t && (isAhead a t && (!a.eqv root && isPlace b c t))
      else k == kSet && (isTime t && (isAhead a t && (match b with
        | .str m => if m == [119, 111, 114, 100] then isWord c else m == [115, 105, 103, 110, 115] && areSigns c
        | _ => false)))
  | _ => false

theorem time_shape {v : D} (h : isTime v = true) : ∃ i y, v = .tup [.int i, .str y] := by
  unfold isTime at h
  simp only [Bool.and_eq_true] at h
  exact key_shape h.1
theorem len_ne {n : Nat} {m : Int} (h : (n : Int) ≠ m) : (decide ((n : Int) = m)) = false := by simpa using h
theorem lk3 {z : List Nat} (h1 : z ≠ kNew) (h2 : z ≠ kPut) (h3 : z ≠ kSet) : ([([110, 101, 119], D.int 6), ([112, 117, 116], .int 5), ([115, 101, 116], .int 5)] : List (List Nat × D)).lookup z = none := by
  unfold kNew at h1
  unfold kPut at h2
  unfold kSet at h3
  simp [List.lookup, beq_eq_false_iff_ne.mpr h1, beq_eq_false_iff_ne.mpr h2, beq_eq_false_iff_ne.mpr h3]
@[simp] theorem lkN : ([([110, 101, 119], D.int 6), ([112, 117, 116], .int 5), ([115, 101, 116], .int 5)] : List (List Nat × D)).lookup [110, 101, 119] = some (.int 6) := rfl
@[simp] theorem lkP : ([([110, 101, 119], D.int 6), ([112, 117, 116], .int 5), ([115, 101, 116], .int 5)] : List (List Nat × D)).lookup [112, 117, 116] = some (.int 5) := rfl
@[simp] theorem lkS : ([([110, 101, 119], D.int 6), ([112, 117, 116], .int 5), ([115, 101, 116], .int 5)] : List (List Nat × D)).lookup [115, 101, 116] = some (.int 5) := rfl
theorem op_other {z : List Nat} {r : List D} (h1 : z ≠ kNew) (h2 : z ≠ kPut) (h3 : z ≠ kSet) : isOp (.tup (.str z :: r)) = false := by
  match r with
  | [] => rfl
  | [_] => rfl
  | [_, _] => rfl
  | [_, _, _] => rfl
  | [_, _, _, _] => simp [isOp, h2, h3]
  | [_, _, _, _, _] => simp [isOp, h1]
  | _ :: _ :: _ :: _ :: _ :: _ :: _ => rfl
theorem r_op {v : D} (hv : v.nice 64 = true) : calls fs w (n + 6) 10 [v] s = .ok (.bl (isOp v)) s := by
  rw [calls_eq (b := b10) rfl]
  cases v with
  | tup xs =>
    match xs, hv with
    | [], hv => simp [run, b10, isOp]
    | k :: r, hv =>
      have hk := nice_tup hv k (by simp)
      have hl : ¬ (((k :: r).length : Nat) : Int) = 0 := by simp; omega
      cases k with
      | str z =>
        by_cases h1 : z = kNew
        · subst h1
          match r, hv with
          | [], _ => simp [run, b10, isOp, kNew, kPut, kSet]
          | [_], _ => simp [run, b10, isOp, kNew, kPut, kSet]
          | [_, _], _ => simp [run, b10, isOp, kNew, kPut, kSet]
          | [_, _, _], _ => simp [run, b10, isOp, kNew, kPut, kSet]
          | [_, _, _, _], _ => simp [run, b10, isOp, kNew, kPut, kSet]
          | _ :: _ :: _ :: _ :: _ :: _ :: r, _ =>
            have : ¬ ((r.length : Int) + 1 + 1 + 1 + 1 + 1 + 1 + 1 = 6) := by omega
            have h0 : ¬ ((r.length : Int) + 1 + 1 + 1 + 1 + 1 + 1 + 1 = 0) := by omega
            simp [run, b10, isOp, kNew, kPut, kSet, this, h0]
          | [t, a, b, c, d], hv =>
            have nt := nice_tup hv t (by simp)
            have na := nice_tup hv a (by simp)
            have nb := nice_tup hv b (by simp)
            have nc := nice_tup hv c (by simp)
            have nd := nice_tup hv d (by simp)
            simp [run, b10, isOp, kNew, c_time (nice_frz nt)]
            cases ht : isTime t with
            | false => simp
            | true =>
              obtain ⟨i, y, rfl⟩ := time_shape ht
              have hy := (nice_str (nice_tup nt (.str y) (by simp))).1
              simp [c_word (nice_frz na), c_signs (nice_frz nb), c_place (nice_frz nc) (nice_frz nd) hy]
              cases isWord a <;> cases areSigns b <;> simp
        · by_cases h2 : z = kPut
          · subst h2
            match r, hv with
            | [], _ => simp [run, b10, isOp, kNew, kPut, kSet]
            | [_], _ => simp [run, b10, isOp, kNew, kPut, kSet]
            | [_, _], _ => simp [run, b10, isOp, kNew, kPut, kSet]
            | [_, _, _], _ => simp [run, b10, isOp, kNew, kPut, kSet]
            | [_, _, _, _, _], _ => simp [run, b10, isOp, kNew, kPut, kSet]
            | _ :: _ :: _ :: _ :: _ :: _ :: r, _ =>
              have : ¬ ((r.length : Int) + 1 + 1 + 1 + 1 + 1 + 1 + 1 = 5) := by omega
              have h0 : ¬ ((r.length : Int) + 1 + 1 + 1 + 1 + 1 + 1 + 1 = 0) := by omega
              simp [run, b10, isOp, kNew, kPut, kSet, this, h0]
            | [t, a, b, c], hv =>
              have nt := nice_tup hv t (by simp)
              have na := nice_tup hv a (by simp)
              have nb := nice_tup hv b (by simp)
              have nc := nice_tup hv c (by simp)
              have hq : ∀ s, cmp2 .ne (a.rd s) (.tup [.int 0, .str []]) = some (!a.eqv root) := fun s => by rw [nice_rd na]; exact cmp_ne (nice_fit na) root_fit
              simp [run, b10, isOp, kNew, kPut, c_time (nice_frz nt)]
              cases ht : isTime t with
              | false => simp
              | true =>
                obtain ⟨i, y, rfl⟩ := time_shape ht
                have hy := (nice_str (nice_tup nt (.str y) (by simp))).1
                simp [c_ahead (nice_frz na) hy]
                cases isAhead a (.tup [.int i, .str y]) with
                | false => simp
                | true =>
                  simp [hq]
                  cases a.eqv root <;> simp [c_place (nice_frz nb) (nice_frz nc) hy]
          · by_cases h3 : z = kSet
            · subst h3
              match r, hv with
              | [], _ => simp [run, b10, isOp, kNew, kPut, kSet]
              | [_], _ => simp [run, b10, isOp, kNew, kPut, kSet]
              | [_, _], _ => simp [run, b10, isOp, kNew, kPut, kSet]
              | [_, _, _], _ => simp [run, b10, isOp, kNew, kPut, kSet]
              | [_, _, _, _, _], _ => simp [run, b10, isOp, kNew, kPut, kSet]
              | _ :: _ :: _ :: _ :: _ :: _ :: r, _ =>
                have : ¬ ((r.length : Int) + 1 + 1 + 1 + 1 + 1 + 1 + 1 = 5) := by omega
                have h0 : ¬ ((r.length : Int) + 1 + 1 + 1 + 1 + 1 + 1 + 1 = 0) := by omega
                simp [run, b10, isOp, kNew, kPut, kSet, this, h0]
              | [t, a, b, c], hv =>
                have nt := nice_tup hv t (by simp)
                have na := nice_tup hv a (by simp)
                have nb := nice_tup hv b (by simp)
                have nc := nice_tup hv c (by simp)
                have hq : ∀ s, cmp2 .notin (b.rd s) (.tup [.str [119, 111, 114, 100], .str [115, 105, 103, 110, 115]]) = some (![D.str [119, 111, 114, 100], .str [115, 105, 103, 110, 115]].any fun x => x.eqv b) := fun s => by rw [nice_rd nb]; exact cmp_notinT (nice_fit nb) (by decide)
                have hq2 : ∀ s, cmp2 .eq (b.rd s) (.str [119, 111, 114, 100]) = some (b.eqv (.str [119, 111, 114, 100])) := fun s => by rw [nice_rd nb]; exact cmp_eq (nice_fit nb) (by decide)
                simp [run, b10, isOp, kNew, kPut, kSet, c_time (nice_frz nt)]
                cases ht : isTime t with
                | false => simp
                | true =>
                  obtain ⟨i, y, rfl⟩ := time_shape ht
                  have hy := (nice_str (nice_tup nt (.str y) (by simp))).1
                  simp [c_ahead (nice_frz na) hy]
                  cases isAhead a (.tup [.int i, .str y]) with
                  | false => simp
                  | true =>
                  simp [hq, hq2, bigN]
                  cases b with
                  | str m =>
                    by_cases hm : m = [119, 111, 114, 100]
                    · subst hm
                      simp [D.eqv, c_word (nice_frz nc)]
                    · by_cases hm2 : m = [115, 105, 103, 110, 115]
                      · subst hm2
                        simp [D.eqv, c_signs (nice_frz nc)]
                      · have e1 : ([119, 111, 114, 100] == m) = false := beq_eq_false_iff_ne.mpr fun q => hm q.symm
                        have e2 : ([115, 105, 103, 110, 115] == m) = false := beq_eq_false_iff_ne.mpr fun q => hm2 q.symm
                        have e3 : (m == [115, 105, 103, 110, 115]) = false := beq_eq_false_iff_ne.mpr hm2
                        simp [D.eqv, hm, e1, e2, e3]
                  | _ => simp [D.eqv]
            · rw [op_other h1 h2 h3]
              simp [run, b10, lk3 h1 h2 h3, hl]
      | ref m => simp [D.nice] at hk
      | scr m => simp [D.nice] at hk
      | _ => simp [run, b10, isOp]
  | ref m => simp [D.nice] at hv
  | scr m => simp [D.nice] at hv
  | _ => simp [run, b10, isOp]
theorem c_op {v : D} (hv : v.nice 64 = true) : callR (calls fs w (n + 6) 10) [v] s = .ok (.bl (isOp v)) s := callR_pure (r_op hv) rfl
end LW
end

section -- Q67b
set_option autoImplicit false
set_option linter.all false
set_option maxRecDepth 10000
namespace LW
open L3
variable {w n : Nat} {s : S}
/-- times, ranks -/
abbrev TM := Int × List Nat
abbrev RK := List (Int × TM)
def tm (t : TM) : D := .tup [.int t.1, .str t.2]
def itm (p : Int × TM) : D := .tup [.int p.1, tm p.2]
def rk (r : RK) : D := .tup (r.map itm)
theorem itm_eqv (p q : Int × TM) : (itm p).eqv (itm q) = decide (p = q) := by
  obtain ⟨a, b, c⟩ := p
  obtain ⟨a', b', c'⟩ := q
  simp only [itm, tm, D.eqv, D.eqv.eqvL, Bool.and_true]
  rw [Bool.eq_iff_iff]
  simp
theorem itm_inj {p q : Int × TM} (h : itm p = itm q) : p = q := by
  obtain ⟨a, b, c⟩ := p
  obtain ⟨a', b', c'⟩ := q
  simp [itm, tm] at h
  simp [h]
/-- texts without strange signs -/
def okT (t : TM) : Prop := okS t.2 = true
theorem itm_fit {p : Int × TM} (h : okT p.2) : (itm p).fit 64 = true := by
  unfold okT at h
  simp [itm, tm, D.fit, D.fit.fitL, h]
/-- how far two ranks are alike -/
def cpl : RK → RK → Nat
  | a :: as, b :: bs => if a = b then cpl as bs + 1 else 0
  | _, _ => 0
theorem cpl_lt : ∀ (a b : RK) (k : Nat), k < cpl a b → k < a.length ∧ k < b.length ∧ a[k]? = b[k]?
  | a :: as, b :: bs, k, h => by
    unfold cpl at h
    split at h
    · rename_i e
      cases k with
      | zero => simp [e]
      | succ k =>
        have := cpl_lt as bs k (by omega)
        exact ⟨by simp; omega, by simp; omega, by simpa using this.2.2⟩
    · omega
  | [], b, k, h => by simp [cpl] at h
  | a :: as, [], k, h => by simp [cpl] at h
theorem cpl_le1 : ∀ (a b : RK), cpl a b ≤ a.length
  | a :: as, b :: bs => by
    unfold cpl
    split
    · have := cpl_le1 as bs; simp; omega
    · simp
  | [], b => by simp [cpl]
  | a :: as, [] => by simp [cpl]
theorem cpl_le2 : ∀ (a b : RK), cpl a b ≤ b.length
  | a :: as, b :: bs => by
    unfold cpl
    split
    · have := cpl_le2 as bs; simp; omega
    · simp
  | [], b => by simp [cpl]
  | a :: as, [] => by simp [cpl]
theorem cpl_ne : ∀ (a b : RK) (x y : Int × TM), a[cpl a b]? = some x → b[cpl a b]? = some y → x ≠ y
  | a :: as, b :: bs, x, y, h1, h2 => by
    unfold cpl at h1 h2
    split at h1
    · rename_i e
      rw [if_pos e] at h2
      exact cpl_ne as bs x y (by simpa using h1) (by simpa using h2)
    · rename_i e
      rw [if_neg e] at h2
      simp at h1 h2
      subst h1 h2
      exact e
  | [], b, x, y, h1, h2 => by simp [cpl] at h1
  | a :: as, [], x, y, h1, h2 => by simp [cpl] at h2
theorem at_itm {r : RK} {k : Nat} {x : Int × TM} (h : r[k]? = some x) : idx2 (rk r) (.int k) = some (itm x) := by
  show atI _ _ = _
  rw [atI_nat, List.getElem?_map, h]; rfl
theorem frz_itm (x : Int × TM) : (itm x).frz = itm x := rfl
def okR (r : RK) : Prop := ∀ p ∈ r, okT p.2
theorem r_ahead2 {a b : RK} (ha : okR a) (hb : okR b) (hw : a.length < w) : calls fs w (n + 1) 6 [rk a, rk b] s = .ok (.int (cpl a b)) s := by
  rw [calls_eq (b := b6) rfl]
  obtain ⟨e', s', h1, h2, h3⟩ := whI_count (c := whC (calls fs w n) (.and (.cmp .lt (.var 2) (.bi .min [.bi .len [.var 0], .bi .len [.var 1]])) (.cmp .eq (.idx (.var 0) (.var 2)) (.idx (.var 1) (.var 2))))) (b := whB (calls fs w n) w [.aug 2 .add (.con (.int 1))])
    (P := fun k e s' => e = [some (rk a), some (rk b), some (.int k)] ∧ s' = s) (m := cpl a b) (fun k e s' hk hp => by
      obtain ⟨rfl, rfl⟩ := hp
      obtain ⟨l1, l2, l3⟩ := cpl_lt a b k hk
      have e1 : a[k]? = some a[k] := List.getElem?_eq_getElem l1
      have e2 : b[k]? = some a[k] := by rw [← l3, e1]
      have q1 : idx2 (.tup (a.map itm)) (.int (k : Int)) = some (itm a[k]) := at_itm e1
      have q2 : idx2 (.tup (b.map itm)) (.int (k : Int)) = some (itm a[k]) := at_itm e2
      have hm : (k : Int) < (if b.length < a.length then (b.length : Int) else a.length) := by split <;> omega
      have hc := cmp_eq (itm_fit (ha _ (List.getElem_mem l1))) (itm_fit (ha _ (List.getElem_mem l1)))
      rw [itm_eqv] at hc
      have r1 : ∀ s, (itm a[k]).rd s = itm a[k] := fun s => rfl
      constructor
      · simp [whC, rk, hm]
        simp only [idx_tup] at q1 q2
        simp [q1, q2, r1, hc]
      · simp [whB, aug2]) (fun e s' hp => by
      obtain ⟨rfl, rfl⟩ := hp
      have l1 := cpl_le1 a b
      have l2 := cpl_le2 a b
      by_cases hm : (cpl a b : Int) < (if b.length < a.length then (b.length : Int) else a.length)
      · have k1 : cpl a b < a.length := by split at hm <;> omega
        have k2 : cpl a b < b.length := by split at hm <;> omega
        have e1 : a[cpl a b]? = some a[cpl a b] := List.getElem?_eq_getElem k1
        have e2 : b[cpl a b]? = some b[cpl a b] := List.getElem?_eq_getElem k2
        have hne := cpl_ne a b _ _ e1 e2
        have q1 : idx2 (.tup (a.map itm)) (.int ((cpl a b : Nat) : Int)) = some (itm a[cpl a b]) := at_itm e1
        have q2 : idx2 (.tup (b.map itm)) (.int ((cpl a b : Nat) : Int)) = some (itm b[cpl a b]) := at_itm e2
        have hc := cmp_eq (itm_fit (ha _ (List.getElem_mem k1))) (itm_fit (hb _ (List.getElem_mem k2)))
        rw [itm_eqv] at hc
        have r1 : ∀ s x, (itm x).rd s = itm x := fun s x => rfl
        simp [whC, rk, hm]
        simp only [idx_tup] at q1 q2
        simp [q1, q2, r1, hc, hne]
      · simp [whC, rk, hm]) (cpl a b) 0 w [some (rk a), some (rk b), some (.int 0)] s (by omega) (by have := cpl_le1 a b; omega) ⟨rfl, rfl⟩
  obtain ⟨rfl, rfl⟩ := And.intro h2 h3
  simp [run, b6, h1]
theorem rk_lt0 (r : RK) : (rk r).lt 0 = true := by
  have : ∀ r : RK, D.lt.ltL 0 (r.map itm) = true := by
    intro r
    induction r with
    | nil => rfl
    | cons a r ih => simp [D.lt.ltL, ih, itm, tm, D.lt]
  simpa [rk, D.lt] using this r
theorem c_ahead2 {a b : RK} (ha : okR a) (hb : okR b) (hw : a.length < w) : callR (calls fs w (n + 1) 6) [rk a, rk b] s = .ok (.int (cpl a b)) s := callR_pure (r_ahead2 ha hb hw) rfl
/-- the rank between two ones -/
def opt : Option RK → D
  | none => .non
  | some r => rk r
def rb (l h : Option RK) (t : TM) : RK := match l, h with
  | none, none => [(0, t)]
  | none, some h => [((h[0]?.getD default).1 - 1, t)]
  | some l, none => [((l[0]?.getD default).1 + 1, t)]
  | some l, some h => let m := cpl l h
    if m = l.length then l ++ [((h[m]?.getD default).1 - 1, t)]
    else if (l[m]?.getD default).1 + 1 < (h[m]?.getD default).1 then l.take m ++ [((l[m]?.getD default).1 + 1, t)]
    else l.take (m + 1) ++ [(if m + 1 < l.length then (l[m + 1]?.getD default).1 + 1 else 0, t)]
/-- what the two ranks have to be -/
structure Two (w : Nat) (l h : Option RK) : Prop where
  l0 : ∀ r, l = some r → r ≠ [] ∧ okR r ∧ r.length < w ∧ r.length ≤ 1000
  h0 : ∀ r, h = some r → r ≠ [] ∧ okR r
  lh : ∀ r q, l = some r → h = some q → cpl r q < q.length
theorem map_itm_tup (t : TM) (i : Int) : D.tup [.int i, tm t] = itm (i, t) := rfl
theorem tup_itm (r : RK) : D.tup (r.map itm) = rk r := rfl
@[simp] theorem idx_itm (x : Int × TM) : idx2 (itm x) (.int 0) = some (.int x.1) := rfl
@[simp] theorem rd_itm (x : Int × TM) : (itm x).rd s = itm x := rfl
@[simp] theorem frz_itm' (x : Int × TM) : (itm x).frz = itm x := rfl
@[simp] theorem tm_frz (t : TM) : (tm t).frz = tm t := rfl
@[simp] theorem tm_rd (t : TM) : (tm t).rd s = tm t := rfl
@[simp] theorem rk_frz (r : RK) : (rk r).frz = rk r := rfl
@[simp] theorem rk_rd (r : RK) : (rk r).rd s = rk r := rfl
@[simp] theorem rk_is (r : RK) : cmp2 .is (rk r) .non = some false := rfl
@[simp] theorem rk_isnot (r : RK) : cmp2 .isnot (rk r) .non = some true := rfl
@[simp] theorem rk_len (r : RK) : bi .len [rk r] = some (.int r.length) := by simp [rk]
@[simp] theorem rk_items (r : RK) : (rk r).items = some (r.map itm) := rfl
theorem rk_take (r : RK) (k : Nat) : slc2 none (some (k : Int)) (rk r) = some (rk (r.take k)) := by
  show some (D.tup (cut _ _ _)) = _
  rw [cut_to, ← List.map_take]; rfl
theorem rk_take1 (r : RK) (k : Nat) : slc2 none (some ((k : Int) + 1)) (rk r) = some (rk (r.take (k + 1))) := rk_take r (k + 1)
theorem rk_at (r : RK) (k : Nat) : idx2 (rk r) (.int (k : Int)) = r[k]?.map itm := by
  show atI _ _ = _
  rw [atI_nat, List.getElem?_map]
@[simp] theorem rk_0 (r : RK) : idx2 (rk r) (.int 0) = r[0]?.map itm := rk_at r 0
theorem rk_at1 (r : RK) (k : Nat) : idx2 (rk r) (.int ((k : Int) + 1)) = r[k + 1]?.map itm := rk_at r (k + 1)
theorem rk_add (a b : RK) (h : a.length + b.length ≤ big) : bin2 .add (rk a) (rk b) = some (rk (a ++ b)) := by
  show (if _ then _ else _) = _
  rw [if_pos (by simpa using h), ← List.map_append]; rfl
theorem tup1 (x : Int × TM) : D.tup [itm x] = rk [x] := rfl
theorem tup_snoc (r : RK) (x : Int × TM) : D.tup (r.map itm ++ [itm x]) = rk (r ++ [x]) := by simp [rk]
theorem getD_of {r : RK} {k : Nat} (h : k < r.length) : r[k]? = some (r[k]?.getD default) := by
  rw [List.getElem?_eq_getElem h]; rfl
@[simp] theorem chk_big1 {α : Type} (r : R α) : R.chk (decide (1 ≤ big)) r = r := rfl
@[simp] theorem chk_big2 {α : Type} (r : R α) : R.chk (decide (2 ≤ big)) r = r := rfl
@[simp] theorem chk_big1' {α : Type} (r : R α) : R.chk (decide (0 + 1 ≤ big)) r = r := rfl
@[simp] theorem chk_big2' {α : Type} (r : R α) : R.chk (decide (0 + 1 + 1 ≤ big)) r = r := rfl
theorem r_between {l h : Option RK} {t : TM} (T : Two w l h) : calls fs w (n + 2) 7 [opt l, opt h, tm t] s = .ok (rk (rb l h t)) s := by
  rw [calls_eq (b := b7) rfl]
  cases l with
  | none =>
    cases h with
    | none => simp [run, b7, opt, rb, map_itm_tup, tup1]
    | some h =>
      have hl : 0 < h.length := List.length_pos_iff.mpr (T.h0 h rfl).1
      obtain ⟨x, e⟩ : ∃ x, h[0]? = some x := ⟨_, getD_of hl⟩
      simp [run, b7, opt, rb, e, map_itm_tup, tup1]
  | some l =>
    have ll : 0 < l.length := List.length_pos_iff.mpr (T.l0 l rfl).1
    cases h with
    | none =>
      obtain ⟨x, e⟩ : ∃ x, l[0]? = some x := ⟨_, getD_of ll⟩
      simp [run, b7, opt, rb, e, map_itm_tup, tup1]
    | some h =>
      obtain ⟨_, okl, lw, lz⟩ := T.l0 l rfl
      obtain ⟨_, okh⟩ := T.h0 h rfl
      have hm := T.lh l h rfl rfl
      have le := cpl_le1 l h
      obtain ⟨y, ey⟩ : ∃ x, h[cpl l h]? = some x := ⟨_, getD_of hm⟩
      have c := c_ahead2 (n := n) (s := s) okl okh lw
      have hb : ∀ k, (l.take k).length + 1 ≤ big := fun k => by rw [bigN, List.length_take]; omega
      have hb0 : l.length + 1 ≤ big := by rw [bigN]; omega
      by_cases h1 : cpl l h = l.length
      · have h1' : ((l.length : Int) = (cpl l h : Int)) := by omega
        have hk : R.chk (decide (l.length + 1 ≤ big)) (R.ok (D.tup (l.map itm ++ [itm (y.1 - 1, t)])) s) = R.ok (rk (l ++ [(y.1 - 1, t)])) s := by rw [decide_eq_true hb0, R.chk_true, tup_snoc]
        rw [h1] at ey
        simp [run, b7, opt, rb, c, h1, rk_at, ey, map_itm_tup, hk]
      · have ll : cpl l h < l.length := by omega
        obtain ⟨x, ex⟩ : ∃ x, l[cpl l h]? = some x := ⟨_, getD_of ll⟩
        have h1' : ¬ ((l.length : Int) = (cpl l h : Int)) := by omega
        by_cases h2 : x.1 + 1 < y.1
        · have hk : ∀ z, R.chk (decide (((l.take (cpl l h)).map itm ++ [itm z]).length ≤ big)) (R.ok (D.tup ((l.take (cpl l h)).map itm ++ [itm z])) s) = R.ok (rk (l.take (cpl l h) ++ [z])) s := fun z => by
            rw [decide_eq_true (by simpa using hb (cpl l h)), R.chk_true, tup_snoc]
          simp only [List.length_append, List.length_map, List.length_cons, List.length_nil, List.length_take, List.map_take] at hk
          simp [run, b7, opt, rb, c, h1, h1', rk_at, ex, ey, map_itm_tup, h2, rk_take, hk]
        · have hk : ∀ z, R.chk (decide (((l.take (cpl l h + 1)).map itm ++ [itm z]).length ≤ big)) (R.ok (D.tup ((l.take (cpl l h + 1)).map itm ++ [itm z])) s) = R.ok (rk (l.take (cpl l h + 1) ++ [z])) s := fun z => by
            rw [decide_eq_true (by simpa using hb (cpl l h + 1)), R.chk_true, tup_snoc]
          simp only [List.length_append, List.length_map, List.length_cons, List.length_nil, List.length_take, List.map_take] at hk
          by_cases h3 : cpl l h + 1 < l.length
          · have h3' : (cpl l h : Int) + 1 < (l.length : Int) := by omega
            obtain ⟨u, eu⟩ : ∃ x, l[cpl l h + 1]? = some x := ⟨_, getD_of h3⟩
            simp [run, b7, opt, rb, c, h1, h1', rk_at, rk_at1, ex, ey, map_itm_tup, h2, rk_take1, hk, h3, h3', eu]
          · have h3' : ¬ (cpl l h : Int) + 1 < (l.length : Int) := by omega
            simp [run, b7, opt, rb, c, h1, h1', rk_at, rk_at1, ex, ey, map_itm_tup, h2, rk_take1, hk, h3, h3']
end LW
end

section -- Q67c
set_option autoImplicit false
set_option linter.all false
set_option maxRecDepth 10000
namespace LW
open L3
variable {w n : Nat} {s : S}
theorem c_between {l h : Option RK} {t : TM} (T : Two w l h) : callR (calls fs w (n + 2) 7) [opt l, opt h, tm t] s = .ok (rk (rb l h t)) s := callR_pure (r_between T) (rk_lt0 _)
theorem r_lrank {l h : Option RK} {t : TM} (T : Two w l h) : calls fs w (n + 1) 14 [opt l, opt h, tm t] s = .ok (rk (rb l h t)) s := by
  rw [calls_eq (b := b14) rfl]
  cases l with
  | none =>
    cases h with
    | none => simp [run, b14, opt, rb, map_itm_tup, tup1]
    | some h =>
      have hl : 0 < h.length := List.length_pos_iff.mpr (T.h0 h rfl).1
      obtain ⟨x, e⟩ : ∃ x, h[0]? = some x := ⟨_, getD_of hl⟩
      simp [run, b14, opt, rb, e, map_itm_tup, tup1]
  | some l =>
    have ll : 0 < l.length := List.length_pos_iff.mpr (T.l0 l rfl).1
    cases h with
    | none =>
      obtain ⟨x, e⟩ : ∃ x, l[0]? = some x := ⟨_, getD_of ll⟩
      simp [run, b14, opt, rb, e, map_itm_tup, tup1]
    | some h =>
      obtain ⟨_, okl, lw, lz⟩ := T.l0 l rfl
      obtain ⟨_, okh⟩ := T.h0 h rfl
      have hm := T.lh l h rfl rfl
      have le := cpl_le1 l h
      have le2 := cpl_le2 l h
      obtain ⟨y, ey⟩ : ∃ x, h[cpl l h]? = some x := ⟨_, getD_of hm⟩
      have hb : ∀ k, (l.take k).length + 1 ≤ big := fun k => by rw [bigN, List.length_take]; omega
      have hb0 : l.length + 1 ≤ big := by rw [bigN]; omega
      obtain ⟨e', s', k1, k2, k3⟩ := whI_count (c := whC (calls fs w n) (.and (.cmp .lt (.var 3) (.bi .len [.var 0])) (.and (.cmp .lt (.var 3) (.bi .len [.var 1])) (.cmp .eq (.idx (.var 0) (.var 3)) (.idx (.var 1) (.var 3)))))) (b := whB (calls fs w n) w [.asg (.nm 3) (.bin .add (.var 3) (.con (.int 1)))])
        (P := fun k e s' => e = [some (rk l), some (rk h), some (tm t), some (.int k)] ∧ s' = s) (m := cpl l h) (fun k e s' hk hp => by
          obtain ⟨rfl, rfl⟩ := hp
          obtain ⟨l1, l2, l3⟩ := cpl_lt l h k hk
          have e1 : l[k]? = some l[k] := List.getElem?_eq_getElem l1
          have e2 : h[k]? = some l[k] := by rw [← l3, e1]
          have hc := cmp_eq (itm_fit (okl _ (List.getElem_mem l1))) (itm_fit (okl _ (List.getElem_mem l1)))
          rw [itm_eqv] at hc
          have e3 : h[k] = l[k] := by
            rw [List.getElem?_eq_getElem l2] at e2
            exact Option.some.inj e2
          constructor
          · simp [whC, rk_at, e1, e2, hc, l1, l2, e3]
          · simp [whB]) (fun e s' hp => by
          obtain ⟨rfl, rfl⟩ := hp
          by_cases g1 : cpl l h < l.length
          · have e1 : l[cpl l h]? = some l[cpl l h] := List.getElem?_eq_getElem g1
            have e2 : h[cpl l h]? = some h[cpl l h] := List.getElem?_eq_getElem hm
            have hne := cpl_ne l h _ _ e1 e2
            have hc := cmp_eq (itm_fit (okl _ (List.getElem_mem g1))) (itm_fit (okh _ (List.getElem_mem hm)))
            rw [itm_eqv] at hc
            simp [whC, rk_at, e1, e2, hc, g1, hm, hne]
          · simp [whC, g1]) (cpl l h) 0 w [some (rk l), some (rk h), some (tm t), some (.int 0)] s (by omega) (by omega) ⟨rfl, rfl⟩
      obtain ⟨rfl, rfl⟩ := And.intro k2 k3
      by_cases h1 : cpl l h = l.length
      · rw [h1] at ey k1
        simp [run, b14, opt, rb, k1, h1, rk_at, ey, map_itm_tup, tup1, rk_add, hb0]
      · have ll : cpl l h < l.length := by omega
        obtain ⟨x, ex⟩ : ∃ x, l[cpl l h]? = some x := ⟨_, getD_of ll⟩
        have h1' : ¬ ((cpl l h : Int) = (l.length : Int)) := by omega
        by_cases h2 : x.1 + 1 < y.1
        · have hk : ∀ z, bin2 .add (rk (l.take (cpl l h))) (rk [z]) = some (rk (l.take (cpl l h) ++ [z])) := fun z => rk_add _ _ (by simpa using hb (cpl l h))
          simp [run, b14, opt, rb, k1, h1, h1', rk_at, ex, ey, map_itm_tup, h2, rk_take, tup1, hk]
        · have hk : ∀ z, bin2 .add (rk (l.take (cpl l h + 1))) (rk [z]) = some (rk (l.take (cpl l h + 1) ++ [z])) := fun z => rk_add _ _ (by simpa using hb (cpl l h + 1))
          by_cases h3 : cpl l h + 1 < l.length
          · have h3' : (cpl l h : Int) + 1 < (l.length : Int) := by omega
            obtain ⟨u, eu⟩ : ∃ x, l[cpl l h + 1]? = some x := ⟨_, getD_of h3⟩
            simp [run, b14, opt, rb, k1, h1, h1', rk_at, rk_at1, ex, ey, map_itm_tup, h2, rk_take1, tup1, hk, h3, h3', eu]
          · have h3' : ¬ (cpl l h : Int) + 1 < (l.length : Int) := by omega
            simp [run, b14, opt, rb, k1, h1, h1', rk_at, rk_at1, ex, ey, map_itm_tup, h2, rk_take1, tup1, hk, h3, h3']
theorem c_lrank {l h : Option RK} {t : TM} (T : Two w l h) : callR (calls fs w (n + 1) 14) [opt l, opt h, tm t] s = .ok (rk (rb l h t)) s := callR_pure (r_lrank T) (rk_lt0 _)
theorem alike_atom {d : D} (h : (∃ i, d = .int i) ∨ ∃ z, d = .str z ∧ okS z = true) : calls fs w (n + 1) 13 [d, d] s = .ok (.bl true) s := by
  rw [calls_eq (b := b13) rfl]
  rcases h with ⟨i, rfl⟩ | ⟨z, rfl, hz⟩
  · simp [run, b13]
  · simp [run, b13]
theorem filterMap_none {xs : List D} : ((xs.filterMap fun _ => (none : Option D)).map D.frz) = [] := by simp
theorem alike_key {xs : List D} (hl : xs.length ≤ 1000) (h : ∀ x ∈ xs, ∀ s, callR (calls fs w n 13) [x.frz, x.frz] s = .ok (.bl true) s) (o : Option D) (s : S) :
    lcL (lcT (calls fs w n) (.var 2) (.nm 2) [.not (.call 13 [.idx (.var 0) (.var 2), .idx (.var 1) (.var 2)])] [2] [some (.tup xs), some (.tup xs), o]) ((List.range xs.length).map fun (i : Nat) => D.int i) [] s = .ok (.lv true []) s := by
  have hb : ([] : List D).length + ((List.range xs.length).map fun (i : Nat) => D.int i).length ≤ big := by
    rw [List.length_map, List.length_range, bigN]
    show 0 + xs.length ≤ 16777216
    omega
  have hf : ∀ x ∈ (List.range xs.length).map (fun (i : Nat) => D.int i), lcT (calls fs w n) (.var 2) (.nm 2) [.not (.call 13 [.idx (.var 0) (.var 2), .idx (.var 1) (.var 2)])] [2] [some (.tup xs), some (.tup xs), o] x s = .ok ((fun _ => none) x) s := by
    intro x hx
    obtain ⟨i, hi, rfl⟩ := List.mem_map.mp hx
    have hi' := List.mem_range.mp hi
    have ei : atI xs (i : Int) = some xs[i] := by rw [atI_nat, List.getElem?_eq_getElem hi']
    simp [lcT, ei, h _ (List.getElem_mem hi')]
  rw [lcL_fm hb hf]
  simp
theorem alike_tup {xs : List D} (hl : xs.length ≤ 1000) (h : ∀ x ∈ xs, ∀ s, callR (calls fs w n 13) [x.frz, x.frz] s = .ok (.bl true) s) : calls fs w (n + 1) 13 [.tup xs, .tup xs] s = .ok (.bl true) s := by
  rw [calls_eq (b := b13) rfl]
  have hr := rng1D_nat (k := xs.length) (by omega)
  have key := alike_key hl h
  have hq : cmp2 .eq (.lv true []) (.lv true []) = some true := by decide
  have hn1 : cmp2 .ne (.bl false) (.bl false) = some false := by decide
  have hn2 : cmp2 .ne (.bl true) (.bl true) = some false := by decide
  simp [run, b13, hn1, hn2, hr, key, hq]

theorem callR_tt {f : List D → S → R D} {vs : List D} (h : ∀ s, f vs s = .ok (.bl true) s) : callR f vs s = .ok (.bl true) s := callR_pure (h _) rfl
theorem alike_tm {t : TM} (h : okT t) : calls fs w (n + 2) 13 [tm t, tm t] s = .ok (.bl true) s := by
  refine alike_tup (by simp) fun x hx s => callR_tt fun s => ?_
  simp only [List.mem_cons, List.not_mem_nil, or_false] at hx
  rcases hx with rfl | rfl
  · exact alike_atom (.inl ⟨_, rfl⟩)
  · exact alike_atom (.inr ⟨_, rfl, h⟩)
theorem alike_itm {p : Int × TM} (h : okT p.2) : calls fs w (n + 3) 13 [itm p, itm p] s = .ok (.bl true) s := by
  refine alike_tup (by simp) fun x hx s => callR_tt fun s => ?_
  simp only [List.mem_cons, List.not_mem_nil, or_false] at hx
  rcases hx with rfl | rfl
  · exact alike_atom (.inl ⟨_, rfl⟩)
  · exact alike_tm h
theorem alike_rk {r : RK} (h : okR r) (hl : r.length ≤ 1000) : calls fs w (n + 4) 13 [rk r, rk r] s = .ok (.bl true) s := by
  refine alike_tup (by simpa using hl) fun x hx s => callR_tt fun s => ?_
  obtain ⟨p, hp, rfl⟩ := List.mem_map.mp hx
  exact alike_itm (h p hp)
theorem c_alike {r : RK} (h : okR r) (hl : r.length ≤ 1000) : callR (calls fs w (n + 4) 13) [rk r, rk r] s = .ok (.bl true) s := callR_tt fun s => alike_rk h hl
/-- the store with one list of numbers behind what there is -/
def S.dr (s : S) (ns : List Int) : S := ⟨s.cells ++ [.lst (ns.map .int)], s.base, s.up⟩
theorem dr_at {s : S} {ns : List Int} : (S.dr s ns).cells[s.cells.length]? = some (.lst (ns.map .int)) := by simp [S.dr]
theorem dr_rd {s : S} {ns : List Int} : (D.ref s.cells.length).rd (S.dr s ns) = .lv false (ns.map .int) := by
  show (match (S.dr s ns).cells[s.cells.length]? with | some (.lst xs) => D.lv false xs | _ => D.ref s.cells.length) = _
  rw [dr_at]
theorem dr_cell {s : S} {ns : List Int} : cellOf (.ref s.cells.length) (S.dr s ns) = some s.cells.length := by
  show (if _ then _ else _) = _
  rw [if_pos (by simp [S.dr])]
theorem ints_lt (ns : List Int) : D.lt.ltL 0 (ns.map .int) = true := by
  induction ns with
  | nil => rfl
  | cons a r ih => simpa [D.lt.ltL, D.lt] using ih
theorem dr_put {s : S} {ns ms : List Int} : (S.dr s ns).put s.cells.length (.lst (ms.map .int)) = S.dr s ms := by
  unfold S.put
  have : (MO.lst (ms.map .int)).lt 0 = true := ints_lt ms
  rw [if_pos this]
  simp [S.dr]
theorem dr_app {s : S} {ns : List Int} {x : Int} (h : ns.length < 16777216) : mmS .append s.cells.length [.int x] (S.dr s ns) = .ok .non (S.dr s (ns ++ [x])) := by
  unfold mmS
  rw [dr_at]
  show (if _ then _ else _) = _
  rw [if_pos (by rw [bigN]; simpa using h)]
  rw [show ns.map D.int ++ [D.int x] = (ns ++ [x]).map D.int by simp, dr_put]
/-- one turn of the loop that takes a number apart -/
theorem draws_in {C : Nat → List D → S → R D} {s0 : S} {d : D} {o2 o4 o5 o6 : Option D} {m : Int} {ns : List Int} (hz : ns.length ≤ 100000) : ∃ m' ns' o5',
    foL (foT C w (.nm 5) [
.ite (.cmp .gt (.var 3) (.con (.int 0))) [
.expr (.mm .append (.var 1) [.bin .mod (.bi .int [.var 3]) (.con (.int 997))]),
.asg (.nm 3) (.bin .fdiv (.var 3) (.con (.int 997)))] []]) ((List.range 60).map fun (j : Nat) => D.int j) [some d, some (.ref s0.cells.length), o2, some (.int m), o4, o5, o6] (S.dr s0 ns) =
      .nx [some d, some (.ref s0.cells.length), o2, some (.int m'), o4, o5', o6] (S.dr s0 ns') ∧ ns'.length ≤ ns.length + 60 := by
  obtain ⟨e', s', h1, m', ns', o5', h2, h3, h4⟩ := foL_inv (f := foT C w (.nm 5) [
.ite (.cmp .gt (.var 3) (.con (.int 0))) [
.expr (.mm .append (.var 1) [.bin .mod (.bi .int [.var 3]) (.con (.int 997))]),
.asg (.nm 3) (.bin .fdiv (.var 3) (.con (.int 997)))] []]) (xs := (List.range 60).map fun (j : Nat) => D.int j) (k := 0) (P := fun k e s' => ∃ m' ns' o5', e = [some d, some (.ref s0.cells.length), o2, some (.int m'), o4, o5', o6] ∧ s' = S.dr s0 ns' ∧ ns'.length ≤ ns.length + k)
    (e := [some d, some (.ref s0.cells.length), o2, some (.int m), o4, o5, o6]) (s := S.dr s0 ns) ⟨m, ns, o5, rfl, rfl, by omega⟩ (fun i x e s' hx hp => by
      obtain ⟨m', ns', o5', rfl, rfl, hl⟩ := hp
      have hi : i < 60 := by
        have := (List.getElem?_eq_some_iff.mp hx).1
        simpa using this
      by_cases hm : 0 < m'
      · refine ⟨_, _, .inl ?_, m' / 997, ns' ++ [m' % 997], some x.frz, rfl, rfl, by simp; omega⟩
        simp [foT, hm, dr_cell, dr_app (show ns'.length < 16777216 by omega)]
      · refine ⟨_, _, .inl ?_, m', ns', some x.frz, rfl, rfl, by omega⟩
        simp [foT, hm])
  refine ⟨m', ns', o5', by rw [h1, h2, h3], ?_⟩
  simpa using h4
theorem draws_out {C : Nat → List D → S → R D} {s0 : S} {d : D} {is : List Int} (hz : is.length ≤ 1000) {o3 o4 o5 o6 o2 : Option D} : ∃ ns' o2' o3' o4' o5',
    foL (foT C w (.nm 2) [
.asg (.nm 3) (.bi .abs [.var 2]),
.ite (.cmp .lt (.var 3) (.bin .pow (.con (.int 10)) (.con (.int 18)))) [
.asg (.nm 4) (.bin .mod (.bi .int [.bin .add (.bin .mul (.var 3) (.con (.int 48271))) (.con (.int 11))]) (.con (.int 2147483647))),
.expr (.mm .append (.var 1) [.bin .mod (.bi .int [.bin .add (.bin .mul (.var 4) (.con (.int 69621))) (.var 3)]) (.con (.int 2147483629))]),
.expr (.mm .append (.var 1) [.bin .mod (.bi .int [.bin .add (.var 4) (.bin .fdiv (.var 3) (.con (.int 7)))]) (.con (.int 1000003))]),
.asg (.nm 3) (.con (.int 0))] [],
.forr (.nm 5) (.rng1 (.con (.int 60))) [
.ite (.cmp .gt (.var 3) (.con (.int 0))) [
.expr (.mm .append (.var 1) [.bin .mod (.bi .int [.var 3]) (.con (.int 997))]),
.asg (.nm 3) (.bin .fdiv (.var 3) (.con (.int 997)))] []]]) (is.map D.int) [some d, some (.ref s0.cells.length), o2, o3, o4, o5, o6] (S.dr s0 []) =
      .nx [some d, some (.ref s0.cells.length), o2', o3', o4', o5', o6] (S.dr s0 ns') ∧ ns'.length ≤ 62 * is.length := by
  have w1 : wide 48271 = true := by decide
  have w2 : wide 69621 = true := by decide
  have w3 : wide 10 = true := by decide
  obtain ⟨e', s', h1, ns', o2', o3', o4', o5', h2, h3, h4⟩ := foL_inv (f := foT C w (.nm 2) [
.asg (.nm 3) (.bi .abs [.var 2]),
.ite (.cmp .lt (.var 3) (.bin .pow (.con (.int 10)) (.con (.int 18)))) [
.asg (.nm 4) (.bin .mod (.bi .int [.bin .add (.bin .mul (.var 3) (.con (.int 48271))) (.con (.int 11))]) (.con (.int 2147483647))),
.expr (.mm .append (.var 1) [.bin .mod (.bi .int [.bin .add (.bin .mul (.var 4) (.con (.int 69621))) (.var 3)]) (.con (.int 2147483629))]),
.expr (.mm .append (.var 1) [.bin .mod (.bi .int [.bin .add (.var 4) (.bin .fdiv (.var 3) (.con (.int 7)))]) (.con (.int 1000003))]),
.asg (.nm 3) (.con (.int 0))] [],
.forr (.nm 5) (.rng1 (.con (.int 60))) [
.ite (.cmp .gt (.var 3) (.con (.int 0))) [
.expr (.mm .append (.var 1) [.bin .mod (.bi .int [.var 3]) (.con (.int 997))]),
.asg (.nm 3) (.bin .fdiv (.var 3) (.con (.int 997)))] []]]) (xs := is.map D.int) (k := 0) (P := fun k e s' => ∃ ns' o2' o3' o4' o5', e = [some d, some (.ref s0.cells.length), o2', o3', o4', o5', o6] ∧ s' = S.dr s0 ns' ∧ ns'.length ≤ 62 * k)
    (e := [some d, some (.ref s0.cells.length), o2, o3, o4, o5, o6]) (s := S.dr s0 []) ⟨[], o2, o3, o4, o5, rfl, rfl, by simp⟩ (fun i x e s' hx hp => by
      obtain ⟨ns', o2', o3', o4', o5', rfl, rfl, hl⟩ := hp
      have hi : i < is.length := by
        have := (List.getElem?_eq_some_iff.mp hx).1
        simpa using this
      obtain ⟨z, rfl⟩ : ∃ z, x = .int z := by
        rw [List.getElem?_map] at hx
        cases q : is[i]? with
        | none => rw [q] at hx; cases hx
        | some z => rw [q] at hx; cases hx; exact ⟨z, rfl⟩
      have hr := rng1D_nat (k := 60) (by omega)
      simp only [Int.cast_ofNat_Int] at hr
      generalize ha : (if z < 0 then -z else z) = a
      by_cases hm : a < 1000000000000000000
      · obtain ⟨m2, ns2, o52, k1, k2⟩ := draws_in (w := w) (C := C) (s0 := s0) (d := d) (o2 := some (.int z)) (o4 := some (.int ((a * 48271 + 11) % 2147483647))) (o5 := o5') (o6 := o6) (m := 0) (ns := ns' ++ [((a * 48271 + 11) % 2147483647 * 69621 + a) % 2147483629] ++ [((a * 48271 + 11) % 2147483647 + a / 7) % 1000003]) (by simp; omega)
        refine ⟨_, _, .inl ?_, ns2, some (.int z), some (.int m2), some (.int ((a * 48271 + 11) % 2147483647)), o52, rfl, rfl, by simp at k2; omega⟩
        simp [foT, ha, w3, hm, w1, w2, dr_cell, dr_app (show ns'.length < 16777216 by omega), dr_app (show (ns' ++ [((a * 48271 + 11) % 2147483647 * 69621 + a) % 2147483629]).length < 16777216 by simp; omega), hr]
        simp at k1
        rw [k1]
        rfl
      · obtain ⟨m2, ns2, o52, k1, k2⟩ := draws_in (w := w) (C := C) (s0 := s0) (d := d) (o2 := some (.int z)) (o4 := o4') (o5 := o5') (o6 := o6) (m := a) (ns := ns') (by omega)
        refine ⟨_, _, .inl ?_, ns2, some (.int z), some (.int m2), o4', o52, rfl, rfl, by omega⟩
        simp [foT, ha, w3, hm, hr, k1])
  refine ⟨ns', o2', o3', o4', o5', by rw [h1, h2, h3], ?_⟩
  simpa using h4
theorem draws_end {C : Nat → List D → S → R D} {s0 : S} {d : D} {ns : List Int} (hz : ns.length ≤ 100000) {m : Int} {o2 o3 o4 o5 : Option D} : ∃ m' ns' o5',
    foL (foT C w (.nm 5) [
.asg (.nm 6) (.bin .mod (.bi .int [.bin .add (.bin .mul (.var 6) (.con (.int 48271))) (.con (.int 69621))]) (.con (.int 2147483647))),
.expr (.mm .append (.var 1) [.bin .fdiv (.var 6) (.con (.int 5))])]) ((List.range 900).map fun (j : Nat) => D.int j) [some d, some (.ref s0.cells.length), o2, o3, o4, o5, some (.int m)] (S.dr s0 ns) =
      .nx [some d, some (.ref s0.cells.length), o2, o3, o4, o5', some (.int m')] (S.dr s0 ns') := by
  have w1 : wide 48271 = true := by decide
  obtain ⟨e', s', h1, m', ns', o5', h2, h3, h4⟩ := foL_inv (f := foT C w (.nm 5) [
.asg (.nm 6) (.bin .mod (.bi .int [.bin .add (.bin .mul (.var 6) (.con (.int 48271))) (.con (.int 69621))]) (.con (.int 2147483647))),
.expr (.mm .append (.var 1) [.bin .fdiv (.var 6) (.con (.int 5))])]) (xs := (List.range 900).map fun (j : Nat) => D.int j) (k := 0) (P := fun k e s' => ∃ m' ns' o5', e = [some d, some (.ref s0.cells.length), o2, o3, o4, o5', some (.int m')] ∧ s' = S.dr s0 ns' ∧ ns'.length ≤ ns.length + k)
    (e := [some d, some (.ref s0.cells.length), o2, o3, o4, o5, some (.int m)]) (s := S.dr s0 ns) ⟨m, ns, o5, rfl, rfl, by omega⟩ (fun i x e s' hx hp => by
      obtain ⟨m', ns', o5', rfl, rfl, hl⟩ := hp
      have hi : i < 900 := by
        have := (List.getElem?_eq_some_iff.mp hx).1
        simpa using this
      refine ⟨_, _, .inl ?_, (m' * 48271 + 69621) % 2147483647, ns' ++ [(m' * 48271 + 69621) % 2147483647 / 5], some x.frz, rfl, rfl, by simp; omega⟩
      simp [foT, w1, dr_cell, dr_app (show ns'.length < 16777216 by omega)])
  exact ⟨m', ns', o5', by rw [h1, h2, h3]⟩
theorem callR_dr {f : List D → S → R D} {vs : List D} {s : S} {d : D} {ns : List Int} (h : f vs s.ent = .ok d (S.dr s.ent ns)) (hd : d.lt 0 = true) : callR f vs s = .ok d s := by
  have h' : f vs ⟨s.cells, s.cells.length, none⟩ = .ok d (S.dr s.ent ns) := h
  unfold callR
  rw [h']
  have hv : (S.dr s.ent ns).viol = false := rfl
  have hg : S.gone s (S.dr s.ent ns) = s := by unfold S.gone S.dr S.ent; simp
  have hl : d.lt (S.dr s.ent ns).base = true := D.lt_of_le (Nat.zero_le _) hd
  unfold norm
  simp only [hv, Bool.false_eq_true, if_false]
  cases d with
  | ref m => simp [D.lt] at hd
  | _ => simp [hl, hg]
theorem newCell_lst {xs : List D} : newCell (.lv true xs) s = .ok (.ref s.cells.length) ⟨s.cells ++ [.lst xs], s.base, s.up⟩ := rfl
theorem r_draws {is : List Int} {dd : D} (hd : dd = .scr is ∨ dd = .lv false (is.map .int)) (hz : is.length ≤ 1000) : ∃ ns ms : List Int, calls fs w (n + 1) 11 [dd] s = .ok (.lv true (ns.map .int)) (S.dr s ms) := by
  rw [calls_eq (b := b11) rfl]
  obtain ⟨ns1, o2, o3, o4, o5, k1, k2⟩ := draws_out (w := w) (C := calls fs w n) (s0 := s) (d := dd) (is := is) hz (o2 := none) (o3 := none) (o4 := none) (o5 := none) (o6 := none)
  have hr := rng1D_nat (k := 900) (by omega)
  simp only [Int.cast_ofNat_Int] at hr
  have hq : seqOf dd = some (.fix (is.map D.int)) := by rcases hd with rfl | rfl <;> rfl
  have hlen : bi .len [dd] = some (.int is.length) := by rcases hd with rfl | rfl <;> simp
  have hrd : ∀ s, dd.rd s = dd := fun s => by rcases hd with rfl | rfl <;> rfl
  have hfr : dd.frz = dd := by rcases hd with rfl | rfl <;> rfl
  have key : ∀ m : Int, ∃ m' ns' o5', foL _ _ _ _ = .nx _ _ := fun m => draws_end (w := w) (C := calls fs w n) (s0 := s) (d := dd) (ns := ns1) (by omega) (m := m) (o2 := o2) (o3 := o3) (o4 := o4) (o5 := o5)
  have fin : ∀ ns' : List Int, revOf (.lv false (ns'.map D.int)) = some (.lv true (ns'.reverse.map D.int)) := fun ns' => by simp [revOf]
  have cl : S.mk (s.cells ++ [.lst []]) s.base s.up = S.dr s [] := rfl
  by_cases he : 0 < is.length
  · obtain ⟨z, hz0⟩ : ∃ z, idx2 dd (.int 0) = some (.int z) := by
      refine ⟨is[0], ?_⟩
      rcases hd with rfl | rfl
      · simp [List.getElem?_eq_getElem he]
      · simp [List.getElem?_eq_getElem he]
    obtain ⟨m', ns', o5', k3⟩ := key (1 + if z < 0 then -z else z)
    refine ⟨ns'.reverse, ns', ?_⟩
    simp [run, b11, newCell_lst, cl, hq, k1, hfr, hrd, hlen, he, hz0, hr, k3, dr_rd, fin]
  · obtain ⟨m', ns', o5', k3⟩ := key 1
    refine ⟨ns'.reverse, ns', ?_⟩
    simp [run, b11, newCell_lst, cl, hq, k1, hfr, hrd, hlen, he, hr, k3, dr_rd, fin]
theorem c_draws {is : List Int} {dd : D} (hd : dd = .scr is ∨ dd = .lv false (is.map .int)) (hz : is.length ≤ 1000) : ∃ ns : List Int, callR (calls fs w (n + 1) 11) [dd] s = .ok (.lv true (ns.map .int)) s := by
  obtain ⟨ns, ms, h⟩ := r_draws (w := w) (n := n) (s := s.ent) hd hz
  exact ⟨ns, callR_dr h (by show D.lt.ltL 0 _ = true; exact ints_lt ns)⟩
end LW
end

section -- Q67d
set_option autoImplicit false
set_option linter.all false
set_option maxRecDepth 10000
namespace LW
open L3
variable {w n : Nat} {s : S}
theorem dr_pop {s : S} {ns : List Int} {x : Int} : mmS .pop s.cells.length [] (S.dr s (ns ++ [x])) = .ok (.int x) (S.dr s ns) := by
  unfold mmS
  rw [dr_at]
  have e : (ns ++ [x]).map D.int = ns.map D.int ++ [D.int x] := by simp
  simp only [e, mutI, List.getLast?_concat, List.dropLast_concat, dr_put]
theorem c_take {ns : List Int} {lim : Int} (hl : 0 < lim) : ∃ (r : Int) (ms : List Int), callR (calls fs w (n + 1) 12) [.ref s.cells.length, .int lim] (S.dr s ns) = .ok (.int r) (S.dr s ms) ∧ 0 ≤ r ∧ r < lim := by
  have key : ∃ (r : Int) (ms : List Int), calls fs w (n + 1) 12 [.ref s.cells.length, .int lim] (S.dr ⟨s.cells, s.cells.length + 1, none⟩ ns) = .ok (.int r) (S.dr ⟨s.cells, s.cells.length + 1, none⟩ ms) ∧ 0 ≤ r ∧ r < lim := by
    rw [calls_eq (b := b12) rfl]
    generalize hs : S.mk s.cells (s.cells.length + 1) none = t
    have hc : s.cells.length = t.cells.length := by rw [← hs]
    rw [hc]
    rcases List.eq_nil_or_concat ns with rfl | ⟨ms, x, rfl⟩
    · refine ⟨0, [], ?_, by omega, hl⟩
      simp [run, b12, dr_rd]
    · rw [List.concat_eq_append]
      refine ⟨x % lim, ms, ?_, Int.emod_nonneg _ (by omega), Int.emod_lt_of_pos _ hl⟩
      have hne : ¬ ((ms.length : Int) + 1 = 0) := by omega
      simp [run, b12, dr_rd, hne, dr_cell, dr_pop, hl]
  obtain ⟨r, ms, h, h1, h2⟩ := key
  refine ⟨r, ms, ?_, h1, h2⟩
  have he : S.mk (S.dr s ns).cells (S.dr s ns).cells.length none = S.dr ⟨s.cells, s.cells.length + 1, none⟩ ns := by simp [S.dr]
  unfold callR
  rw [he, h]
  show norm (S.dr s ns) (.int r) _ = _
  unfold norm
  have hv : (S.dr ⟨s.cells, s.cells.length + 1, none⟩ ms).viol = false := rfl
  rw [hv]
  simp only [Bool.false_eq_true, if_false]
  have h0 : ∀ k, (D.int r).lt k = true := fun k => rfl
  rw [h0, if_pos rfl]
  congr 1
  unfold S.gone S.dr
  simp
  exact List.take_of_length_le (by simp)
end LW
end

section -- Q67e
set_option autoImplicit false
set_option linter.all false
set_option maxRecDepth 10000
namespace LW
open L3
def itmLt (p q : Int × TM) : Bool := if p.1 = q.1 then (if p.2 = q.2 then false else keyLt p.2.1 p.2.2 q.2.1 q.2.2) else decide (p.1 < q.1)
def ltR : RK → RK → Bool
  | [], [] => false
  | [], _ :: _ => true
  | _ :: _, [] => false
  | p :: ps, q :: qs => if p = q then ltR ps qs else itmLt p q
theorem tm_eqv (a b : TM) : (tm a).eqv (tm b) = decide (a = b) := by
  obtain ⟨x, c⟩ := a
  obtain ⟨x', c'⟩ := b
  simp only [tm, D.eqv, D.eqv.eqvL, Bool.and_true]
  rw [Bool.eq_iff_iff]
  simp
theorem ord_itm (k : Nat) (p q : Int × TM) : ordD (k + 2) (itm p) (itm q) = some (itmLt p q) := by
  obtain ⟨a, b, c⟩ := p
  obtain ⟨a', b', c'⟩ := q
  have h1 := tm_eqv (b, c) (b', c')
  have h2 : ordD (k + 1) (tm (b, c)) (tm (b', c')) = some (keyLt b c b' c') := by
    simp only [tm, ordD, ordL, Option.bind_some, D.eqv, keyLt]
    by_cases h : b = b'
    · by_cases h2 : c = c' <;> simp [h, h2]
    · by_cases h2 : c = c' <;> simp [h, h2]
  simp only [itm, ordD, ordL, Option.bind_some, h1]
  simp only [D.eqv, itmLt]
  by_cases h3 : b = b' ∧ c = c'
  · obtain ⟨rfl, rfl⟩ := h3
    by_cases h : a = a' <;> simp [h]
  · have h4 : ¬ ((b, c) = (b', c')) := fun e => h3 (by cases e; exact ⟨rfl, rfl⟩)
    simp only [h4, decide_false, Bool.false_eq_true, if_false, h2, Option.bind_some]
    by_cases h : a = a'
    · simp [h]
    · simp [h]
theorem ord_rk : ∀ (a b : RK), ordL (ordD 63) (a.map itm) (b.map itm) = some (ltR a b)
  | [], [] => rfl
  | [], _ :: _ => rfl
  | _ :: _, [] => rfl
  | p :: ps, q :: qs => by
    simp only [List.map_cons, ordL, ord_rk ps qs, Option.bind_some, itm_eqv, ltR]
    by_cases h : p = q
    · simp [h]
    · simp [h, ord_itm 61]
theorem fitL_itm {r : RK} (h : okR r) : D.fit.fitL 63 (r.map itm) = true := by
  induction r with
  | nil => rfl
  | cons p r ih =>
    have h1 : okS p.2.2 = true := h p List.mem_cons_self
    have h2 := ih fun q hq => h q (List.mem_cons_of_mem _ hq)
    simp [D.fit.fitL, itm, tm, D.fit, h1] at h2 ⊢
    exact h2
theorem lt_rk {a b : RK} (ha : okR a) (hb : okR b) : cmp2 .lt (rk a) (rk b) = some (ltR a b) := by
  show (if _ then _ else _) = _
  rw [if_pos (by have h1 := fitL_itm ha; have h2 := fitL_itm hb; show (D.fit.fitL 63 _ && D.fit.fitL 63 _) = true; rw [h1, h2]; rfl)]
  exact ord_rk a b
def rb2 (l h : RK) (t : TM) : RK := rb (some l) (some h) t
theorem rb2_cons (p : Int × TM) (l h : RK) (t : TM) : rb2 (p :: l) (p :: h) t = p :: rb2 l h t := by
  have hc : cpl (p :: l) (p :: h) = cpl l h + 1 := by simp [cpl]
  simp only [rb2, rb, hc, List.length_cons, List.getElem?_cons_succ, List.take_succ_cons, Nat.add_right_cancel_iff, Nat.add_lt_add_iff_right]
  by_cases h1 : cpl l h = l.length
  · simp [h1]
  · simp only [h1, if_false]
    split <;> simp
theorem rb2_nil (q : Int × TM) (h : RK) (t : TM) : rb2 [] (q :: h) t = [(q.1 - 1, t)] := by simp [rb2, rb, cpl]
theorem rb2_ne {p q : Int × TM} (hpq : p ≠ q) (l h : RK) (t : TM) : rb2 (p :: l) (q :: h) t = if p.1 + 1 < q.1 then [(p.1 + 1, t)] else [p, (match l with | [] => 0 | u :: _ => u.1 + 1, t)] := by
  have hc : cpl (p :: l) (q :: h) = 0 := by simp [cpl, hpq]
  simp only [rb2, rb, hc]
  cases l <;> simp <;> split <;> simp_all
theorem lt_shape : ∀ {l h : RK}, ltR l h = true → cpl l h < h.length
  | [], [], e => by simp [ltR] at e
  | [], _ :: _, _ => by simp [cpl]
  | _ :: _, [], e => by simp [ltR] at e
  | p :: l, q :: h, e => by
    by_cases hpq : p = q
    · subst hpq
      simp only [ltR, if_true] at e
      have := lt_shape e
      simp [cpl]; omega
    · simp [cpl, hpq]
theorem itmLt_pos {p q : Int × TM} (h : p.1 < q.1) : p ≠ q ∧ itmLt p q = true := by
  refine ⟨fun e => by rw [e] at h; omega, ?_⟩
  unfold itmLt
  rw [if_neg (by omega)]
  simpa using h
theorem low_lt : ∀ {l h : RK} (t : TM), ltR l h = true → ltR l (rb2 l h t) = true ∧ ltR (rb2 l h t) h = true
  | [], [], _, e => by simp [ltR] at e
  | [], q :: h, t, _ => by
    rw [rb2_nil]
    obtain ⟨n1, n2⟩ := itmLt_pos (p := (q.1 - 1, t)) (q := q) (by show q.1 - 1 < q.1; omega)
    simp [ltR, n1, n2]
  | _ :: _, [], _, e => by simp [ltR] at e
  | p :: l, q :: h, t, e => by
    by_cases hpq : p = q
    · subst hpq
      simp only [ltR, if_true] at e
      have := low_lt t e
      rw [rb2_cons]
      simpa [ltR] using this
    · rw [rb2_ne hpq]
      simp only [ltR, hpq, if_false] at e
      split
      · rename_i hlt
        obtain ⟨n1, n2⟩ := itmLt_pos (p := p) (q := (p.1 + 1, t)) (by show p.1 < p.1 + 1; omega)
        obtain ⟨n3, n4⟩ := itmLt_pos (p := (p.1 + 1, t)) (q := q) hlt
        simp [ltR, n1, n2, n3, n4]
      · cases l with
        | nil => simp [ltR, hpq, e]
        | cons u l =>
          obtain ⟨n1, n2⟩ := itmLt_pos (p := u) (q := (u.1 + 1, t)) (by show u.1 < u.1 + 1; omega)
          simp [ltR, hpq, e, n1, n2]
theorem lt_first {h : RK} (t : TM) (hh : h ≠ []) : ltR (rb none (some h) t) h = true := by
  cases h with
  | nil => exact absurd rfl hh
  | cons q h =>
    obtain ⟨n1, n2⟩ := itmLt_pos (p := (q.1 - 1, t)) (q := q) (by show q.1 - 1 < q.1; omega)
    simp [rb, ltR, n1, n2]
theorem lt_last {l : RK} (t : TM) (hh : l ≠ []) : ltR l (rb (some l) none t) = true := by
  cases l with
  | nil => exact absurd rfl hh
  | cons q h =>
    obtain ⟨n1, n2⟩ := itmLt_pos (p := q) (q := (q.1 + 1, t)) (by show q.1 < q.1 + 1; omega)
    simp [rb, ltR, n1, n2]
end LW
end

section -- Q67f
set_option autoImplicit false
set_option linter.all false
set_option maxRecDepth 10000
namespace LW
open L3
variable {w n : Nat} {s : S}
structure OkTm (t : TM) : Prop where
  time : isTime (tm t) = true
  ok : okS t.2 = true
  len : t.2.length ≤ 1000
structure Vr (k : Nat) (r : RK) : Prop where
  ne : r ≠ []
  len : r.length ≤ k
  it : ∀ p ∈ r, -(k : Int) ≤ p.1 ∧ p.1 ≤ k ∧ OkTm p.2
theorem Vr.okR {k : Nat} {r : RK} (v : Vr k r) : okR r := fun p hp => (v.it p hp).2.2.ok
theorem Vr.mono {k m : Nat} {r : RK} (v : Vr k r) (h : k ≤ m) : Vr m r := ⟨v.ne, by have := v.len; omega, fun p hp => by obtain ⟨h1, h2, h3⟩ := v.it p hp; exact ⟨by omega, by omega, h3⟩⟩
theorem nice_tm {t : TM} (h : OkTm t) : (tm t).nice 62 = true := by
  simp [tm, D.nice, D.nice.niceL, h.ok, h.len]
theorem nice_rk {k : Nat} {r : RK} (v : Vr k r) : (rk r).nice 64 = true := by
  have : ∀ r : RK, (∀ p ∈ r, OkTm p.2) → D.nice.niceL 63 (r.map itm) = true := by
    intro r
    induction r with
    | nil => intro _; rfl
    | cons p r ih =>
      intro h
      have h1 := h p List.mem_cons_self
      have h2 := ih fun q hq => h q (List.mem_cons_of_mem _ hq)
      have h3 := nice_tm h1
      simp only [List.map_cons, D.nice.niceL, h2, Bool.and_true]
      simp [itm, D.nice, D.nice.niceL, h3]
  simpa [rk, D.nice] using this r fun p hp => (v.it p hp).2.2
theorem rank_ok {k : Nat} {r : RK} (v : Vr k r) (hk : k ≤ 60) : isRank (rk r) = true := by
  have hl : 1 ≤ r.length := List.length_pos_iff.mpr v.ne
  have h60 : r.length ≤ 60 := by have := v.len; omega
  simp only [rk, isRank, List.length_map, hl, h60, decide_true, Bool.true_and, List.all_map, List.all_eq_true]
  intro p hp
  obtain ⟨h1, h2, h3⟩ := v.it p hp
  simp only [Function.comp, itm, isItem, isNum, h3.time, Bool.and_true, Bool.and_eq_true, decide_eq_true_eq]
  omega
theorem getD_mem {r : RK} {k : Nat} (h : k < r.length) : r[k]?.getD default ∈ r := by
  rw [List.getElem?_eq_getElem h]
  exact List.getElem_mem h
theorem rb_ok {k : Nat} {l h : Option RK} {t : TM} (hl : ∀ r, l = some r → Vr k r) (hh : ∀ r, h = some r → Vr k r) (hlh : ∀ r q, l = some r → h = some q → cpl r q < q.length) (ht : OkTm t) : Vr (k + 1) (rb l h t) := by
  have one : ∀ z : Int, -(k : Int) - 1 ≤ z → z ≤ k + 1 → ∀ p ∈ ([(z, t)] : RK), -((k + 1 : Nat) : Int) ≤ p.1 ∧ p.1 ≤ ((k + 1 : Nat) : Int) ∧ OkTm p.2 := fun z h1 h2 p hp => by
    obtain rfl := List.mem_singleton.mp hp
    exact ⟨by show _ ≤ z; omega, by show z ≤ _; omega, ht⟩
  have old : ∀ r, Vr k r → ∀ p ∈ r, -((k + 1 : Nat) : Int) ≤ p.1 ∧ p.1 ≤ ((k + 1 : Nat) : Int) ∧ OkTm p.2 := fun r v p hp => by
    obtain ⟨h1, h2, h3⟩ := v.it p hp
    exact ⟨by omega, by omega, h3⟩
  cases l with
  | none =>
    cases h with
    | none => exact ⟨by simp [rb], by simp [rb], one 0 (by omega) (by omega)⟩
    | some h =>
      have v := hh h rfl
      have hp := v.it _ (getD_mem (k := 0) (List.length_pos_iff.mpr v.ne))
      exact ⟨by simp [rb], by simp [rb], one _ (by omega) (by omega)⟩
  | some l =>
    have vl := hl l rfl
    have ll : 0 < l.length := List.length_pos_iff.mpr vl.ne
    cases h with
    | none =>
      have hp := vl.it _ (getD_mem (k := 0) ll)
      exact ⟨by simp [rb], by simp [rb], one _ (by omega) (by omega)⟩
    | some h =>
      have v := hh h rfl
      have hc := hlh l h rfl rfl
      have hq := v.it _ (getD_mem hc)
      have hlen := vl.len
      show Vr (k + 1) (if cpl l h = l.length then _ else _)
      by_cases h1 : cpl l h = l.length
      · rw [if_pos h1]
        refine ⟨by simp, by simp; omega, fun p hp => ?_⟩
        rcases List.mem_append.mp hp with hp | hp
        · exact old l vl p hp
        · exact one _ (by omega) (by omega) p hp
      · rw [if_neg h1]
        have hc2 : cpl l h < l.length := by have := cpl_le1 l h; omega
        have hp2 := vl.it _ (getD_mem hc2)
        split
        · refine ⟨by simp, by simp; omega, fun p hp => ?_⟩
          rcases List.mem_append.mp hp with hp | hp
          · exact old l vl p (List.mem_of_mem_take hp)
          · exact one _ (by omega) (by omega) p hp
        · refine ⟨by simp, by simp; omega, fun p hp => ?_⟩
          rcases List.mem_append.mp hp with hp | hp
          · exact old l vl p (List.mem_of_mem_take hp)
          · refine one _ ?_ ?_ p hp
            · split
              · rename_i h3
                have := vl.it _ (getD_mem h3)
                omega
              · omega
            · split
              · rename_i h3
                have := vl.it _ (getD_mem h3)
                omega
              · omega
end LW
end

section -- Q67g
set_option autoImplicit false
set_option linter.all false
set_option maxRecDepth 10000
namespace LW
open L3
variable {w n : Nat} {s : S}
/-- the law's store: the draws alone -/
def ds (ns : List Int) : S := S.dr ⟨[], 0, none⟩ ns
theorem c_take0 {ns : List Int} {lim : Int} (hl : 0 < lim) : ∃ (r : Int) (ms : List Int), callR (calls fs w (n + 1) 12) [.ref 0, .int lim] (ds ns) = .ok (.int r) (ds ms) ∧ 0 ≤ r ∧ r < lim := c_take (s := ⟨[], 0, none⟩) hl
/-- the body of the law's loop -/
def lpB : List CS := [
.asg (.tup [.nm 4, .nm 5]) (.tup [.idx (.lst [.con (.int 0), .bi .len [.var 2], .call 12 [.var 1, .bin .add (.bi .len [.var 2]) (.con (.int 1))], .call 12 [.var 1, .bi .min [.con (.int 3), .bin .add (.bi .len [.var 2]) (.con (.int 1))]]]) (.call 12 [.var 1, .con (.int 4)]), .tup [.bin .add (.var 3) (.con (.int 1)), .idx (.lst [.con (.str [97]), .con (.str [98]), .con (.str [122, 122])]) (.call 12 [.var 1, .con (.int 3)])]]), 
.asg (.tup [.nm 6, .nm 7]) (.tup [.ite (.cmp .gt (.var 4) (.con (.int 0))) (.idx (.var 2) (.bin .sub (.var 4) (.con (.int 1)))) (.con .non), .ite (.cmp .lt (.var 4) (.bi .len [.var 2])) (.idx (.var 2) (.var 4)) (.con .non)]), 
.asg (.nm 8) (.call 7 [.var 6, .var 7, .var 5]), 
.ite (.or (.not (.call 13 [.var 8, .call 14 [.var 6, .var 7, .var 5]])) (.or (.and (.cmp .isnot (.var 6) (.con .non)) (.not (.cmp .lt (.var 6) (.var 8)))) (.or (.and (.cmp .isnot (.var 7) (.con .non)) (.not (.cmp .lt (.var 8) (.var 7)))) (.cmp .isnot (.call 5 [.var 8]) (.con (.bl true)))))) [
.ret (.con (.bl false))] [], 
.asg (.nm 2) (.bin .add (.bin .add (.slc (.var 2) none (some (.var 4))) (.lst [.var 8])) (.slc (.var 2) (some (.var 4)) none))]
/-- the neighbours of a place -/
def lowOf (rows : List RK) (pl : Nat) : Option RK := if pl = 0 then none else rows[pl - 1]?
def highOf (rows : List RK) (pl : Nat) : Option RK := rows[pl]?
theorem ev_low {C : Nat → List D → S → R D} {rows : List RK} {pl : Nat} (h : pl ≤ rows.length) (e : Env) (h2 : getV e 2 = some (.lv false (rows.map rk))) (h4 : getV e 4 = some (.int (pl : Int))) :
    ev C (.ite (.cmp .gt (.var 4) (.con (.int 0))) (.idx (.var 2) (.bin .sub (.var 4) (.con (.int 1)))) (.con .non)) e s = .ok (opt (lowOf rows pl)) s := by
  cases pl with
  | zero => simp [h2, h4, lowOf, opt]
  | succ q =>
    have hq : q < rows.length := by omega
    have e1 : atI (rows.map rk) (q : Int) = some (rk rows[q]) := by rw [atI_nat, List.getElem?_map, List.getElem?_eq_getElem hq]; rfl
    have e2 : (0 : Int) < (q : Int) + 1 := by omega
    have e3 : (q : Int) + 1 - 1 = q := by omega
    simp [h2, h4, lowOf, opt, e1, e2, e3, List.getElem?_eq_getElem hq]
theorem ev_high {C : Nat → List D → S → R D} {rows : List RK} {pl : Nat} (e : Env) (h2 : getV e 2 = some (.lv false (rows.map rk))) (h4 : getV e 4 = some (.int (pl : Int))) :
    ev C (.ite (.cmp .lt (.var 4) (.bi .len [.var 2])) (.idx (.var 2) (.var 4)) (.con .non)) e s = .ok (opt (highOf rows pl)) s := by
  by_cases hq : pl < rows.length
  · have e1 : atI (rows.map rk) (pl : Int) = some (rk rows[pl]) := by rw [atI_nat, List.getElem?_map, List.getElem?_eq_getElem hq]; rfl
    have e2 : (pl : Int) < (rows.length : Int) := by omega
    simp [h2, h4, highOf, opt, e1, hq, List.getElem?_eq_getElem hq]
  · have e2 : ¬ (pl : Int) < (rows.length : Int) := by omega
    simp [h2, h4, highOf, opt, hq, List.getElem?_eq_none (show rows.length ≤ pl by omega)]
@[simp] theorem opt_frz (o : Option RK) : (opt o).frz = opt o := by cases o <;> rfl
@[simp] theorem opt_rd (o : Option RK) : (opt o).rd s = opt o := by cases o <;> rfl
/-- what holds of the rows -/
structure Rows (k : Nat) (rows : List RK) : Prop where
  len : rows.length = k
  ok : ∀ r ∈ rows, Vr k r
  up : ∀ (j : Nat) (a b : RK), rows[j]? = some a → rows[j + 1]? = some b → ltR a b = true
theorem pick4 {a b c : Int} {k : Nat} {r : Int} (h0 : 0 ≤ r) (h4 : r < 4) (ha : 0 ≤ a ∧ a ≤ k) (hb : 0 ≤ b ∧ b ≤ k) (hc : 0 ≤ c ∧ c ≤ k) : ∃ pl : Nat, pl ≤ k ∧ atI [D.int 0, .int a, .int b, .int c] r = some (.int (pl : Int)) := by
  have h : r = 0 ∨ r = 1 ∨ r = 2 ∨ r = 3 := by omega
  rcases h with rfl | rfl | rfl | rfl
  · exact ⟨0, by omega, rfl⟩
  · exact ⟨a.toNat, by omega, by rw [Int.toNat_of_nonneg ha.1]; rfl⟩
  · exact ⟨b.toNat, by omega, by rw [Int.toNat_of_nonneg hb.1]; rfl⟩
  · exact ⟨c.toNat, by omega, by rw [Int.toNat_of_nonneg hc.1]; rfl⟩
theorem pick3 {i : Nat} (hi : i < 1000) {r : Int} (h0 : 0 ≤ r) (h3 : r < 3) : ∃ z, OkTm ((i : Int) + 1, z) ∧ atI [D.str [97], .str [98], .str [122, 122]] r = some (.str z) := by
  have key : ∀ z : List Nat, (z = [97] ∨ z = [98] ∨ z = [122, 122]) → OkTm ((i : Int) + 1, z) := fun z hz => by
    have hw : isWord (.str z) = true := by rcases hz with rfl | rfl | rfl <;> decide
    have hn : isNum (.int ((i : Int) + 1)) 1 1000000 = true := by
      simp only [isNum, Bool.and_eq_true, decide_eq_true_eq]
      omega
    have he : (tm ((i : Int) + 1, z)).eqv root = false := by
      simp only [tm, root, D.eqv, D.eqv.eqvL]
      have : ¬ ((i : Int) + 1 = 0) := by omega
      simp [this]
    have ho : okS z = true := by rcases hz with rfl | rfl | rfl <;> decide
    have hl : z.length ≤ 1000 := by rcases hz with rfl | rfl | rfl <;> decide
    refine ⟨?_, ho, hl⟩
    unfold isTime
    rw [he]
    unfold tm at he ⊢
    simp only [isKey, he, Bool.false_eq_true, if_false, hw, hn]
    rfl
  have h : r = 0 ∨ r = 1 ∨ r = 2 := by omega
  rcases h with rfl | rfl | rfl
  · exact ⟨_, key _ (.inl rfl), rfl⟩
  · exact ⟨_, key _ (.inr (.inl rfl)), rfl⟩
  · exact ⟨_, key _ (.inr (.inr rfl)), rfl⟩
theorem st1 {d : D} {rows : List RK} {i : Nat} (hi : i < 1000) {ns : List Int} {o4 o5 o6 o7 o8 o9 o10 o11 o12 o13 : Option D} : ∃ (pl : Nat) (z : List Nat) (ms : List Int), pl ≤ rows.length ∧ OkTm ((i : Int) + 1, z) ∧
    ex (calls fs w (n + 1)) w (.asg (.tup [.nm 4, .nm 5]) (.tup [.idx (.lst [.con (.int 0), .bi .len [.var 2], .call 12 [.var 1, .bin .add (.bi .len [.var 2]) (.con (.int 1))], .call 12 [.var 1, .bi .min [.con (.int 3), .bin .add (.bi .len [.var 2]) (.con (.int 1))]]]) (.call 12 [.var 1, .con (.int 4)]), .tup [.bin .add (.var 3) (.con (.int 1)), .idx (.lst [.con (.str [97]), .con (.str [98]), .con (.str [122, 122])]) (.call 12 [.var 1, .con (.int 3)])]])) [some d, some (.ref 0), some (.lv false (rows.map rk)), some (.int (i : Int)), o4, o5, o6, o7, o8, o9, o10, o11, o12, o13] (ds ns) =
      .nx [some d, some (.ref 0), some (.lv false (rows.map rk)), some (.int (i : Int)), some (.int (pl : Int)), some (tm ((i : Int) + 1, z)), o6, o7, o8, o9, o10, o11, o12, o13] (ds ms) := by
  obtain ⟨r1, m1, c1, a1, b1⟩ := c_take0 (w := w) (n := n) (ns := ns) (lim := (rows.length : Int) + 1) (by omega)
  obtain ⟨r2, m2, c2, a2, b2⟩ := c_take0 (w := w) (n := n) (ns := m1) (lim := if (rows.length : Int) + 1 < 3 then (rows.length : Int) + 1 else 3) (by split <;> omega)
  obtain ⟨r3, m3, c3, a3, b3⟩ := c_take0 (w := w) (n := n) (ns := m2) (lim := 4) (by omega)
  obtain ⟨r4, m4, c4, a4, b4⟩ := c_take0 (w := w) (n := n) (ns := m3) (lim := 3) (by omega)
  obtain ⟨pl, p1, p2⟩ := pick4 (a := rows.length) (b := r1) (c := r2) (k := rows.length) a3 b3 ⟨by omega, by omega⟩ ⟨a1, by omega⟩ ⟨a2, by split at b2 <;> omega⟩
  obtain ⟨z, t1, t2⟩ := pick3 (i := i) hi a4 b4
  refine ⟨pl, z, m4, p1, t1, ?_⟩
  have e4 : ∀ r : R D, R.chk (decide (4 ≤ big)) r = r := fun r => rfl
  have e3 : ∀ r : R D, R.chk (decide (3 ≤ big)) r = r := fun r => rfl
  simp [c1, c2, c3, c4, p2, t2, e4, e3, tm]
theorem Rows.two {k pl : Nat} {rows : List RK} (R : Rows k rows) (hk : k < 100) (hw : 100 < w) : Two w (lowOf rows pl) (highOf rows pl) := by
  have okr : ∀ r ∈ rows, r ≠ [] ∧ okR r ∧ r.length < w ∧ r.length ≤ 1000 := fun r hr => by
    have v := R.ok r hr
    have := v.len
    exact ⟨v.ne, v.okR, by omega, by omega⟩
  have hlow : ∀ r, lowOf rows pl = some r → r ∈ rows := fun r h => by
    unfold lowOf at h
    split at h
    · cases h
    · exact List.mem_of_getElem? h
  have hhigh : ∀ r, highOf rows pl = some r → r ∈ rows := fun r h => List.mem_of_getElem? h
  refine ⟨fun r h => okr r (hlow r h), fun r h => ⟨(okr r (hhigh r h)).1, (okr r (hhigh r h)).2.1⟩, fun r q h1 h2 => ?_⟩
  unfold lowOf at h1
  split at h1
  · cases h1
  · rename_i hp
    have := R.up (pl - 1) r q h1 (by rw [show pl - 1 + 1 = pl by omega]; exact h2)
    exact lt_shape this
/-- the rank that comes between is between, is well made -/
theorem Rows.put {k pl : Nat} {rows : List RK} (R : Rows k rows) (hpl : pl ≤ rows.length) {t : TM} (ht : OkTm t) (hk : k < 50) : 
    Vr (k + 1) (rb (lowOf rows pl) (highOf rows pl) t) ∧ (∀ r, lowOf rows pl = some r → ltR r (rb (lowOf rows pl) (highOf rows pl) t) = true) ∧ (∀ r, highOf rows pl = some r → ltR (rb (lowOf rows pl) (highOf rows pl) t) r = true) := by
  have T : Two 101 (lowOf rows pl) (highOf rows pl) := R.two (by omega) (by omega)
  have hlow : ∀ r, lowOf rows pl = some r → r ∈ rows := fun r h => by
    unfold lowOf at h
    split at h
    · cases h
    · exact List.mem_of_getElem? h
  have hhigh : ∀ r, highOf rows pl = some r → r ∈ rows := fun r h => List.mem_of_getElem? h
  have hlt : ∀ r q, lowOf rows pl = some r → highOf rows pl = some q → ltR r q = true := fun r q h1 h2 => by
    unfold lowOf at h1
    split at h1
    · cases h1
    · exact R.up (pl - 1) r q h1 (by rw [show pl - 1 + 1 = pl by omega]; exact h2)
  refine ⟨rb_ok (fun r h => R.ok r (hlow r h)) (fun r h => R.ok r (hhigh r h)) T.lh ht, fun r h => ?_, fun r h => ?_⟩
  · cases hh : highOf rows pl with
    | none => rw [h]; exact lt_last t (R.ok r (hlow r h)).ne
    | some q => rw [h]; exact (low_lt t (hlt r q h hh)).1
  · cases hl : lowOf rows pl with
    | none => rw [h]; exact lt_first t (R.ok r (hhigh r h)).ne
    | some q => rw [h]; exact (low_lt t (hlt q r hl h)).2
theorem Rows.next {k pl : Nat} {rows : List RK} (R : Rows k rows) (hpl : pl ≤ rows.length) {t : TM} (ht : OkTm t) (hk : k < 50) :
    Rows (k + 1) (rows.take pl ++ [rb (lowOf rows pl) (highOf rows pl) t] ++ rows.drop pl) := by
  obtain ⟨h1, h2, h3⟩ := R.put hpl ht hk
  generalize rb (lowOf rows pl) (highOf rows pl) t = x at h1 h2 h3
  have hl : (rows.take pl).length = pl := by simp; omega
  refine ⟨by simp [R.len]; have := R.len; omega, fun r hr => ?_, fun j a b ha hb => ?_⟩
  · rcases List.mem_append.mp hr with hr | hr
    · rcases List.mem_append.mp hr with hr | hr
      · exact (R.ok r (List.mem_of_mem_take hr)).mono (by omega)
      · rw [List.mem_singleton.mp hr]; exact h1
    · exact (R.ok r (List.mem_of_mem_drop hr)).mono (by omega)
  · have key : ∀ i y, (rows.take pl ++ [x] ++ rows.drop pl)[i]? = some y → (i < pl ∧ rows[i]? = some y) ∨ (i = pl ∧ y = x) ∨ (pl < i ∧ rows[i - 1]? = some y) := fun i y hy => by
      rw [List.append_assoc] at hy
      by_cases hi : i < pl
      · rw [List.getElem?_append_left (by omega), List.getElem?_take_of_lt hi] at hy
        exact .inl ⟨hi, hy⟩
      · rw [List.getElem?_append_right (by omega), hl] at hy
        by_cases he : i = pl
        · subst he
          simp at hy
          exact .inr (.inl ⟨rfl, hy.symm⟩)
        · rw [show i - pl = (i - pl - 1) + 1 by omega] at hy
          simp only [List.singleton_append, List.getElem?_cons_succ, List.getElem?_drop] at hy
          rw [show pl + (i - pl - 1) = i - 1 by omega] at hy
          exact .inr (.inr ⟨by omega, hy⟩)
    rcases key j a ha with ⟨q1, q2⟩ | ⟨q1, q2⟩ | ⟨q1, q2⟩
    · rcases key (j + 1) b hb with ⟨u1, u2⟩ | ⟨u1, u2⟩ | ⟨u1, u2⟩
      · exact R.up j a b q2 u2
      · subst u2
        refine h2 a ?_
        unfold lowOf
        rw [if_neg (by omega), ← u1]
        exact q2
      · omega
    · rcases key (j + 1) b hb with ⟨u1, u2⟩ | ⟨u1, u2⟩ | ⟨u1, u2⟩
      · omega
      · omega
      · subst q2
        refine h3 b ?_
        unfold highOf
        rw [← u2]
        congr 1; omega
    · rcases key (j + 1) b hb with ⟨u1, u2⟩ | ⟨u1, u2⟩ | ⟨u1, u2⟩
      · omega
      · omega
      · exact R.up (j - 1) a b q2 (by rw [show j - 1 + 1 = j + 1 - 1 by omega]; exact u2)
end LW
end

section -- Q67h
set_option autoImplicit false
set_option linter.all false
set_option maxRecDepth 10000
namespace LW
open L3
variable {w n : Nat} {s : S}
theorem add3 {a b c : List D} (h : a.length + 1 + c.length ≤ 1000) : R.opt (α := D) (bin2 .add (.lv true a) (.lv true b)) s = if a.length + b.length ≤ big then .ok (.lv true (a ++ b)) s else .bad := by
  rw [bin_addL]; split <;> rfl
theorem turn {d : D} {k : Nat} (hk : k < 50) (hw : 100 < w) {rows : List RK} (Rw : Rows k rows) {ns : List Int} {o3 o4 o5 o6 o7 o8 o9 o10 o11 o12 o13 : Option D} : ∃ rows' ms o4' o5' o6' o7' o8', Rows (k + 1) rows' ∧
    foT (calls fs w (n + 5)) w (.nm 3) lpB (.int (k : Int)) [some d, some (.ref 0), some (.lv false (rows.map rk)), o3, o4, o5, o6, o7, o8, o9, o10, o11, o12, o13] (ds ns) =
      .nx [some d, some (.ref 0), some (.lv false (rows'.map rk)), some (.int (k : Int)), o4', o5', o6', o7', o8', o9, o10, o11, o12, o13] (ds ms) := by
  obtain ⟨pl, z, ms, p1, p2, p3⟩ := st1 (w := w) (n := n + 4) (d := d) (rows := rows) (i := k) (by omega) (ns := ns) (o4 := o4) (o5 := o5) (o6 := o6) (o7 := o7) (o8 := o8) (o9 := o9) (o10 := o10) (o11 := o11) (o12 := o12) (o13 := o13)
  generalize ht : ((k : Int) + 1, z) = t at p2 p3
  obtain ⟨v, l1, l2⟩ := Rw.put p1 p2 hk
  have R' := Rw.next p1 p2 hk
  have T : Two w (lowOf rows pl) (highOf rows pl) := Rw.two (by omega) hw
  generalize hx : rb (lowOf rows pl) (highOf rows pl) t = x at v l1 l2 R'
  refine ⟨_, ms, some (.int (pl : Int)), some (tm t), some (opt (lowOf rows pl)), some (opt (highOf rows pl)), some (rk x), R', ?_⟩
  have e2 : ∀ s, ev (calls fs w (n + 5)) (.ite (.cmp .gt (.var 4) (.con (.int 0))) (.idx (.var 2) (.bin .sub (.var 4) (.con (.int 1)))) (.con .non)) [some d, some (.ref 0), some (.lv false (rows.map rk)), some (.int (k : Int)), some (.int (pl : Int)), some (tm t), o6, o7, o8, o9, o10, o11, o12, o13] s = .ok (opt (lowOf rows pl)) s := fun s => ev_low p1 _ (by simp) (by simp)
  have e3 : ∀ s, ev (calls fs w (n + 5)) (.ite (.cmp .lt (.var 4) (.bi .len [.var 2])) (.idx (.var 2) (.var 4)) (.con .non)) [some d, some (.ref 0), some (.lv false (rows.map rk)), some (.int (k : Int)), some (.int (pl : Int)), some (tm t), o6, o7, o8, o9, o10, o11, o12, o13] s = .ok (opt (highOf rows pl)) s := fun s => ev_high _ (by simp) (by simp)
  have c1 : ∀ s, callR (calls fs w (n + 5) 7) [opt (lowOf rows pl), opt (highOf rows pl), tm t] s = .ok (rk x) s := fun s => by rw [← hx]; exact c_between T
  have c2 : ∀ s, callR (calls fs w (n + 5) 14) [opt (lowOf rows pl), opt (highOf rows pl), tm t] s = .ok (rk x) s := fun s => by rw [← hx]; exact c_lrank T
  have c3 : ∀ s, callR (calls fs w (n + 5) 13) [rk x, rk x] s = .ok (.bl true) s := fun s => c_alike v.okR (by have := v.len; omega)
  have c4 : ∀ s, callR (calls fs w (n + 5) 5) [rk x] s = .ok (.bl true) s := fun s => by rw [← rank_ok v (by omega)]; exact c_rank (nice_rk v)
  -- statement by statement
  have s1 : foT (calls fs w (n + 5)) w (.nm 3) lpB (.int (k : Int)) [some d, some (.ref 0), some (.lv false (rows.map rk)), o3, o4, o5, o6, o7, o8, o9, o10, o11, o12, o13] (ds ns) =
    exs (calls fs w (n + 5)) w (lpB.drop 1) [some d, some (.ref 0), some (.lv false (rows.map rk)), some (.int (k : Int)), some (.int (pl : Int)), some (tm t), o6, o7, o8, o9, o10, o11, o12, o13] (ds ms) := by
    unfold foT lpB
    simp only [asg_nm, frz_int, List.set_cons_succ, List.set_cons_zero, List.drop_succ_cons, List.drop_zero]
    rw [exs_cons, p3]
    rfl
  rw [s1]
  unfold lpB
  simp only [List.drop_succ_cons, List.drop_zero]
  rw [exs_cons]
  have s2 : ex (calls fs w (n + 5)) w (.asg (.tup [.nm 6, .nm 7]) (.tup [.ite (.cmp .gt (.var 4) (.con (.int 0))) (.idx (.var 2) (.bin .sub (.var 4) (.con (.int 1)))) (.con .non), .ite (.cmp .lt (.var 4) (.bi .len [.var 2])) (.idx (.var 2) (.var 4)) (.con .non)])) [some d, some (.ref 0), some (.lv false (rows.map rk)), some (.int (k : Int)), some (.int (pl : Int)), some (tm t), o6, o7, o8, o9, o10, o11, o12, o13] (ds ms) =
    .nx [some d, some (.ref 0), some (.lv false (rows.map rk)), some (.int (k : Int)), some (.int (pl : Int)), some (tm t), some (opt (lowOf rows pl)), some (opt (highOf rows pl)), o8, o9, o10, o11, o12, o13] (ds ms) := by
    simp [e2, e3, -ev_ite]
  rw [s2, F.next_nx, exs_cons]
  have s3 : ex (calls fs w (n + 5)) w (.asg (.nm 8) (.call 7 [.var 6, .var 7, .var 5])) [some d, some (.ref 0), some (.lv false (rows.map rk)), some (.int (k : Int)), some (.int (pl : Int)), some (tm t), some (opt (lowOf rows pl)), some (opt (highOf rows pl)), o8, o9, o10, o11, o12, o13] (ds ms) =
    .nx [some d, some (.ref 0), some (.lv false (rows.map rk)), some (.int (k : Int)), some (.int (pl : Int)), some (tm t), some (opt (lowOf rows pl)), some (opt (highOf rows pl)), some (rk x), o9, o10, o11, o12, o13] (ds ms) := by
    simp [c1]
  rw [s3, F.next_nx, exs_cons]
  have okl : ∀ r, lowOf rows pl = some r → okR r := fun r h => (T.l0 r h).2.1
  have okh : ∀ r, highOf rows pl = some r → okR r := fun r h => (T.h0 r h).2
  have s4 : ex (calls fs w (n + 5)) w (.ite (.or (.not (.call 13 [.var 8, .call 14 [.var 6, .var 7, .var 5]])) (.or (.and (.cmp .isnot (.var 6) (.con .non)) (.not (.cmp .lt (.var 6) (.var 8)))) (.or (.and (.cmp .isnot (.var 7) (.con .non)) (.not (.cmp .lt (.var 8) (.var 7)))) (.cmp .isnot (.call 5 [.var 8]) (.con (.bl true)))))) [
.ret (.con (.bl false))] []) [some d, some (.ref 0), some (.lv false (rows.map rk)), some (.int (k : Int)), some (.int (pl : Int)), some (tm t), some (opt (lowOf rows pl)), some (opt (highOf rows pl)), some (rk x), o9, o10, o11, o12, o13] (ds ms) =
    .nx [some d, some (.ref 0), some (.lv false (rows.map rk)), some (.int (k : Int)), some (.int (pl : Int)), some (tm t), some (opt (lowOf rows pl)), some (opt (highOf rows pl)), some (rk x), o9, o10, o11, o12, o13] (ds ms) := by
    cases hl : lowOf rows pl with
    | none =>
      rw [hl] at c2
      cases hh : highOf rows pl with
      | none =>
        rw [hh] at c2
        have c2' : ∀ s, callR (calls fs w (n + 5) 14) [.non, .non, tm t] s = .ok (rk x) s := c2
        have o1 : opt none = D.non := rfl
        rw [o1]
        simp [c2', c3, c4]
      | some h =>
        rw [hh] at c2
        have q2 := lt_rk v.okR (okh h hh)
        rw [l2 h hh] at q2
        simp [opt] at c2 ⊢
        simp [c2, c3, c4, q2]
    | some l =>
      rw [hl] at c2
      have q1 := lt_rk (okl l hl) v.okR
      rw [l1 l hl] at q1
      cases hh : highOf rows pl with
      | none =>
        rw [hh] at c2
        simp [opt] at c2 ⊢
        simp [c2, c3, c4, q1]
      | some h =>
        rw [hh] at c2
        have q2 := lt_rk v.okR (okh h hh)
        rw [l2 h hh] at q2
        simp [opt] at c2 ⊢
        simp [c2, c3, c4, q1, q2]
  rw [s4, F.next_nx, exs_cons]
  have hb1 : min pl rows.length + 1 ≤ big := by rw [bigN]; have := Rw.len; omega
  have hb2 : min pl rows.length + 1 + (rows.length - pl) ≤ big := by rw [bigN]; have := Rw.len; omega
  simp [cut_to, cut_from, hb1, hb2]
end LW
end

section -- Q67i
set_option autoImplicit false
set_option linter.all false
set_option maxRecDepth 10000
namespace LW
open L3
variable {w n : Nat} {s : S}
theorem lcL_nil {f : D → S → L3.R (Option D)} {acc : List D} : lcL f [] acc s = .ok (.lv true acc) s := rfl
theorem lcL_cons {f : D → S → L3.R (Option D)} {x : D} {r acc : List D} : lcL f (x :: r) acc s = (f x s).bind fun o s => match o with
        | some d => if acc.length < big then lcL f r (acc ++ [d.frz]) s else .bad
        | none => lcL f r acc s := rfl
/-- times that are none -/
def badT (t : TM) : List D := [.non, .tup [.int 0, .str []], .tup [.int t.1], .lv false [.int t.1, .str [97]], .tup [.int 0, .str [97]], .tup [.int t.1, .str [65]], .tup [.int 1000001, .str [97]], .tup [.bl true, .str [97]]]
/-- ranks that are none -/
def badR (t : TM) : List D := [.non, .tup [], .tup [.tup [.int 0, .tup [.int 0, .str []]]], .tup [.tup [.int 0, tm t, .int 0]], .tup [.int 0, tm t], .tup [.tup [.int 0]], .lv false [.tup [.int 0, tm t]], .tup [.tup [.int 1000001, tm t]], .tup [.tup [.non, tm t]], .tup [.tup [.bl true, tm t]], .tup (List.replicate 61 [.tup [.int 0, tm t]]).flatten]
/-- parents that are none -/
def badP (t : TM) : List D := [tm t, .tup [.int (t.1 + 1), .str [97]], .tup [.int 0, .str [97]], .str [114, 111, 111, 116], .int 5, .tup []]
def headL (k t a b : D) (r : List D) : List D := [.non, .int 5, .str [110, 101, 119], .tup [], .lv false (k :: t :: a :: b :: r), .tup (k :: t :: a :: b :: r.dropLast), .tup (k :: t :: a :: b :: (r ++ [.int 0])), .tup (.str [78, 101, 119] :: t :: a :: b :: r), .tup (.non :: t :: a :: b :: r)]
theorem badT_not {t : TM} : ∀ v ∈ badT t, isTime v = false := by
  intro v hv
  simp only [badT, List.mem_cons, List.not_mem_nil, or_false] at hv
  rcases hv with rfl | rfl | rfl | rfl | rfl | rfl | rfl | rfl <;> simp [isTime, isKey, root, D.eqv, D.eqv.eqvL, isNum, isWord, D.isBl, letters]
theorem item_bad {x t : D} (h : ∀ a b, isNum x a b = false) : isItem (.tup [x, t]) = false := by simp [isItem, h]
theorem badR_not {t : TM} : ∀ v ∈ badR t, isRank v = false := by
  intro v hv
  simp only [badR, List.mem_cons, List.not_mem_nil, or_false] at hv
  rcases hv with rfl | rfl | rfl | rfl | rfl | rfl | rfl | rfl | rfl | rfl | rfl
  · rfl
  · rfl
  · simp [isRank, isItem, isTime, root, D.eqv, D.eqv.eqvL]
  · simp [isRank, isItem]
  · simp [isRank, isItem]
  · simp [isRank, isItem]
  · rfl
  · simp [isRank, isItem, isNum]
  · simp [isRank, isItem, isNum]
  · simp [isRank, isItem, isNum]
  · simp [isRank]
theorem keyLt_irr (i : Int) (y : List Nat) : keyLt i y i y = false := by simp [keyLt]
theorem badP_not {t : TM} : ∀ v ∈ badP t, v.isNon = false ∧ isAhead v (tm t) = false := by
  intro v hv
  simp only [badP, List.mem_cons, List.not_mem_nil, or_false] at hv
  rcases hv with rfl | rfl | rfl | rfl | rfl | rfl
  · refine ⟨rfl, ?_⟩
    simp [isAhead, tm, keyLt_irr]
  · refine ⟨rfl, ?_⟩
    have h : ¬ (t.1 + 1 = t.1) := by omega
    have h2 : ¬ (t.1 + 1 < t.1) := by omega
    simp [isAhead, tm, keyLt, h, h2]
  · refine ⟨rfl, ?_⟩
    simp [isAhead, isKey, root, D.eqv, D.eqv.eqvL, isNum]
  · exact ⟨rfl, rfl⟩
  · exact ⟨rfl, rfl⟩
  · exact ⟨rfl, rfl⟩
end LW
end

section -- Q67j
set_option autoImplicit false
set_option linter.all false
set_option maxRecDepth 10000
namespace LW
open L3
variable {w n : Nat} {s : S}
def badW : List D := [.str [], .str [65], .non, .str [116, 111, 111, 108, 111, 110, 103]]
def badS : List D := [.non, .str [34], .str (List.replicate 21 [120]).flatten]
theorem lc_mid {C : Nat → List D → S → L3.R D} {op pre post xs : List D} {i j : Int} {a1 a2 a3 a4 a5 : Option D} (h1 : cut op none (some i) = pre) (h2 : cut op (some j) none = post) (hp : pre.length ≤ 100) (hq : post.length ≤ 100) (hx : xs.length ≤ 1000) :
    lcL (lcT C (.bin .add (.bin .add (.slc (.var 0) none (some (.con (.int i)))) (.tup [.var 3])) (.slc (.var 0) (some (.con (.int j))) none)) (.nm 3) [] [3] [some (.tup op), a1, a2, a3, a4, a5]) xs [] s = .ok (.lv true (xs.map fun o => .tup (pre ++ [o.frz] ++ post))) s := by
  rw [lcL_fm (g := fun o => some (.tup (pre ++ [o.frz] ++ post))) (by rw [bigN]; simp; omega)]
  · simp [Function.comp_def]
  · intro x hx
    have b1 : pre.length + 1 ≤ big := by rw [bigN]; omega
    have b2 : pre.length + 1 + post.length ≤ big := by rw [bigN]; omega
    have e1 : ∀ y : D, y.frz.frz = y.frz := fun y => by cases y <;> rfl
    simp [lcT, h1, h2, b1, b2, e1]
theorem lc_end {C : Nat → List D → S → L3.R D} {op pre xs : List D} {i : Int} {a1 a2 a3 a4 a5 : Option D} (h1 : cut op none (some i) = pre) (hp : pre.length ≤ 100) (hx : xs.length ≤ 1000) :
    lcL (lcT C (.bin .add (.slc (.var 0) none (some (.con (.int i)))) (.tup [.var 3])) (.nm 3) [] [3] [some (.tup op), a1, a2, a3, a4, a5]) xs [] s = .ok (.lv true (xs.map fun o => .tup (pre ++ [o.frz]))) s := by
  rw [lcL_fm (g := fun o => some (.tup (pre ++ [o.frz]))) (by rw [bigN]; simp; omega)]
  · simp [Function.comp_def]
  · intro x hx
    have b1 : pre.length + 1 ≤ big := by rw [bigN]; omega
    have e1 : ∀ y : D, y.frz.frz = y.frz := fun y => by cases y <;> rfl
    simp [lcT, h1, b1, e1]
theorem ck (k : Nat) (r : L3.R D) (h : k ≤ 1000) : L3.R.chk (decide (k ≤ big)) r = r := by rw [decide_eq_true (by rw [bigN]; omega)]; rfl
/-- the first four statements of _law_odd: what is wrong with any operation -/
def oddHead (k t : D) (tt : TM) (r : List D) : List D := [D.non, .int 5, .str [110, 101, 119], .tup [], .lv false (k :: t :: r), .tup (k :: t :: r).dropLast, .tup (k :: t :: r ++ [.int 0]), .tup (.str [78, 101, 119] :: t :: r), .tup (.non :: t :: r)] ++ (badT tt).map fun o => .tup ([k] ++ [o.frz] ++ r)
theorem odd_st {k : D} {t : TM} {r : List D} (hk : k.frz = k) (hr : 1 ≤ r.length ∧ r.length ≤ 10) {o1 o2 o3 o4 o5 : Option D} : exs (calls fs w n) w (b15.body.take 5) [some (.tup (k :: tm t :: r)), o1, o2, o3, o4, o5] s =
    .nx [some (.tup (k :: tm t :: r)), some (tm t), some (.lv false (oddHead k (tm t) t r)), o3, some (.lv false (badR t)), some (.lv false (badP t))] s := by
  have w3 : wide 10 = true := by decide
  have c1 : cut (k :: tm t :: r) none (some (-1)) = (k :: tm t :: r).dropLast := by
    unfold cut
    have e1 : sIx (k :: tm t :: r).length (k :: tm t :: r).length (some (-1)) = r.length + 1 := by
      simp only [sIx, List.length_cons]
      rw [if_pos (by decide)]
      omega
    rw [e1]
    show List.take (r.length + 1 - 0) _ = _
    rw [List.dropLast_eq_take]
    rfl
  have c2 : cut (k :: tm t :: r) (some 1) none = tm t :: r := by have := cut_from (k :: tm t :: r) 1; simpa using this
  have c3 : cut (k :: tm t :: r) none (some 1) = [k] := by have := cut_to (k :: tm t :: r) 1; simpa using this
  have c4 : cut (k :: tm t :: r) (some 2) none = r := by have := cut_from (k :: tm t :: r) 2; simpa using this
  have b1 : r.length + 1 + 1 + 1 ≤ big := by rw [bigN]; omega
  have b2 : 1 + (r.length + 1) ≤ big := by rw [bigN]; omega
  have L := fun a2 a3 a4 a5 xs s => lc_mid (s := s) (C := calls fs w n) (op := k :: tm t :: r) (pre := [k]) (post := r) (i := 1) (j := 2) (a1 := some (tm t)) (a2 := a2) (a3 := a3) (a4 := a4) (a5 := a5) (xs := xs) c3 c4 (by simp) (by omega)
  unfold b15
  simp only [List.take_succ_cons, List.take_zero, List.take]
  rw [exs_cons]
  have s1 : ∀ st, ex (calls fs w n) w (.asg (.nm 1) (.idx (.var 0) (.con (.int 1)))) [some (.tup (k :: tm t :: r)), o1, o2, o3, o4, o5] st = .nx [some (.tup (k :: tm t :: r)), some (tm t), o2, o3, o4, o5] st := fun st => by simp
  rw [s1, F.next_nx, exs_cons, ex_asg]
  have e2 : ev (calls fs w n) (.lst [.con .non, .con (.int 5), .con (.str [110, 101, 119]), .tup [], .bi .list [.var 0], .slc (.var 0) none (some (.neg (.con (.int 1)))), .bin .add (.var 0) (.tup [.con (.int 0)]), .bin .add (.tup [.con (.str [78, 101, 119])]) (.slc (.var 0) (some (.con (.int 1))) none), .bin .add (.tup [.con .non]) (.slc (.var 0) (some (.con (.int 1))) none)]) [some (.tup (k :: tm t :: r)), some (tm t), o2, o3, o4, o5] s =
    .ok (.lv true [D.non, .int 5, .str [110, 101, 119], .tup [], .lv false (k :: tm t :: r), .tup (k :: tm t :: r).dropLast, .tup (k :: tm t :: r ++ [.int 0]), .tup (.str [78, 101, 119] :: tm t :: r), .tup (.non :: tm t :: r)]) s := by
    simp [c1, c2, b1, b2, ck]
  rw [e2]
  simp only [F.of_ok, asg_nm, frz_lv, List.set_cons_succ, List.set_cons_zero, F.next_nx]
  rw [exs_cons, ex_asg]
  have e3 : ∀ hd : List D, hd.length ≤ 20 → ev (calls fs w n) (.bin .add (.var 2) (.lc (.bin .add (.bin .add (.slc (.var 0) none (some (.con (.int 1)))) (.tup [.var 3])) (.slc (.var 0) (some (.con (.int 2))) none)) (.nm 3) (.seq (.lst [.con .non, .tup [.con (.int 0), .con (.str [])], .tup [.idx (.var 1) (.con (.int 0))], .lst [.idx (.var 1) (.con (.int 0)), .con (.str [97])], .tup [.con (.int 0), .con (.str [97])], .tup [.idx (.var 1) (.con (.int 0)), .con (.str [65])], .tup [.bin .add (.bin .pow (.con (.int 10)) (.con (.int 6))) (.con (.int 1)), .con (.str [97])], .tup [.con (.bl true), .con (.str [97])]])) [] [3])) [some (.tup (k :: tm t :: r)), some (tm t), some (.lv false hd), o3, o4, o5] s =
      .ok (.lv true (hd ++ (badT t).map fun o => .tup ([k] ++ [o.frz] ++ r))) s := fun hd hh => by
    have hs : items (calls fs w n) (.seq (.lst [.con .non, .tup [.con (.int 0), .con (.str [])], .tup [.idx (.var 1) (.con (.int 0))], .lst [.idx (.var 1) (.con (.int 0)), .con (.str [97])], .tup [.con (.int 0), .con (.str [97])], .tup [.idx (.var 1) (.con (.int 0)), .con (.str [65])], .tup [.bin .add (.bin .pow (.con (.int 10)) (.con (.int 6))) (.con (.int 1)), .con (.str [97])], .tup [.con (.bl true), .con (.str [97])]])) [some (.tup (k :: tm t :: r)), some (tm t), some (.lv false hd), o3, o4, o5] s = .ok (.fix (badT t)) s := by
      simp [ck, w3, badT, tm]
    have hb : hd.length + (badT t).length ≤ big := by rw [bigN]; simp [badT]; omega
    rw [ev_bin, ev_var]
    simp only [getV_2, R.opt_some, R.bind_ok]
    rw [ev_lc, hs]
    simp only [R.bind_ok, lcI_fix]
    rw [L _ _ _ _ (badT t) s (by simp [badT])]
    simp [hb]
  rw [e3 _ (by simp)]
  simp only [F.of_ok, asg_nm, frz_lv, List.set_cons_succ, List.set_cons_zero, F.next_nx]
  rw [exs_cons, ex_asg]
  have e4 : ∀ hd : List D, ev (calls fs w n) (.lst [.con .non, .tup [], .tup [.tup [.con (.int 0), .tup [.con (.int 0), .con (.str [])]]], .tup [.tup [.con (.int 0), .var 1, .con (.int 0)]], .tup [.con (.int 0), .var 1], .tup [.tup [.con (.int 0)]], .lst [.tup [.con (.int 0), .var 1]], .tup [.tup [.bin .add (.bin .pow (.con (.int 10)) (.con (.int 6))) (.con (.int 1)), .var 1]], .tup [.tup [.con .non, .var 1]], .tup [.tup [.con (.bl true), .var 1]], .bin .mul (.tup [.tup [.con (.int 0), .var 1]]) (.con (.int 61))]) [some (.tup (k :: tm t :: r)), some (tm t), some (.lv false hd), o3, o4, o5] s =
      .ok (.lv true (badR t)) s := fun hd => by
    have hm : bin2 .mul (.tup [.tup [.int 0, tm t]]) (.int 61) = some (.tup (List.replicate 61 [D.tup [.int 0, tm t]]).flatten) := by
      rw [bin_mulT, if_pos (by simp)]; rfl
    simp [ck, w3, hm, -bin_mulT, badR]
  rw [e4]
  simp only [F.of_ok, asg_nm, frz_lv, List.set_cons_succ, List.set_cons_zero, F.next_nx]
  rw [exs_cons, ex_asg]
  have e5 : ∀ (hd : List D) (o4 : Option D), ev (calls fs w n) (.lst [.var 1, .tup [.bin .add (.idx (.var 1) (.con (.int 0))) (.con (.int 1)), .con (.str [97])], .tup [.con (.int 0), .con (.str [97])], .con (.str [114, 111, 111, 116]), .con (.int 5), .tup []]) [some (.tup (k :: tm t :: r)), some (tm t), some (.lv false hd), o3, o4, o5] s =
      .ok (.lv true (badP t)) s := fun hd o4 => by
    have h0 : idx2 (tm t) (.int 0) = some (.int t.1) := rfl
    simp [ck, badP, h0]
  rw [e5]
  simp only [F.of_ok, asg_nm, frz_lv, List.set_cons_succ, List.set_cons_zero, F.next_nx, exs_nil]
  rfl
end LW
end

section -- Q67k
set_option autoImplicit false
set_option linter.all false
set_option maxRecDepth 10000
namespace LW
open L3
variable {w n : Nat} {s : S}
theorem exs_append {C : Nat → List D → S → L3.R D} : ∀ (xs ys : List CS) (e : Env) (s : S), exs C w (xs ++ ys) e s = (exs C w xs e s).next fun e s => exs C w ys e s
  | [], ys, e, s => by simp
  | x :: xs, ys, e, s => by
    rw [List.cons_append, exs_cons, exs_cons]
    cases h : ex C w x e s with
    | nx e' s' => simp only [F.next_nx]; exact exs_append xs ys e' s'
    | _ => rfl
theorem odd_split (e : Env) : exs (calls fs w n) w b15.body e s = (exs (calls fs w n) w (b15.body.take 5) e s).next fun e s => exs (calls fs w n) w (b15.body.drop 5) e s := by
  rw [← exs_append, List.take_append_drop]
def oddNew (t : TM) (a b c d : D) : List D := oddHead (.str kNew) (tm t) t [a, b, c, d] ++ badW.map (fun o => .tup ([.str kNew, tm t] ++ [o.frz] ++ [b, c, d])) ++ badS.map (fun o => .tup ([.str kNew, tm t, a] ++ [o.frz] ++ [c, d]))
  ++ (badP t).map (fun o => .tup ([.str kNew, tm t, a, b] ++ [o.frz] ++ [d])) ++ (badR t).map (fun o => .tup ([.str kNew, tm t, a, b, c] ++ [o.frz]))
theorem x_oddNew {t : TM} {a b c d : D} : exs (calls fs w n) w b15.body [some (.tup [.str kNew, tm t, a, b, c, d]), none, none, none, none, none] s = .rt (.lv true (oddNew t a b c d)) s := by
  rw [odd_split, odd_st (k := .str kNew) (r := [a, b, c, d]) rfl (by simp)]
  have hl : (oddHead (.str kNew) (tm t) t [a, b, c, d]).length = 17 := by simp [oddHead, badT]
  generalize hg : oddHead (.str kNew) (tm t) t [a, b, c, d] = hd at hl
  have hlP : (badP t).length = 6 := rfl
  have hlR : (badR t).length = 11 := rfl
  simp only [F.next_nx]
  unfold b15
  simp only [List.drop_succ_cons, List.drop_zero]
  have m1 := fun a2 a3 a4 a5 xs s => lc_mid (s := s) (C := calls fs w n) (op := [.str kNew, tm t, a, b, c, d]) (pre := [.str kNew, tm t]) (post := [b, c, d]) (i := 2) (j := 3) (a1 := some (tm t)) (a2 := a2) (a3 := a3) (a4 := a4) (a5 := a5) (xs := xs) rfl rfl (by simp) (by simp)
  have m2 := fun a2 a3 a4 a5 xs s => lc_mid (s := s) (C := calls fs w n) (op := [.str kNew, tm t, a, b, c, d]) (pre := [.str kNew, tm t, a]) (post := [c, d]) (i := 3) (j := 4) (a1 := some (tm t)) (a2 := a2) (a3 := a3) (a4 := a4) (a5 := a5) (xs := xs) rfl rfl (by simp) (by simp)
  have m3 := fun a2 a3 a4 a5 xs s => lc_mid (s := s) (C := calls fs w n) (op := [.str kNew, tm t, a, b, c, d]) (pre := [.str kNew, tm t, a, b]) (post := [d]) (i := 4) (j := 5) (a1 := some (tm t)) (a2 := a2) (a3 := a3) (a4 := a4) (a5 := a5) (xs := xs) rfl rfl (by simp) (by simp)
  have m4 := fun a2 a3 a4 a5 xs s => lc_end (s := s) (C := calls fs w n) (op := [.str kNew, tm t, a, b, c, d]) (pre := [.str kNew, tm t, a, b, c]) (i := 5) (a1 := some (tm t)) (a2 := a2) (a3 := a3) (a4 := a4) (a5 := a5) (xs := xs) rfl (by simp)
  have hs1 : ∀ e s, items (calls fs w n) (.seq (.lst [.con (.str []), .con (.str [65]), .con .non, .con (.str [116, 111, 111, 108, 111, 110, 103])])) e s = .ok (.fix badW) s := fun e s => by simp [ck, badW]
  have hs2 : ∀ e s, items (calls fs w n) (.seq (.lst [.con .non, .con (.str [34]), .bin .mul (.con (.str [120])) (.con (.int 21))])) e s = .ok (.fix badS) s := fun e s => by simp [ck, badS]
  have hW : badW.length = 4 := rfl
  have hS : badS.length = 3 := rfl
  have kq : (kNew == [110, 101, 119]) = true := by decide
  rw [exs_cons, ex_ite]
  have t1 : ∀ o3 o4 o5, ev (calls fs w n) (.cmp .eq (.idx (.var 0) (.con (.int 0))) (.con (.str [110, 101, 119]))) [some (.tup [.str kNew, tm t, a, b, c, d]), some (tm t), some (.lv false hd), o3, o4, o5] s = .ok (.bl true) s := fun o3 o4 o5 => by simp [kNew]
  rw [t1]
  simp only [F.of_ok, bool_bl]
  rw [exs_cons, ex_asg]
  have e1 : ∀ o3 o4 o5, ev (calls fs w n) (.bin .add (.bin .add (.var 2) (.lc (.bin .add (.bin .add (.slc (.var 0) none (some (.con (.int 2)))) (.tup [.var 3])) (.slc (.var 0) (some (.con (.int 3))) none)) (.nm 3) (.seq (.lst [.con (.str []), .con (.str [65]), .con .non, .con (.str [116, 111, 111, 108, 111, 110, 103])])) [] [3])) (.lc (.bin .add (.bin .add (.slc (.var 0) none (some (.con (.int 3)))) (.tup [.var 3])) (.slc (.var 0) (some (.con (.int 4))) none)) (.nm 3) (.seq (.lst [.con .non, .con (.str [34]), .bin .mul (.con (.str [120])) (.con (.int 21))])) [] [3])) [some (.tup [.str kNew, tm t, a, b, c, d]), some (tm t), some (.lv false hd), o3, o4, o5] s =
      .ok (.lv true (hd ++ badW.map (fun o => .tup ([.str kNew, tm t] ++ [o.frz] ++ [b, c, d])) ++ badS.map (fun o => .tup ([.str kNew, tm t, a] ++ [o.frz] ++ [c, d])))) s := fun o3 o4 o5 => by
    rw [ev_bin, ev_bin, ev_var]
    simp only [getV_2, R.opt_some, R.bind_ok]
    rw [ev_lc, hs1]
    simp only [R.bind_ok, lcI_fix]
    rw [m1 _ _ _ _ badW s (by simp [hW])]
    simp only [R.bind_ok, rd_lv, bin_addL, List.length_map, hW, hl]
    rw [if_pos (by rw [bigN]; decide)]
    simp only [R.opt_some, R.bind_ok]
    rw [ev_lc, hs2]
    simp only [R.bind_ok, lcI_fix]
    rw [m2 _ _ _ _ badS s (by simp [hS])]
    simp only [R.bind_ok, rd_lv, bin_addL, List.length_map, List.length_append, hW, hS, hl]
    rw [if_pos (by rw [bigN]; decide)]
    rfl
  rw [e1]
  simp only [F.of_ok, asg_nm, frz_lv, List.set_cons_succ, List.set_cons_zero, F.next_nx]
  rw [exs_cons, ex_ret]
  have hl2 : (hd ++ badW.map (fun o => D.tup ([.str kNew, tm t] ++ [o.frz] ++ [b, c, d])) ++ badS.map (fun o => D.tup ([.str kNew, tm t, a] ++ [o.frz] ++ [c, d]))).length = 24 := by simp [hl, hW, hS]
  generalize hg2 : hd ++ badW.map (fun o => D.tup ([.str kNew, tm t] ++ [o.frz] ++ [b, c, d])) ++ badS.map (fun o => D.tup ([.str kNew, tm t, a] ++ [o.frz] ++ [c, d])) = hd2 at hl2
  have e2 : ev (calls fs w n) (.bin .add (.bin .add (.var 2) (.lc (.bin .add (.bin .add (.slc (.var 0) none (some (.con (.int 4)))) (.tup [.var 3])) (.slc (.var 0) (some (.con (.int 5))) none)) (.nm 3) (.seq (.var 5)) [] [3])) (.lc (.bin .add (.slc (.var 0) none (some (.con (.int 5)))) (.tup [.var 3])) (.nm 3) (.seq (.var 4)) [] [3])) [some (.tup [.str kNew, tm t, a, b, c, d]), some (tm t), some (.lv false hd2), none, some (.lv false (badR t)), some (.lv false (badP t))] s =
      .ok (.lv true (hd2 ++ (badP t).map (fun o => .tup ([.str kNew, tm t, a, b] ++ [o.frz] ++ [d])) ++ (badR t).map (fun o => .tup ([.str kNew, tm t, a, b, c] ++ [o.frz])))) s := by
    rw [ev_bin, ev_bin, ev_var]
    simp only [getV_2, R.opt_some, R.bind_ok]
    rw [ev_lc]
    simp only [items_seq, ev_var, getV_5, R.opt_some, R.bind_ok, seqOf_lv, lcI_fix]
    rw [m3 _ _ _ _ (badP t) s (by simp [hlP])]
    simp only [R.bind_ok, rd_lv, bin_addL, List.length_map, hlP, hl2]
    rw [if_pos (by rw [bigN]; decide)]
    simp only [R.opt_some, R.bind_ok]
    rw [ev_lc]
    simp only [items_seq, ev_var, getV_4, R.opt_some, R.bind_ok, seqOf_lv, lcI_fix]
    rw [m4 _ _ _ _ (badR t) s (by simp [hlR])]
    simp only [R.bind_ok, rd_lv, bin_addL, List.length_map, List.length_append, hlP, hlR, hl2]
    rw [if_pos (by rw [bigN]; decide)]
    rfl
  rw [e2]
  unfold oddNew
  rw [hg, hg2]
  rfl
theorem r_oddNew {t : TM} {a b c d : D} : calls fs w (n + 1) 15 [.tup [.str kNew, tm t, a, b, c, d]] s = .ok (.lv true (oddNew t a b c d)) s := by
  rw [calls_eq (b := b15) rfl]
  unfold run
  rw [if_pos (show [D.tup [D.str kNew, tm t, a, b, c, d]].length = b15.par from rfl)]
  have := x_oddNew (w := w) (n := n) (s := s) (t := t) (a := a) (b := b) (c := c) (d := d)
  have e : ([D.tup [.str kNew, tm t, a, b, c, d]].map some ++ List.replicate b15.more none) = [some (.tup [.str kNew, tm t, a, b, c, d]), none, none, none, none, none] := rfl
  rw [e, this]
end LW
end

section -- Q67l
set_option autoImplicit false
set_option linter.all false
set_option maxRecDepth 10000
namespace LW
open L3
variable {w n : Nat} {s : S}
def badA (t : TM) : List D := [.non, tm t, .tup [.int (t.1 + 1), .str [97]], .str [114, 111, 111, 116], .tup [.int 0, .str [97]]]
/-- the sixth and seventh statements, for what is not new -/
theorem odd_mid {k : List Nat} {t : TM} {a b c : D} {hd : List D} (hk : (k == [110, 101, 119]) = false) (hl : hd.length ≤ 100) {o3 o4 o5 : Option D} : exs (calls fs w n) w (b15.body.drop 5) [some (.tup [.str k, tm t, a, b, c]), some (tm t), some (.lv false hd), o3, o4, o5] s =
    exs (calls fs w n) w (b15.body.drop 7) [some (.tup [.str k, tm t, a, b, c]), some (tm t), some (.lv false (hd ++ (badA t).map (fun o => .tup ([.str k, tm t] ++ [o.frz] ++ [b, c])))), o3, o4, o5] s := by
  unfold b15
  simp only [List.drop_succ_cons, List.drop_zero]
  rw [exs_cons, ex_ite]
  have t1 : ev (calls fs w n) (.cmp .eq (.idx (.var 0) (.con (.int 0))) (.con (.str [110, 101, 119]))) [some (.tup [.str k, tm t, a, b, c]), some (tm t), some (.lv false hd), o3, o4, o5] s = .ok (.bl false) s := by simp [hk]
  rw [t1]
  simp only [F.of_ok, bool_bl, exs_nil, F.next_nx]
  rw [exs_cons, ex_asg]
  have m1 := fun xs s => lc_mid (s := s) (C := calls fs w n) (op := [.str k, tm t, a, b, c]) (pre := [.str k, tm t]) (post := [b, c]) (i := 2) (j := 3) (a1 := some (tm t)) (a2 := some (.lv false hd)) (a3 := o3) (a4 := o4) (a5 := o5) (xs := xs) rfl rfl (by simp) (by simp)
  have e1 : ev (calls fs w n) (.bin .add (.var 2) (.lc (.bin .add (.bin .add (.slc (.var 0) none (some (.con (.int 2)))) (.tup [.var 3])) (.slc (.var 0) (some (.con (.int 3))) none)) (.nm 3) (.seq (.lst [.con .non, .var 1, .tup [.bin .add (.idx (.var 1) (.con (.int 0))) (.con (.int 1)), .con (.str [97])], .con (.str [114, 111, 111, 116]), .tup [.con (.int 0), .con (.str [97])]])) [] [3])) [some (.tup [.str k, tm t, a, b, c]), some (tm t), some (.lv false hd), o3, o4, o5] s =
      .ok (.lv true (hd ++ (badA t).map (fun o => .tup ([.str k, tm t] ++ [o.frz] ++ [b, c])))) s := by
    have h0 : idx2 (tm t) (.int 0) = some (.int t.1) := rfl
    have hs : items (calls fs w n) (.seq (.lst [.con .non, .var 1, .tup [.bin .add (.idx (.var 1) (.con (.int 0))) (.con (.int 1)), .con (.str [97])], .con (.str [114, 111, 111, 116]), .tup [.con (.int 0), .con (.str [97])]])) [some (.tup [.str k, tm t, a, b, c]), some (tm t), some (.lv false hd), o3, o4, o5] s = .ok (.fix (badA t)) s := by
      simp [ck, badA, h0]
    have hA : (badA t).length = 5 := rfl
    rw [ev_bin, ev_var]
    simp only [getV_2, R.opt_some, R.bind_ok]
    rw [ev_lc, hs]
    simp only [R.bind_ok, lcI_fix]
    rw [m1 (badA t) s (by simp [hA])]
    simp only [R.bind_ok, rd_lv, bin_addL, List.length_map, hA]
    rw [if_pos (by rw [bigN]; omega)]
    rfl
  rw [e1]
  rfl
def oddPut (t : TM) (a b c : D) : List D := oddHead (.str kPut) (tm t) t [a, b, c] ++ (badA t).map (fun o => .tup ([.str kPut, tm t] ++ [o.frz] ++ [b, c])) ++ [.tup ([.str kPut, tm t] ++ [root] ++ [b, c])]
  ++ (badP t).map (fun o => .tup ([.str kPut, tm t, a] ++ [o.frz] ++ [c])) ++ (badR t).map (fun o => .tup ([.str kPut, tm t, a, b] ++ [o.frz]))
theorem x_oddPut {t : TM} {a b c : D} : exs (calls fs w n) w b15.body [some (.tup [.str kPut, tm t, a, b, c]), none, none, none, none, none] s = .rt (.lv true (oddPut t a b c)) s := by
  rw [odd_split, odd_st (k := .str kPut) (r := [a, b, c]) rfl (by simp)]
  have hl : (oddHead (.str kPut) (tm t) t [a, b, c]).length = 17 := by simp [oddHead, badT]
  simp only [F.next_nx]
  rw [odd_mid (by decide) (by omega)]
  have hl2 : (oddHead (.str kPut) (tm t) t [a, b, c] ++ (badA t).map (fun o => D.tup ([.str kPut, tm t] ++ [o.frz] ++ [b, c]))).length = 22 := by simp [hl, badA]
  unfold oddPut
  generalize oddHead (.str kPut) (tm t) t [a, b, c] ++ (badA t).map (fun o => D.tup ([.str kPut, tm t] ++ [o.frz] ++ [b, c])) = hd at hl2
  have hlP : (badP t).length = 6 := rfl
  have hlR : (badR t).length = 11 := rfl
  unfold b15
  simp only [List.drop_succ_cons, List.drop_zero]
  rw [exs_cons, ex_ite]
  have t1 : ev (calls fs w n) (.cmp .eq (.idx (.var 0) (.con (.int 0))) (.con (.str [112, 117, 116]))) [some (.tup [.str kPut, tm t, a, b, c]), some (tm t), some (.lv false hd), none, some (.lv false (badR t)), some (.lv false (badP t))] s = .ok (.bl true) s := by simp [kPut]
  rw [t1]
  simp only [F.of_ok, bool_bl]
  rw [exs_cons, ex_ret]
  have m3 := fun a2 a3 a4 a5 xs s => lc_mid (s := s) (C := calls fs w n) (op := [.str kPut, tm t, a, b, c]) (pre := [.str kPut, tm t, a]) (post := [c]) (i := 3) (j := 4) (a1 := some (tm t)) (a2 := a2) (a3 := a3) (a4 := a4) (a5 := a5) (xs := xs) rfl rfl (by simp) (by simp)
  have m4 := fun a2 a3 a4 a5 xs s => lc_end (s := s) (C := calls fs w n) (op := [.str kPut, tm t, a, b, c]) (pre := [.str kPut, tm t, a, b]) (i := 4) (a1 := some (tm t)) (a2 := a2) (a3 := a3) (a4 := a4) (a5 := a5) (xs := xs) rfl (by simp)
  have e0 : ev (calls fs w n) (.lst [.bin .add (.bin .add (.slc (.var 0) none (some (.con (.int 2)))) (.tup [.tup [.con (.int 0), .con (.str [])]])) (.slc (.var 0) (some (.con (.int 3))) none)]) [some (.tup [.str kPut, tm t, a, b, c]), some (tm t), some (.lv false hd), none, some (.lv false (badR t)), some (.lv false (badP t))] s =
      .ok (.lv true [.tup ([.str kPut, tm t] ++ [root] ++ [b, c])]) s := by
    have q1 : cut [D.str kPut, tm t, a, b, c] none (some 2) = [.str kPut, tm t] := rfl
    have q2 : cut [D.str kPut, tm t, a, b, c] (some 3) none = [b, c] := rfl
    simp [q1, q2, ck, bigN, root]
  rw [ev_bin, ev_bin, ev_bin, ev_var]
  simp only [getV_2, R.opt_some, R.bind_ok]
  rw [e0]
  simp only [R.bind_ok, rd_lv, bin_addL, List.length_cons, List.length_nil, hl2]
  rw [if_pos (by rw [bigN]; decide)]
  simp only [R.opt_some, R.bind_ok]
  rw [ev_lc]
  simp only [items_seq, ev_var, getV_5, R.opt_some, R.bind_ok, seqOf_lv, lcI_fix]
  rw [m3 _ _ _ _ (badP t) s (by simp [hlP])]
  simp only [R.bind_ok, rd_lv, bin_addL, List.length_map, List.length_append, List.length_cons, List.length_nil, hlP, hl2]
  rw [if_pos (by rw [bigN]; decide)]
  simp only [R.opt_some, R.bind_ok]
  rw [ev_lc]
  simp only [items_seq, ev_var, getV_4, R.opt_some, R.bind_ok, seqOf_lv, lcI_fix]
  rw [m4 _ _ _ _ (badR t) s (by simp [hlR])]
  simp only [R.bind_ok, rd_lv, bin_addL, List.length_map, List.length_append, List.length_cons, List.length_nil, hlP, hlR, hl2]
  rw [if_pos (by rw [bigN]; decide)]
  rfl
theorem r_oddPut {t : TM} {a b c : D} : calls fs w (n + 1) 15 [.tup [.str kPut, tm t, a, b, c]] s = .ok (.lv true (oddPut t a b c)) s := by
  rw [calls_eq (b := b15) rfl]
  unfold run
  rw [if_pos (show [D.tup [D.str kPut, tm t, a, b, c]].length = b15.par from rfl)]
  have e : ([D.tup [.str kPut, tm t, a, b, c]].map some ++ List.replicate b15.more none) = [some (.tup [.str kPut, tm t, a, b, c]), none, none, none, none, none] := rfl
  rw [e, x_oddPut]
end LW
end

section -- Q67m
set_option autoImplicit false
set_option linter.all false
set_option maxRecDepth 10000
namespace LW
open L3
variable {w n : Nat} {s : S}
def badK : List D := [.non, .str [116, 101, 120, 116], .str [87, 79, 82, 68], .int 5]
def badV : List D := [.non, .str [65, 10], .int 5, .str (List.replicate 21 [120]).flatten]
def oddSet (t : TM) (a b c : D) : List D := oddHead (.str kSet) (tm t) t [a, b, c] ++ (badA t).map (fun o => .tup ([.str kSet, tm t] ++ [o.frz] ++ [b, c]))
  ++ badK.map (fun o => .tup ([.str kSet, tm t, a] ++ [o.frz] ++ [c])) ++ badV.map (fun o => .tup ([.str kSet, tm t, a, b] ++ [o.frz]))
theorem x_oddSet {t : TM} {a b c : D} : exs (calls fs w n) w b15.body [some (.tup [.str kSet, tm t, a, b, c]), none, none, none, none, none] s = .rt (.lv true (oddSet t a b c)) s := by
  rw [odd_split, odd_st (k := .str kSet) (r := [a, b, c]) rfl (by simp)]
  have hl : (oddHead (.str kSet) (tm t) t [a, b, c]).length = 17 := by simp [oddHead, badT]
  simp only [F.next_nx]
  rw [odd_mid (by decide) (by omega)]
  have hl2 : (oddHead (.str kSet) (tm t) t [a, b, c] ++ (badA t).map (fun o => D.tup ([.str kSet, tm t] ++ [o.frz] ++ [b, c]))).length = 22 := by simp [hl, badA]
  unfold oddSet
  generalize oddHead (.str kSet) (tm t) t [a, b, c] ++ (badA t).map (fun o => D.tup ([.str kSet, tm t] ++ [o.frz] ++ [b, c])) = hd at hl2
  have hK : badK.length = 4 := rfl
  have hV : badV.length = 4 := rfl
  unfold b15
  simp only [List.drop_succ_cons, List.drop_zero]
  rw [exs_cons, ex_ite]
  have t1 : ev (calls fs w n) (.cmp .eq (.idx (.var 0) (.con (.int 0))) (.con (.str [112, 117, 116]))) [some (.tup [.str kSet, tm t, a, b, c]), some (tm t), some (.lv false hd), none, some (.lv false (badR t)), some (.lv false (badP t))] s = .ok (.bl false) s := by
    have : (kSet == [112, 117, 116]) = false := by decide
    simp [this]
  rw [t1]
  simp only [F.of_ok, bool_bl, exs_nil, F.next_nx]
  rw [exs_cons, ex_ret]
  have m3 := fun a2 a3 a4 a5 xs s => lc_mid (s := s) (C := calls fs w n) (op := [.str kSet, tm t, a, b, c]) (pre := [.str kSet, tm t, a]) (post := [c]) (i := 3) (j := 4) (a1 := some (tm t)) (a2 := a2) (a3 := a3) (a4 := a4) (a5 := a5) (xs := xs) rfl rfl (by simp) (by simp)
  have m4 := fun a2 a3 a4 a5 xs s => lc_end (s := s) (C := calls fs w n) (op := [.str kSet, tm t, a, b, c]) (pre := [.str kSet, tm t, a, b]) (i := 4) (a1 := some (tm t)) (a2 := a2) (a3 := a3) (a4 := a4) (a5 := a5) (xs := xs) rfl (by simp)
  have hs1 : ∀ e s, items (calls fs w n) (.seq (.lst [.con .non, .con (.str [116, 101, 120, 116]), .con (.str [87, 79, 82, 68]), .con (.int 5)])) e s = .ok (.fix badK) s := fun e s => by simp [ck, badK]
  have hs2 : ∀ e s, items (calls fs w n) (.seq (.lst [.con .non, .con (.str [65, 10]), .con (.int 5), .bin .mul (.con (.str [120])) (.con (.int 21))])) e s = .ok (.fix badV) s := fun e s => by simp [ck, badV]
  rw [ev_bin, ev_bin, ev_var]
  simp only [getV_2, R.opt_some, R.bind_ok]
  rw [ev_lc, hs1]
  simp only [R.bind_ok, lcI_fix]
  rw [m3 _ _ _ _ badK s (by simp [hK])]
  simp only [R.bind_ok, rd_lv, bin_addL, List.length_map, hK, hl2]
  rw [if_pos (by rw [bigN]; decide)]
  simp only [R.opt_some, R.bind_ok]
  rw [ev_lc, hs2]
  simp only [R.bind_ok, lcI_fix]
  rw [m4 _ _ _ _ badV s (by simp [hV])]
  simp only [R.bind_ok, rd_lv, bin_addL, List.length_map, List.length_append, hK, hV, hl2]
  rw [if_pos (by rw [bigN]; decide)]
  rfl
theorem r_oddSet {t : TM} {a b c : D} : calls fs w (n + 1) 15 [.tup [.str kSet, tm t, a, b, c]] s = .ok (.lv true (oddSet t a b c)) s := by
  rw [calls_eq (b := b15) rfl]
  unfold run
  rw [if_pos (show [D.tup [D.str kSet, tm t, a, b, c]].length = b15.par from rfl)]
  have e : ([D.tup [.str kSet, tm t, a, b, c]].map some ++ List.replicate b15.more none) = [some (.tup [.str kSet, tm t, a, b, c]), none, none, none, none, none] := rfl
  rw [e, x_oddSet]
end LW
end

section -- Q67n
set_option autoImplicit false
set_option linter.all false
set_option maxRecDepth 10000
namespace LW
open L3
variable {w n : Nat} {s : S}
theorem frzT {t : TM} {v : D} : isTime v.frz = isTime v := isTime_frz v
theorem not_new {t : TM} {a b c d : D} : ∀ v ∈ oddNew t a b c d, isOp v = false := by
  intro v hv
  simp only [oddNew, oddHead, List.mem_append, List.mem_map, List.mem_cons, List.not_mem_nil, or_false] at hv
  rcases hv with ((((((rfl | rfl | rfl | rfl | rfl | rfl | rfl | rfl | rfl) | ⟨o, ho, rfl⟩) | ⟨o, ho, rfl⟩) | ⟨o, ho, rfl⟩) | ⟨o, ho, rfl⟩) | ⟨o, ho, rfl⟩)
  · rfl
  · rfl
  · rfl
  · rfl
  · rfl
  · simp [isOp, kNew, kPut, kSet]
  · simp [isOp, kNew, kPut, kSet]
  · simp [isOp, kNew, kPut, kSet]
  · simp [isOp, kNew, kPut, kSet]
  · simp [isOp, badT_not o ho]
  · have : isWord o = false := by
      simp only [badW, List.mem_cons, List.not_mem_nil, or_false] at ho
      rcases ho with rfl | rfl | rfl | rfl <;> decide
    simp [isOp, this]
  · have : areSigns o = false := by
      simp only [badS, List.mem_cons, List.not_mem_nil, or_false] at ho
      rcases ho with rfl | rfl | rfl <;> decide
    simp [isOp, this]
  · obtain ⟨h1, h2⟩ := badP_not o ho
    simp [isOp, isPlace, h1, h2]
  · simp [isOp, isPlace, badR_not o ho]
theorem badA_not {t : TM} : ∀ v ∈ badA t, isAhead v (tm t) = false := by
  intro v hv
  simp only [badA, List.mem_cons, List.not_mem_nil, or_false] at hv
  rcases hv with rfl | rfl | rfl | rfl | rfl
  · rfl
  · exact (badP_not (tm t) (by simp [badP])).2
  · exact (badP_not (t := t) _ (by simp [badP])).2
  · rfl
  · exact (badP_not (t := t) _ (by simp [badP])).2
theorem root_eqv : root.eqv root = true := by decide
theorem not_put {t : TM} {a b c : D} : ∀ v ∈ oddPut t a b c, isOp v = false := by
  intro v hv
  simp only [oddPut, oddHead, List.mem_append, List.mem_map, List.mem_cons, List.not_mem_nil, or_false] at hv
  rcases hv with ((((((rfl | rfl | rfl | rfl | rfl | rfl | rfl | rfl | rfl) | ⟨o, ho, rfl⟩) | ⟨o, ho, rfl⟩) | rfl) | ⟨o, ho, rfl⟩) | ⟨o, ho, rfl⟩)
  · rfl
  · rfl
  · rfl
  · rfl
  · rfl
  · simp [isOp, kNew, kPut, kSet]
  · simp [isOp, kNew, kPut, kSet]
  · simp [isOp, kNew, kPut, kSet]
  · simp [isOp, kNew, kPut, kSet]
  · simp [isOp, badT_not o ho]
  · simp [isOp, badA_not o ho]
  · simp [isOp, root_eqv]
  · obtain ⟨h1, h2⟩ := badP_not o ho
    simp [isOp, isPlace, h1, h2]
  · simp [isOp, isPlace, badR_not o ho]
theorem not_set {t : TM} {a c : D} {b : List Nat} (hb : (b = [119, 111, 114, 100]) ∨ (b = [115, 105, 103, 110, 115] )) : ∀ v ∈ oddSet t a (.str b) c, isOp v = false := by
  intro v hv
  simp only [oddSet, oddHead, List.mem_append, List.mem_map, List.mem_cons, List.not_mem_nil, or_false] at hv
  have kq : (kSet == kPut) = false := by decide
  rcases hv with (((((rfl | rfl | rfl | rfl | rfl | rfl | rfl | rfl | rfl) | ⟨o, ho, rfl⟩) | ⟨o, ho, rfl⟩) | ⟨o, ho, rfl⟩) | ⟨o, ho, rfl⟩)
  · rfl
  · rfl
  · rfl
  · rfl
  · rfl
  · simp [isOp, kNew, kPut, kSet]
  · simp [isOp, kNew, kPut, kSet]
  · simp [isOp, kNew, kPut, kSet]
  · simp [isOp, kNew, kPut, kSet]
  · simp [isOp, badT_not o ho]
  · simp [isOp, badA_not o ho]
  · simp only [badK, List.mem_cons, List.not_mem_nil, or_false] at ho
    rcases ho with rfl | rfl | rfl | rfl <;> simp [isOp, kq]
  · have h1 : isWord o = false ∧ areSigns o = false := by
      simp only [badV, List.mem_cons, List.not_mem_nil, or_false] at ho
      rcases ho with rfl | rfl | rfl | rfl <;> decide
    rcases hb with rfl | rfl <;> simp [isOp, kq, h1.1, h1.2]
end LW
end

section -- Q67o
set_option autoImplicit false
set_option linter.all false
set_option maxRecDepth 10000
namespace LW
open L3
variable {w n : Nat} {s : S}
theorem nice_tm50 {t : TM} (h : OkTm t) : (tm t).nice 50 = true := by
  simp [tm, D.nice, D.nice.niceL, h.ok, h.len]
theorem nice_rk60 {k : Nat} {r : RK} (v : Vr k r) : (rk r).nice 60 = true := by
  have : ∀ r : RK, (∀ p ∈ r, OkTm p.2) → D.nice.niceL 59 (r.map itm) = true := by
    intro r
    induction r with
    | nil => intro _; rfl
    | cons p r ih =>
      intro h
      have h1 := h p List.mem_cons_self
      have h2 := ih fun q hq => h q (List.mem_cons_of_mem _ hq)
      have h3 := nice_mono (nice_tm50 h1) (show 50 ≤ 58 by omega)
      simp only [List.map_cons, D.nice.niceL, h2, Bool.and_true]
      simp [itm, D.nice, D.nice.niceL, h3]
  simpa [rk, D.nice] using this r fun p hp => (v.it p hp).2.2
theorem niceL_all {k : Nat} : ∀ {xs : List D}, (∀ x ∈ xs, x.nice k = true) → D.nice.niceL k xs = true
  | [], _ => rfl
  | x :: xs, h => by
    simp only [D.nice.niceL, h x List.mem_cons_self, niceL_all fun y hy => h y (List.mem_cons_of_mem _ hy), Bool.and_self]
theorem tup_nice {k : Nat} {xs : List D} (h : ∀ x ∈ xs, x.nice k = true) : (D.tup xs).nice (k + 1) = true := niceL_all h
theorem lv_nice {k : Nat} {o : Bool} {xs : List D} (h : ∀ x ∈ xs, x.nice k = true) : (D.lv o xs).nice (k + 1) = true := niceL_all h
theorem nice_badT {t : TM} : ∀ v ∈ badT t, v.nice 60 = true := by
  intro v hv
  simp only [badT, List.mem_cons, List.not_mem_nil, or_false] at hv
  rcases hv with rfl | rfl | rfl | rfl | rfl | rfl | rfl | rfl <;> simp [D.nice, D.nice.niceL, okS]
theorem nice_badP {t : TM} (h : OkTm t) : ∀ v ∈ badP t, v.nice 60 = true := by
  intro v hv
  have h1 := nice_mono (nice_tm50 h) (show 50 ≤ 60 by omega)
  simp only [badP, List.mem_cons, List.not_mem_nil, or_false] at hv
  rcases hv with rfl | rfl | rfl | rfl | rfl | rfl <;> first | exact h1 | simp [D.nice, D.nice.niceL, okS]
theorem nice_badA {t : TM} (h : OkTm t) : ∀ v ∈ badA t, v.nice 60 = true := by
  intro v hv
  have h1 := nice_mono (nice_tm50 h) (show 50 ≤ 60 by omega)
  simp only [badA, List.mem_cons, List.not_mem_nil, or_false] at hv
  rcases hv with rfl | rfl | rfl | rfl | rfl <;> first | exact h1 | simp [D.nice, D.nice.niceL, okS]
theorem nice_badR {t : TM} (h : OkTm t) : ∀ v ∈ badR t, v.nice 60 = true := by
  intro v hv
  have h1 := nice_mono (nice_tm50 h) (show 50 ≤ 58 by omega)
  have h2 := nice_mono (nice_tm50 h) (show 50 ≤ 59 by omega)
  simp only [badR, List.mem_cons, List.not_mem_nil, or_false] at hv
  rcases hv with rfl | rfl | rfl | rfl | rfl | rfl | rfl | rfl | rfl | rfl | rfl
  all_goals first
    | (simp [D.nice, D.nice.niceL, okS, h1, h2]; done)
    | (refine tup_nice fun x hx => ?_
       simp at hx
       subst hx
       simp [D.nice, D.nice.niceL, h1])
theorem nice_head {k t : D} {tt : TM} {r : List D} (hk : k.nice 60 = true) (ht : t.nice 60 = true) (hr : ∀ x ∈ r, x.nice 60 = true) : ∀ v ∈ oddHead k t tt r, v.nice 61 = true := by
  intro v hv
  have all : ∀ x ∈ k :: t :: r, x.nice 60 = true := fun x hx => by
    rcases List.mem_cons.mp hx with rfl | hx
    · exact hk
    · rcases List.mem_cons.mp hx with rfl | hx
      · exact ht
      · exact hr x hx
  simp only [oddHead, List.mem_append, List.mem_map, List.mem_cons, List.not_mem_nil, or_false] at hv
  rcases hv with (rfl | rfl | rfl | rfl | rfl | rfl | rfl | rfl | rfl) | ⟨o, ho, rfl⟩
  · rfl
  · rfl
  · rfl
  · rfl
  · exact lv_nice all
  · exact tup_nice fun x hx => all x (List.dropLast_subset _ hx)
  · refine tup_nice fun x hx => ?_
    rcases List.mem_append.mp hx with hx | hx
    · exact all x hx
    · rw [List.mem_singleton.mp hx]; rfl
  · refine tup_nice fun x hx => ?_
    rcases List.mem_cons.mp hx with rfl | hx
    · rfl
    · exact all x (List.mem_cons_of_mem _ hx)
  · refine tup_nice fun x hx => ?_
    rcases List.mem_cons.mp hx with rfl | hx
    · rfl
    · exact all x (List.mem_cons_of_mem _ hx)
  · refine tup_nice fun x hx => ?_
    simp only [List.mem_append, List.mem_cons, List.not_mem_nil, or_false] at hx
    rcases hx with (rfl | rfl) | hx
    · exact hk
    · exact nice_frz (nice_badT o ho)
    · exact hr x hx
theorem nice_mid {pre post xs : List D} (h1 : ∀ x ∈ pre, x.nice 60 = true) (h2 : ∀ x ∈ xs, x.nice 60 = true) (h3 : ∀ x ∈ post, x.nice 60 = true) : ∀ v ∈ xs.map (fun o => D.tup (pre ++ [o.frz] ++ post)), v.nice 61 = true := by
  intro v hv
  obtain ⟨o, ho, rfl⟩ := List.mem_map.mp hv
  refine tup_nice fun x hx => ?_
  simp only [List.mem_append, List.mem_cons, List.not_mem_nil, or_false] at hx
  rcases hx with (hx | rfl) | hx
  · exact h1 x hx
  · exact nice_frz (h2 o ho)
  · exact h3 x hx
theorem nice_new {t : TM} {a b c d : D} (ht : OkTm t) (ha : a.nice 60 = true) (hb : b.nice 60 = true) (hc : c.nice 60 = true) (hd : d.nice 60 = true) : ∀ v ∈ oddNew t a b c d, v.nice 64 = true := by
  have h1 := nice_mono (nice_tm50 ht) (show 50 ≤ 60 by omega)
  have hk : (D.str kNew).nice 60 = true := by decide
  have hW : ∀ x ∈ badW, x.nice 60 = true := by decide
  have hS : ∀ x ∈ badS, x.nice 60 = true := by decide
  intro v hv
  refine nice_mono (m := 61) ?_ (by omega)
  simp only [oddNew, List.mem_append] at hv
  rcases hv with (((hv | hv) | hv) | hv) | hv
  · exact nice_head hk h1 (by simp [ha, hb, hc, hd]) v hv
  · exact nice_mid (by simp [hk, h1]) hW (by simp [hb, hc, hd]) v hv
  · exact nice_mid (by simp [hk, h1, ha]) hS (by simp [hc, hd]) v hv
  · exact nice_mid (by simp [hk, h1, ha, hb]) (nice_badP ht) (by simp [hd]) v hv
  · exact nice_mid (pre := [.str kNew, tm t, a, b, c]) (post := []) (by simp [hk, h1, ha, hb, hc]) (nice_badR ht) (by simp) v (by simpa using hv)
theorem nice_put {t : TM} {a b c : D} (ht : OkTm t) (ha : a.nice 60 = true) (hb : b.nice 60 = true) (hc : c.nice 60 = true) : ∀ v ∈ oddPut t a b c, v.nice 64 = true := by
  have h1 := nice_mono (nice_tm50 ht) (show 50 ≤ 60 by omega)
  have hk : (D.str kPut).nice 60 = true := by decide
  intro v hv
  refine nice_mono (m := 61) ?_ (by omega)
  simp only [oddPut, List.mem_append] at hv
  rcases hv with (((hv | hv) | hv) | hv) | hv
  · exact nice_head hk h1 (by simp [ha, hb, hc]) v hv
  · exact nice_mid (by simp [hk, h1]) (nice_badA ht) (by simp [hb, hc]) v hv
  · rw [List.mem_singleton.mp hv]
    have hr : root.nice 60 = true := by decide
    exact tup_nice (by simp [hk, h1, hb, hc, hr])
  · exact nice_mid (by simp [hk, h1, ha]) (nice_badP ht) (by simp [hc]) v hv
  · exact nice_mid (pre := [.str kPut, tm t, a, b]) (post := []) (by simp [hk, h1, ha, hb]) (nice_badR ht) (by simp) v (by simpa using hv)
theorem nice_set {t : TM} {a b c : D} (ht : OkTm t) (ha : a.nice 60 = true) (hb : b.nice 60 = true) (hc : c.nice 60 = true) : ∀ v ∈ oddSet t a b c, v.nice 64 = true := by
  have h1 := nice_mono (nice_tm50 ht) (show 50 ≤ 60 by omega)
  have hk : (D.str kSet).nice 60 = true := by decide
  have hK : ∀ x ∈ badK, x.nice 60 = true := by decide
  have hV : ∀ x ∈ badV, x.nice 60 = true := by decide
  intro v hv
  refine nice_mono (m := 61) ?_ (by omega)
  simp only [oddSet, List.mem_append] at hv
  rcases hv with ((hv | hv) | hv) | hv
  · exact nice_head hk h1 (by simp [ha, hb, hc]) v hv
  · exact nice_mid (by simp [hk, h1]) (nice_badA ht) (by simp [hb, hc]) v hv
  · exact nice_mid (by simp [hk, h1, ha]) hK (by simp [hc]) v hv
  · exact nice_mid (pre := [.str kSet, tm t, a, b]) (post := []) (by simp [hk, h1, ha, hb]) hV (by simp) v (by simpa using hv)
end LW
end

section -- Q67p
set_option autoImplicit false
set_option linter.all false
set_option maxRecDepth 10000
namespace LW
open L3
variable {w n : Nat} {s : S}
/-- keys ahead of any time from 50 on -/
theorem ahead_of {i : Int} {y : List Nat} {t : TM} (hk : isKey (.tup [.int i, .str y]) = true) (h : i < 50) (ht : 50 ≤ t.1) : isAhead (.tup [.int i, .str y]) (tm t) = true := by
  have h1 : ¬ (i = t.1) := by omega
  have h2 : i < t.1 := by omega
  simp [isAhead, hk, tm, keyLt, h1, h2]
def parents : List D := [.non, .tup [.int 0, .str []], .tup [.int 1, .str [98]], .tup [.int 49, .str [122, 122]]]
theorem place_ok {p r : D} {t : TM} (hp : p ∈ parents) (hr : isRank r = true) (ht : 50 ≤ t.1) : isPlace p r (tm t) = true := by
  simp only [parents, List.mem_cons, List.not_mem_nil, or_false] at hp
  rcases hp with rfl | rfl | rfl | rfl
  · simp [isPlace, D.isNon, hr]
  · have := ahead_of (i := 0) (y := []) (by decide) (by decide) ht
    simp [isPlace, hr, this]
  · have := ahead_of (i := 1) (y := [98]) (by decide) (by decide) ht
    simp [isPlace, hr, this]
  · have := ahead_of (i := 49) (y := [122, 122]) (by decide) (by decide) ht
    simp [isPlace, hr, this]
theorem good1 {p r : D} {t : TM} (T : OkTm t) (hp : p ∈ parents) (hr : isRank r = true) (ht : 50 ≤ t.1) : isOp (.tup [.str kNew, tm t, .str [97], .str [115, 111, 32, 105, 116, 32, 105, 115], p, r]) = true := by
  have h1 : isWord (.str [97]) = true := by decide
  have h2 : areSigns (.str [115, 111, 32, 105, 116, 32, 105, 115]) = true := by decide
  simp [isOp, T.time, h1, h2, place_ok hp hr ht]
theorem good2 {p r : D} {t : TM} (T : OkTm t) (hp : p ∈ parents) (hr : isRank r = true) (ht : 50 ≤ t.1) : isOp (.tup [.str kPut, tm t, .tup [.int 3, .str [97]], p, r]) = true := by
  have h1 := ahead_of (i := 3) (y := [97]) (by decide) (by decide) ht
  have h2 : (D.tup [.int 3, .str [97]]).eqv root = false := by decide
  simp [isOp, T.time, h1, h2, place_ok hp hr ht]
theorem good3 {t : TM} (T : OkTm t) (ht : 50 ≤ t.1) : isOp (.tup [.str kSet, tm t, .tup [.int 0, .str []], .str [119, 111, 114, 100], .str [97, 98, 99, 100, 101, 102]]) = true := by
  have h1 := ahead_of (i := 0) (y := []) (by decide) (by decide) ht
  have kq : (kSet == kPut) = false := by decide
  have h2 : isWord (.str [97, 98, 99, 100, 101, 102]) = true := by decide
  simp [isOp, T.time, h1, kq, h2]
theorem good4 {t : TM} (T : OkTm t) (ht : 50 ≤ t.1) : isOp (.tup [.str kSet, tm t, .tup [.int 2, .str [98]], .str [115, 105, 103, 110, 115], .str []]) = true := by
  have h1 := ahead_of (i := 2) (y := [98]) (by decide) (by decide) ht
  have kq : (kSet == kPut) = false := by decide
  have h2 : areSigns (.str []) = true := by decide
  simp [isOp, T.time, h1, kq, h2]
/-- sixty times the same -/
def rank60 (t : TM) : D := .tup (List.replicate 60 [.tup [.int (-1000000), tm t]]).flatten
theorem rank60_ok {t : TM} (T : OkTm t) : isRank (rank60 t) = true := by
  have h1 : isItem (.tup [.int (-1000000), tm t]) = true := by simp [isItem, isNum, T.time]
  simp [rank60, isRank, h1]
theorem good5 {t : TM} (T : OkTm t) (ht : 50 ≤ t.1) : isOp (.tup [.str kPut, tm t, .tup [.int 3, .str [97]], .tup [.int 3, .str [97]], rank60 t]) = true := by
  have h1 := ahead_of (i := 3) (y := [97]) (by decide) (by decide) ht
  have h2 : (D.tup [.int 3, .str [97]]).eqv root = false := by decide
  simp [isOp, T.time, h1, h2, isPlace, rank60_ok T]
theorem good6 : isOp (.tup [.str kNew, tm (1, [97]), .str [97], .str [], .tup [.int 0, .str []], .tup [.tup [.int 0, .tup [.int 1, .str [97]]]]]) = true := by decide
end LW
end

section -- Q67q
set_option autoImplicit false
set_option linter.all false
set_option maxRecDepth 10000
namespace LW
open L3
variable {w n : Nat} {s : S}
/-- the first three statements of the law -/
theorem main1 {is : List Int} {dd : D} (hd : dd = .scr is ∨ dd = .lv false (is.map .int)) (hz : is.length ≤ 1000) (hw : 100 < w) : ∃ (k : Nat) (rows : List RK) (ns : List Int) (o3 o4 o5 o6 o7 o8 : Option D), 4 ≤ k ∧ k < 50 ∧ Rows k rows ∧
    exs (calls fs w (n + 5)) w (b16.body.take 3) [some dd, none, none, none, none, none, none, none, none, none, none, none, none, none] ⟨[], 0, none⟩ =
      .nx [some dd, some (.ref 0), some (.lv false (rows.map rk)), o3, o4, o5, o6, o7, o8, none, none, none, none, none] (ds ns) := by
  obtain ⟨ns0, c0⟩ := c_draws (w := w) (n := n + 4) (s := ⟨[], 0, none⟩) hd hz
  obtain ⟨r, m1, c1, r0, r1⟩ := c_take0 (w := w) (n := n + 4) (ns := ns0) (lim := 22) (by omega)
  have hfr : dd.frz = dd := by rcases hd with rfl | rfl <;> rfl
  have hr := rng1D_int (i := 4 + r) (by omega) (by omega)
  have hn : newCell (.lv true (ns0.map .int)) ⟨[], 0, none⟩ = .ok (.ref 0) (ds ns0) := rfl
  obtain ⟨e', s', h1, rows, ms, o3, o4, o5, o6, o7, o8, h2, h3, h4⟩ := foL_inv (f := foT (calls fs w (n + 5)) w (.nm 3) lpB) (xs := (List.range (4 + r).toNat).map fun (j : Nat) => D.int j) (k := 0)
    (P := fun k e s => ∃ rows ms o3 o4 o5 o6 o7 o8, e = [some dd, some (.ref 0), some (.lv false (rows.map rk)), o3, o4, o5, o6, o7, o8, none, none, none, none, none] ∧ s = ds ms ∧ Rows k rows)
    (e := [some dd, some (.ref 0), some (.lv false []), none, none, none, none, none, none, none, none, none, none, none]) (s := ds m1)
    ⟨[], m1, none, none, none, none, none, none, rfl, rfl, ⟨rfl, (by intro r hr; cases hr), (by intro j a b h; simp at h)⟩⟩ (fun i x e s hx hp => by
      obtain ⟨rows, ms, o3, o4, o5, o6, o7, o8, rfl, rfl, R⟩ := hp
      obtain ⟨hi, rfl⟩ : i < (4 + r).toNat ∧ x = .int (i : Int) := by
        rw [List.getElem?_map] at hx
        by_cases hi : i < (4 + r).toNat
        · rw [List.getElem?_eq_getElem (by simpa using hi)] at hx
          simp at hx
          exact ⟨hi, hx.symm⟩
        · rw [List.getElem?_eq_none (by simpa using hi)] at hx
          cases hx
      have hz : 0 + i = i := by omega
      rw [hz] at R ⊢
      obtain ⟨rows', ms', o4', o5', o6', o7', o8', R', ht⟩ := turn (w := w) (n := n) (d := dd) (k := i) (by omega) hw R (ns := ms) (o3 := o3) (o4 := o4) (o5 := o5) (o6 := o6) (o7 := o7) (o8 := o8) (o9 := none) (o10 := none) (o11 := none) (o12 := none) (o13 := none)
      exact ⟨_, _, .inl ht, rows', ms', _, o4', o5', o6', o7', o8', rfl, rfl, R'⟩)
  refine ⟨(4 + r).toNat, rows, ms, o3, o4, o5, o6, o7, o8, by omega, by omega, by simpa using h4, ?_⟩
  unfold b16
  simp only [List.take_succ_cons, List.take_zero, List.take]
  rw [exs_cons]
  have s1 : ex (calls fs w (n + 5)) w (.asg (.nm 1) (.cell (.call 11 [.var 0]))) [some dd, none, none, none, none, none, none, none, none, none, none, none, none, none] ⟨[], 0, none⟩ = .nx [some dd, some (.ref 0), none, none, none, none, none, none, none, none, none, none, none, none] (ds ns0) := by simp [hfr, c0, hn]
  rw [s1, F.next_nx, exs_cons]
  have s2 : ex (calls fs w (n + 5)) w (.asg (.nm 2) (.lst [])) [some dd, some (.ref 0), none, none, none, none, none, none, none, none, none, none, none, none] (ds ns0) = .nx [some dd, some (.ref 0), some (.lv false []), none, none, none, none, none, none, none, none, none, none, none] (ds ns0) := by simp
  rw [s2, F.next_nx, exs_cons, ex_forr]
  have s3 : items (calls fs w (n + 5)) (.rng1 (.bin .add (.con (.int 4)) (.call 12 [.var 1, .con (.int 22)]))) [some dd, some (.ref 0), some (.lv false []), none, none, none, none, none, none, none, none, none, none, none] (ds ns0) = .ok (.fix ((List.range (4 + r).toNat).map fun (j : Nat) => D.int j)) (ds m1) := by
    simp [c1, hr]
  rw [s3]
  simp only [F.of_ok, foI_fix]
  show (foL (foT (calls fs w (n + 5)) w (.nm 3) lpB) _ _ _).next _ = _
  rw [h1, h2, h3]
  simp
end LW
end

section -- Q67r
set_option autoImplicit false
set_option linter.all false
set_option maxRecDepth 10000
namespace LW
open L3
variable {w n : Nat} {s : S}
theorem pick2 {k : Nat} (hi : k < 9) {r : Int} (h0 : 0 ≤ r) (h3 : r < 2) : ∃ z, OkTm (50 + (k : Int), z) ∧ atI [D.str [97], .str [122, 122, 122, 122, 122, 122]] r = some (.str z) := by
  have key : ∀ z : List Nat, (z = [97] ∨ z = [122, 122, 122, 122, 122, 122]) → OkTm (50 + (k : Int), z) := fun z hz => by
    have hw : isWord (.str z) = true := by rcases hz with rfl | rfl <;> decide
    have hn : isNum (.int (50 + (k : Int))) 1 1000000 = true := by
      simp only [isNum, Bool.and_eq_true, decide_eq_true_eq]
      omega
    have he : (tm (50 + (k : Int), z)).eqv root = false := by
      simp only [tm, root, D.eqv, D.eqv.eqvL]
      have : ¬ (50 + (k : Int) = 0) := by omega
      simp [this]
    have ho : okS z = true := by rcases hz with rfl | rfl <;> decide
    have hl : z.length ≤ 1000 := by rcases hz with rfl | rfl <;> decide
    refine ⟨?_, ho, hl⟩
    unfold isTime
    rw [he]
    unfold tm at he ⊢
    simp only [isKey, he, Bool.false_eq_true, if_false, hw, hn]
    rfl
  have h : r = 0 ∨ r = 1 := by omega
  rcases h with rfl | rfl
  · exact ⟨_, key _ (.inl rfl), rfl⟩
  · exact ⟨_, key _ (.inr rfl), rfl⟩
theorem pickP {r : Int} (h0 : 0 ≤ r) (h4 : r < 4) : ∃ p, p ∈ parents ∧ p.frz = p ∧ p.nice 60 = true ∧ atI parents r = some p := by
  have h : r = 0 ∨ r = 1 ∨ r = 2 ∨ r = 3 := by omega
  rcases h with rfl | rfl | rfl | rfl
  · exact ⟨_, by simp [parents], rfl, by decide, rfl⟩
  · exact ⟨_, by simp [parents], rfl, by decide, rfl⟩
  · exact ⟨_, by simp [parents], rfl, by decide, rfl⟩
  · exact ⟨_, by simp [parents], rfl, by decide, rfl⟩
/-- the fourth to the seventh statement: what is judged -/
def goods (t : TM) (p q : D) (r : D) : List D := [.tup [.str kNew, tm t, .str [97], .str [115, 111, 32, 105, 116, 32, 105, 115], p, r], .tup [.str kPut, tm t, .tup [.int 3, .str [97]], q, r], .tup [.str kSet, tm t, .tup [.int 0, .str []], .str [119, 111, 114, 100], .str [97, 98, 99, 100, 101, 102]],
  .tup [.str kSet, tm t, .tup [.int 2, .str [98]], .str [115, 105, 103, 110, 115], .str []], .tup [.str kPut, tm t, .tup [.int 3, .str [97]], .tup [.int 3, .str [97]], rank60 t], .tup [.str kNew, tm (1, [97]), .str [97], .str [], .tup [.int 0, .str []], .tup [.tup [.int 0, .tup [.int 1, .str [97]]]]]]
theorem main2 {dd : D} {k : Nat} {rows : List RK} (h4 : 4 ≤ k) (Rw : Rows k rows) {ns : List Int} {o3 o4 o5 o6 o7 o8 : Option D} : ∃ (x : RK) (t : TM) (p q : D) (ms : List Int), x ∈ rows ∧ OkTm t ∧ 50 ≤ t.1 ∧ (p ∈ parents ∧ p.frz = p ∧ p.nice 60 = true) ∧ (q ∈ parents ∧ q.frz = q ∧ q.nice 60 = true) ∧
    exs (calls fs w (n + 5)) w ((b16.body.drop 3).take 4) [some dd, some (.ref 0), some (.lv false (rows.map rk)), o3, o4, o5, o6, o7, o8, none, none, none, none, none] (ds ns) =
      .nx [some dd, some (.ref 0), some (.lv false (rows.map rk)), o3, o4, some (tm t), o6, o7, some (rk x), some (.lv false parents), some (.lv false (goods t p q (rk x))), none, none, none] (ds ms) := by
  have hlen := Rw.len
  obtain ⟨r1, m1, c1, a1, b1⟩ := c_take0 (w := w) (n := n + 4) (ns := ns) (lim := (rows.length : Int)) (by omega)
  obtain ⟨r2, m2, c2, a2, b2⟩ := c_take0 (w := w) (n := n + 4) (ns := m1) (lim := 9) (by omega)
  obtain ⟨r3, m3, c3, a3, b3⟩ := c_take0 (w := w) (n := n + 4) (ns := m2) (lim := 2) (by omega)
  obtain ⟨r4, m4, c4, a4, b4⟩ := c_take0 (w := w) (n := n + 4) (ns := m3) (lim := 4) (by omega)
  obtain ⟨r5, m5, c5, a5, b5⟩ := c_take0 (w := w) (n := n + 4) (ns := m4) (lim := 4) (by omega)
  obtain ⟨j, rfl⟩ : ∃ j : Nat, r2 = (j : Int) := ⟨r2.toNat, by omega⟩
  obtain ⟨i, rfl⟩ : ∃ i : Nat, r1 = (i : Int) := ⟨r1.toNat, by omega⟩
  obtain ⟨z, T, e3⟩ := pick2 (k := j) (by omega) a3 b3
  obtain ⟨p, p1, p2, p3, p4⟩ := pickP a4 b4
  obtain ⟨q, q1, q2, q3, q4⟩ := pickP a5 b5
  have hi : i < rows.length := by omega
  have e1 : atI (rows.map rk) (i : Int) = some (rk rows[i]) := by rw [atI_nat, List.getElem?_map, List.getElem?_eq_getElem hi]; rfl
  refine ⟨rows[i], (50 + (j : Int), z), p, q, m5, List.getElem_mem hi, T, by show (50 : Int) ≤ 50 + j; omega, ⟨p1, p2, p3⟩, ⟨q1, q2, q3⟩, ?_⟩
  have w3 : wide 10 = true := by decide
  have hm : bin2 .mul (.tup [.tup [.int (-1000000), tm (50 + (j : Int), z)]]) (.int 60) = some (rank60 (50 + (j : Int), z)) := by
    rw [bin_mulT, if_pos (by simp)]; rfl
  unfold parents at p4 q4
  unfold tm at hm
  unfold b16
  simp only [List.drop_succ_cons, List.drop_zero, List.take_succ_cons, List.take_zero, List.take]
  simp [c1, c2, c3, c4, c5, e1, e3, p4, q4, ck, w3, hm, -bin_mulT, p2, q2, bigN, goods, parents, kNew, kPut, kSet, tm]
  rfl
end LW
end

section -- Q67s
set_option autoImplicit false
set_option linter.all false
set_option maxRecDepth 10000
namespace LW
open L3
variable {w n : Nat} {s : S}
/-- an operation that is one, whose odd values are none -/
structure Good (w n : Nat) (op : D) : Prop where
  frz : op.frz = op
  ok : isOp op = true
  nice : op.nice 64 = true
  odd : ∃ L : List D, (∀ s, callR (calls fs w (n + 6) 15) [op] s = .ok (.lv true L) s) ∧ L.length ≤ 1000 ∧ ∀ v ∈ L, v.nice 64 = true ∧ isOp v = false
def jdB : List CS := [
.ite (.or (.cmp .isnot (.call 10 [.var 11]) (.con (.bl true))) (.cmp .ne (.lc (.var 12) (.nm 12) (.seq (.call 15 [.var 11])) [.cmp .isnot (.call 10 [.var 12]) (.con (.bl false))] [12]) (.lst []))) [
.ret (.con (.bl false))] []]
theorem judge {op : D} (g : Good w n op) {a0 a1 a2 a3 a4 a5 a6 a7 a8 a9 a10 a11 a12 a13 : Option D} :
    foT (calls fs w (n + 6)) w (.nm 11) jdB op [a0, a1, a2, a3, a4, a5, a6, a7, a8, a9, a10, a11, a12, a13] s = .nx [a0, a1, a2, a3, a4, a5, a6, a7, a8, a9, a10, some op, a12, a13] s := by
  obtain ⟨L, h1, h2, h3⟩ := g.odd
  have c1 : callR (calls fs w (n + 6) 10) [op] s = .ok (.bl true) s := by rw [← g.ok]; exact c_op g.nice
  have key : lcL (lcT (calls fs w (n + 6)) (.var 12) (.nm 12) [.cmp .isnot (.call 10 [.var 12]) (.con (.bl false))] [12] [a0, a1, a2, a3, a4, a5, a6, a7, a8, a9, a10, some op, a12, a13]) L [] s = .ok (.lv true []) s := by
    rw [lcL_fm (g := fun _ => none) (by rw [bigN]; simp; omega)]
    · simp
    · intro v hv
      obtain ⟨n1, n2⟩ := h3 v hv
      have c2 : callR (calls fs w (n + 6) 10) [v.frz] s = .ok (.bl false) s := by
        have := c_op (w := w) (n := n) (s := s) (nice_frz n1)
        rw [this]
        have : isOp v.frz = false := by
          cases v with
          | lv o xs => rfl
          | _ => exact n2
        rw [this]
      have e1 : v.frz.frz = v.frz := by cases v <;> rfl
      simp [lcT, c2, e1]
  have hq : cmp2 .ne (.lv true []) (.lv true []) = some false := by decide
  simp [foT, jdB, g.frz, c1, h1, key, hq]
theorem ltL_all {L : List D} (h : ∀ v ∈ L, v.lt 0 = true) : D.ltL 0 L = true := by
  induction L with
  | nil => rfl
  | cons x r ih =>
    have h1 := h x List.mem_cons_self
    have h2 := ih fun v hv => h v (List.mem_cons_of_mem _ hv)
    show (D.lt 0 x && D.ltL 0 r) = true
    rw [h1, h2]; rfl
theorem Good.of {op : D} {L : List D} (h1 : op.frz = op) (h2 : isOp op = true) (h3 : op.nice 64 = true) (h4 : ∀ s, calls fs w (n + 6) 15 [op] s = .ok (.lv true L) s) (h5 : L.length ≤ 1000) (h6 : ∀ v ∈ L, v.nice 64 = true) (h7 : ∀ v ∈ L, isOp v = false) : Good w n op :=
  ⟨h1, h2, h3, L, fun s => callR_pure (h4 _) (ltL_all fun v hv => nice_lt (h6 v hv)), h5, fun v hv => ⟨h6 v hv, h7 v hv⟩⟩
theorem good_all {t : TM} {p q : D} {k : Nat} {x : RK} (T : OkTm t) (ht : 50 ≤ t.1) (hp : p ∈ parents ∧ p.frz = p ∧ p.nice 60 = true) (hq : q ∈ parents ∧ q.frz = q ∧ q.nice 60 = true) (v : Vr k x) (hk : k ≤ 60) : ∀ op ∈ goods t p q (rk x), Good w n op := by
  have r1 := rank_ok v hk
  have r2 := nice_rk60 v
  have t1 := nice_mono (nice_tm50 T) (show 50 ≤ 63 by omega)
  have r3 := nice_mono r2 (show 60 ≤ 63 by omega)
  have p3 := nice_mono hp.2.2 (show 60 ≤ 63 by omega)
  have q3 := nice_mono hq.2.2 (show 60 ≤ 63 by omega)
  have T1 : OkTm (1, [97]) := ⟨by decide, by decide, by decide⟩
  have s60 : (rank60 t).nice 60 = true := by
    refine tup_nice (k := 59) fun y hy => ?_
    simp at hy
    subst hy
    have := nice_mono (nice_tm50 T) (show 50 ≤ 58 by omega)
    simp [D.nice, D.nice.niceL, this]
  have s63 := nice_mono s60 (show 60 ≤ 63 by omega)
  have n1 : ∀ xs : List D, (∀ y ∈ xs, y.nice 63 = true) → (D.tup xs).nice 64 = true := fun xs h => tup_nice h
  have c1 : (D.str [97]).nice 60 = true := by decide
  have c2 : (D.str [115, 111, 32, 105, 116, 32, 105, 115]).nice 60 = true := by decide
  have c3 : (D.tup [.int 3, .str [97]]).nice 60 = true := by decide
  have c4 : (D.tup [.int 0, .str []]).nice 60 = true := by decide
  have c5 : (D.str [119, 111, 114, 100]).nice 60 = true := by decide
  have c6 : (D.str [97, 98, 99, 100, 101, 102]).nice 60 = true := by decide
  have c7 : (D.tup [.int 2, .str [98]]).nice 60 = true := by decide
  have c8 : (D.str [115, 105, 103, 110, 115]).nice 60 = true := by decide
  have c9 : (D.str []).nice 60 = true := by decide
  have c10 : (D.tup [.tup [.int 0, .tup [.int 1, .str [97]]]]).nice 60 = true := by decide
  have k1 : (D.str kNew).nice 63 = true := by decide
  have k2 : (D.str kPut).nice 63 = true := by decide
  have k3 : (D.str kSet).nice 63 = true := by decide
  have up : ∀ {d : D}, d.nice 60 = true → d.nice 63 = true := fun h => nice_mono h (by omega)
  intro op hop
  simp only [goods, List.mem_cons, List.not_mem_nil, or_false] at hop
  rcases hop with rfl | rfl | rfl | rfl | rfl | rfl
  · refine Good.of rfl (good1 T hp.1 r1 ht) (n1 _ ?_) (fun s => r_oddNew) (by simp [oddNew, oddHead, badT, badW, badS, badP, badR]) (nice_new T c1 c2 hp.2.2 r2) not_new
    simp only [List.mem_cons, List.not_mem_nil, or_false]
    rintro y (rfl | rfl | rfl | rfl | rfl | rfl)
    · exact k1
    · exact t1
    · exact up c1
    · exact up c2
    · exact p3
    · exact r3
  · refine Good.of rfl (good2 T hq.1 r1 ht) (n1 _ ?_) (fun s => r_oddPut) (by simp [oddPut, oddHead, badT, badA, badP, badR]) (nice_put T c3 hq.2.2 r2) not_put
    simp only [List.mem_cons, List.not_mem_nil, or_false]
    rintro y (rfl | rfl | rfl | rfl | rfl)
    · exact k2
    · exact t1
    · exact up c3
    · exact q3
    · exact r3
  · refine Good.of rfl (good3 T ht) (n1 _ ?_) (fun s => r_oddSet) (by simp [oddSet, oddHead, badT, badA, badK, badV]) (nice_set T c4 c5 c6) (not_set (.inl rfl))
    simp only [List.mem_cons, List.not_mem_nil, or_false]
    rintro y (rfl | rfl | rfl | rfl | rfl)
    · exact k3
    · exact t1
    · exact up c4
    · exact up c5
    · exact up c6
  · refine Good.of rfl (good4 T ht) (n1 _ ?_) (fun s => r_oddSet) (by simp [oddSet, oddHead, badT, badA, badK, badV]) (nice_set T c7 c8 c9) (not_set (.inr rfl))
    simp only [List.mem_cons, List.not_mem_nil, or_false]
    rintro y (rfl | rfl | rfl | rfl | rfl)
    · exact k3
    · exact t1
    · exact up c7
    · exact up c8
    · exact up c9
  · refine Good.of rfl (good5 T ht) (n1 _ ?_) (fun s => r_oddPut) (by simp [oddPut, oddHead, badT, badA, badP, badR]) (nice_put T c3 c3 s60) not_put
    simp only [List.mem_cons, List.not_mem_nil, or_false]
    rintro y (rfl | rfl | rfl | rfl | rfl)
    · exact k2
    · exact t1
    · exact up c3
    · exact up c3
    · exact s63
  · refine Good.of rfl good6 (n1 _ ?_) (fun s => r_oddNew) (by simp [oddNew, oddHead, badT, badW, badS, badP, badR]) (nice_new T1 c1 c9 c4 c10) not_new
    simp only [List.mem_cons, List.not_mem_nil, or_false]
    rintro y (rfl | rfl | rfl | rfl | rfl | rfl)
    · exact k1
    · decide
    · exact up c1
    · exact up c9
    · exact up c4
    · exact up c10
end LW
end

section -- Q67t
set_option autoImplicit false
set_option linter.all false
set_option maxRecDepth 10000
namespace LW
open L3
variable {w n : Nat} {s : S}
theorem lcTime {b : Bool} {xs : List D} {a0 a1 a2 a3 a4 a5 a6 a7 a8 a9 a10 a11 a12 a13 : Option D} (h : ∀ v ∈ xs, v.nice 63 = true ∧ isTime v = b) (hl : xs.length ≤ 1000) :
    lcL (lcT (calls fs w (n + 6)) (.var 13) (.nm 13) [.cmp .isnot (.call 4 [.var 13]) (.con (.bl b))] [13] [a0, a1, a2, a3, a4, a5, a6, a7, a8, a9, a10, a11, a12, a13]) xs [] s = .ok (.lv true []) s := by
  rw [lcL_fm (g := fun _ => none) (by rw [bigN]; simp; omega)]
  · simp
  · intro v hv
    obtain ⟨n1, n2⟩ := h v hv
    have c2 : callR (calls fs w (n + 6) 4) [v.frz] s = .ok (.bl b) s := by
      rw [c_time (n := n + 3) (nice_frz (nice_mono n1 (by omega)))]
      rw [isTime_frz, n2]
    have e1 : v.frz.frz = v.frz := by cases v <;> rfl
    cases b <;> simp [lcT, c2, e1]
def tms : List D := [.tup [.int 1, .str [97]], .tup [.int 1000000, .str [97, 98, 99, 100, 101, 102]]]
def notms : List D := [.non, .tup [.int 0, .str []], .tup [.int 0, .str [97]], .tup [.int 1, .str []], .tup [.int 1, .str [65]], .tup [.bl true, .str [97]], .lv false [.int 1, .str [97]], .tup [.int 1], .tup [.int 1000001, .str [97]], .int 5]
theorem main3 {dd o1 o2 o3 o4 o5 o6 o7 o8 o9 : Option D} {gs : List D} (hg : ∀ op ∈ gs, Good w n op) :
    exs (calls fs w (n + 6)) w (b16.body.drop 7) [dd, o1, o2, o3, o4, o5, o6, o7, o8, o9, some (.lv false gs), none, none, none] s = .rt (.bl true) s := by
  unfold b16
  simp only [List.drop_succ_cons, List.drop_zero]
  rw [exs_cons, ex_forr]
  have s1 : items (calls fs w (n + 6)) (.seq (.var 10)) [dd, o1, o2, o3, o4, o5, o6, o7, o8, o9, some (.lv false gs), none, none, none] s = .ok (.fix gs) s := by simp
  rw [s1]
  simp only [F.of_ok, foI_fix]
  have key := foL_all (f := foT (calls fs w (n + 6)) w (.nm 11) jdB) (p := fun _ => true) (r := .non) (s := s) (xs := gs) (e := [dd, o1, o2, o3, o4, o5, o6, o7, o8, o9, some (.lv false gs), none, none, none])
    (P := fun e => ∃ o11, e = [dd, o1, o2, o3, o4, o5, o6, o7, o8, o9, some (.lv false gs), o11, none, none]) ⟨none, rfl⟩ (fun op hop e he => by
      obtain ⟨o11, rfl⟩ := he
      exact ⟨_, judge (hg op hop), _, rfl⟩)
  rw [if_pos (by simp)] at key
  obtain ⟨e', h1, o11, rfl⟩ := key
  have hq : cmp2 .ne (.lv true []) (.lv true []) = some false := by decide
  have hq2 : cmp2 .eq (.lv true []) (.lv true []) = some true := by decide
  show (foL (foT (calls fs w (n + 6)) w (.nm 11) jdB) _ _ _).next _ = _
  rw [h1, F.next_nx, exs_cons]
  have w3 : wide 10 = true := by decide
  have w4 : wide 1000000 = true := by decide
  have k1 := lcTime (w := w) (n := n) (s := s) (b := true) (xs := tms) (a0 := dd) (a1 := o1) (a2 := o2) (a3 := o3) (a4 := o4) (a5 := o5) (a6 := o6) (a7 := o7) (a8 := o8) (a9 := o9) (a10 := some (.lv false gs)) (a11 := o11) (a12 := none) (a13 := none) (by decide) (by decide)
  have k2 := lcTime (w := w) (n := n) (s := s) (b := false) (xs := notms) (a0 := dd) (a1 := o1) (a2 := o2) (a3 := o3) (a4 := o4) (a5 := o5) (a6 := o6) (a7 := o7) (a8 := o8) (a9 := o9) (a10 := some (.lv false gs)) (a11 := o11) (a12 := none) (a13 := none) (by decide) (by decide)
  unfold tms at k1
  unfold notms at k2
  simp [ck, w3, w4, bigN, k1, k2, hq, hq2]
theorem law_split (e : Env) : exs (calls fs w n) w b16.body e s = (exs (calls fs w n) w (b16.body.take 3) e s).next fun e s => (exs (calls fs w n) w ((b16.body.drop 3).take 4) e s).next fun e s => exs (calls fs w n) w (b16.body.drop 7) e s := by
  have h : b16.body = b16.body.take 3 ++ ((b16.body.drop 3).take 4 ++ b16.body.drop 7) := rfl
  conv => lhs; rw [h]
  rw [exs_append]
  congr 1
  funext e s
  rw [exs_append]
theorem r_law {is : List Int} {dd : D} (hd : dd = .scr is ∨ dd = .lv false (is.map .int)) (hz : is.length ≤ 1000) (hw : 100 < w) : ∃ s', calls fs w (n + 7) 16 [dd] ⟨[], 0, none⟩ = .ok (.bl true) s' := by
  obtain ⟨k, rows, ns, o3, o4, o5, o6, o7, o8, k4, k50, Rw, h1⟩ := main1 (w := w) (n := n + 1) hd hz hw
  obtain ⟨x, t, p, q, ms, hx, T, ht, hp, hq, h2⟩ := main2 (w := w) (n := n + 1) (dd := dd) k4 Rw (ns := ns) (o3 := o3) (o4 := o4) (o5 := o5) (o6 := o6) (o7 := o7) (o8 := o8)
  have hg := good_all (w := w) (n := n) T ht hp hq (Rw.ok x hx) (by omega)
  refine ⟨ds ms, ?_⟩
  rw [calls_eq (b := b16) rfl]
  unfold run
  rw [if_pos (show [dd].length = b16.par from rfl)]
  have e : ([dd].map some ++ List.replicate b16.more none) = [some dd, none, none, none, none, none, none, none, none, none, none, none, none, none] := rfl
  rw [e, law_split, h1, F.next_nx, h2, F.next_nx, main3 hg]
end LW
end

set_option autoImplicit false
set_option linter.all false
set_option maxRecDepth 100000
set_option maxHeartbeats 0

theorem LW.plain : L3.Plain LW.defs 100000 114 16 := fun ns hn _ d hd => LW.r_law (w := 100000) (n := 108) hd (by omega) (by decide)

namespace LW
open PySem PySem.Spec PyProof.Rows L2 L3
abbrev R : PySem.W.OpenRow := PySem.W.OpenLaw.row PySem.Challenge.rw_treeschanged_k67_whole_ranks_and_operati
abbrev hk : PySem.W.Hook := hookM 2 G defs
def ob (s : PySem.W.SharedT) : AlM := obsMG 2 G defs (HandSHeadRun.getT s)
theorem ob_eq (s : PySem.W.SharedT) : ob s = hk.obs s.abs := obsMG_eq (HandSHeadRun.getT_eq s)
def loose : List PySem.Str := (["__name__", "is_number", "MOST_WORD", "MOST_SIGNS", "LETTERS", "is_word", "are_signs", "MOST_COUNT", "ROOT", "is_key", "MOST_NUMBER", "MOST_LONG", "is_time", "is_rank", "alike_ahead", "rank_between", "LENGTHS", "is_ahead", "is_place", "is_operation"] : List PySem.Str) ++ (["_law_draws", "_law_take", "_law_alike", "_law_rank", "_law_odd"] : List PySem.Str)
theorem run (w : World) : HandSHeadRun.RunEq R (PySem.W.view R.prog [30]) hk ob 4000 loose w := by
  refine PySem.W.byRow2 "special-get-raises" (P := fun w => HandSHeadRun.RunEq R (PySem.W.view R.prog [30]) hk ob 4000 loose w) (fun w => ?_) (fun w => ?_) w
  · intro os
    kernel_rfl
  · intro os
    kernel_rfl
theorem okAll : ∀ e ∈ defs, DefOk G e := by
  intro e he
  simp only [defs, List.mem_cons, List.not_mem_nil, or_false] at he
  rcases he with rfl | rfl | rfl | rfl | rfl | rfl | rfl | rfl | rfl | rfl | rfl | rfl | rfl | rfl | rfl | rfl | rfl
  · exact o0
  · exact o1
  · exact o2
  · exact o3
  · exact o4
  · exact o5
  · exact o6
  · exact o7
  · exact o8
  · exact o9
  · exact o10
  · exact o11
  · exact o12
  · exact o13
  · exact o14
  · exact o15
  · exact o16
end LW
open PySem PySem.W PySem.Calls PyProof.Rows
theorem PySem.Challenge.cw_treeschanged_k67_whole_ranks_and_operati_holds : PySem.Challenge.rw_treeschanged_k67_whole_ranks_and_operati.Holds := by
  w_on; o_law
  refine HandSHeadRun.head_any (r := OpenLaw.row PySem.Challenge.rw_treeschanged_k67_whole_ranks_and_operati) (q := view (OpenLaw.row PySem.Challenge.rw_treeschanged_k67_whole_ranks_and_operati).prog [30]) (H := LW.hk) (ob := LW.ob) (M := 4000) (loose := LW.loose) (d := HandSHeadRun.topDef (OpenLaw.row PySem.Challenge.rw_treeschanged_k67_whole_ranks_and_operati).prog 30) (kwd := []) LW.ob_eq
    (by kernel_rfl) (fun s => by kernel_rfl) LW.run (by kernel_rfl) (by kernel_rfl) (by kernel_rfl) (by rfl) (by first | assumption | decide +kernel) (by decide +kernel) ⟨rfl, rfl, rfl, rfl, rfl, by decide +kernel⟩ ?hw ?hc
  case hw => w_witness2
  case hc =>
    refine LamX.walk_ofTsE (l := PySem.Challenge.rw_treeschanged_k67_whole_ranks_and_operati) (n := 63) (k := 2 * (114 + 1)) (x := "script") (CX := fun w => L2N.CX (PySem.Challenge.rw_treeschanged_k67_whole_ranks_and_operati).prog w) rfl (by decide) (by kernel_rfl) ⟨rfl, by decide, by decide⟩ ?F (fun w H s e s' z => ?_)
    · intro w mg fa h Y Gn hmg0
      have hmg : mg ("law" : PySem.Str) = some (.ref fa) := by
        have e : (HandSHeadRun.topDef (OpenLaw.row PySem.Challenge.rw_treeschanged_k67_whole_ranks_and_operati).prog 30).name = ("law" : PySem.Str) := by kernel_rfl
        rw [← e]
        exact hmg0
      exact L3.law_at (l := PySem.Challenge.rw_treeschanged_k67_whole_ranks_and_operati) (w := w) (G := LW.G) (defs := LW.defs) (wN := 100000) (n := 114) (i := 16) rfl (fun e he => by cases he; rfl) LW.okAll LW.plain Y Gn hmg
    · obtain ⟨a, B, H', cls, d, _, _, _, _, _, _, _, z⟩ := z
      exact z
