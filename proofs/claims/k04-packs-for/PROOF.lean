import PyProof.Rows.All
import Wide.All
import OpenK.AllK
import Wide.FinOn
import PyProof.EqAt
import PyProof.EqKinds
import PyProof.TupleCall
import Open.SpecLaws
import KE.OsGo
import HandS.ForSpec
import PySem.Str
import PySem.PyData
import HandS.ForMost
import HandS.ForExc
import HandS.Wide
import HandS.IsInst
import HandS.TupMul
import HandS.TupAny
import HandS.Style
import HandS.Zip
import HandS.Walk
import HandS.SetFor
import HandS.CallSlots
import HandS.HotCalls
import HandS.ExcIs
import HandS.ExcCtx
import KE.KTupSum
import HandS.RaiseMore
import KE.GoesMore
import KE.GoesEnum
import PySem.Challenge.RW_albumpacks_k04_whole_packs_for
set_option linter.all false
set_option maxRecDepth 10000
/-! A small evaluator for the part of Python that the program and its laws use. -/
namespace Alb
open PySem

/-- values: a tuple is a value, a list (an instance) is a place in the store -/
inductive D where
  | non
  | bl (b : Bool)
  | int (i : Int)
  | str (x : Str)
  | tup (xs : List D)
  | loc (n : Nat)
  | fn (f : Nat)
  | scr (ns : List Int)
  deriving Inhabited

mutual
/-- no place within -/
def D.pure : D → Bool
  | .loc _ => false
  | .tup xs => pureL xs
  | .non => true
  | .bl _ => true
  | .int _ => true
  | .str _ => true
  | .fn _ => true
  | .scr _ => true
def pureL : List D → Bool
  | [] => true
  | x :: xs => D.pure x && pureL xs
end

/-- objects: a list, a list that is only read now, an instance, a dict by tuples of intsD -/
inductive O where
  | lst (xs : List D)
  | ro (xs : List D)
  | ins (fs : List (Nat × D))
  | dct (kvs : List (List Int × D))
  deriving Inhabited

structure Hh where
  nx : Nat
  ob : List (Nat × O)

def getL (i : Nat) : List (Nat × O) → Option O
  | [] => none
  | (j, o) :: r => if i = j then some o else getL i r
def setL (i : Nat) (o : O) : List (Nat × O) → List (Nat × O)
  | [] => []
  | (j, p) :: r => if i = j then (j, o) :: r else (j, p) :: setL i o r
def Hh.get (h : Hh) (i : Nat) : Option O := getL i h.ob
def Hh.set (h : Hh) (i : Nat) (o : O) : Hh := ⟨h.nx, setL i o h.ob⟩
def Hh.new (h : Hh) (o : O) : Hh := ⟨h.nx + 1, (h.nx, o) :: h.ob⟩

/-- how a computation ends -/
inductive R (α : Type) where
  | ok (a : α) (h : Hh)
  | ex (c : Nat) (h : Hh)
  | bad
def R.bind {α β : Type} (r : R α) (f : α → Hh → R β) : R β := match r with
  | .ok a h => f a h
  | .ex c h => .ex c h
  | .bad => .bad
abbrev Env := List (Option D)
/-- how a statement ends -/
inductive SR where
  | nx (r : Env) (h : Hh)
  | rt (d : D) (h : Hh)
  | ex (c : Nat) (h : Hh)
  | bad
def R.thn {α : Type} (r : R α) (f : α → Hh → SR) : SR := match r with
  | .ok a h => f a h
  | .ex c h => .ex c h
  | .bad => .bad
def SR.thn (r : SR) (f : Env → Hh → SR) : SR := match r with
  | .nx e h => f e h
  | .rt d h => .rt d h
  | .ex c h => .ex c h
  | .bad => .bad

/-! ### the syntax -/
inductive BOp where
  | add | sub | mul | fdiv | mod | pow
  deriving DecidableEq
inductive COp where
  | lt | le | gt | ge | eq | ne | isx | nis | inx | nin
  deriving DecidableEq
inductive Blt where
  | len | max | min | sum | all | tuple | list | str | int | lenset | sorted | listzip | listrange | tuprange
  deriving DecidableEq
inductive Ty where
  | int | bool | tuple | str | own
  deriving DecidableEq
inductive Mth where
  | append | extend | count | index | split | join
  deriving DecidableEq
/-- what is walked: a value, range by one, two, three numbers, enumerate, zip -/
inductive Ik where
  | val | r1 | r2 | r3 | enu | zip
  deriving DecidableEq
inductive Tg where
  | nm (i : Nat)
  | tp (is : List Nat)
mutual
inductive E where
  | cst (d : D)
  | var (i : Nat)
  | fnv (f : Nat)
  | glb (g : Nat)
  | bin (o : BOp) (a b : E)
  | neg (a : E)
  | cmp (o : COp) (a b : E)
  | chn (o p : COp) (a b c : E)
  | chn3 (o p q : COp) (a b c d : E)
  | and (es : Es)
  | or (es : Es)
  | not (a : E)
  | ite (c a b : E)
  | cal (f : Nat) (es : Es)
  | cax (fe : E) (es : Es)
  | blt (b : Blt) (es : Es)
  | isi (t : Ty) (a : E)
  | mth (m : Mth) (a : E) (es : Es)
  | tup (es : Es)
  | lst (es : Es)
  | dct
  | sub (a i : E)
  | dget (a i : E)
  | slc (a : E) (lo hi : Oe)
  | rev (a : E)
  | lc (own : List Nat) (t : Tg) (k : Ik) (es : Es) (c : Oe) (e : E)
  | fld (a : E) (f : Nat)
  | mcl (m : Nat) (a : E) (es : Es)
  | mk (es : Es)
  | oeq (n : Bool) (a b : E)
  | olen (a : E)
  | ostr (a : E)
inductive Es where
  | nil
  | cons (e : E) (es : Es)
inductive Oe where
  | none
  | some (e : E)
end
mutual
inductive S where
  | asg (i : Nat) (e : E)
  | unp (is : List Nat) (e : E)
  | par (is : List Nat) (es : Es)
  | sto (o i e : E)
  | sto2 (a i b j e f : E)
  | dput (o i e : E)
  | aug (i : Nat) (o : BOp) (e : E)
  | aus (a i : E) (o : BOp) (e : E)
  | exp (e : E)
  | ret (e : E)
  | ife (c : E) (a b : Ss)
  | for (t : Tg) (k : Ik) (es : Es) (b : Ss)
  | whi (c : E) (b : Ss)
  | rai (c : Nat)
  | tryw (i : Nat) (b : Ss)
  | fst (o : E) (f : Nat) (e : E)
inductive Ss where
  | nil
  | cons (s : S) (ss : Ss)
end
def Es.l : List E → Es
  | [] => .nil
  | e :: r => .cons e (Es.l r)
def Ss.l : List S → Ss
  | [] => .nil
  | e :: r => .cons e (Ss.l r)

/-! ### operations on values -/
def big64 : Nat := 18446744073709551616
def mulOk (i j : Int) : Bool := decide (i.natAbs < big64) || decide (j.natAbs < big64) || decide (i.natAbs.log2 + j.natAbs.log2 < 1000000)
def divOk (j : Int) : Bool := decide (0 < j) && decide (j.natAbs.log2 < 9000)
def lim : Nat := 100000
def binD : BOp → D → D → Hh → Option (D × Hh)
  | .add, .int i, .int j, h => some (.int (i + j), h)
  | .add, .str x, .str y, h => if x.length + y.length ≤ lim then some (.str (x ++ y), h) else none
  | .add, .tup xs, .tup ys, h => if xs.length + ys.length ≤ lim then some (.tup (xs ++ ys), h) else none
  | .add, .loc a, .loc b, h => match h.get a, h.get b with
    | some (.lst xs), some (.lst ys) => if xs.length + ys.length ≤ lim then some (.loc h.nx, h.new (.lst (xs ++ ys))) else none
    | _, _ => none
  | .sub, .int i, .int j, h => some (.int (i - j), h)
  | .mul, .int i, .int j, h => if mulOk i j then some (.int (i * j), h) else none
  | .mul, .tup xs, .int k, h => if 0 < xs.length ∧ k ≤ 1000 ∧ xs.length ≤ 1000 ∧ -1000 ≤ k then some (.tup (List.replicate k.toNat xs).flatten, h) else none
  | .mul, .loc a, .int k, h => match h.get a with
    | some (.lst xs) => if -1000 ≤ k ∧ k ≤ 1000 ∧ xs.length ≤ 1000 then some (.loc h.nx, h.new (.lst (List.replicate k.toNat xs).flatten)) else none
    | _ => none
  | .fdiv, .int i, .int j, h => if divOk j then some (.int (i / j), h) else none
  | .mod, .int i, .int j, h => if 0 < j then some (.int (i % j), h) else none
  | .pow, .int i, .int j, h => if 0 ≤ j ∧ j ≤ 1000 ∧ i.natAbs < big64 then some (.int (i ^ j.toNat), h) else none
  | _, _, _, _ => none

def D.flat : D → Bool
  | .non => true
  | .bl _ => true
  | .int _ => true
  | .str _ => true
  | _ => false
/-- == of flat values -/
def eqF : D → D → Bool
  | .non, .non => true
  | .bl a, .bl b => a == b
  | .bl a, .int b => (if a then 1 else 0) == b
  | .int a, .bl b => a == (if b then 1 else 0)
  | .int a, .int b => a == b
  | .str a, .str b => a == b
  | _, _ => false

def mapO {α β : Type} (f : α → Option β) : List α → Option (List β)
  | [] => some []
  | x :: xs => match f x, mapO f xs with
    | some y, some ys => some (y :: ys)
    | _, _ => none
def strOk (x : Str) : Bool := x.cps.all (· < 0x110000)
/-- a value with what its places hold -/
def viewP : Nat → Hh → D → Option PyData
  | 0, _, _ => none
  | _ + 1, _, .non => some .none
  | _ + 1, _, .bl b => some (.bool b)
  | _ + 1, _, .int i => some (.int i)
  | _ + 1, _, .str x => if strOk x then some (.str x) else none
  | n + 1, h, .tup xs => match mapO (viewP n h) xs with
    | some ys => some (.tuple ys)
    | none => none
  | n + 1, h, .loc a => match h.get a with
    | some (.lst xs) => (match mapO (viewP n h) xs with
      | some ys => some (.list ys)
      | none => none)
    | some (.ro xs) => (match mapO (viewP n h) xs with
      | some ys => some (.list ys)
      | none => none)
    | _ => none
  | _ + 1, _, .fn _ => none
  | _ + 2, _, .scr ns => some (.list (ns.map .int))
  | 1, _, .scr _ => none
mutual
/-- == of data -/
def eqP : PyData → PyData → Bool
  | .none, .none => true
  | .bool a, .bool b => a == b
  | .bool a, .int j => (if a then 1 else 0) == j
  | .int i, .bool b => i == (if b then 1 else 0)
  | .int i, .int j => i == j
  | .str x, .str y => x == y
  | .list xs, .list ys => eqPL xs ys
  | .tuple xs, .tuple ys => eqPL xs ys
  | _, _ => false
def eqPL : List PyData → List PyData → Bool
  | [], [] => true
  | x :: xs, y :: ys => eqP x y && eqPL xs ys
  | _, _ => false
end
def vfuel : Nat := 10
def eqD (d e : D) (h : Hh) : Option Bool := match viewP vfuel h d, viewP vfuel h e with
  | some x, some y => some (eqP x y)
  | _, _ => none

/-- the items of a list or a tuple -/
def itemsD (d : D) (h : Hh) : Option (List D) := match d with
  | .tup xs => some xs
  | .scr ns => some (ns.map .int)
  | .loc a => (match h.get a with
    | some (.lst xs) => some xs
    | some (.ro xs) => some xs
    | _ => none)
  | _ => none
def inD (x c : D) (h : Hh) : Option Bool := match x, c with
  | .str a, .str b => (match a.cps.toList with
    | [k] => some (b.cps.toList.contains k)
    | _ => none)
  | x, c => match itemsD c h with
    | some xs => if x.flat && xs.all D.flat then some (xs.any fun y => eqF y x) else none
    | none => none
def isD : D → D → Option Bool
  | .non, .non => some true
  | _, .non => some false
  | .bl a, .bl b => some (a == b)
  | _, _ => none
def cmpD : COp → D → D → Hh → Option Bool
  | .lt, .int i, .int j, _ => some (decide (i < j))
  | .le, .int i, .int j, _ => some (decide (i ≤ j))
  | .gt, .int i, .int j, _ => some (decide (j < i))
  | .ge, .int i, .int j, _ => some (decide (j ≤ i))
  | .eq, a, b, h => eqD a b h
  | .ne, a, b, h => (match eqD a b h with
    | some k => some (!k)
    | none => none)
  | .isx, a, b, _ => isD a b
  | .nis, a, b, _ => (match isD a b with
    | some k => some (!k)
    | none => none)
  | .inx, a, b, h => inD a b h
  | .nin, a, b, h => (match inD a b h with
    | some k => some (!k)
    | none => none)
  | _, _, _, _ => none

def isiD : Ty → D → Hh → Option Bool
  | .own, .loc a, h => (match h.get a with
    | some (.ins _) => some true
    | some (.lst _) => some false
    | some (.ro _) => some false
    | _ => none)
  | .own, .non, _ => some false
  | .own, .tup _, _ => some false
  | .own, .int _, _ => some false
  | .own, _, _ => none
  | _, .loc a, h => (match h.get a with
    | some (.lst _) => some false
    | some (.ro _) => some false
    | _ => none)
  | .int, .int _, _ => some true
  | .int, .bl _, _ => some true
  | .bool, .bl _, _ => some true
  | .tuple, .tup _, _ => some true
  | .str, .str _, _ => some true
  | _, .fn _, _ => none
  | _, .scr _, _ => none
  | _, _, _ => some false

def intsD : List D → Option (List Int)
  | [] => some []
  | .int i :: r => (match intsD r with
    | some is => some (i :: is)
    | none => none)
  | _ :: _ => none
def blsD : List D → Option (List Bool)
  | [] => some []
  | .bl i :: r => (match blsD r with
    | some is => some (i :: is)
    | none => none)
  | _ :: _ => none
def strsD : List D → Option (List Str)
  | [] => some []
  | .str i :: r => (match strsD r with
    | some is => some (i :: is)
    | none => none)
  | _ :: _ => none
/-- ascending -/
def insI (x : Int) : List Int → List Int
  | [] => [x]
  | y :: ys => if x ≤ y then x :: y :: ys else y :: insI x ys
def sortI : List Int → List Int
  | [] => []
  | x :: xs => insI x (sortI xs)
def minI : List Int → Int
  | [] => 0
  | [x] => x
  | x :: xs => if minI xs < x then minI xs else x
/-- how many different ones -/
def distinct : List Int → Nat
  | [] => 0
  | x :: xs => if xs.contains x then distinct xs else distinct xs + 1
def pairs : List D → List D → List D
  | x :: xs, y :: ys => .tup [x, y] :: pairs xs ys
  | _, _ => []
def enumD (n : Nat) : List D → List D
  | [] => []
  | x :: xs => .tup [.int n, x] :: enumD (n + 1) xs
def rangeD (lo : Int) : Nat → List D
  | 0 => []
  | n + 1 => .int lo :: rangeD (lo + 1) n
def downD (hi : Int) : Nat → List D
  | 0 => []
  | n + 1 => .int hi :: downD (hi - 1) n
def rOk (i : Int) : Bool := decide (-1000000 ≤ i) && decide (i ≤ 1000000)

def strI (i : Int) : Str := Str.ofString (toString i)
/-- the value of a row of digits -/
def digVal : Nat → List Nat → Option Nat
  | acc, [] => some acc
  | acc, c :: r => if 48 ≤ c ∧ c ≤ 57 then digVal (acc * 10 + (c - 48)) r else none
def splitC (c : Nat) : List Nat → List Nat → List (List Nat)
  | cur, [] => [cur.reverse]
  | cur, x :: r => if x = c then cur.reverse :: splitC c [] r else splitC c (x :: cur) r
def joinS (s : Str) : List Str → Str
  | [] => ⟨#[]⟩
  | [x] => x
  | x :: y :: r => x ++ s ++ joinS s (y :: r)
def sumLen : List Str → Nat
  | [] => 0
  | x :: r => x.length + sumLen r

def bltD : Blt → List D → Hh → Option (D × Hh)
  | .len, [.str x], h => if x.length ≤ lim then some (.int x.length, h) else none
  | .len, [d], h => (match itemsD d h with
    | some xs => some (.int xs.length, h)
    | none => none)
  | .max, [.int i, .int j], h => some (.int (if j > i then j else i), h)
  | .min, [.int i, .int j], h => some (.int (if j < i then j else i), h)
  | .min, [.loc a], h => (match itemsD (.loc a) h with
    | some xs => (match intsD xs with
      | some ns => if 0 < ns.length then some (.int (minI ns), h) else none
      | none => none)
    | none => none)
  | .sum, [d], h => (match itemsD d h with
    | some xs => (match intsD xs with
      | some ns => some (.int ns.sum, h)
      | none => none)
    | none => none)
  | .all, [.loc a], h => (match itemsD (.loc a) h with
    | some xs => (match blsD xs with
      | some bs => some (.bl (bs.all id), h)
      | none => none)
    | none => none)
  | .tuple, [d], h => (match itemsD d h with
    | some xs => some (.tup xs, h)
    | none => none)
  | .list, [d], h => (match itemsD d h with
    | some xs => some (.loc h.nx, h.new (.lst xs))
    | none => none)
  | .str, [.int i], h => if i.natAbs < big64 then some (.str (strI i), h) else none
  | .str, [.str x], h => some (.str x, h)
  | .int, [.str x], h => if 1 ≤ x.length ∧ x.length ≤ 640 then (match digVal 0 x.cps.toList with
      | some n => some (.int n, h)
      | none => none) else none
  | .lenset, [d], h => (match itemsD d h with
    | some xs => (match intsD xs with
      | some ns => if ns.length ≤ 1000 then some (.int (distinct ns), h) else none
      | none => none)
    | none => none)
  | .sorted, [d], h => (match itemsD d h with
    | some xs => (match intsD xs with
      | some ns => if ns.length < 64 then some (.loc h.nx, h.new (.lst ((sortI ns).map .int))) else none
      | none => none)
    | none => none)
  | .listzip, [.loc a, .loc b], h => (match h.get a, h.get b with
    | some (.lst xs), some (.lst ys) => some (.loc h.nx, h.new (.lst (pairs xs ys)))
    | _, _ => none)
  | .listrange, [.int n], h => if rOk n then some (.loc h.nx, h.new (.lst (rangeD 0 n.toNat))) else none
  | .tuprange, [.int n], h => if rOk n then some (.tup (rangeD 0 n.toNat), h) else none
  | _, _, _ => none

def mthD : Mth → D → List D → Hh → Option (D × Hh)
  | .append, .loc a, [d], h => (match h.get a with
    | some (.lst xs) => if xs.length < lim then some (.non, h.set a (.lst (xs ++ [d]))) else none
    | _ => none)
  | .extend, .loc a, [.loc b], h => (match h.get a, h.get b with
    | some (.lst xs), some (.lst ys) => if xs.length + ys.length ≤ lim then some (.non, h.set a (.lst (xs ++ ys))) else none
    | _, _ => none)
  | .count, .loc a, [.int k], h => (match itemsD (.loc a) h with
    | some xs => (match intsD xs with
      | some ns => some (.int (ns.count k), h)
      | none => none)
    | none => none)
  | .split, .str x, [.str y], h => (match y.cps.toList with
    | [c] => if x.length ≤ lim ∧ c < 256 then some (.loc h.nx, h.new (.lst ((splitC c [] x.cps.toList).map fun l => .str ⟨l.toArray⟩))) else none
    | _ => none)
  | .join, .str x, [d], h => (match itemsD d h with
    | some xs => (match strsD xs with
      | some ss => if sumLen ss + ss.length * x.length ≤ lim then some (.str (joinS x ss), h) else none
      | none => none)
    | none => none)
  | _, _, _, _ => none

/-- what a method may be asked of -/
def recvD : Mth → D → Hh → Bool
  | .split, .str _, _ => true
  | .join, .str _, _ => true
  | .split, _, _ => false
  | .join, _, _ => false
  | _, .loc a, h => (match h.get a with
    | some (.lst _) => true
    | some (.ro _) => true
    | _ => false)
  | _, _, _ => false
/-- x += y, x -= y of ints -/
def augD : BOp → D → D → Option D
  | .add, .int i, .int j => some (.int (i + j))
  | .sub, .int i, .int j => some (.int (i - j))
  | _, _, _ => none
/-- the place that an index names -/
def ixN (n : Nat) (i : Int) : Option Nat := if 0 ≤ i then (if i < n then some i.toNat else none) else if -(n : Int) ≤ i then some (i + n).toNat else none
def subD : D → D → Hh → Option D
  | .str x, .int i, h => if x.length ≤ lim then (match ixN x.cps.toList.length i with
    | some j => (match x.cps.toList[j]? with
      | some c => some (.str ⟨#[c]⟩)
      | none => none)
    | none => none) else none
  | d, .int i, h => (match itemsD d h with
    | some xs => (match ixN xs.length i with
      | some j => xs[j]?
      | none => none)
    | none => none)
  | _, _, _ => none
/-- a dict's entry -/
def dgetD : D → D → Hh → Option D
  | .loc a, .tup ks, h => (match h.get a, intsD ks with
    | some (.dct kvs), some ns => kvs.lookup ns
    | _, _ => none)
  | _, _, _ => none
def sIx (n d : Nat) : Option Int → Nat
  | none => d
  | some v => if v < 0 then (v + (n : Int)).toNat else min v.toNat n
def cut {α : Type} (xs : List α) (lo hi : Option Int) : List α := (xs.drop (sIx xs.length 0 lo)).take (sIx xs.length xs.length hi - sIx xs.length 0 lo)
def slcD (d : D) (lo hi : Option Int) (h : Hh) : Option (D × Hh) := match d with
  | .tup xs => some (.tup (cut xs lo hi), h)
  | .loc a => (match itemsD (.loc a) h with
    | some xs => some (.loc h.nx, h.new (.lst (cut xs lo hi)))
    | none => none)
  | _ => none
def revD (d : D) (h : Hh) : Option (D × Hh) := match d with
  | .tup xs => some (.tup xs.reverse, h)
  | .loc a => (match itemsD (.loc a) h with
    | some xs => some (.loc h.nx, h.new (.lst xs.reverse))
    | none => none)
  | _ => none
def putK (k : List Int) (d : D) : List (List Int × D) → List (List Int × D)
  | [] => [(k, d)]
  | (j, e) :: r => if k = j then (j, d) :: r else (j, e) :: putK k d r
def stoD (o i d : D) (h : Hh) : Option Hh := match o, i with
  | .loc a, .int k => (match h.get a with
    | some (.lst xs) => (match ixN xs.length k with
      | some j => some (h.set a (.lst (xs.set j d)))
      | none => none)
    | _ => none)
  | _, _ => none
def dputD (o i d : D) (h : Hh) : Option Hh := match o, i with
  | .loc a, .tup ks => (match h.get a, intsD ks with
    | some (.dct kvs), some ns => if kvs.length < 1000 then some (h.set a (.dct (putK ns d kvs))) else none
    | _, _ => none)
  | _, _ => none
/-- of a list alone -/
def lgetD (d i : D) (h : Hh) : Option D := match d, i with
  | .loc _, .int _ => subD d i h
  | _, _ => none
def negD : D → Option D
  | .int i => some (.int (-i))
  | _ => none
/-- what is walked, and the lists that are only read meanwhile -/
def iterD : Ik → List D → Hh → Option (List D × List (Nat × List D))
  | .val, [.tup xs], _ => some (xs, [])
  | .val, [.str x], _ => some (x.cps.toList.map fun c => .str ⟨#[c]⟩, [])
  | .val, [.loc a], h => (match h.get a with
    | some (.lst xs) => some (xs, [(a, xs)])
    | some (.ro xs) => some (xs, [])
    | _ => none)
  | .r1, [.int n], _ => if rOk n then some (rangeD 0 n.toNat, []) else none
  | .r2, [.int a, .int b], _ => if rOk a && rOk b then some (rangeD a (b - a).toNat, []) else none
  | .r3, [.int a, .int b, .int c], _ => if rOk a && rOk b && (c == -1) then some (downD a (a - b).toNat, []) else none
  | .enu, [.tup xs], _ => some (enumD 0 xs, [])
  | .enu, [.loc a], h => (match h.get a with
    | some (.lst xs) => some (enumD 0 xs, [(a, xs)])
    | some (.ro xs) => some (enumD 0 xs, [])
    | _ => none)
  | .zip, [.tup xs, .tup ys], _ => some (pairs xs ys, [])
  | .zip, [.loc a, .loc b], h => (match h.get a, h.get b with
    | some (.lst xs), some (.lst ys) => some (pairs xs ys, [(a, xs), (b, ys)])
    | _, _ => none)
  | _, _, _ => none
def lockH : List (Nat × List D) → Hh → Hh
  | [], h => h
  | (a, xs) :: r, h => lockH r (h.set a (.ro xs))
def unlockH : List (Nat × List D) → Hh → Hh
  | [], h => h
  | (a, xs) :: r, h => unlockH r (h.set a (.lst xs))

/-! ### targets and slots -/
def wipeD (r : Env) : List Nat → Env
  | [] => r
  | v :: vs => (wipeD r vs).set v none
def asgL : List Nat → List D → Env → Option Env
  | [], [], r => some r
  | i :: is, d :: ds, r => if i < r.length then asgL is ds (r.set i (some d)) else none
  | _, _, _ => none
def asgT : Tg → D → Env → Option Env
  | .nm i, d, r => if i < r.length then some (r.set i (some d)) else none
  | .tp is, .tup ds, r => asgL is ds r
  | _, _, _ => none

def ofO {α : Type} (o : Option (α × Hh)) : R α := match o with
  | some (d, h) => .ok d h
  | none => .bad
def ofV {α : Type} (h : Hh) (o : Option α) : R α := match o with
  | some d => .ok d h
  | none => .bad
def lift1 (f : List D → Hh → Option (D × Hh)) (ds : List D) (h : Hh) : R D := ofO (f ds h)

/-- a comprehension's turns: none: left out -/
def compGo (f : D → Hh → R (Option D)) : List D → List D → Hh → R (List D)
  | [], acc, h => .ok acc h
  | x :: xs, acc, h => match f x h with
    | .ok (some y) h1 => if acc.length < lim then compGo f xs (acc ++ [y]) h1 else .bad
    | .ok none h1 => compGo f xs acc h1
    | _ => .bad
def forGo (f : D → Env → Hh → SR) : List D → Env → Hh → SR
  | [], r, h => .nx r h
  | x :: xs, r, h => match f x r h with
    | .nx r1 h1 => forGo f xs r1 h1
    | .rt d h1 => .rt d h1
    | .ex c h1 => .ex c h1
    | .bad => .bad
def wfuel : Nat := 20010
def whileGo (c : Env → Hh → R D) (b : Env → Hh → SR) : Nat → Env → Hh → SR
  | 0, _, _ => .bad
  | n + 1, r, h => match c r h with
    | .ok (.bl true) h1 => (match b r h1 with
      | .nx r1 h2 => whileGo c b n r1 h2
      | .rt d h2 => .rt d h2
      | .ex k h2 => .ex k h2
      | .bad => .bad)
    | .ok (.bl false) h1 => .nx r h1
    | .ex k h1 => .ex k h1
    | _ => .bad

/-- calls: of a def, of a method (self first), of the class -/
structure Cl where
  f : Nat → List D → Hh → R D
  g : Nat → Option D
  mkc : List D → Hh → R D
  oeq : D → D → Hh → R D
  olen : D → Hh → R D
  ostr : D → Hh → R D
def fldD (d : D) (f : Nat) (h : Hh) : Option D := match d with
  | .loc a => (match h.get a with
    | some (.ins fs) => fs.lookup f
    | _ => none)
  | _ => none
def putFd (f : Nat) (d : D) : List (Nat × D) → List (Nat × D)
  | [] => [(f, d)]
  | (j, e) :: r => if f = j then (j, d) :: r else (j, e) :: putFd f d r
def fstD (o : D) (f : Nat) (d : D) (h : Hh) : Option Hh := match o with
  | .loc a => (match h.get a with
    | some (.ins fs) => if fs.length < 100 then some (h.set a (.ins (putFd f d fs))) else none
    | _ => none)
  | _ => none
def optInt : D → Option Int
  | .int i => some i
  | _ => none

mutual
def ev (cl : Cl) : E → Env → Hh → R D
  | .cst d, _, h => .ok d h
  | .var i, r, h => (match r[i]? with
    | some (some d) => .ok d h
    | _ => .bad)
  | .fnv f, _, h => .ok (.fn f) h
  | .glb g, _, h => ofV h (cl.g g)
  | .bin o a b, r, h => (ev cl a r h).bind fun x h => (ev cl b r h).bind fun y h => ofO (binD o x y h)
  | .neg a, r, h => (ev cl a r h).bind fun x h => ofV h (negD x)
  | .cmp o a b, r, h => (ev cl a r h).bind fun x h => (ev cl b r h).bind fun y h => ofV h ((cmpD o x y h).map D.bl)
  | .chn o p a b c, r, h => (ev cl a r h).bind fun x h => (ev cl b r h).bind fun y h => (match cmpD o x y h with
    | some true => (ev cl c r h).bind fun z h => ofV h ((cmpD p y z h).map D.bl)
    | some false => .ok (.bl false) h
    | none => .bad)
  | .chn3 o p q a b c d, r, h => (ev cl a r h).bind fun x h => (ev cl b r h).bind fun y h => (match cmpD o x y h with
    | some true => (ev cl c r h).bind fun z h => (match cmpD p y z h with
      | some true => (ev cl d r h).bind fun w h => ofV h ((cmpD q z w h).map D.bl)
      | some false => .ok (.bl false) h
      | none => .bad)
    | some false => .ok (.bl false) h
    | none => .bad)
  | .and es, r, h => evAnd cl es r h
  | .or es, r, h => evOr cl es r h
  | .not a, r, h => (ev cl a r h).bind fun x h => (match x with
    | .bl k => .ok (.bl (!k)) h
    | _ => .bad)
  | .ite c a b, r, h => (ev cl c r h).bind fun x h => (match x with
    | .bl true => ev cl a r h
    | .bl false => ev cl b r h
    | _ => .bad)
  | .cal f es, r, h => (evs cl es r h).bind fun ds h => cl.f f ds h
  | .cax fe es, r, h => (ev cl fe r h).bind fun x h => (match x with
    | .fn f => (evs cl es r h).bind fun ds h => cl.f f ds h
    | _ => .bad)
  | .blt b es, r, h => (evs cl es r h).bind fun ds h => ofO (bltD b ds h)
  | .isi t a, r, h => (ev cl a r h).bind fun x h => ofV h ((isiD t x h).map D.bl)
  | .mth m a es, r, h => (ev cl a r h).bind fun x h => if recvD m x h then (evs cl es r h).bind fun ds h => ofO (mthD m x ds h) else .bad
  | .tup es, r, h => (evs cl es r h).bind fun ds h => .ok (.tup ds) h
  | .lst es, r, h => (evs cl es r h).bind fun ds h => .ok (.loc h.nx) (h.new (.lst ds))
  | .dct, _, h => .ok (.loc h.nx) (h.new (.dct []))
  | .sub a i, r, h => (ev cl a r h).bind fun x h => (ev cl i r h).bind fun y h => ofV h (subD x y h)
  | .dget a i, r, h => (ev cl a r h).bind fun x h => (ev cl i r h).bind fun y h => ofV h (dgetD x y h)
  | .slc a lo hi, r, h => (ev cl a r h).bind fun x h => (evo cl lo r h).bind fun l h => (evo cl hi r h).bind fun u h => ofO (slcD x l u h)
  | .rev a, r, h => (ev cl a r h).bind fun x h => ofO (revD x h)
  | .lc own t k es c e, r, h => (evs cl es r h).bind fun ds h => (match iterD k ds h with
    | some (items, lk) => (compGo (fun x h => match asgT t x (wipeD r own) with
        | some r1 => (evc cl c r1 h).bind fun b h => if b then (ev cl e r1 h).bind fun y h => .ok (some y) h else .ok none h
        | none => .bad) items [] (lockH lk h)).bind fun acc h => .ok (.loc (unlockH lk h).nx) ((unlockH lk h).new (.lst acc))
    | none => .bad)
  | .fld a f, r, h => (ev cl a r h).bind fun x h => ofV h (fldD x f h)
  | .mcl m a es, r, h => (ev cl a r h).bind fun x h => (evs cl es r h).bind fun ds h => cl.f m (x :: ds) h
  | .mk es, r, h => (evs cl es r h).bind fun ds h => cl.mkc ds h
  | .oeq n a b, r, h => (ev cl a r h).bind fun x h => (ev cl b r h).bind fun y h => (cl.oeq x y h).bind fun z h => (match z with
    | .bl k => .ok (.bl (if n then !k else k)) h
    | _ => .bad)
  | .olen a, r, h => (ev cl a r h).bind fun x h => cl.olen x h
  | .ostr a, r, h => (ev cl a r h).bind fun x h => cl.ostr x h
def evs (cl : Cl) : Es → Env → Hh → R (List D)
  | .nil, _, h => .ok [] h
  | .cons e es, r, h => (ev cl e r h).bind fun x h => (evs cl es r h).bind fun xs h => .ok (x :: xs) h
def evAnd (cl : Cl) : Es → Env → Hh → R D
  | .nil, _, h => .ok (.bl true) h
  | .cons e es, r, h => (ev cl e r h).bind fun x h => (match x with
    | .bl true => evAnd cl es r h
    | .bl false => .ok (.bl false) h
    | _ => .bad)
def evOr (cl : Cl) : Es → Env → Hh → R D
  | .nil, _, h => .ok (.bl false) h
  | .cons e es, r, h => (ev cl e r h).bind fun x h => (match x with
    | .bl false => evOr cl es r h
    | .bl true => .ok (.bl true) h
    | _ => .bad)
def evo (cl : Cl) : Oe → Env → Hh → R (Option Int)
  | .none, _, h => .ok none h
  | .some e, r, h => (ev cl e r h).bind fun x h => (match x with
    | .int i => .ok (some i) h
    | _ => .bad)
def evc (cl : Cl) : Oe → Env → Hh → R Bool
  | .none, _, h => .ok true h
  | .some e, r, h => (ev cl e r h).bind fun x h => (match x with
    | .bl b => .ok b h
    | _ => .bad)
end

/-- the text of the errors' tuple -/
def raised : Str := Str.ofString "raised"
mutual
def ex (cl : Cl) : S → Env → Hh → SR
  | .asg i e, r, h => (ev cl e r h).thn fun x h => if i < r.length then .nx (r.set i (some x)) h else .bad
  | .unp is e, r, h => (ev cl e r h).thn fun x h => (match asgT (.tp is) x r with
    | some r1 => .nx r1 h
    | none => .bad)
  | .par is es, r, h => (evs cl es r h).thn fun xs h => (match asgL is xs r with
    | some r1 => .nx r1 h
    | none => .bad)
  | .sto o i e, r, h => (ev cl e r h).thn fun x h => (ev cl o r h).thn fun a h => (ev cl i r h).thn fun k h => (match stoD a k x h with
    | some h1 => .nx r h1
    | none => .bad)
  | .sto2 a i b j e f, r, h => (ev cl e r h).thn fun x h => (ev cl f r h).thn fun y h => (ev cl a r h).thn fun o h => (ev cl i r h).thn fun k h => (match stoD o k x h with
    | some h1 => (ev cl b r h1).thn fun p h => (ev cl j r h).thn fun l h => (match stoD p l y h with
      | some h2 => .nx r h2
      | none => .bad)
    | none => .bad)
  | .dput o i e, r, h => (ev cl e r h).thn fun x h => (ev cl o r h).thn fun a h => (ev cl i r h).thn fun k h => (match dputD a k x h with
    | some h1 => .nx r h1
    | none => .bad)
  | .aug i o e, r, h => (match r[i]? with
    | some (some x) => (ev cl e r h).thn fun y h => (match augD o x y with
      | some z => .nx (r.set i (some z)) h
      | none => .bad)
    | _ => .bad)
  | .aus a i o e, r, h => (ev cl a r h).thn fun p h => (ev cl i r h).thn fun k h => (match lgetD p k h with
    | some x => (ev cl e r h).thn fun y h => (match augD o x y with
      | some z => (match stoD p k z h with
        | some h2 => .nx r h2
        | none => .bad)
      | none => .bad)
    | none => .bad)
  | .exp e, r, h => (ev cl e r h).thn fun _ h => .nx r h
  | .ret e, r, h => (ev cl e r h).thn fun x h => .rt x h
  | .ife c a b, r, h => (ev cl c r h).thn fun x h => (match x with
    | .bl true => exs cl a r h
    | .bl false => exs cl b r h
    | _ => .bad)
  | .for t k es b, r, h => (evs cl es r h).thn fun ds h => (match iterD k ds h with
    | some (items, lk) => (match forGo (fun x r h => match asgT t x r with
        | some r1 => exs cl b r1 h
        | none => .bad) items r (lockH lk h) with
      | .nx r1 h1 => .nx r1 (unlockH lk h1)
      | .rt d h1 => .rt d (unlockH lk h1)
      | .ex c h1 => .ex c (unlockH lk h1)
      | .bad => .bad)
    | none => .bad)
  | .whi c b, r, h => whileGo (ev cl c) (exs cl b) wfuel r h
  | .rai c, _, h => .ex c h
  | .tryw i b, r, h => (match exs cl b r h with
    | .ex c h1 => if c < 10 ∧ i < r.length then .rt (.tup [.str raised, .int c]) h1 else .bad
    | s => s)
  | .fst o f e, r, h => (ev cl e r h).thn fun x h => (ev cl o r h).thn fun a h => (match fstD a f x h with
    | some h1 => .nx r h1
    | none => .bad)
def exs (cl : Cl) : Ss → Env → Hh → SR
  | .nil, r, h => .nx r h
  | .cons s ss, r, h => (ex cl s r h).thn fun r h => exs cl ss r h
end

/-! ### defs -/
structure Fd where
  np : Nat
  ns : Nat
  /-- it sees nothing of the store but the lists that it is given, which it only reads -/
  own : Bool
  body : Ss
structure Tab where
  fd : Nat → Option Fd
  g : Nat → Option D
  /-- methods: __init__, __eq__, __len__, __str__ -/
  ini : Nat
  eqm : Nat
  lenm : Nat
  strm : Nat
/-- an argument that may be handed to a def of its own store -/
inductive ArgP where
  | val (d : D)
  | lst (xs : List D)
inductive ResP where
  | val (d : D)
  | lst (xs : List D)
  | exc (c : Nat)
  | bad
def locsOf : List D → List Nat
  | [] => []
  | .loc a :: r => a :: locsOf r
  | _ :: r => locsOf r
/-- the arguments with the lists that stand behind them, at their new places -/
def impD : List D → Hh → Option (List ArgP)
  | [], _ => some []
  | .loc a :: r, h => if a ∈ locsOf r then none else (match h.get a, impD r h with
    | some (.lst xs), some ps => if pureL xs then some (.lst xs :: ps) else none
    | some (.ro xs), some ps => if pureL xs then some (.lst xs :: ps) else none
    | _, _ => none)
  | d :: r, h => (match impD r h with
    | some ps => if d.pure then some (.val d :: ps) else none
    | none => none)
def ArgP.d : ArgP → Nat → D
  | .val d, _ => d
  | .lst _, n => .loc n
/-- the new store: the lists at places 0, 1, .. -/
def layA : List ArgP → Nat → List D × List (Nat × O)
  | [], _ => ([], [])
  | .val d :: r, n => (d :: (layA r n).1, (layA r n).2)
  | .lst xs :: r, n => (.loc n :: (layA r (n + 1)).1, (n, .ro xs) :: (layA r (n + 1)).2)
def cntA : List ArgP → Nat
  | [] => 0
  | .val _ :: r => cntA r
  | .lst _ :: r => cntA r + 1
def stEnv (ns : Nat) (ds : List D) : Env := ds.map some ++ List.replicate (ns - ds.length) none
def expD (s : SR) : ResP := match s with
  | .rt d h => (match d with
    | .loc a => (match h.get a with
      | some (.lst xs) => if pureL xs then .lst xs else .bad
      | _ => .bad)
    | d => if d.pure then .val d else .bad)
  | .nx _ _ => .val .non
  | .ex c _ => .exc c
  | .bad => .bad
def ResP.r (p : ResP) (h : Hh) : R D := match p with
  | .val d => .ok d h
  | .lst xs => .ok (.loc h.nx) (h.new (.lst xs))
  | .exc c => .ex c h
  | .bad => .bad
def SR.r (s : SR) : R D := match s with
  | .rt d h => .ok d h
  | .nx _ h => .ok .non h
  | .ex c h => .ex c h
  | .bad => .bad
def runP (cl : Cl) (fd : Fd) (ps : List ArgP) : ResP :=
  if ps.length = fd.np then expD (exs cl fd.body (stEnv fd.ns (layA ps 0).1) ⟨cntA ps, (layA ps 0).2⟩) else .bad
def runG (cl : Cl) (fd : Fd) (ds : List D) (h : Hh) : R D :=
  if ds.length = fd.np then (exs cl fd.body (stEnv fd.ns ds) h).r else .bad
def clOf (T : Tab) : Nat → Cl
  | 0 => ⟨fun _ _ _ => .bad, T.g, fun _ _ => .bad, fun _ _ _ => .bad, fun _ _ => .bad, fun _ _ => .bad⟩
  | n + 1 =>
    let call : Nat → List D → Hh → R D := fun f ds h => match T.fd f with
      | some fd => if fd.own then (match impD ds h with
          | some ps => (runP (clOf T n) fd ps).r h
          | none => .bad) else runG (clOf T n) fd ds h
      | none => .bad
    ⟨call, T.g,
      fun ds h => (call T.ini (.loc h.nx :: ds) (h.new (.ins []))).bind fun _ h1 => .ok (.loc h.nx) h1,
      fun x y h => call T.eqm [x, y] h,
      fun x h => call T.lenm [x] h,
      fun x h => call T.strm [x] h⟩
def callF (T : Tab) (n f : Nat) (ds : List D) (h : Hh) : R D := (clOf T n).f f ds h
end Alb
set_option Elab.async false
set_option linter.all false
set_option maxRecDepth 100000
set_option maxHeartbeats 4000000
/-! The small evaluator's values and store over the hand layer's abstract heap. -/
namespace Alb
open PySem L2

/-- what stands where: the written part, the defs, the error classes, the own class, its fields' names -/
structure Sg where
  K : PySem.W.Frag
  fa : Nat → Option Addr
  ca : Nat → Option Addr
  C : Addr
  fnm : Nat → Str

/-- tuples and frozen things stay -/
structure Ext (H H' : Hp) : Prop where
  tups : ∀ a xs, H a = some (.tup xs) → H' a = some (.tup xs)
  frzs : ∀ a o u, H a = some (.frz o u) → H' a = some (.frz o u)
theorem Ext.refl (H : Hp) : Ext H H := ⟨fun _ _ h => h, fun _ _ _ h => h⟩
theorem Ext.trans {H H1 H2 : Hp} (a : Ext H H1) (b : Ext H1 H2) : Ext H H2 := ⟨fun x xs h => b.tups x xs (a.tups x xs h), fun x o u h => b.frzs x o u (a.frzs x o u h)⟩
theorem same_ext {H H' : Hp} (s : Same H H') : Ext H H' := ⟨fun a xs h => s a _ h, fun a o u h => s a _ h⟩
theorem same_fresh {H : Hp} {p : Addr} {o : HO} (h : H p = none) : Same H (upd H p o) := fun b u e => by
  rw [upd_ne (ne_of_none e h)]
  exact e
theorem same_rfl (H : Hp) : Same H H := fun _ _ h => h
theorem same_tr {H H1 H2 : Hp} (a : Same H H1) (b : Same H1 H2) : Same H H2 := fun x o h => b x o (a x o h)
theorem Ext.wr {H : Hp} {a : Addr} {o o' : HO} (h : H a = some o) (nt : ∀ xs, o ≠ .tup xs) (nf : ∀ ob u, o ≠ .frz ob u) : Ext H (upd H a o') := by
  refine ⟨fun b xs e => ?_, fun b ob u e => ?_⟩
  · have : b ≠ a := by
      rintro rfl
      rw [h] at e
      exact nt xs (Option.some.inj e)
    rw [upd_ne this]
    exact e
  · have : b ≠ a := by
      rintro rfl
      rw [h] at e
      exact nf ob u (Option.some.inj e)
    rw [upd_ne this]
    exact e
theorem Ext.sqT {K : PySem.W.Frag} {H H' : Hp} {a : Addr} {xs : List V} (e : Ext H H') (h : SqT K H a xs) : SqT K H' a xs := by
  rcases h with (h | ⟨o, h⟩) | h
  · exact .inl (.inl (e.tups _ _ h))
  · exact .inl (.inr ⟨o, e.frzs _ _ _ h⟩)
  · exact .inr h
/-- a list that never changes -/
def FzL (K : PySem.W.Frag) (H : Hp) (a : Addr) (xs : List V) : Prop :=
  (∃ o, H a = some (.frz o (.lst xs))) ∨
    ∃ (o : Obj) (its : Array Value) (n : Nat), K.lookup a = some o ∧ o.cls = .type "list" ∧ o.dict = none ∧ o.data = .seq its n ∧ its.size ≤ sizeLine ∧ Vals xs its.toList
theorem FzL.sq {K : PySem.W.Frag} {H : Hp} {a : Addr} {xs : List V} (h : FzL K H a xs) : SqL K H a xs := by
  rcases h with h | h
  · exact .inl (.inr h)
  · exact .inr h
theorem Ext.fzL {K : PySem.W.Frag} {H H' : Hp} {a : Addr} {xs : List V} (e : Ext H H') (h : FzL K H a xs) : FzL K H' a xs := by
  rcases h with ⟨o, h⟩ | h
  · exact .inl ⟨o, e.frzs _ _ _ h⟩
  · exact .inr h

mutual
inductive Rep (G : Sg) (φ : List Addr) (H : Hp) : D → V → Prop
  | non : Rep G φ H .non .non
  | bl (b : Bool) : Rep G φ H (.bl b) (.bl b)
  | int (i : Int) : Rep G φ H (.int i) (.int i)
  | str (x : Str) : Rep G φ H (.str x) (.str x)
  | tup {a : Addr} {xs : List V} {ds : List D} : SqT G.K H a xs → Reps G φ H ds xs → Rep G φ H (.tup ds) (.ref a)
  | loc {n : Nat} {a : Addr} : φ[n]? = some a → Rep G φ H (.loc n) (.ref a)
  | fn {f : Nat} {a : Addr} : G.fa f = some a → Rep G φ H (.fn f) (.ref a)
  | scr {a : Addr} {ns : List Int} : FzL G.K H a (ns.map V.int) → Rep G φ H (.scr ns) (.ref a)
inductive Reps (G : Sg) (φ : List Addr) (H : Hp) : List D → List V → Prop
  | nil : Reps G φ H [] []
  | cons {d : D} {v : V} {ds : List D} {vs : List V} : Rep G φ H d v → Reps G φ H ds vs → Reps G φ H (d :: ds) (v :: vs)
end
theorem pre_get {φ φ' : List Addr} (p : φ <+: φ') {n : Nat} {a : Addr} (h : φ[n]? = some a) : φ'[n]? = some a := by
  obtain ⟨t, rfl⟩ := p
  have hn : n < φ.length := by
    rw [List.getElem?_eq_some_iff] at h
    exact h.1
  rw [List.getElem?_append_left hn]
  exact h
mutual
theorem Rep.mono {G : Sg} {φ φ' : List Addr} {H H' : Hp} (p : φ <+: φ') (e : Ext H H') : ∀ {d : D} {v : V}, Rep G φ H d v → Rep G φ' H' d v
  | _, _, .non => .non
  | _, _, .bl b => .bl b
  | _, _, .int i => .int i
  | _, _, .str x => .str x
  | _, _, .tup s r => .tup (e.sqT s) (Reps.mono p e r)
  | _, _, .loc h => .loc (pre_get p h)
  | _, _, .fn h => .fn h
  | _, _, .scr h => .scr (e.fzL h)
theorem Reps.mono {G : Sg} {φ φ' : List Addr} {H H' : Hp} (p : φ <+: φ') (e : Ext H H') : ∀ {ds : List D} {vs : List V}, Reps G φ H ds vs → Reps G φ' H' ds vs
  | _, _, .nil => .nil
  | _, _, .cons r t => .cons (Rep.mono p e r) (Reps.mono p e t)
end
mutual
/-- a value without places is the same at any table of places -/
theorem Rep.pure {G : Sg} {φ φ' : List Addr} {H : Hp} : ∀ {d : D} {v : V}, d.pure = true → Rep G φ H d v → Rep G φ' H d v
  | _, _, _, .non => .non
  | _, _, _, .bl b => .bl b
  | _, _, _, .int i => .int i
  | _, _, _, .str x => .str x
  | _, _, q, .tup s r => .tup s (Reps.pure (by simpa [D.pure] using q) r)
  | _, _, q, .loc h => by simp [D.pure] at q
  | _, _, _, .fn h => .fn h
  | _, _, _, .scr h => .scr h
theorem Reps.pure {G : Sg} {φ φ' : List Addr} {H : Hp} : ∀ {ds : List D} {vs : List V}, pureL ds = true → Reps G φ H ds vs → Reps G φ' H ds vs
  | _, _, _, .nil => .nil
  | _, _, q, .cons r t => by
    simp only [pureL, Bool.and_eq_true] at q
    exact .cons (Rep.pure q.1 r) (Reps.pure q.2 t)
end
section
variable {G : Sg} {φ φ' : List Addr} {H H' : Hp}
theorem Reps.length : ∀ {ds : List D} {vs : List V}, Reps G φ H ds vs → ds.length = vs.length
  | _, _, .nil => rfl
  | _, _, .cons _ t => by simp [Reps.length t]
theorem Reps.get : ∀ {ds : List D} {vs : List V} {i : Nat} {d : D}, Reps G φ H ds vs → ds[i]? = some d → ∃ v, vs[i]? = some v ∧ Rep G φ H d v
  | _, _, _, _, .nil, e => by simp at e
  | _, _, 0, _, .cons r _, e => by
    simp at e
    subst e
    exact ⟨_, rfl, r⟩
  | _, _, i + 1, d, .cons _ t, e => by
    obtain ⟨v, h1, h2⟩ := Reps.get (i := i) (d := d) t (by simpa using e)
    exact ⟨v, by simpa using h1, h2⟩
theorem Reps.append : ∀ {ds es : List D} {vs ws : List V}, Reps G φ H ds vs → Reps G φ H es ws → Reps G φ H (ds ++ es) (vs ++ ws)
  | _, _, _, _, .nil, s => s
  | _, _, _, _, .cons r t, s => .cons r (Reps.append t s)
theorem Reps.set {d : D} {v : V} (r : Rep G φ H d v) : ∀ {ds : List D} {vs : List V} (i : Nat), Reps G φ H ds vs → Reps G φ H (ds.set i d) (vs.set i v)
  | _, _, _, .nil => .nil
  | _, _, 0, .cons _ t => .cons r t
  | _, _, i + 1, .cons q t => .cons q (Reps.set r i t)
theorem Reps.drop : ∀ {ds : List D} {vs : List V} (n : Nat), Reps G φ H ds vs → Reps G φ H (ds.drop n) (vs.drop n)
  | _, _, 0, r => r
  | _, _, _ + 1, .nil => .nil
  | _, _, n + 1, .cons _ t => Reps.drop n t
theorem Reps.take : ∀ {ds : List D} {vs : List V} (n : Nat), Reps G φ H ds vs → Reps G φ H (ds.take n) (vs.take n)
  | _, _, 0, _ => .nil
  | _, _, _ + 1, .nil => .nil
  | _, _, n + 1, .cons r t => .cons r (Reps.take n t)
theorem Reps.reverse {ds : List D} {vs : List V} (h : Reps G φ H ds vs) : Reps G φ H ds.reverse vs.reverse := by
  induction ds generalizing vs with
  | nil =>
    cases h
    exact .nil
  | cons d ds ih =>
    cases h with
    | cons r t =>
      rw [List.reverse_cons, List.reverse_cons]
      exact Reps.append (ih t) (.cons r .nil)
theorem Reps.rep {ds : List D} {vs : List V} (h : Reps G φ H ds vs) : ∀ k : Nat, Reps G φ H (List.replicate k ds).flatten (List.replicate k vs).flatten
  | 0 => .nil
  | k + 1 => by
    rw [List.replicate_succ, List.replicate_succ, List.flatten_cons, List.flatten_cons]
    exact Reps.append h (Reps.rep h k)
theorem Reps.ofInts : ∀ {ds : List D} {vs : List V} {ns : List Int}, Reps G φ H ds vs → intsD ds = some ns → vs = ns.map V.int
  | _, _, _, .nil, e => by
    simp [intsD] at e
    subst e
    rfl
  | _, _, _, .cons r t, e => by
    cases r with
    | int i =>
      simp only [intsD] at e
      split at e
      · rename_i is h
        cases e
        rw [Reps.ofInts t h]
        rfl
      · cases e
    | _ => simp [intsD] at e
theorem Reps.ofBls : ∀ {ds : List D} {vs : List V} {ns : List Bool}, Reps G φ H ds vs → blsD ds = some ns → vs = ns.map V.bl
  | _, _, _, .nil, e => by
    simp [blsD] at e
    subst e
    rfl
  | _, _, _, .cons r t, e => by
    cases r with
    | bl i =>
      simp only [blsD] at e
      split at e
      · rename_i is h
        cases e
        rw [Reps.ofBls t h]
        rfl
      · cases e
    | _ => simp [blsD] at e
theorem Reps.ofStrs : ∀ {ds : List D} {vs : List V} {ns : List Str}, Reps G φ H ds vs → strsD ds = some ns → vs = ns.map V.str
  | _, _, _, .nil, e => by
    simp [strsD] at e
    subst e
    rfl
  | _, _, _, .cons r t, e => by
    cases r with
    | str i =>
      simp only [strsD] at e
      split at e
      · rename_i is h
        cases e
        rw [Reps.ofStrs t h]
        rfl
      · cases e
    | _ => simp [strsD] at e
theorem Reps.intL : ∀ (ns : List Int), Reps G φ H (ns.map D.int) (ns.map V.int)
  | [] => .nil
  | n :: r => .cons (.int n) (Reps.intL r)
theorem Reps.strL : ∀ (ns : List Str), Reps G φ H (ns.map D.str) (ns.map V.str)
  | [] => .nil
  | n :: r => .cons (.str n) (Reps.strL r)
end

/-! ### the store -/
def FldR (G : Sg) (φ : List Addr) (H : Hp) : List (Nat × D) → List (Str × V) → Prop := Paired fun p q => q.1 = G.fnm p.1 ∧ Rep G φ H p.2 q.2
def DctR (G : Sg) (φ : List Addr) (H : Hp) : List (List Int × D) → List (List Key × V) → Prop := Paired fun p q => q.1 = p.1.map Sum.inl ∧ Rep G φ H p.2 q.2
def ObjR (G : Sg) (φ : List Addr) (H : Hp) (a : Addr) : O → Prop
  | .lst ds => ∃ vs, H a = some (.lst vs) ∧ Reps G φ H ds vs
  | .ro ds => ∃ vs, H a = some (.lst vs) ∧ Reps G φ H ds vs
  | .ins fs => ∃ dx vs, H a = some (.ins G.C dx vs) ∧ FldR G φ H fs vs
  | .dct kvs => ∃ ws, H a = some (.dT ws) ∧ DctR G φ H kvs ws
theorem pairs_imp {α β : Type} {F F' : α → β → Prop} (h : ∀ a b, F a b → F' a b) : ∀ {l : List α} {m : List β}, Paired F l m → Paired F' l m
  | _, _, .nil => .nil
  | _, _, .cons r t => .cons (h _ _ r) (pairs_imp h t)
theorem ObjR.mono {G : Sg} {φ φ' : List Addr} {H H' : Hp} {a : Addr} {o : O} (h : ObjR G φ H a o) (p : φ <+: φ') (e : Ext H H') (k : ∀ u, H a = some u → H' a = some u) : ObjR G φ' H' a o := by
  cases o with
  | lst ds =>
    obtain ⟨vs, h1, h2⟩ := h
    exact ⟨vs, k _ h1, h2.mono p e⟩
  | ro ds =>
    obtain ⟨vs, h1, h2⟩ := h
    exact ⟨vs, k _ h1, h2.mono p e⟩
  | ins fs =>
    obtain ⟨dx, vs, h1, h2⟩ := h
    exact ⟨dx, vs, k _ h1, pairs_imp (fun _ _ z => ⟨z.1, z.2.mono p e⟩) h2⟩
  | dct kvs =>
    obtain ⟨ws, h1, h2⟩ := h
    exact ⟨ws, k _ h1, pairs_imp (fun _ _ z => ⟨z.1, z.2.mono p e⟩) h2⟩
theorem ObjR.there {G : Sg} {φ : List Addr} {H : Hp} {a : Addr} {o : O} (h : ObjR G φ H a o) : ∃ u, H a = some u ∧ (∀ xs, u ≠ .tup xs) ∧ ∀ ob w, u ≠ .frz ob w := by
  cases o with
  | lst ds =>
    obtain ⟨vs, h1, h2⟩ := h
    exact ⟨_, h1, (fun _ z => nomatch z), (fun _ _ z => nomatch z)⟩
  | ro ds =>
    obtain ⟨vs, h1, h2⟩ := h
    exact ⟨_, h1, (fun _ z => nomatch z), (fun _ _ z => nomatch z)⟩
  | ins fs =>
    obtain ⟨dx, vs, h1, h2⟩ := h
    exact ⟨_, h1, (fun _ z => nomatch z), (fun _ _ z => nomatch z)⟩
  | dct kvs =>
    obtain ⟨ws, h1, h2⟩ := h
    exact ⟨_, h1, (fun _ z => nomatch z), (fun _ _ z => nomatch z)⟩
def O.isRo : O → Bool
  | .ro _ => true
  | _ => false
/-- what else is known and stays; bn: what no place of the store is -/
structure Hd where
  m : Hp
  bn : Addr → Prop
  ok : ∀ a, bn a → m a ≠ none
def Hd.add (d : Hd) (a : Addr) (o : HO) : Hd := ⟨upd d.m a o, d.bn, fun b h => by
  by_cases e : b = a
  · rw [e, upd_same]
    exact Option.some_ne_none _
  · rw [upd_ne e]
    exact d.ok b h⟩
def Hd.hide (d : Hd) (a : Addr) (o : HO) : Hd := ⟨upd d.m a o, fun b => b = a ∨ d.bn b, fun b h => by
  by_cases e : b = a
  · rw [e, upd_same]
    exact Option.some_ne_none _
  · rw [upd_ne e]
    exact d.ok b (h.resolve_left e)⟩
def Hd.of (H : Hp) : Hd := ⟨H, fun _ => False, fun _ h => h.elim⟩
/-- the store as it lies in the abstract heap; Hid: what else is known and stays -/
structure ST (G : Sg) (φ : List Addr) (Hid : Hd) (h : Hh) (H : Hp) : Prop where
  len : φ.length = h.nx
  live : ∀ i o, h.get i = some o → ∃ a, φ[i]? = some a ∧ ObjR G φ H a o
  inj : ∀ i j a o u, h.get i = some o → h.get j = some u → φ[i]? = some a → φ[j]? = some a → i = j
  hid : ∀ a o, Hid.m a = some o → H a = some o
  apart : ∀ a u i o, Hid.m a = some u → h.get i = some o → φ[i]? = some a → o.isRo = true
  ban : ∀ a i o, Hid.bn a → h.get i = some o → φ[i]? ≠ some a

theorem get_new (h : Hh) (o : O) (i : Nat) : (h.new o).get i = if i = h.nx then some o else h.get i := rfl
theorem getL_set (i j : Nat) (o : O) : ∀ l : List (Nat × O), getL j (setL i o l) = if j = i then (getL i l).map (fun _ => o) else getL j l
  | [] => by simp [getL, setL]
  | (k, p) :: r => by
    have ih := getL_set i j o r
    by_cases e : i = k
    · subst e
      by_cases e2 : j = i
      · subst e2
        simp [setL, getL]
      · simp [setL, getL, e2]
    · by_cases e2 : j = k
      · subst e2
        have : ¬ j = i := fun z => e z.symm
        simp [setL, getL, e, this]
      · simp [setL, getL, e, e2, ih]
theorem get_set (h : Hh) (i : Nat) (o : O) (j : Nat) : (h.set i o).get j = if j = i then (h.get i).map (fun _ => o) else h.get j := getL_set i j o h.ob
section
variable {G : Sg} {φ : List Addr} {Hid : Hd} {h : Hh} {H H' : Hp}
/-- more is known, nothing is changed -/
theorem ST.same (s : ST G φ Hid h H) (e : Same H H') : ST G φ Hid h H' :=
  ⟨s.len, fun i o g => let ⟨a, h1, h2⟩ := s.live i o g; ⟨a, h1, h2.mono (List.prefix_refl _) (same_ext e) fun u z => e a u z⟩, s.inj, fun a o z => e a o (s.hid a o z), s.apart, s.ban⟩
theorem ST.lt (s : ST G φ Hid h H) {i : Nat} {o : O} (g : h.get i = some o) : i < h.nx := by
  obtain ⟨a, h1, _⟩ := s.live i o g
  rw [List.getElem?_eq_some_iff] at h1
  rw [← s.len]
  exact h1.1
theorem ST.nofresh (s : ST G φ Hid h H) {p : Addr} (hp : H p = none) {i : Nat} {o : O} (g : h.get i = some o) : φ[i]? ≠ some p := fun z => by
  obtain ⟨a, h1, h2⟩ := s.live i o g
  rw [h1] at z
  cases z
  obtain ⟨u, h3, _⟩ := h2.there
  rw [hp] at h3
  cases h3
/-- a new object -/
theorem ST.newO {o : O} {u : HO} {p : Addr} (s : ST G φ Hid h H) (hp : H p = none) (n : ObjR G (φ ++ [p]) (upd H p u) p o) : ST G (φ ++ [p]) Hid (h.new o) (upd H p u) := by
  have e : Same H (upd H p u) := same_fresh hp
  have pre : φ <+: φ ++ [p] := List.prefix_append _ _
  have last : (φ ++ [p])[h.nx]? = some p := by
    rw [← s.len, List.getElem?_append_right (Nat.le_refl _)]
    simp
  refine ⟨by simp [s.len, Hh.new], fun i o' g => ?_, fun i j a o1 o2 g1 g2 e1 e2 => ?_, fun a w z => e a w (s.hid a w z), fun a w i o' z g e1 => ?_, fun a i o' hb g e1 => ?_⟩
  · rw [get_new] at g
    split at g
    · rename_i q
      subst q
      cases g
      exact ⟨p, last, n⟩
    · obtain ⟨a, h1, h2⟩ := s.live i o' g
      exact ⟨a, pre_get pre h1, h2.mono pre (same_ext e) fun w z => e a w z⟩
  · rw [get_new] at g1 g2
    split at g1
    · rename_i q1
      split at g2
      · rename_i q2
        rw [q1, q2]
      · rename_i q2
        exfalso
        obtain ⟨b, h1, h2⟩ := s.live j o2 g2
        rw [q1, last] at e1
        cases e1
        rw [pre_get pre h1] at e2
        cases e2
        exact s.nofresh hp g2 h1
    · rename_i q1
      split at g2
      · rename_i q2
        exfalso
        obtain ⟨b, h1, h2⟩ := s.live i o1 g1
        rw [q2, last] at e2
        cases e2
        rw [pre_get pre h1] at e1
        cases e1
        exact s.nofresh hp g1 h1
      · obtain ⟨b, h1, _⟩ := s.live i o1 g1
        obtain ⟨c, h2, _⟩ := s.live j o2 g2
        rw [pre_get pre h1] at e1
        rw [pre_get pre h2] at e2
        cases e1
        cases e2
        exact s.inj i j _ o1 o2 g1 g2 h1 h2
  · rw [get_new] at g
    split at g
    · rename_i q
      rw [q, last] at e1
      cases e1
      rw [s.hid _ _ z] at hp
      cases hp
    · obtain ⟨b, h1, _⟩ := s.live i o' g
      rw [pre_get pre h1] at e1
      cases e1
      exact s.apart _ w i o' z g h1
  · rw [get_new] at g
    split at g
    · rename_i q
      rw [q, last] at e1
      cases e1
      cases z : Hid.m p with
      | none => exact Hid.ok p hb z
      | some w =>
        rw [s.hid _ _ z] at hp
        cases hp
    · obtain ⟨b, h1, _⟩ := s.live i o' g
      rw [pre_get pre h1] at e1
      cases e1
      exact s.ban _ i o' hb g h1
theorem ST.newL {ds : List D} {vs : List V} {p : Addr} (s : ST G φ Hid h H) (hp : H p = none) (r : Reps G φ H ds vs) : ST G (φ ++ [p]) Hid (h.new (.lst ds)) (upd H p (.lst vs)) :=
  s.newO hp ⟨vs, upd_same, r.mono (List.prefix_append _ _) (same_ext (same_fresh hp))⟩
theorem ST.newRep {p : Addr} (s : ST G φ Hid h H) : Rep G (φ ++ [p]) H' (.loc h.nx) (.ref p) := .loc (by
  rw [← s.len, List.getElem?_append_right (Nat.le_refl _)]
  simp)
/-- an object is written -/
theorem ST.setO {o o' : O} {u : HO} {a : Addr} {i : Nat} (s : ST G φ Hid h H) (g : h.get i = some o) (nr : o.isRo = false) (ha : φ[i]? = some a) (n : ObjR G φ (upd H a u) a o') : ST G φ Hid (h.set i o') (upd H a u) ∧ Ext H (upd H a u) := by
  obtain ⟨b, h1, h2⟩ := s.live i o g
  rw [ha] at h1
  cases h1
  obtain ⟨w, h3, nt, nf⟩ := h2.there
  have e : Ext H (upd H a u) := Ext.wr h3 nt nf
  have other : ∀ j p c, h.get j = some p → φ[j]? = some c → j ≠ i → c ≠ a := fun j p c gj ej ne z => by
    subst z
    exact ne (s.inj j i c p o gj g ej ha)
  refine ⟨⟨s.len, fun j p gj => ?_, fun j k c p q gj gk ej ek => ?_, fun c w' z => ?_, fun c w' j p z gj ej => ?_, fun c j p hb gj ej => ?_⟩, e⟩
  · rw [get_set] at gj
    split at gj
    · rename_i q
      subst q
      rw [g] at gj
      cases gj
      exact ⟨a, ha, n⟩
    · rename_i q
      obtain ⟨c, h4, h5⟩ := s.live j p gj
      refine ⟨c, h4, h5.mono (List.prefix_refl _) e fun w' z => ?_⟩
      rw [upd_ne (other j p c gj h4 q)]
      exact z
  · have back : ∀ {j : Nat} {p : O}, (h.set i o').get j = some p → ∃ p', h.get j = some p' := fun {j p} gj => by
      rw [get_set] at gj
      split at gj
      · rename_i q
        rw [q]
        exact ⟨o, g⟩
      · exact ⟨p, gj⟩
    obtain ⟨p', gp⟩ := back gj
    obtain ⟨q', gq⟩ := back gk
    exact s.inj j k c p' q' gp gq ej ek
  · have : c ≠ a := fun z' => by
      subst z'
      have := s.apart c w' i o z g ha
      rw [nr] at this
      cases this
    rw [upd_ne this]
    exact s.hid c w' z
  · rw [get_set] at gj
    split at gj
    · rename_i q
      subst q
      rw [ha] at ej
      cases ej
      have := s.apart a w' j o z g ha
      rw [nr] at this
      cases this
    · exact s.apart c w' j p z gj ej
  · rw [get_set] at gj
    split at gj
    · rename_i q
      subst q
      exact s.ban c j o hb g ej
    · exact s.ban c j p hb gj ej
theorem ST.setL {ds ds' : List D} {vs' : List V} {a : Addr} {i : Nat} (s : ST G φ Hid h H) (g : h.get i = some (.lst ds)) (ha : φ[i]? = some a) (r : Reps G φ H ds' vs') :
    ST G φ Hid (h.set i (.lst ds')) (upd H a (.lst vs')) ∧ Ext H (upd H a (.lst vs')) := by
  obtain ⟨b, h1, vs, h2, _⟩ := s.live i _ g
  rw [ha] at h1
  cases h1
  have e : Ext H (upd H a (.lst vs')) := Ext.wr h2 (fun _ z => nomatch z) (fun _ _ z => nomatch z)
  exact s.setO g rfl ha ⟨vs', upd_same, r.mono (List.prefix_refl _) e⟩
/-- a list is only read from here on: what it holds is known to stay -/
theorem ST.lock {ds : List D} {a : Addr} {i : Nat} (s : ST G φ Hid h H) (g : h.get i = some (.lst ds)) (ha : φ[i]? = some a) :
    ∃ vs, H a = some (.lst vs) ∧ Reps G φ H ds vs ∧ Hid.m a = none ∧ ST G φ (Hid.add a (.lst vs)) (h.set i (.ro ds)) H := by
  obtain ⟨b, h1, vs, h2, r⟩ := s.live i _ g
  rw [ha] at h1
  cases h1
  have hn : Hid.m a = none := by
    cases q : Hid.m a with
    | none => rfl
    | some w =>
      have := s.apart a w i _ q g ha
      cases this
  refine ⟨vs, h2, r, hn, s.len, fun j p gj => ?_, fun j k c p q gj gk ej ek => ?_, fun c w z => ?_, fun c w j p z gj ej => ?_, fun c j p hb gj ej => ?_⟩
  · rw [get_set] at gj
    split at gj
    · rename_i q
      subst q
      rw [g] at gj
      cases gj
      exact ⟨a, ha, vs, h2, r⟩
    · exact s.live j p gj
  · have back : ∀ {j : Nat} {p : O}, (h.set i (.ro ds)).get j = some p → ∃ p', h.get j = some p' := fun {j p} gj => by
      rw [get_set] at gj
      split at gj
      · rename_i q
        rw [q]
        exact ⟨_, g⟩
      · exact ⟨p, gj⟩
    obtain ⟨p', gp⟩ := back gj
    obtain ⟨q', gq⟩ := back gk
    exact s.inj j k c p' q' gp gq ej ek
  · have z : upd Hid.m a (.lst vs) c = some w := z
    by_cases e : c = a
    · subst e
      rw [upd_same] at z
      cases z
      exact h2
    · rw [upd_ne e] at z
      exact s.hid c w z
  · have z : upd Hid.m a (.lst vs) c = some w := z
    rw [get_set] at gj
    split at gj
    · rename_i q
      subst q
      rw [g] at gj
      cases gj
      rfl
    · rename_i q
      by_cases e : c = a
      · subst e
        exact absurd (s.inj j i c p _ gj g ej ha) q
      · rw [upd_ne e] at z
        exact s.apart c w j p z gj ej
  · rw [get_set] at gj
    split at gj
    · rename_i q
      subst q
      exact s.ban c j _ hb g ej
    · exact s.ban c j p hb gj ej
theorem ST.unlock {ds : List D} {vs : List V} {a : Addr} {i : Nat} (s : ST G φ (Hid.add a (.lst vs)) h H) (hn : Hid.m a = none) (ha : φ[i]? = some a) (r : Reps G φ H ds vs) : ST G φ Hid (h.set i (.lst ds)) H := by
  have h2 : H a = some (.lst vs) := s.hid a _ upd_same
  have back : ∀ {j : Nat} {p : O}, (h.set i (.lst ds)).get j = some p → ∃ p', h.get j = some p' := fun {j p} gj => by
    rw [get_set] at gj
    split at gj
    · rename_i q
      subst q
      cases g : h.get j with
      | none =>
        rw [g] at gj
        cases gj
      | some u => exact ⟨u, rfl⟩
    · exact ⟨p, gj⟩
  refine ⟨s.len, fun j p gj => ?_, fun j k c p q gj gk ej ek => ?_, fun c w z => s.hid c w ?_, fun c w j p z gj ej => ?_, fun c j p hb gj ej => ?_⟩
  · obtain ⟨p', gp⟩ := back gj
    rw [get_set] at gj
    split at gj
    · rename_i q
      subst q
      rw [gp] at gj
      cases gj
      exact ⟨a, ha, vs, h2, r⟩
    · exact s.live j p gj
  · obtain ⟨p', gp⟩ := back gj
    obtain ⟨q', gq⟩ := back gk
    exact s.inj j k c p' q' gp gq ej ek
  · have : c ≠ a := by
      rintro rfl
      rw [hn] at z
      cases z
    show upd Hid.m a (.lst vs) c = some w
    rw [upd_ne this]
    exact z
  · have ca : c ≠ a := by
      rintro rfl
      rw [hn] at z
      cases z
    have z' : (Hid.add a (.lst vs)).m c = some w := by
      show upd Hid.m a (.lst vs) c = some w
      rw [upd_ne ca]
      exact z
    rw [get_set] at gj
    split at gj
    · rename_i q
      subst q
      rw [ha] at ej
      cases ej
      exact absurd rfl ca
    · exact s.apart c w j p z' gj ej
  · obtain ⟨p', gp⟩ := back gj
    exact s.ban c j p' hb gp ej
end

/-! ### slots -/
structure EnvR (G : Sg) (φ : List Addr) (H : Hp) (r : Env) (σ : L2.St) : Prop where
  len : r.length = σ.length
  at_ : ∀ (i : Nat) (d : D), r[i]? = some (some d) → ∃ v, σ[i]? = some (some v) ∧ Rep G φ H d v
section
variable {G : Sg} {φ φ' : List Addr} {H H' : Hp} {r : Env} {σ : L2.St}
theorem EnvR.mono (e : EnvR G φ H r σ) (p : φ <+: φ') (x : Ext H H') : EnvR G φ' H' r σ :=
  ⟨e.len, fun i d h => let ⟨v, h1, h2⟩ := e.at_ i d h; ⟨v, h1, h2.mono p x⟩⟩
theorem EnvR.set (e : EnvR G φ H r σ) (i : Nat) {d : D} {v : V} (rv : Rep G φ H d v) : EnvR G φ H (r.set i (some d)) (σ.set i (some v)) := by
  refine ⟨by simp [e.len], fun j f h => ?_⟩
  by_cases q : i = j
  · subst q
    by_cases lt : i < r.length
    · rw [List.getElem?_set_self lt] at h
      cases h
      exact ⟨v, by rw [List.getElem?_set_self (by rw [← e.len]; exact lt)], rv⟩
    · rw [List.getElem?_eq_none (by simpa using lt)] at h
      cases h
  · rw [List.getElem?_set_ne q] at h
    obtain ⟨w, h1, h2⟩ := e.at_ j f h
    exact ⟨w, by rw [List.getElem?_set_ne q]; exact h1, h2⟩
theorem EnvR.setNone (e : EnvR G φ H r σ) (i : Nat) : EnvR G φ H (r.set i none) (σ.set i none) := by
  refine ⟨by simp [e.len], fun j f h => ?_⟩
  by_cases q : i = j
  · subst q
    by_cases lt : i < r.length
    · rw [List.getElem?_set_self lt] at h
      cases h
    · rw [List.getElem?_eq_none (by simpa using lt)] at h
      cases h
  · rw [List.getElem?_set_ne q] at h
    obtain ⟨w, h1, h2⟩ := e.at_ j f h
    exact ⟨w, by rw [List.getElem?_set_ne q]; exact h1, h2⟩
theorem EnvR.wipe (e : EnvR G φ H r σ) : ∀ vs : List Nat, EnvR G φ H (wipeD r vs) (L2.wipe σ vs)
  | [] => e
  | v :: vs => (EnvR.wipe e vs).setNone v
theorem wipeD_length (r : Env) : ∀ vs : List Nat, (wipeD r vs).length = r.length
  | [] => rfl
  | v :: vs => by
    unfold wipeD
    rw [List.length_set, wipeD_length r vs]
theorem EnvR.asgL : ∀ {is : List Nat} {ds : List D} {vs : List V} {r r1 : Env} {σ : L2.St}, EnvR G φ H r σ → Reps G φ H ds vs → asgL is ds r = some r1 → is.length = vs.length
  | [], [], _, _, _, _, _, rp, _ => by
    cases rp
    rfl
  | i :: is, d :: ds, _, r, r1, σ, e, rp, h => by
    cases rp with
    | cons q t =>
      simp only [Alb.asgL] at h
      split at h
      · simp [EnvR.asgL (e.set i q) t h]
      · cases h
  | [], d :: ds, _, _, _, _, _, _, h => by simp [Alb.asgL] at h
  | i :: is, [], _, _, _, _, _, _, h => by simp [Alb.asgL] at h
end
end Alb
set_option Elab.async false
set_option linter.all false
set_option maxRecDepth 100000
set_option maxHeartbeats 4000000
/-! Operations on values: the evaluator's against the hand layer's. -/
namespace Alb
open PySem L2

/-- what follows: d stands at v, the store is h' -/
def Post (G : Sg) (Hid : Hd) (φ : List Addr) (H : Hp) (h' : Hh) (d : D) (Q : VK) : Prop :=
  ∀ φ' H' v, φ <+: φ' → ST G φ' Hid h' H' → Rep G φ' H' d v → Ext H H' → Q v H'
section
variable {G : Sg} {φ : List Addr} {Hid : Hd} {h h' : Hh} {H : Hp} {Q : VK} {d : D} {v : V}
theorem Post.now (p : Post G Hid φ H h d Q) (s : ST G φ Hid h H) (r : Rep G φ H d v) : Q v H := p φ H v (List.prefix_refl _) s r (Ext.refl H)
theorem Post.new {ds : List D} {vs : List V} (p : Post G Hid φ H (h.new (.lst ds)) (.loc h.nx) Q) (s : ST G φ Hid h H) (r : Reps G φ H ds vs) {q : Addr} (hq : H q = none) : Q (.ref q) (upd H q (.lst vs)) :=
  p _ _ _ (List.prefix_append _ _) (s.newL hq r) s.newRep (same_ext (same_fresh hq))
theorem Post.newT {ds : List D} {vs : List V} (p : Post G Hid φ H h (.tup ds) Q) (s : ST G φ Hid h H) (r : Reps G φ H ds vs) {q : Addr} (hq : H q = none) : Q (.ref q) (upd H q (.tup vs)) :=
  p _ _ _ (List.prefix_refl _) (s.same (same_fresh hq)) (.tup (.inl (.inl upd_same)) (r.mono (List.prefix_refl _) (same_ext (same_fresh hq)))) (same_ext (same_fresh hq))
end
theorem lim_le {n : Nat} (h : n ≤ lim) : n ≤ sizeLine := Nat.le_trans h (by decide)
theorem lim_lt {n : Nat} (h : n < lim) : n < sizeLine := Nat.lt_of_lt_of_le h (by decide)

/-- an operation on two values -/
def P2 (G : Sg) (p : D → D → Hh → Option (D × Hh)) : R2 := fun x y H Q => ∃ Hid φ h d e z h', ST G φ Hid h H ∧ Rep G φ H d x ∧ Rep G φ H e y ∧ p d e h = some (z, h') ∧ Post G Hid φ H h' z Q
/-- a comparison -/
def P2B (G : Sg) (p : D → D → Hh → Option Bool) : R2 := fun x y H Q => ∃ Hid φ h d e k, ST G φ Hid h H ∧ Rep G φ H d x ∧ Rep G φ H e y ∧ p d e h = some k ∧ Q (.bl k) H
/-- an operation that leaves the store -/
def P2V (G : Sg) (p : D → D → Hh → Option D) : R2 := fun x y H Q => ∃ Hid φ h d e z, ST G φ Hid h H ∧ Rep G φ H d x ∧ Rep G φ H e y ∧ p d e h = some z ∧ Post G Hid φ H h z Q
def P1V (G : Sg) (p : D → Option D) : V → Hp → VK → Prop := fun x H Q => ∃ Hid φ h d z, ST G φ Hid h H ∧ Rep G φ H d x ∧ p d = some z ∧ Post G Hid φ H h z Q
/-- a call on values -/
def PL (G : Sg) (p : List D → Hh → Option (D × Hh)) : List V → Hp → VK → Prop := fun xs H Q => ∃ Hid φ h ds z h', ST G φ Hid h H ∧ Reps G φ H ds xs ∧ p ds h = some (z, h') ∧ Post G Hid φ H h' z Q
/-- a method on values -/
def PM (G : Sg) (p : D → List D → Hh → Option (D × Hh)) : V → List V → Hp → VK → Prop := fun x xs H Q => ∃ Hid φ h d ds z h', ST G φ Hid h H ∧ Rep G φ H d x ∧ Reps G φ H ds xs ∧ p d ds h = some (z, h') ∧ Post G Hid φ H h' z Q

/-! ### binary operators -/
section
variable {X : Cx} {G : Sg}
theorem lst_of {φ : List Addr} {Hid : Hd} {h : Hh} {H : Hp} {a : Nat} {ds : List D} {x : V} (s : ST G φ Hid h H) (g : h.get a = some (.lst ds)) (r : Rep G φ H (.loc a) x) : ∃ p vs, x = .ref p ∧ φ[a]? = some p ∧ H p = some (.lst vs) ∧ Reps G φ H ds vs := by
  cases r with
  | loc e =>
    obtain ⟨p, h1, vs, h2, h3⟩ := s.live _ _ g
    rw [e] at h1
    cases h1
    exact ⟨_, vs, rfl, e, h2, h3⟩
theorem ro_of {φ : List Addr} {Hid : Hd} {h : Hh} {H : Hp} {a : Nat} {ds : List D} {x : V} (s : ST G φ Hid h H) (g : h.get a = some (.ro ds)) (r : Rep G φ H (.loc a) x) : ∃ p vs, x = .ref p ∧ φ[a]? = some p ∧ H p = some (.lst vs) ∧ Reps G φ H ds vs := by
  cases r with
  | loc e =>
    obtain ⟨p, h1, vs, h2, h3⟩ := s.live _ _ g
    rw [e] at h1
    cases h1
    exact ⟨_, vs, rfl, e, h2, h3⟩
theorem items_of {φ : List Addr} {Hid : Hd} {h : Hh} {H : Hp} {d : D} {ds : List D} {x : V} (s : ST G φ Hid h H) (g : itemsD d h = some ds) (r : Rep G φ H d x) : ∃ p vs, x = .ref p ∧ Reps G φ H ds vs ∧ (SqL G.K H p vs ∨ SqT G.K H p vs) := by
  cases d with
  | tup xs =>
    cases g
    cases r with
    | tup q t => exact ⟨_, _, rfl, t, .inr q⟩
  | scr ns =>
    cases g
    cases r with
    | scr q => exact ⟨_, _, rfl, Reps.intL ns, .inl q.sq⟩
  | loc a =>
    simp only [itemsD] at g
    split at g
    · rename_i xs e
      cases g
      obtain ⟨p, vs, h1, _, h2, h3⟩ := lst_of s e r
      exact ⟨p, vs, h1, h3, .inl (SqL.of h2)⟩
    · rename_i xs e
      cases g
      obtain ⟨p, vs, h1, _, h2, h3⟩ := ro_of s e r
      exact ⟨p, vs, h1, h3, .inl (SqL.of h2)⟩
    · cases g
  | _ => simp [itemsD] at g
theorem big_lt {i : Int} (h : i.natAbs < big64) : -(2 ^ 64) < i ∧ i < 2 ^ 64 := by
  have e : big64 = 18446744073709551616 := rfl
  rw [e] at h
  have e2 : (2 : Int) ^ 64 = 18446744073709551616 := by decide
  rw [e2]
  omega
theorem pr_add (hK : X.K = G.K) : OpR X (binaryOp .Add) (P2 G (binD .add)) := by
  intro pins s σ H x y v u Q I rx ry ⟨Hid, φ, h, d, e, z, h', S, rd, re, hp, po⟩
  cases d <;> cases e <;> try (simp [binD] at hp; done)
  · rename_i i j
    simp only [binD, Option.some.injEq, Prod.mk.injEq] at hp
    obtain ⟨rfl, rfl⟩ := hp
    cases rd
    cases re
    exact op_add pins s σ H _ _ v u Q I rx ry ⟨i, j, rfl, rfl, po.now S (.int _)⟩
  · rename_i i j
    simp only [binD] at hp
    split at hp
    · rename_i hl
      cases hp
      cases rd
      cases re
      exact op_add_str pins s σ H _ _ v u Q I rx ry ⟨i, j, rfl, rfl, lim_le hl, po.now S (.str _)⟩
    · cases hp
  · rename_i i j
    simp only [binD] at hp
    split at hp
    · rename_i hl
      cases hp
      cases rd with
      | @tup a xs _ qa ta =>
        cases re with
        | @tup b ys _ qb tb =>
          have l1 := ta.length
          have l2 := tb.length
          refine op_catA pins s σ H _ _ v u Q I rx ry ⟨a, b, xs, ys, rfl, rfl, hK ▸ qa, hK ▸ qb, lim_le (by omega), fun e => ?_, fun _ e => ?_, fun _ _ p hp => po.newT S (Reps.append ta tb) hp⟩
          · subst e
            cases ta
            exact po.now S (.tup qb tb)
          · subst e
            cases tb
            rw [List.append_nil] at po
            exact po.now S (.tup qa ta)
    · cases hp
  · rename_i i j
    simp only [binD] at hp
    split at hp
    · rename_i xs ys g1 g2
      split at hp
      · rename_i hl
        cases hp
        obtain ⟨p, vs, rfl, _, hp1, r1⟩ := lst_of S g1 rd
        obtain ⟨q, ws, rfl, _, hq1, r2⟩ := lst_of S g2 re
        have l1 := r1.length
        have l2 := r2.length
        exact op_cat pins s σ H _ _ v u Q I rx ry ⟨p, q, vs, ws, rfl, rfl, hp1, hq1, lim_le (by omega), fun t ht => po.new S (Reps.append r1 r2) ht⟩
      · cases hp
    · cases hp
theorem pr_sub : OpR X (binaryOp .Sub) (P2 G (binD .sub)) := by
  intro pins s σ H x y v u Q I rx ry ⟨Hid, φ, h, d, e, z, h', S, rd, re, hp, po⟩
  cases d <;> cases e <;> try (simp [binD] at hp; done)
  rename_i i j
  simp only [binD, Option.some.injEq, Prod.mk.injEq] at hp
  obtain ⟨rfl, rfl⟩ := hp
  cases rd
  cases re
  exact op_sub pins s σ H _ _ v u Q I rx ry ⟨i, j, rfl, rfl, po.now S (.int _)⟩
theorem pr_fdiv : OpR X (binaryOp .FloorDiv) (P2 G (binD .fdiv)) := by
  intro pins s σ H x y v u Q I rx ry ⟨Hid, φ, h, d, e, z, h', S, rd, re, hp, po⟩
  cases d <;> cases e <;> try (simp [binD] at hp; done)
  rename_i i j
  simp only [binD] at hp
  split at hp
  · rename_i hd
    cases hp
    cases rd
    cases re
    simp only [divOk, Bool.and_eq_true, decide_eq_true_eq] at hd
    exact op_fdivW pins s σ H _ _ v u Q I rx ry ⟨i, j, rfl, rfl, hd, po.now S (.int _)⟩
  · cases hp
theorem pr_mod : OpR X (binaryOp .Mod) (P2 G (binD .mod)) := by
  intro pins s σ H x y v u Q I rx ry ⟨Hid, φ, h, d, e, z, h', S, rd, re, hp, po⟩
  cases d <;> cases e <;> try (simp [binD] at hp; done)
  rename_i i j
  simp only [binD] at hp
  split at hp
  · rename_i hd
    cases hp
    cases rd
    cases re
    exact op_mod pins s σ H _ _ v u Q I rx ry ⟨i, j, rfl, rfl, hd, po.now S (.int _)⟩
  · cases hp
theorem pr_pow : OpR X (binaryOp .Pow) (P2 G (binD .pow)) := by
  intro pins s σ H x y v u Q I rx ry ⟨Hid, φ, h, d, e, z, h', S, rd, re, hp, po⟩
  cases d <;> cases e <;> try (simp [binD] at hp; done)
  rename_i i j
  simp only [binD] at hp
  split at hp
  · rename_i hd
    cases hp
    cases rd
    cases re
    refine op_pow pins s σ H _ _ v u Q I rx ry ⟨i, j, rfl, rfl, ⟨hd.1, by omega, ?_⟩, po.now S (.int _)⟩
    have e : big64 = 2 ^ 64 := by decide
    rw [← e]
    exact hd.2.2
  · cases hp
end
end Alb
set_option Elab.async false
set_option linter.all false
set_option maxRecDepth 100000
set_option maxHeartbeats 4000000
namespace Alb
open PySem PySem.Spec PyProof.Rows L2
theorem tuple_mul1 (l : Addr) (items : Array Value) (n : Nat) (dd : Option Addr) (sl : Array (Option Value)) (x : Int) (u : Tok) (c0 : (decide (x < -(2 ^ 63)) || decide (x ≥ 2 ^ 63)) = false) (c1 : (items.isEmpty || x == 1) = true) :
    Meets (Builtin.«tuple.__mul__» ⟨[.ref l, .int x u], []⟩) (fun _ R s => s.heap.get? l = some { cls := .type "tuple", dict := dd, data := .seq items n, slots := sl } ∧ R (.ok (.ret (Value.ref l))) s) :=
  .of_wp fun prog w A R s h => by
    obtain ⟨hp, g, d, tk, os⟩ := s
    obtain ⟨hl, h⟩ := h
    have f1 := AutoSeq1.idx_int
    wp_walk using wpAny_loadPart' hl
    repeat (first
      | (refine wpAny_ite_false (decide_eq_false (by rw [c0]; exact Bool.false_ne_true)) ?_; wp_walk using wpAny_loadPart' hl)
      | (refine wpAny_ite_true (decide_eq_true c1) ?_; wp_walk using wpAny_loadPart' hl))
    exact ⟨_, rfl, h⟩
theorem tuple_mul0 (l : Addr) (items : Array Value) (n : Nat) (dd : Option Addr) (sl : Array (Option Value)) (x : Int) (u : Tok) (c0 : (decide (x < -(2 ^ 63)) || decide (x ≥ 2 ^ 63)) = false) (c1 : (items.isEmpty || x == 1) = false) (c2 : (decide (x ≤ 0) || items.isEmpty) = true) :
    Meets (Builtin.«tuple.__mul__» ⟨[.ref l, .int x u], []⟩) (fun _ R s => s.heap.get? l = some { cls := .type "tuple", dict := dd, data := .seq items n, slots := sl } ∧
      R (.ok (.ret (Value.ref s.heap.objs.size))) { s with heap := s.heap.push { cls := Value.type "tuple", data := Data.seq #[] }, toks := s.toks }) :=
  .of_wp fun prog w A R s h => by
    obtain ⟨hp, g, d, tk, os⟩ := s
    obtain ⟨hl, h⟩ := h
    have f1 := AutoSeq1.idx_int
    wp_walk using wpAny_loadPart' hl
    repeat (first
      | (refine wpAny_ite_false (decide_eq_false (by rw [c0]; exact Bool.false_ne_true)) ?_; wp_walk using wpAny_loadPart' hl)
      | (refine wpAny_ite_false (decide_eq_false (by rw [c1]; exact Bool.false_ne_true)) ?_; wp_walk using wpAny_loadPart' hl)
      | (refine wpAny_ite_true (decide_eq_true c2) ?_; wp_walk using wpAny_loadPart' hl))
    exact ⟨_, rfl, h⟩

section
variable {X : Cx} {G : Sg}
/-- a tuple once: itself; never: the empty one -/
def rRep1 (K : PySem.W.Frag) : R2 := fun x y H Q => ∃ l xs, x = .ref l ∧ y = .int 1 ∧ SqT K H l xs ∧ Q (.ref l) H
def rRep0 (K : PySem.W.Frag) : R2 := fun x y H Q => ∃ l k xs, x = .ref l ∧ y = .int k ∧ SqT K H l xs ∧ xs ≠ [] ∧ k ≤ 0 ∧ -(2 ^ 63) ≤ k ∧ ∀ p, H p = none → Q (.ref p) (upd H p (.tup []))
theorem op_rep1 : OpR X (binaryOp .Mult) (rRep1 X.K) := by
  intro pins s σ H x y v u Q I rx ry h
  obtain ⟨l, xs, rfl, rfl, hT, q⟩ := h
  cases rx
  obtain ⟨t, rfl⟩ := ry
  obtain ⟨its, r, ⟨⟨cls, dd, data, sl⟩, ho, hc, n, hd⟩, hs⟩ := I.tuple hT
  simp only at hc hd
  subst hc hd
  exact wpAny_binaryOp_repeat_ref (T := "tuple") (U := "int") (by decide) ⟨_, ho, rfl⟩ (fun s' => typeIs_int s' 1 t) noFill_tuple_mul F.fills_int_mul F.slot_int_rmul repeat_tuple F.slot_int_index.lookup
    (call_meets F.slot_int_rmul (typeIs_int s 1 t) F.entry_int_rmul (F.args_int_rmul_2 _ _) (int_rmul_tuple 1 t l its.toArray n dd sl)
      ⟨ho, rfl, ⟨_, ho, rfl⟩, call_meets F.slot_tuple_mul ⟨_, ho, rfl⟩ F.entry_tuple_mul (F.args_tuple_mul_2 _ _) (tuple_mul1 l its.toArray n dd sl 1 t (by decide) (by simp)) ⟨ho, ⟨.ref l, H, I, rfl, q⟩⟩⟩)
theorem op_rep0 : OpR X (binaryOp .Mult) (rRep0 X.K) := by
  intro pins s σ H x y v u Q I rx ry h
  obtain ⟨l, k, xs, rfl, rfl, hT, hne, h1, h2, q⟩ := h
  cases rx
  obtain ⟨t, rfl⟩ := ry
  obtain ⟨its, r, ⟨⟨cls, dd, data, sl⟩, ho, hc, n, hd⟩, hs⟩ := I.tuple hT
  simp only at hc hd
  subst hc hd
  have hle : its.length = xs.length := r.length.symm
  have hi : its.toArray.isEmpty = false := by
    cases its with
    | nil => exact absurd (List.eq_nil_of_length_eq_zero hle.symm) hne
    | cons a b => rfl
  have c0 : (decide (k < -(2 ^ 63)) || decide (k ≥ 2 ^ 63)) = false := by
    rw [decide_eq_false (by omega), decide_eq_false (by omega)] <;> rfl
  have c1 : (its.toArray.isEmpty || k == 1) = false := by
    rw [hi, Bool.false_or]
    exact beq_eq_false_iff_ne.mpr (by omega)
  have c2 : (decide (k ≤ 0) || its.toArray.isEmpty) = true := by
    rw [decide_eq_true h1] <;> rfl
  refine wpAny_binaryOp_repeat_ref (T := "tuple") (U := "int") (by decide) ⟨_, ho, rfl⟩ (fun s' => typeIs_int s' k t) noFill_tuple_mul F.fills_int_mul F.slot_int_rmul repeat_tuple F.slot_int_index.lookup
    (call_meets F.slot_int_rmul (typeIs_int s k t) F.entry_int_rmul (F.args_int_rmul_2 _ _) (int_rmul_tuple k t l its.toArray n dd sl)
      ⟨ho, rfl, ⟨_, ho, rfl⟩, call_meets F.slot_tuple_mul ⟨_, ho, rfl⟩ F.entry_tuple_mul (F.args_tuple_mul_2 _ _) (tuple_mul0 l its.toArray n dd sl k t c0 c1 c2) ⟨ho, ?_⟩⟩)
  refine ⟨.ref s.heap.objs.size, _, I.laid (t' := s.toks) (o := .tup []) (fun b ob q => Heap.get?_push_of_some _ q) (Nat.le_refl _) ?_, rfl, q _ (I.hok.fresh (Nat.le_refl _))⟩
  exact ⟨Nat.zero_le _, [], .nil, IsTup.new _ _⟩
theorem pr_mul (hK : X.K = G.K) : OpR X (binaryOp .Mult) (P2 G (binD .mul)) := by
  intro pins s σ H x y v u Q I rx ry ⟨Hid, φ, h, d, e, z, h', S, rd, re, hp, po⟩
  cases d <;> cases e <;> try (simp [binD] at hp; done)
  · rename_i i j
    simp only [binD] at hp
    split at hp
    · rename_i hm
      cases hp
      cases rd
      cases re
      simp only [mulOk, Bool.or_eq_true, decide_eq_true_eq] at hm
      rcases hm with (hm | hm) | hm
      · exact op_mul pins s σ H _ _ v u Q I rx ry ⟨i, j, rfl, rfl, .inl (big_lt hm), po.now S (.int _)⟩
      · exact op_mul pins s σ H _ _ v u Q I rx ry ⟨i, j, rfl, rfl, .inr (big_lt hm), po.now S (.int _)⟩
      · exact op_mulW pins s σ H _ _ v u Q I rx ry ⟨i, j, rfl, rfl, hm, po.now S (.int _)⟩
    · cases hp
  · rename_i xs k
    simp only [binD] at hp
    split at hp
    · rename_i hm
      cases hp
      cases re
      cases rd with
      | @tup a vs _ qa ta =>
        have l1 := ta.length
        have ne : vs ≠ [] := by
          rintro rfl
          simp at l1
          rw [l1] at hm
          simp at hm
        by_cases k2 : 2 ≤ k
        · exact op_repT pins s σ H _ _ v u Q I rx ry ⟨a, k, vs, rfl, rfl, hK ▸ qa, ne, k2, hm.2.1, by omega, fun p hp => po.newT S (ta.rep k.toNat) hp⟩
        · by_cases k1 : k = 1
          · subst k1
            refine op_rep1 pins s σ H _ _ v u Q I rx ry ⟨a, vs, rfl, rfl, hK ▸ qa, po.now S ?_⟩
            have e1 : (List.replicate (1 : Int).toNat xs).flatten = xs := by simp
            rw [e1]
            exact .tup qa ta
          · by_cases k3 : -(2 ^ 63) ≤ k
            · refine op_rep0 pins s σ H _ _ v u Q I rx ry ⟨a, k, vs, rfl, rfl, hK ▸ qa, ne, by omega, k3, fun p hp => ?_⟩
              have e1 : k.toNat = 0 := by omega
              rw [e1] at po
              exact po.newT S .nil hp
            · exfalso
              have := hm.2.2
              omega
    · cases hp
  · rename_i a k
    simp only [binD] at hp
    split at hp
    · rename_i xs g
      split at hp
      · rename_i hm
        cases hp
        cases re
        obtain ⟨p, vs, rfl, _, hp1, r1⟩ := lst_of S g rd
        have l1 := r1.length
        have hz : vs.length * k.toNat ≤ sizeLine := by
          have a1 : vs.length * k.toNat ≤ 1000 * 1000 := Nat.mul_le_mul (by omega) (by omega)
          exact Nat.le_trans a1 (by decide)
        exact op_rep pins s σ H _ _ v u Q I rx ry ⟨p, k, vs, rfl, rfl, hp1, by omega, by omega, hz, fun t ht => po.new S (r1.rep k.toNat) ht⟩
      · cases hp
    · cases hp
end
end Alb
set_option Elab.async false
set_option linter.all false
set_option maxRecDepth 100000
set_option maxHeartbeats 4000000
namespace Alb
open PySem PySem.Spec PyProof.Rows L2

/-! ### == -/
mutual
theorem eqP_eqv : ∀ a b : PyData, eqP a b = PyData.eqv a b
  | .none, b => by cases b <;> simp [eqP, PyData.eqv]
  | .bool _, b => by cases b <;> simp [eqP, PyData.eqv]
  | .int _, b => by cases b <;> simp [eqP, PyData.eqv]
  | .str _, b => by cases b <;> simp [eqP, PyData.eqv]
  | .list xs, b => by cases b <;> simp [eqP, PyData.eqv, eqPL_eqv xs]
  | .tuple xs, b => by cases b <;> simp [eqP, PyData.eqv, eqPL_eqv xs]
  | .dict _, b => by cases b <;> simp [eqP, PyData.eqv]
theorem eqPL_eqv : ∀ a b : List PyData, eqPL a b = PyData.eqvAll a b
  | [], [] => by simp [eqPL, PyData.eqvAll]
  | [], _ :: _ => by simp [eqPL, PyData.eqvAll]
  | _ :: _, [] => by simp [eqPL, PyData.eqvAll]
  | x :: xs, y :: ys => by simp [eqPL, PyData.eqvAll, eqP_eqv x y, eqPL_eqv xs ys]
end
section
variable {G : Sg} {φ : List Addr} {Hid : Hd} {h : Hh} {H : Hp}
theorem view_all {f : D → Option PyData} {n : Nat} (ih : ∀ d v p, f d = some p → Rep G φ H d v → Dp G.K H v p ∧ p.canLay0 = true ∧ p.depth ≤ n) :
    ∀ (ds : List D) (vs : List V) (ps : List PyData), mapO f ds = some ps → Reps G φ H ds vs → DpAll G.K H vs ps ∧ PyData.canLayAll0 ps = true ∧ PyData.depthAll ps ≤ n
  | [], _, _, e, r => by
    cases r
    simp [mapO] at e
    subst e
    exact ⟨.nil, by simp [PyData.canLayAll0], by simp [PyData.depthAll]⟩
  | d :: ds, _, _, e, r => by
    cases r with
    | cons q t =>
      simp only [mapO] at e
      split at e
      · rename_i y ys e1 e2
        cases e
        obtain ⟨a1, a2, a3⟩ := ih _ _ _ e1 q
        obtain ⟨b1, b2, b3⟩ := view_all ih ds _ _ e2 t
        refine ⟨.cons a1 b1, by simp [PyData.canLayAll0, a2, b2], ?_⟩
        simp only [PyData.depthAll]
        omega
      · cases e
theorem view_dp (S : ST G φ Hid h H) : ∀ (n : Nat) (d : D) (v : V) (p : PyData), viewP n h d = some p → Rep G φ H d v → Dp G.K H v p ∧ p.canLay0 = true ∧ p.depth ≤ n
  | 0, d, v, p, e, r => by simp [viewP] at e
  | n + 1, .non, v, p, e, r => by
    simp [viewP] at e
    subst e
    cases r
    exact ⟨.non, by simp [PyData.canLay0], by simp [PyData.depth]⟩
  | n + 1, .bl b, v, p, e, r => by
    simp [viewP] at e
    subst e
    cases r
    exact ⟨.bl b, by simp [PyData.canLay0], by simp [PyData.depth]⟩
  | n + 1, .int b, v, p, e, r => by
    simp [viewP] at e
    subst e
    cases r
    exact ⟨.int b, by simp [PyData.canLay0], by simp [PyData.depth]⟩
  | n + 1, .str x, v, p, e, r => by
    simp only [viewP] at e
    split at e
    · rename_i ok
      cases e
      cases r
      exact ⟨.str x, by simp only [PyData.canLay0]; exact ok, by simp [PyData.depth]⟩
    · cases e
  | n + 1, .tup xs, v, p, e, r => by
    simp only [viewP] at e
    split at e
    · rename_i ys e1
      cases e
      cases r with
      | tup q t =>
        obtain ⟨b1, b2, b3⟩ := view_all (fun d v p => view_dp S n d v p) xs _ ys e1 t
        exact ⟨.tup q b1, by simpa [PyData.canLay0] using b2, by simp only [PyData.depth]; omega⟩
    · cases e
  | n + 1, .loc a, v, p, e, r => by
    simp only [viewP] at e
    split at e
    · rename_i xs g
      split at e
      · rename_i ys e1
        cases e
        obtain ⟨q, vs, rfl, _, h1, h2⟩ := lst_of S g r
        obtain ⟨b1, b2, b3⟩ := view_all (fun d v p => view_dp S n d v p) xs _ ys e1 h2
        exact ⟨.lst (SqL.of h1) b1, by simpa [PyData.canLay0] using b2, by simp only [PyData.depth]; omega⟩
      · cases e
    · rename_i xs g
      split at e
      · rename_i ys e1
        cases e
        obtain ⟨q, vs, rfl, _, h1, h2⟩ := ro_of S g r
        obtain ⟨b1, b2, b3⟩ := view_all (fun d v p => view_dp S n d v p) xs _ ys e1 h2
        exact ⟨.lst (SqL.of h1) b1, by simpa [PyData.canLay0] using b2, by simp only [PyData.depth]; omega⟩
      · cases e
    · cases e
  | n + 1, .fn f, v, p, e, r => by simp [viewP] at e
  | 1, .scr ns, v, p, e, r => by simp [viewP] at e
  | n + 2, .scr ns, v, p, e, r => by
    simp [viewP] at e
    subst e
    cases r with
    | scr q =>
      have all : ∀ ns : List Int, DpAll G.K H (ns.map V.int) (ns.map PyData.int) ∧ PyData.canLayAll0 (ns.map PyData.int) = true ∧ PyData.depthAll (ns.map PyData.int) = 0 := fun ns => by
        induction ns with
        | nil => exact ⟨.nil, by simp [PyData.canLayAll0], by simp [PyData.depthAll]⟩
        | cons k r ih => exact ⟨.cons (.int k) ih.1, by simp [PyData.canLayAll0, PyData.canLay0, ih.2.1], by simp [PyData.depthAll, PyData.depth, ih.2.2]⟩
      obtain ⟨b1, b2, b3⟩ := all ns
      exact ⟨.lst q.sq b1, by simpa [PyData.canLay0] using b2, by simp only [PyData.depth]; omega⟩
theorem eq_dp (S : ST G φ Hid h H) {d e : D} {x y : V} {k : Bool} (hp : eqD d e h = some k) (rd : Rep G φ H d x) (re : Rep G φ H e y) :
    ∃ a b, Dp G.K H x a ∧ Dp G.K H y b ∧ SeqAt.shaped a = true ∧ SeqAt.shaped b = true ∧ k = PyData.eqv a b := by
  simp only [eqD] at hp
  split at hp
  · rename_i a b e1 e2
    cases hp
    obtain ⟨a1, a2, a3⟩ := view_dp S _ _ _ _ e1 rd
    obtain ⟨b1, b2, b3⟩ := view_dp S _ _ _ _ e2 re
    refine ⟨a, b, a1, b1, ?_, ?_, eqP_eqv a b⟩
    · simp only [SeqAt.shaped, a2, Bool.true_and, decide_eq_true_eq]
      exact Nat.le_trans a3 (by decide)
    · simp only [SeqAt.shaped, b2, Bool.true_and, decide_eq_true_eq]
      exact Nat.le_trans b3 (by decide)
  · cases hp
/-- flat values -/
theorem flat_rep {d : D} {v : V} (f : d.flat = true) (r : Rep G φ H d v) : flatV v = true := by
  cases r <;> first | rfl | simp [D.flat] at f
theorem flat_reps : ∀ {ds : List D} {vs : List V}, ds.all D.flat = true → Reps G φ H ds vs → vs.all flatV = true
  | _, _, _, .nil => rfl
  | _, _, f, .cons r t => by
    simp only [List.all_cons, Bool.and_eq_true] at f ⊢
    exact ⟨flat_rep f.1 r, flat_reps f.2 t⟩
theorem eqF_eqV {d e : D} {v w : V} (fd : d.flat = true) (fe : e.flat = true) (rd : Rep G φ H d v) (re : Rep G φ H e w) : eqF d e = eqV v w := by
  cases rd <;> first | (simp [D.flat] at fd; done) | (cases re <;> first | (simp [D.flat] at fe; done) | rfl)
theorem any_eqF {e : D} {w : V} (fe : e.flat = true) (re : Rep G φ H e w) : ∀ {ds : List D} {vs : List V}, ds.all D.flat = true → Reps G φ H ds vs → (ds.any fun y => eqF y e) = vs.any fun y => eqV y w
  | _, _, _, .nil => rfl
  | _, _, f, .cons r t => by
    simp only [List.all_cons, Bool.and_eq_true] at f
    simp only [List.any_cons, eqF_eqV f.1 fe r re, any_eqF fe re f.2 t]
end
section
variable {X : Cx} {G : Sg}
theorem pr_eq (hK : X.K = G.K) (hu : X.A.units + 64 < cLine) : OpR X (compareOp .Eq) (P2B G (cmpD .eq)) := by
  intro pins s σ H x y v u Q I rx ry ⟨Hid, φ, h, d, e, k, S, rd, re, hp, po⟩
  have hp : eqD d e h = some k := by cases d <;> cases e <;> exact hp
  obtain ⟨a, b, h1, h2, h3, h4, rfl⟩ := eq_dp S hp rd re
  exact op_eqD hu pins s σ H _ _ v u Q I rx ry ⟨a, b, hK ▸ h1, hK ▸ h2, h3, h4, po⟩
theorem pr_ne (hK : X.K = G.K) (hu : X.A.units + 64 < cLine) : OpR X (compareOp .NotEq) (P2B G (cmpD .ne)) := by
  intro pins s σ H x y v u Q I rx ry ⟨Hid, φ, h, d, e, k, S, rd, re, hp, po⟩
  have hp : (match eqD d e h with | some k => some (!k) | none => none) = some k := by cases d <;> cases e <;> exact hp
  split at hp
  · rename_i k' e1
    cases hp
    obtain ⟨a, b, h1, h2, h3, h4, rfl⟩ := eq_dp S e1 rd re
    exact op_neD hu pins s σ H _ _ v u Q I rx ry ⟨a, b, hK ▸ h1, hK ▸ h2, h3, h4, po⟩
  · cases hp
theorem pr_lt : OpR X (compareOp .Lt) (P2B G (cmpD .lt)) := by
  intro pins s σ H x y v u Q I rx ry ⟨Hid, φ, h, d, e, k, S, rd, re, hp, po⟩
  cases d <;> cases e <;> try (simp [cmpD] at hp; done)
  simp only [cmpD, Option.some.injEq] at hp
  subst hp
  cases rd
  cases re
  exact op_lt pins s σ H _ _ v u Q I rx ry ⟨_, _, rfl, rfl, po⟩
theorem pr_le : OpR X (compareOp .LtE) (P2B G (cmpD .le)) := by
  intro pins s σ H x y v u Q I rx ry ⟨Hid, φ, h, d, e, k, S, rd, re, hp, po⟩
  cases d <;> cases e <;> try (simp [cmpD] at hp; done)
  simp only [cmpD, Option.some.injEq] at hp
  subst hp
  cases rd
  cases re
  exact op_le pins s σ H _ _ v u Q I rx ry ⟨_, _, rfl, rfl, po⟩
theorem pr_gt : OpR X (compareOp .Gt) (P2B G (cmpD .gt)) := by
  intro pins s σ H x y v u Q I rx ry ⟨Hid, φ, h, d, e, k, S, rd, re, hp, po⟩
  cases d <;> cases e <;> try (simp [cmpD] at hp; done)
  simp only [cmpD, Option.some.injEq] at hp
  subst hp
  cases rd
  cases re
  exact op_gt pins s σ H _ _ v u Q I rx ry ⟨_, _, rfl, rfl, po⟩
theorem pr_ge : OpR X (compareOp .GtE) (P2B G (cmpD .ge)) := by
  intro pins s σ H x y v u Q I rx ry ⟨Hid, φ, h, d, e, k, S, rd, re, hp, po⟩
  cases d <;> cases e <;> try (simp [cmpD] at hp; done)
  simp only [cmpD, Option.some.injEq] at hp
  subst hp
  cases rd
  cases re
  exact op_ge pins s σ H _ _ v u Q I rx ry ⟨_, _, rfl, rfl, po⟩
def D.isNon : D → Bool
  | .non => true
  | _ => false
theorem is_cases {d e : D} {k : Bool} (h : isD d e = some k) : (e = .non ∧ k = d.isNon) ∨ ∃ a b, d = .bl a ∧ e = .bl b ∧ k = decide (a = b) := by
  cases e with
  | non =>
    refine .inl ⟨rfl, ?_⟩
    cases d <;> (simp only [isD, Option.some.injEq] at h; rw [← h]; rfl)
  | bl b =>
    cases d with
    | bl a =>
      simp only [isD, Option.some.injEq] at h
      refine .inr ⟨a, b, rfl, rfl, ?_⟩
      rw [← h]
      cases a <;> cases b <;> rfl
    | _ => simp [isD] at h
  | _ => cases d <;> simp [isD] at h
theorem rep_non {φ : List Addr} {H : Hp} {d : D} {v : V} (r : Rep G φ H d v) : d.isNon = decide (v = .non) := by
  cases r <;> simp [D.isNon]
theorem pr_is : OpR X (compareOp .Is) (P2B G (cmpD .isx)) := by
  intro pins s σ H x y v u Q I rx ry ⟨Hid, φ, h, d, e, k, S, rd, re, hp, po⟩
  have hp : isD d e = some k := by cases d <;> cases e <;> exact hp
  rcases is_cases hp with ⟨rfl, rfl⟩ | ⟨a, b, rfl, rfl, rfl⟩
  · cases re
    rw [rep_non rd] at po
    exact op_isN pins s σ H _ _ v u Q I rx ry ⟨rfl, po⟩
  · cases rd
    cases re
    exact op_isBl pins s σ H _ _ v u Q I rx ry ⟨a, b, rfl, rfl, po⟩
theorem pr_nis : OpR X (compareOp .IsNot) (P2B G (cmpD .nis)) := by
  intro pins s σ H x y v u Q I rx ry ⟨Hid, φ, h, d, e, k, S, rd, re, hp, po⟩
  have hp : (match isD d e with | some k => some (!k) | none => none) = some k := by cases d <;> cases e <;> exact hp
  split at hp
  · rename_i k' e1
    cases hp
    rcases is_cases e1 with ⟨rfl, rfl⟩ | ⟨a, b, rfl, rfl, rfl⟩
    · cases re
      rw [rep_non rd] at po
      exact op_notN pins s σ H _ _ v u Q I rx ry ⟨rfl, po⟩
    · cases rd
      cases re
      exact op_notBl pins s σ H _ _ v u Q I rx ry ⟨a, b, rfl, rfl, po⟩
  · cases hp
theorem in_cases {φ : List Addr} {Hid : Hd} {h : Hh} {H : Hp} {d e : D} {x y : V} {k : Bool} (S : ST G φ Hid h H) (rd : Rep G φ H d x) (re : Rep G φ H e y) (hp : inD d e h = some k) :
    (∃ (c : Nat) (z : Str), x = .str ⟨#[c]⟩ ∧ y = .str z ∧ k = decide (c ∈ z.cps.toList)) ∨
    ∃ p xs, y = .ref p ∧ (SqL G.K H p xs ∨ SqT G.K H p xs) ∧ flatV x = true ∧ xs.all flatV = true ∧ k = inV x xs := by
  have seq : ∀ ds, itemsD e h = some ds → (if (d.flat && ds.all D.flat) = true then some (ds.any fun y => eqF y d) else none) = some k →
      ∃ p xs, y = .ref p ∧ (SqL G.K H p xs ∨ SqT G.K H p xs) ∧ flatV x = true ∧ xs.all flatV = true ∧ k = inV x xs := fun ds e1 e2 => by
    split at e2
    · rename_i f
      cases e2
      rw [Bool.and_eq_true] at f
      obtain ⟨p, vs, h1, h2, h3⟩ := items_of S e1 re
      exact ⟨p, vs, h1, h3, flat_rep f.1 rd, flat_reps f.2 h2, any_eqF f.1 rd f.2 h2⟩
    · cases e2
  have gen : (match itemsD e h with | some xs => if (d.flat && xs.all D.flat) = true then some (xs.any fun y => eqF y d) else none | none => none) = some k →
      ∃ p xs, y = .ref p ∧ (SqL G.K H p xs ∨ SqT G.K H p xs) ∧ flatV x = true ∧ xs.all flatV = true ∧ k = inV x xs := fun e2 => by
    split at e2
    · rename_i ds e1
      exact seq ds e1 e2
    · cases e2
  cases d with
  | str a =>
    cases e with
    | str b =>
      simp only [inD] at hp
      split at hp
      · rename_i c hc
        cases hp
        cases rd
        cases re
        refine .inl ⟨c, b, ?_, rfl, ?_⟩
        · obtain ⟨arr⟩ := a
          have : arr = #[c] := by
            apply Array.ext'
            simpa using hc
          rw [this]
        · simp
      · cases hp
    | _ => exact .inr (gen hp)
  | _ => exact .inr (gen (by cases e <;> exact hp))
theorem pr_in (hK : X.K = G.K) : OpR X (compareOp .In) (P2B G (cmpD .inx)) := by
  intro pins s σ H x y v u Q I rx ry ⟨Hid, φ, h, d, e, k, S, rd, re, hp, po⟩
  have hp : inD d e h = some k := by cases d <;> cases e <;> exact hp
  rcases in_cases S rd re hp with ⟨c, z, rfl, rfl, rfl⟩ | ⟨p, xs, rfl, h1, h2, h3, rfl⟩
  · exact op_in_sign pins s σ H _ _ v u Q I rx ry ⟨c, z, rfl, rfl, po⟩
  · exact op_in_seq pins s σ H _ _ v u Q I rx ry ⟨p, xs, rfl, hK ▸ h1, h2, h3, po⟩
theorem pr_nin (hK : X.K = G.K) : OpR X (compareOp .NotIn) (P2B G (cmpD .nin)) := by
  intro pins s σ H x y v u Q I rx ry ⟨Hid, φ, h, d, e, k, S, rd, re, hp, po⟩
  have hp : (match inD d e h with | some k => some (!k) | none => none) = some k := by cases d <;> cases e <;> exact hp
  split at hp
  · rename_i k' e1
    cases hp
    rcases in_cases S rd re e1 with ⟨c, z, rfl, rfl, rfl⟩ | ⟨p, xs, rfl, h1, h2, h3, rfl⟩
    · exact op_notIn_sign pins s σ H _ _ v u Q I rx ry ⟨c, z, rfl, rfl, po⟩
    · exact op_notIn_seq pins s σ H _ _ v u Q I rx ry ⟨p, xs, rfl, hK ▸ h1, h2, h3, po⟩
  · cases hp
end
end Alb
set_option Elab.async false
set_option linter.all false
set_option maxRecDepth 100000
set_option maxHeartbeats 4000000
namespace Alb
open PySem PySem.Spec PyProof.Rows L2

section
variable {X : Cx} {G : Sg}
theorem reps1 {φ : List Addr} {H : Hp} {d : D} {xs : List V} (r : Reps G φ H [d] xs) : ∃ x, xs = [x] ∧ Rep G φ H d x := by
  cases r with
  | cons q t =>
    cases t
    exact ⟨_, rfl, q⟩
theorem reps2 {φ : List Addr} {H : Hp} {d e : D} {xs : List V} (r : Reps G φ H [d, e] xs) : ∃ x y, xs = [x, y] ∧ Rep G φ H d x ∧ Rep G φ H e y := by
  cases r with
  | cons q t =>
    obtain ⟨y, rfl, q2⟩ := reps1 t
    exact ⟨_, _, rfl, q, q2⟩
/-- sum of a tuple of ints -/
theorem cr_sumT (hc : X.calm = true) : CallR X (.builtin "sum") (fun vs H Q => ∃ (a : Addr) (ns : List Int), vs = [V.ref a] ∧ SqT X.K H a (ns.map V.int) ∧ Q (.int ns.sum) H) := by
  intro pins s σ H vs us Q I r h
  obtain ⟨a, ns, rfl, hs, q⟩ := h
  obtain ⟨its, rv, hl, _⟩ := I.tuple hs
  rw [Vals.ref1 r]
  have hi := rv.ints
  obtain ⟨xs, e⟩ := hi.allInts.items
  have hn : numsOf (intItems xs).toList = ns := by rw [← e]; exact hi.numsOf
  rw [nums_intItems] at hn
  rw [e] at hl
  refine PySem.W.ktm_sumG (I.ok.hd hc) hl fun h' tk t' hk => ?_
  rw [preSum_eq, List.take_of_length_le (by simp), hn]
  exact ⟨.int _, H, I.kept hk, ⟨_, rfl⟩, q⟩
theorem len_cases {p : D → Option Prop} {d : D} {h : Hh} {z : D} {h' : Hh} (hp : bltD .len [d] h = some (z, h')) : (∃ x : Str, d = .str x ∧ x.length ≤ lim ∧ z = .int x.length ∧ h' = h) ∨ ∃ xs, itemsD d h = some xs ∧ z = .int xs.length ∧ h' = h := by
  cases d with
  | str x =>
    simp only [bltD] at hp
    split at hp
    · rename_i hl
      cases hp
      exact .inl ⟨x, rfl, hl, rfl, rfl⟩
    · cases hp
  | _ =>
    simp only [bltD] at hp
    split at hp
    · rename_i xs e
      cases hp
      exact .inr ⟨xs, e, rfl, rfl⟩
    · cases hp
theorem pc_len (hK : X.K = G.K) : CallR X (.builtin "len") (PL G (bltD .len)) := by
  intro pins s σ H xs us Q I r ⟨Hid, φ, h, ds, z, h', S, rd, hp, po⟩
  match ds, rd, hp with
  | [], _, hp => simp [bltD] at hp
  | _ :: _ :: _, _, hp => simp [bltD] at hp
  | [d], rd, hp =>
    obtain ⟨x, rfl, q⟩ := reps1 rd
    rcases len_cases (p := fun _ => none) hp with ⟨y, rfl, hl, rfl, rfl⟩ | ⟨ys, e, rfl, rfl⟩
    · cases q
      exact call_len_str pins s σ H _ us Q I r ⟨y, rfl, lim_le hl, po.now S (.int _)⟩
    · obtain ⟨p, vs, rfl, t, sq⟩ := items_of S e q
      refine call_len_seq pins s σ H _ us Q I r ⟨p, vs, rfl, hK ▸ sq, ?_⟩
      rw [← t.length]
      exact po.now S (.int _)
theorem pc_max (hc : X.calm = true) : CallR X (.builtin "max") (PL G (bltD .max)) := by
  intro pins s σ H xs us Q I r ⟨Hid, φ, h, ds, z, h', S, rd, hp, po⟩
  match ds, rd, hp with
  | [.int i, .int j], rd, hp =>
    simp only [bltD, Option.some.injEq, Prod.mk.injEq] at hp
    obtain ⟨rfl, rfl⟩ := hp
    obtain ⟨x, y, rfl, q1, q2⟩ := reps2 rd
    cases q1
    cases q2
    exact call_max2 hc pins s σ H _ us Q I r ⟨i, j, rfl, po.now S (.int _)⟩
theorem minI_mem : ∀ {ns : List Int}, 0 < ns.length → minI ns ∈ ns ∧ ∀ y ∈ ns, minI ns ≤ y
  | [x], _ => by simp [minI]
  | x :: y :: r, _ => by
    have ih := minI_mem (ns := y :: r) (by simp)
    simp only [minI]
    split
    · rename_i h
      refine ⟨List.mem_cons_of_mem _ ih.1, fun z hz => ?_⟩
      rcases List.mem_cons.mp hz with e | e
      · rw [e]; omega
      · exact ih.2 z e
    · rename_i h
      refine ⟨List.mem_cons_self, fun z hz => ?_⟩
      rcases List.mem_cons.mp hz with e | e
      · rw [e]; exact Int.le_refl _
      · have := ih.2 z e
        omega
theorem pc_min (hK : X.K = G.K) (hc : X.calm = true) : CallR X (.builtin "min") (PL G (bltD .min)) := by
  intro pins s σ H xs us Q I r ⟨Hid, φ, h, ds, z, h', S, rd, hp, po⟩
  match ds, rd, hp with
  | [.int i, .int j], rd, hp =>
    simp only [bltD, Option.some.injEq, Prod.mk.injEq] at hp
    obtain ⟨rfl, rfl⟩ := hp
    obtain ⟨x, y, rfl, q1, q2⟩ := reps2 rd
    cases q1
    cases q2
    exact call_min2 hc pins s σ H _ us Q I r ⟨i, j, rfl, po.now S (.int _)⟩
  | [.loc a], rd, hp =>
    simp only [bltD] at hp
    split at hp
    · rename_i xs e
      split at hp
      · rename_i ns e2
        split at hp
        · rename_i hl
          cases hp
          obtain ⟨x, rfl, q⟩ := reps1 rd
          obtain ⟨p, vs, rfl, t, sq⟩ := items_of S e q
          have ev := t.ofInts e2
          subst ev
          have sq' : SqL G.K H p (ns.map V.int) := by
            simp only [itemsD] at e
            split at e
            · rename_i ys g
              cases e
              obtain ⟨p', vs', e1, _, h2, h3⟩ := lst_of S g q
              cases e1
              rw [h3.ofInts e2] at h2
              exact SqL.of h2
            · rename_i ys g
              cases e
              obtain ⟨p', vs', e1, _, h2, h3⟩ := ro_of S g q
              cases e1
              rw [h3.ofInts e2] at h2
              exact SqL.of h2
            · cases e
          refine cr_min hc pins s σ H _ us Q I r ⟨p, ns, rfl, hK ▸ sq', hl, fun m h1 h2 => ?_⟩
          have hm := minI_mem hl
          have em : m = minI ns := Int.le_antisymm (h2 _ hm.1) (hm.2 _ h1)
          rw [em]
          exact po.now S (.int _)
        · cases hp
      · cases hp
    · cases hp
theorem pc_sum (hK : X.K = G.K) (hc : X.calm = true) : CallR X (.builtin "sum") (PL G (bltD .sum)) := by
  intro pins s σ H xs us Q I r ⟨Hid, φ, h, ds, z, h', S, rd, hp, po⟩
  match ds, rd, hp with
  | [], _, hp => simp [bltD] at hp
  | _ :: _ :: _, _, hp => simp [bltD] at hp
  | [d], rd, hp =>
    simp only [bltD] at hp
    split at hp
    · rename_i xs e
      split at hp
      · rename_i ns e2
        cases hp
        obtain ⟨x, rfl, q⟩ := reps1 rd
        obtain ⟨p, vs, rfl, t, sq⟩ := items_of S e q
        have ev := t.ofInts e2
        subst ev
        rcases sq with sq | sq
        · exact cr_sum hc pins s σ H _ us Q I r ⟨p, ns, rfl, hK ▸ sq, po.now S (.int _)⟩
        · exact cr_sumT hc pins s σ H _ us Q I r ⟨p, ns, rfl, hK ▸ sq, po.now S (.int _)⟩
      · cases hp
    · cases hp
theorem pc_all (hK : X.K = G.K) (hc : X.calm = true) : CallR X (.builtin "all") (PL G (bltD .all)) := by
  intro pins s σ H xs us Q I r ⟨Hid, φ, h, ds, z, h', S, rd, hp, po⟩
  match ds, rd, hp with
  | [.loc a], rd, hp =>
    simp only [bltD] at hp
    split at hp
    · rename_i xs e
      split at hp
      · rename_i bs e2
        cases hp
        obtain ⟨x, rfl, q⟩ := reps1 rd
        have sq' : ∃ p, x = .ref p ∧ SqL G.K H p (bs.map V.bl) := by
          simp only [itemsD] at e
          split at e
          · rename_i ys g
            cases e
            obtain ⟨p', vs', e1, _, h2, h3⟩ := lst_of S g q
            rw [h3.ofBls e2] at h2
            exact ⟨p', e1, SqL.of h2⟩
          · rename_i ys g
            cases e
            obtain ⟨p', vs', e1, _, h2, h3⟩ := ro_of S g q
            rw [h3.ofBls e2] at h2
            exact ⟨p', e1, SqL.of h2⟩
          · cases e
        obtain ⟨p, rfl, sq⟩ := sq'
        exact cr_all hc pins s σ H _ us Q I r ⟨p, bs, rfl, hK ▸ sq, po.now S (.bl _)⟩
      · cases hp
    · cases hp
theorem pc_tuple (hK : X.K = G.K) : CallR X (.type "tuple") (PL G (bltD .tuple)) := by
  intro pins s σ H xs us Q I r ⟨Hid, φ, h, ds, z, h', S, rd, hp, po⟩
  match ds, rd, hp with
  | [], _, hp => simp [bltD] at hp
  | _ :: _ :: _, _, hp => simp [bltD] at hp
  | [d], rd, hp =>
    simp only [bltD] at hp
    split at hp
    · rename_i xs e
      cases hp
      obtain ⟨x, rfl, q⟩ := reps1 rd
      obtain ⟨p, vs, rfl, t, sq⟩ := items_of S e q
      refine call_tuple_of pins s σ H _ us Q I r ⟨p, vs, rfl, ?_⟩
      rcases sq with sq | sq
      · exact .inl ⟨hK ▸ sq, fun l hl => po.newT S t hl⟩
      · exact .inr ⟨hK ▸ sq, po.now S (.tup sq t)⟩
    · cases hp
theorem pc_list (hK : X.K = G.K) : CallR X (.type "list") (PL G (bltD .list)) := by
  intro pins s σ H xs us Q I r ⟨Hid, φ, h, ds, z, h', S, rd, hp, po⟩
  match ds, rd, hp with
  | [], _, hp => simp [bltD] at hp
  | _ :: _ :: _, _, hp => simp [bltD] at hp
  | [d], rd, hp =>
    simp only [bltD] at hp
    split at hp
    · rename_i xs e
      cases hp
      obtain ⟨x, rfl, q⟩ := reps1 rd
      obtain ⟨p, vs, rfl, t, sq⟩ := items_of S e q
      exact call_list_of pins s σ H _ us Q I r ⟨p, vs, rfl, hK ▸ sq, fun l hl => po.new S t hl⟩
    · cases hp

/-! ### isinstance -/
def Ty.nm : Ty → String
  | .int => "int"
  | .bool => "bool"
  | .tuple => "tuple"
  | .str => "str"
  | .own => ""
theorem ty_tup {H : Hp} {a : Addr} {xs : List V} (h : SqT G.K H a xs) : TyX G.K H (.ref a) (.type "tuple") := by
  rcases h with (h | ⟨o, h⟩) | ⟨o, its, n, hk, hc, _⟩
  · exact .base (.tup h)
  · exact .fTuple h
  · exact .kTuple hk hc
theorem isi_ty {φ : List Addr} {Hid : Hd} {h : Hh} {H : Hp} {d : D} {x : V} {t : Ty} {k : Bool} (S : ST G φ Hid h H) (rd : Rep G φ H d x) (ht : t ≠ .own) (hp : isiD t d h = some k) : ∃ T, TyX G.K H x (.type T) ∧ kitB T t.nm = some k := by
  cases rd with
  | non => exact ⟨"NoneType", .base .non, by cases t <;> first | exact absurd rfl ht | (simp [isiD] at hp; subst hp; decide +kernel)⟩
  | bl b => exact ⟨"bool", .base (.bl b), by cases t <;> first | exact absurd rfl ht | (simp [isiD] at hp; subst hp; decide +kernel)⟩
  | int i => exact ⟨"int", .base (.int i), by cases t <;> first | exact absurd rfl ht | (simp [isiD] at hp; subst hp; decide +kernel)⟩
  | str y => exact ⟨"str", .base (.str y), by cases t <;> first | exact absurd rfl ht | (simp [isiD] at hp; subst hp; decide +kernel)⟩
  | tup q r => exact ⟨"tuple", ty_tup q, by cases t <;> first | exact absurd rfl ht | (simp [isiD] at hp; subst hp; decide +kernel)⟩
  | fn e => cases t <;> first | exact absurd rfl ht | simp [isiD] at hp
  | scr e => cases t <;> first | exact absurd rfl ht | simp [isiD] at hp
  | @loc n a e =>
    have key : (match h.get n with | some (.lst _) => some false | some (.ro _) => some false | _ => none) = some k := by cases t <;> first | exact absurd rfl ht | exact hp
    split at key
    · rename_i xs g
      cases key
      obtain ⟨p', vs', e1, _, h2, h3⟩ := lst_of S g (.loc e)
      cases e1
      exact ⟨"list", .base (.lst h2), by cases t <;> first | exact absurd rfl ht | decide +kernel⟩
    · rename_i xs g
      cases key
      obtain ⟨p', vs', e1, _, h2, h3⟩ := ro_of S g (.loc e)
      cases e1
      exact ⟨"list", .base (.lst h2), by cases t <;> first | exact absurd rfl ht | decide +kernel⟩
    · cases key
/-- a test of one value by a built-in class -/
def P1B (G : Sg) (p : D → Hh → Option Bool) (c : V) : List V → Hp → VK → Prop := fun xs H Q => ∃ x, xs = [x, c] ∧ ∃ Hid φ h d k, ST G φ Hid h H ∧ Rep G φ H d x ∧ p d h = some k ∧ Q (.bl k) H
theorem pc_isi (hK : X.K = G.K) {t : Ty} (ht : t ≠ .own) : CallR X (.builtin "isinstance") (P1B G (isiD t) (.ty t.nm)) := by
  intro pins s σ H xs us Q I r ⟨x, e, Hid, φ, h, d, k, S, rd, hp, po⟩
  obtain ⟨T, h1, h2⟩ := isi_ty S rd ht hp
  exact call_isi pins s σ H _ us Q I r ⟨x, .ty t.nm, .type T, .type t.nm, k, e, .ty _, hK ▸ h1, kit_ty h2, po⟩

/-! ### methods -/
theorem pm_append : MtR X "list.append" (PM G (mthD .append)) := by
  intro pins s σ H x xs v us Q I rx rs ⟨Hid, φ, h, d, ds, z, h', S, rd, rds, hp, po⟩
  match d, ds, rd, rds, hp with
  | .loc a, [e], rd, rds, hp =>
    simp only [mthD] at hp
    split at hp
    · rename_i ys g
      split at hp
      · rename_i hl
        cases hp
        obtain ⟨y, rfl, q⟩ := reps1 rds
        obtain ⟨p, vs, rfl, ep, h1, h2⟩ := lst_of S g rd
        refine mt_append pins s σ H _ _ v us Q I rx rs ⟨p, vs, y, rfl, rfl, h1, lim_lt (by rw [← h2.length]; exact hl), ?_⟩
        obtain ⟨S', E'⟩ := S.setL g ep (h2.append (.cons q .nil))
        exact po _ _ _ (List.prefix_refl _) S' .non E'
      · cases hp
    · cases hp
theorem pm_extend : MtR X "list.extend" (PM G (mthD .extend)) := by
  intro pins s σ H x xs v us Q I rx rs ⟨Hid, φ, h, d, ds, z, h', S, rd, rds, hp, po⟩
  match d, ds, rd, rds, hp with
  | .loc a, [.loc b], rd, rds, hp =>
    simp only [mthD] at hp
    split at hp
    · rename_i ys zs g g2
      split at hp
      · rename_i hl
        cases hp
        obtain ⟨y, rfl, q⟩ := reps1 rds
        obtain ⟨p, vs, rfl, ep, h1, h2⟩ := lst_of S g rd
        obtain ⟨p2, ws, rfl, ep2, h12, h22⟩ := lst_of S g2 q
        refine mt_extend pins s σ H _ _ v us Q I rx rs ⟨p, p2, vs, ws, rfl, rfl, h1, h12, lim_le (by rw [← h2.length, ← h22.length]; exact hl), ?_⟩
        obtain ⟨S', E'⟩ := S.setL g ep (h2.append h22)
        exact po _ _ _ (List.prefix_refl _) S' .non E'
      · cases hp
    · cases hp
theorem pm_count (hK : X.K = G.K) : MtR X "list.count" (PM G (mthD .count)) := by
  intro pins s σ H x xs v us Q I rx rs ⟨Hid, φ, h, d, ds, z, h', S, rd, rds, hp, po⟩
  match d, ds, rd, rds, hp with
  | .loc a, [.int k], rd, rds, hp =>
    simp only [mthD] at hp
    split at hp
    · rename_i ys e
      split at hp
      · rename_i ns e2
        cases hp
        obtain ⟨y, rfl, q⟩ := reps1 rds
        cases q
        have sq' : ∃ p, x = .ref p ∧ SqL G.K H p (ns.map V.int) := by
          simp only [itemsD] at e
          split at e
          · rename_i ys g
            cases e
            obtain ⟨p', vs', e1, _, h2, h3⟩ := lst_of S g rd
            rw [h3.ofInts e2] at h2
            exact ⟨p', e1, SqL.of h2⟩
          · rename_i ys g
            cases e
            obtain ⟨p', vs', e1, _, h2, h3⟩ := ro_of S g rd
            rw [h3.ofInts e2] at h2
            exact ⟨p', e1, SqL.of h2⟩
          · cases e
        obtain ⟨p, rfl, sq⟩ := sq'
        exact mt_lcount pins s σ H _ _ v us Q I rx rs ⟨p, ns, k, rfl, rfl, hK ▸ sq, po.now S (.int _)⟩
      · cases hp
    · cases hp

/-! ### subscripts, slices, stores -/
theorem ixN_eq (n : Nat) (i : Int) : Alb.ixN n i = L2.ixN n i := rfl
theorem sub_seq {d : D} {i : Int} {h : Hh} {z : D} (hs : ∀ x, d ≠ .str x) (hp : subD d (.int i) h = some z) : ∃ xs j, itemsD d h = some xs ∧ Alb.ixN xs.length i = some j ∧ xs[j]? = some z := by
  have key : (match itemsD d h with | some xs => (match Alb.ixN xs.length i with | some j => xs[j]? | none => none) | none => none) = some z := by
    cases d <;> first | exact absurd rfl (hs _) | exact hp
  split at key
  · rename_i xs e
    split at key
    · rename_i j ej
      exact ⟨xs, j, e, ej, key⟩
    · cases key
  · cases key
theorem pr_ix (hK : X.K = G.K) : IxR X (P2V G subD) := by
  intro value slice pins s σ H x y v u Q I rx ry ⟨Hid, φ, h, d, e, z, S, rd, re, hp, po⟩ hsl
  cases e with
  | int i =>
    cases re
    cases d with
    | str w =>
      simp only [subD] at hp
      split at hp
      · rename_i hl
        split at hp
        · rename_i j ej
          split at hp
          · rename_i c ec
            cases hp
            cases rd
            refine ix_str value slice pins s σ H _ _ v u Q I rx ry ⟨w, i, c, rfl, rfl, lim_le hl, ?_, po.now S (.str _)⟩ hsl
            unfold atI
            rw [← ixN_eq, ej]
            exact ec
          · cases hp
        · cases hp
      · cases hp
    | _ =>
      obtain ⟨xs, j, e1, e2, e3⟩ := sub_seq (fun _ q => by cases q) hp
      obtain ⟨p, vs, rfl, t, sq⟩ := items_of S e1 rd
      obtain ⟨w, hw, rw'⟩ := t.get e3
      have ha : atI vs i = some w := by
        unfold atI
        rw [← ixN_eq, ← t.length, e2]
        exact hw
      rcases sq with sq | sq
      · exact ix_list value slice pins s σ H _ _ v u Q I rx ry ⟨p, vs, i, w, rfl, rfl, hK ▸ sq, ha, po.now S rw'⟩ hsl
      · exact ix_tup value slice pins s σ H _ _ v u Q I rx ry ⟨p, vs, i, w, rfl, rfl, hK ▸ sq, ha, po.now S rw'⟩ hsl
  | _ => cases d <;> simp [subD] at hp
/-- a slice's two bounds -/
def PSl (G : Sg) (p : D → Option Int → Option Int → Hh → Option (D × Hh)) : V → Option Int → Option Int → Hp → VK → Prop := fun x lo hi H Q => ∃ Hid φ h d z h', ST G φ Hid h H ∧ Rep G φ H d x ∧ p d lo hi h = some (z, h') ∧ Post G Hid φ H h' z Q
theorem sIx_eq (n d : Nat) (o : Option Int) : Alb.sIx n d o = HT.sIx n d o := by cases o <;> rfl
theorem cut_eq {φ : List Addr} {H : Hp} {ds : List D} {vs : List V} (r : Reps G φ H ds vs) (lo hi : Option Int) : Reps G φ H (cut ds lo hi) (cutV vs lo hi) := by
  unfold cut cutV
  rw [← r.length, ← sIx_eq, ← sIx_eq]
  exact (r.drop _).take _
theorem pr_slice (hK : X.K = G.K) : SlR X (PSl G slcD) := by
  intro pins s σ H x v vl vu lo hi sl Q I rx hs pl pu h
  obtain ⟨Hid, φ, h, d, z, h', S, rd, hp, po⟩ := h
  cases d with
  | tup xs =>
    cases hp
    cases rd with
    | @tup a vs _ q t =>
      refine sl_tupA pins s σ H _ v vl vu lo hi sl Q I rx hs pl pu ⟨a, vs, rfl, hK ▸ q, fun e => ?_, fun _ p hp => po.newT S (cut_eq t lo hi) hp⟩
      have ec : cut xs lo hi = xs := by
        unfold cut
        rw [sIx_eq, sIx_eq, t.length, e.1, e.2, Nat.sub_zero, List.drop_zero, ← t.length, List.take_length]
      rw [ec] at po
      exact po.now S (.tup q t)
  | loc a =>
    simp only [slcD] at hp
    split at hp
    · rename_i xs e
      cases hp
      have sq' : ∃ p vs, x = V.ref p ∧ SqL G.K H p vs ∧ Reps G φ H xs vs := by
        simp only [itemsD] at e
        split at e
        · rename_i ys g
          cases e
          obtain ⟨p', vs', e1, _, h2, h3⟩ := lst_of S g rd
          exact ⟨p', vs', e1, SqL.of h2, h3⟩
        · rename_i ys g
          cases e
          obtain ⟨p', vs', e1, _, h2, h3⟩ := ro_of S g rd
          exact ⟨p', vs', e1, SqL.of h2, h3⟩
        · cases e
      obtain ⟨p, vs, rfl, sq, t⟩ := sq'
      exact sl_list pins s σ H _ v vl vu lo hi sl Q I rx hs pl pu ⟨p, vs, rfl, hK ▸ sq, fun l hl => po.new S (cut_eq t lo hi) hl⟩
    · cases hp
  | _ => simp [slcD] at hp
/-- o[i] = v -/
def PSt (G : Sg) (p : D → D → D → Hh → Option Hh) : TSet := fun o i x H Q => ∃ Hid φ h d e f h', ST G φ Hid h H ∧ Rep G φ H d o ∧ Rep G φ H e i ∧ Rep G φ H f x ∧ p d e f h = some h' ∧ ∀ H', ST G φ Hid h' H' → Ext H H' → Q H'
theorem pr_sto : PSet X (PSt G stoD) := by
  intro pins s σ H o i x ov iv u Q I ro ri rx ⟨Hid, φ, h, d, e, f, h', S, rd, re, rf, hp, po⟩
  cases e with
  | int k =>
    cases d with
    | loc a =>
      simp only [stoD] at hp
      split at hp
      · rename_i xs g
        split at hp
        · rename_i j ej
          cases hp
          cases re
          obtain ⟨p, vs, rfl, ep, h1, h2⟩ := lst_of S g rd
          refine set_list pins s σ H _ _ _ ov iv u Q I ro ri rx ⟨p, vs, k, j, rfl, rfl, h1, ?_, ?_⟩
          · rw [← h2.length, ← ixN_eq]
            exact ej
          · obtain ⟨S', E'⟩ := S.setL g ep (h2.set rf j)
            exact po _ S' E'
        · cases hp
      · cases hp
    | _ => simp [stoD] at hp
  | _ => cases d <;> simp [stoD] at hp
theorem pr_neg : UnR X (unaryOp .USub) (P1V G negD) := by
  intro pins s σ H x v Q I rx ⟨Hid, φ, h, d, z, S, rd, hp, po⟩
  cases d with
  | int i =>
    cases hp
    cases rd
    exact un_neg pins s σ H _ v Q I rx ⟨i, rfl, po.now S (.int _)⟩
  | _ => simp [negD] at hp
def PAg (G : Sg) (p : D → D → Option D) : TIp := fun x y H Q => ∃ Hid φ h d e z, ST G φ Hid h H ∧ Rep G φ H d x ∧ Rep G φ H e y ∧ p d e = some z ∧ Post G Hid φ H h z Q
theorem pr_iadd : PIp X .Add (PAg G (augD .add)) := by
  intro pins s σ H x y v u Q I rx ry ⟨Hid, φ, h, d, e, z, S, rd, re, hp, po⟩
  cases d <;> cases e <;> try (simp [augD] at hp; done)
  rename_i i j
  simp only [augD, Option.some.injEq] at hp
  subst hp
  cases rd
  cases re
  exact ip_add pins s σ H _ _ v u Q I rx ry ⟨i, j, rfl, rfl, po.now S (.int _)⟩
theorem pr_isub : PIp X .Sub (PAg G (augD .sub)) := by
  intro pins s σ H x y v u Q I rx ry ⟨Hid, φ, h, d, e, z, S, rd, re, hp, po⟩
  cases d <;> cases e <;> try (simp [augD] at hp; done)
  rename_i i j
  simp only [augD, Option.some.injEq] at hp
  subst hp
  cases rd
  cases re
  exact ip_sub pins s σ H _ _ v u Q I rx ry ⟨i, j, rfl, rfl, po.now S (.int _)⟩
/-- a[i] by values, a list (for a[i] += e) -/
theorem pr_get : PGet X (P2V G lgetD) := by
  intro pins s σ H o i ov iv Q I ro ri ⟨Hid, φ, h, d, e, z, S, rd, re, hp, po⟩
  cases d with
  | loc a =>
    cases e with
    | int k =>
      simp only [lgetD] at hp
      cases re
      obtain ⟨xs, j, e1, e2, e3⟩ := sub_seq (fun _ q => by cases q) hp
      have sq' : ∃ p vs, o = V.ref p ∧ H p = some (.lst vs) ∧ Reps G φ H xs vs := by
        simp only [itemsD] at e1
        split at e1
        · rename_i ys g
          cases e1
          obtain ⟨p', vs', e1, _, h2, h3⟩ := lst_of S g rd
          exact ⟨p', vs', e1, h2, h3⟩
        · rename_i ys g
          cases e1
          obtain ⟨p', vs', e1, _, h2, h3⟩ := ro_of S g rd
          exact ⟨p', vs', e1, h2, h3⟩
        · cases e1
      obtain ⟨p, vs, rfl, sq, t⟩ := sq'
      obtain ⟨w, hw, rw'⟩ := t.get e3
      have he : atI vs k = some w := by
        unfold atI
        rw [← ixN_eq, ← t.length, e2]
        exact hw
      cases ro
      obtain ⟨tk, rfl⟩ := ri
      obtain ⟨its, r, pl, hz⟩ := I.list (SqL.of sq)
      obtain ⟨j, h1, h2, h3, h4, h5⟩ := atI_get he
      obtain ⟨w', ew, rw2⟩ := r.get h2
      have hl := r.length
      have hn := line63
      have fin : EP X pins σ Q w' s := ⟨w, H, I, rw2, po.now S rw'⟩
      by_cases h0 : 0 ≤ k
      · have hj : k.toNat = j := by
          rw [seqIndex_of h0 h5] at h1
          exact Option.some.inj h1
        exact wpAny_getItem_list pl.isList h0 (by omega) (by rw [hj]; simpa using ew) fin
      · have hj : (k + (its.toArray.size : Int)).toNat = j := by
          rw [seqIndex_neg (by omega) h4] at h1
          rw [List.size_toArray, ← hl]
          exact Option.some.inj h1
        exact wpAny_getItem_list_neg pl.isList (by omega) (by rw [List.size_toArray] <;> omega) (by omega) (by rw [hj]; simpa using ew) fin
    | _ => simp [lgetD] at hp
  | _ => simp [lgetD] at hp
end
end Alb
set_option Elab.async false
set_option linter.all false
set_option maxRecDepth 100000
set_option maxHeartbeats 4000000
/-! Readings of the evaluator's answers; targets; what is walked. -/
namespace Alb
open PySem PySem.Spec PyProof.Rows L2

/-! ### how a computation's end is read -/
def OutG {α β : Type} (Rp : List Addr → Hp → α → β → Prop) (G : Sg) (Hid : Hd) (φ : List Addr) (H : Hp) (W : WX) (σ : L2.St) (res : R α) (Q : β → Hp → Prop) : Prop := match res with
  | .ok a h' => ∀ φ' H' b, φ <+: φ' → ST G φ' Hid h' H' → Rp φ' H' a b → Ext H H' → Q b H'
  | .ex c h' => ∃ C, G.ca c = some C ∧ ∀ φ' H', φ <+: φ' → ST G φ' Hid h' H' → Ext H H' → W (.ref C) none σ H'
  | .bad => False
abbrev Out (G : Sg) (Hid : Hd) (φ : List Addr) (H : Hp) (W : WX) (σ : L2.St) (res : R D) (Q : VK) : Prop := OutG (Rep G) G Hid φ H W σ res Q
abbrev OutL (G : Sg) (Hid : Hd) (φ : List Addr) (H : Hp) (W : WX) (σ : L2.St) (res : R (List D)) (Q : List V → Hp → Prop) : Prop := OutG (Reps G) G Hid φ H W σ res Q
section
variable {α β γ δ : Type} {Rp : List Addr → Hp → α → β → Prop} {Rq : List Addr → Hp → γ → δ → Prop} {G : Sg} {Hid : Hd} {φ φ1 : List Addr} {H H1 : Hp} {W : WX} {σ : L2.St} {res : R α} {Q Q' : β → Hp → Prop}
theorem OutG.mono (o : OutG Rp G Hid φ H W σ res Q) (p : φ <+: φ1) (e : Ext H H1) : OutG Rp G Hid φ1 H1 W σ res Q := by
  cases res with
  | ok a h' => exact fun φ' H' b p' s r e' => o φ' H' b (p.trans p') s r (e.trans e')
  | ex c h' =>
    obtain ⟨C, hC, k⟩ := o
    exact ⟨C, hC, fun φ' H' p' s e' => k φ' H' (p.trans p') s (e.trans e')⟩
  | bad => exact o
theorem OutG.imp (o : OutG Rp G Hid φ H W σ res Q) (k : ∀ b H', Q b H' → Q' b H') : OutG Rp G Hid φ H W σ res Q' := by
  cases res with
  | ok a h' => exact fun φ' H' b p' s r e' => k _ _ (o φ' H' b p' s r e')
  | ex c h' => exact o
  | bad => exact o
/-- what is known behind the first of two computations -/
def Mid (Rp : List Addr → Hp → α → β → Prop) (Rq : List Addr → Hp → γ → δ → Prop) (G : Sg) (Hid : Hd) (φ : List Addr) (H : Hp) (W : WX) (σ : L2.St) (f : α → Hh → R γ) (Q : δ → Hp → Prop) (b : β) (H1 : Hp) : Prop :=
  ∃ (a : α) (φ1 : List Addr) (h1 : Hh), φ <+: φ1 ∧ ST G φ1 Hid h1 H1 ∧ Rp φ1 H1 a b ∧ Ext H H1 ∧ OutG Rq G Hid φ1 H1 W σ (f a h1) Q
theorem OutG.bind {f : α → Hh → R γ} {Q : δ → Hp → Prop} (o : OutG Rq G Hid φ H W σ (res.bind f) Q) : OutG Rp G Hid φ H W σ res (Mid Rp Rq G Hid φ H W σ f Q) := by
  cases res with
  | ok a h' => exact fun φ' H' b p' s r e' => ⟨a, φ', h', p', s, r, e', o.mono p' e'⟩
  | ex c h' => exact o
  | bad => exact o
end
theorem out_ofO {G : Sg} {Hid : Hd} {φ : List Addr} {H : Hp} {W : WX} {σ : L2.St} {o : Option (D × Hh)} {Q : VK} (h : Out G Hid φ H W σ (ofO o) Q) : ∃ z h', o = some (z, h') ∧ Post G Hid φ H h' z Q := by
  cases o with
  | none => exact h.elim
  | some p =>
    obtain ⟨z, h'⟩ := p
    exact ⟨z, h', rfl, h⟩
theorem out_ofV {G : Sg} {Hid : Hd} {φ : List Addr} {H : Hp} {W : WX} {σ : L2.St} {o : Option D} {hh : Hh} {Q : VK} (h : Out G Hid φ H W σ (ofV hh o) Q) : ∃ z, o = some z ∧ Post G Hid φ H hh z Q := by
  cases o with
  | none => exact h.elim
  | some z => exact ⟨z, rfl, h⟩
theorem out_ofB {G : Sg} {Hid : Hd} {φ : List Addr} {H : Hp} {W : WX} {σ : L2.St} {o : Option Bool} {hh : Hh} {Q : VK} (h : Out G Hid φ H W σ (ofV hh (o.map D.bl)) Q) (s : ST G φ Hid hh H) : ∃ k, o = some k ∧ Q (.bl k) H := by
  cases o with
  | none => exact h.elim
  | some k => exact ⟨k, rfl, h φ H _ (List.prefix_refl _) s (.bl k) (Ext.refl H)⟩

/-- readings -/
def RE (G : Sg) (W : WX) (cl : Cl) (e : E) : TE := fun σ H Q => ∃ Hid φ h r, ST G φ Hid h H ∧ EnvR G φ H r σ ∧ Out G Hid φ H W σ (ev cl e r h) Q
def RA (G : Sg) (W : WX) (cl : Cl) (es : Es) : TA := fun σ H Q => ∃ Hid φ h r, ST G φ Hid h H ∧ EnvR G φ H r σ ∧ OutL G Hid φ H W σ (evs cl es r h) Q
def RT (G : Sg) (W : WX) (cl : Cl) (e : E) : TT := tTest (RE G W cl e)
theorem peI {X : Cx} {x : Expr} {t t' : TE} (h : PE X x t) (k : ∀ σ H Q, t' σ H Q → t σ H Q) : PE X x t' := ⟨fun pins s σ H Q I q => h.run pins s σ H Q I (k _ _ _ q)⟩
theorem ptI {X : Cx} {x : Expr} {t t' : TT} (h : PT X x t) (k : ∀ σ H Q, t' σ H Q → t σ H Q) : PT X x t' := ⟨fun pins s σ H Q I q => h.run pins s σ H Q I (k _ _ _ q)⟩
theorem pwI {X : Cx} {x : Expr} {t t' : TT} (h : PW X x t) (k : ∀ σ H Q, t' σ H Q → t σ H Q) : PW X x t' := ⟨fun wh pins s σ H Q I q => h.run wh pins s σ H Q I (k _ _ _ q)⟩
theorem paI {X : Cx} {x : List Expr} {t t' : TA} (h : PA X x t) (k : ∀ σ H Q, t' σ H Q → t σ H Q) : PA X x t' := ⟨fun pos pins s σ H Q I q => h.run pos pins s σ H Q I (k _ _ _ q)⟩
theorem piI {X : Cx} {tg x : Expr} {t t' : TI} (h : PI X tg x t) (k : ∀ σ H R, t' σ H R → t σ H R) : PI X tg x t' := ⟨fun pins s σ H R I q => h.run pins s σ H R I (k _ _ _ q)⟩
theorem piOr {X : Cx} {tg x : Expr} {t t' : TI} (h : PI X tg x t) (h' : PI X tg x t') : PI X tg x (fun σ H R => t σ H R ∨ t' σ H R) := ⟨fun pins s σ H R I q => by
  rcases q with q | q
  · exact h.run pins s σ H R I q
  · exact h'.run pins s σ H R I q⟩

/-! ### targets -/
def gTs : List Nat → TGs
  | [] => gNil
  | i :: is => gCons (gName i) (gTs is)
def gT (K : PySem.W.Frag) : Tg → TG
  | .nm i => gName i
  | .tp is => gTup K is.length (gTs is)
def Tg.ix : Tg → List Nat
  | .nm i => [i]
  | .tp is => is
def setV : List Nat → List V → L2.St → L2.St
  | i :: is, v :: vs, σ => setV is vs (σ.set i (some v))
  | _, _, σ => σ
section
variable {G : Sg} {φ : List Addr} {H : Hp}
theorem gTs_ok : ∀ {is : List Nat} {ds : List D} {vs : List V} {r r1 : Env} {σ : L2.St} {Q : L2.St → Hp → Prop}, EnvR G φ H r σ → Reps G φ H ds vs → asgL is ds r = some r1 →
    EnvR G φ H r1 (setV is vs σ) ∧ (Q (setV is vs σ) H → gTs is vs σ H Q)
  | [], [], _, r, r1, σ, Q, e, rp, h => by
    cases rp
    cases h
    exact ⟨e, fun q => ⟨rfl, q⟩⟩
  | i :: is, d :: ds, _, r, r1, σ, Q, e, rp, h => by
    cases rp with
    | @cons _ v _ vs q t =>
      simp only [asgL] at h
      split at h
      · obtain ⟨h1, h2⟩ := gTs_ok (Q := Q) (e.set i q) t h
        exact ⟨h1, fun k => ⟨v, vs, rfl, h2 k⟩⟩
      · cases h
  | [], d :: ds, _, _, _, _, _, _, _, h => by simp [asgL] at h
  | i :: is, [], _, _, _, _, _, _, _, h => by simp [asgL] at h
theorem gT_ok {t : Tg} {d : D} {v : V} {r r1 : Env} {σ : L2.St} (e : EnvR G φ H r σ) (rp : Rep G φ H d v) (h : asgT t d r = some r1) :
    ∃ is vs, is = t.ix ∧ EnvR G φ H r1 (setV is vs σ) ∧ ∀ Q, Q (setV is vs σ) H → gT G.K t v σ H Q := by
  cases t with
  | nm i =>
    simp only [asgT] at h
    split at h
    · cases h
      exact ⟨[i], [v], rfl, e.set i rp, fun Q q => q⟩
    · cases h
  | tp is =>
    cases d with
    | tup ds =>
      cases rp with
      | @tup a vs _ q t =>
        have hl := EnvR.asgL e t h
        exact ⟨is, vs, rfl, (gTs_ok (Q := fun _ _ => True) e t h).1, fun Q k => ⟨a, vs, rfl, q, hl.symm, (gTs_ok e t h).2 k⟩⟩
    | _ => simp [asgT] at h
end
theorem wipe_in {σ : L2.St} {i : Nat} : ∀ {vs : List Nat}, i ∈ vs → i < σ.length → (wipe σ vs)[i]? = some none
  | v :: vs, h, hl => by
    unfold wipe
    by_cases e : v = i
    · subst e
      rw [List.getElem?_set_self (by rw [wipe_length]; exact hl)]
    · rw [List.getElem?_set_ne e]
      exact wipe_in (by
        rcases List.mem_cons.mp h with z | z
        · exact absurd z.symm e
        · exact z) hl
theorem wipe_ext {σ τ : L2.St} {vs : List Nat} (hl : σ.length = τ.length) (h : ∀ i, i ∉ vs → σ[i]? = τ[i]?) : wipe σ vs = wipe τ vs := by
  apply List.ext_getElem?
  intro i
  by_cases m : i ∈ vs
  · by_cases lt : i < σ.length
    · rw [wipe_in m lt, wipe_in m (by rw [← hl]; exact lt)]
    · rw [List.getElem?_eq_none (by rw [wipe_length]; omega), List.getElem?_eq_none (by rw [wipe_length]; omega)]
  · rw [wipe_out m, wipe_out m]
    exact h i m
theorem setV_length : ∀ (is : List Nat) (vs : List V) (σ : L2.St), (setV is vs σ).length = σ.length
  | [], _, _ => rfl
  | _ :: _, [], _ => rfl
  | i :: is, v :: vs, σ => by
    show (setV is vs (σ.set i (some v))).length = _
    rw [setV_length is vs, List.length_set]
theorem setV_out : ∀ (is : List Nat) (vs : List V) (σ : L2.St) (j : Nat), j ∉ is → (setV is vs σ)[j]? = σ[j]?
  | [], _, _, _, _ => rfl
  | _ :: _, [], _, _, _ => rfl
  | i :: is, v :: vs, σ, j, h => by
    show (setV is vs (σ.set i (some v)))[j]? = _
    rw [setV_out is vs _ j (fun z => h (List.mem_cons_of_mem _ z)), List.getElem?_set_ne (fun z => h (by rw [z]; exact List.mem_cons_self))]
theorem wipe_setV {is : List Nat} {vs : List V} {σ : L2.St} {own : List Nat} (h : ∀ i ∈ is, i ∈ own) : wipe (setV is vs (wipe σ own)) own = wipe σ own :=
  wipe_ext (by rw [setV_length, wipe_length]) fun i m => by
    rw [setV_out is vs _ i (fun z => m (h i z)), wipe_out m]

/-! ### what is walked -/
/-- J gives the items, one by one, while Gd stands; H is the heap ahead of the walk -/
def WalkOf (G : Sg) (φ : List Addr) (H : Hp) (J : It) (items : List D) (Gd : Hp → Prop) : Prop :=
  Walk J items.length Gd fun i H1 x H2 => Same H1 H2 ∧ (Ext H H1 → ∃ d, items[i]? = some d ∧ Rep G φ H2 d x)
section
variable {G : Sg} {φ : List Addr} {Hid : Hd} {h : Hh} {H : Hp}
theorem wk_seq {J : It} {ds : List D} {vs : List V} {Gd : Hp → Prop} (w : Walk J vs.length Gd (YAt vs)) (r : Reps G φ H ds vs) : WalkOf G φ H J ds Gd := by
  unfold WalkOf
  rw [r.length]
  refine w.mono (fun _ z => z) fun i H1 x H2 hi _ y => ⟨?_, fun e => ?_⟩
  · rw [y.1]
    exact same_rfl _
  · have hx := y.2
    have hd : i < ds.length := by rw [r.length]; exact hi
    obtain ⟨v, h1, h2⟩ := r.get (List.getElem?_eq_getElem hd)
    rw [hx] at h1
    cases h1
    refine ⟨_, List.getElem?_eq_getElem hd, ?_⟩
    rw [y.1]
    exact h2.mono (List.prefix_refl _) e
theorem rangeD_length : ∀ (lo : Int) (n : Nat), (rangeD lo n).length = n
  | _, 0 => rfl
  | lo, n + 1 => by simp [rangeD, rangeD_length (lo + 1) n]
theorem rangeD_get : ∀ (lo : Int) (n i : Nat), i < n → (rangeD lo n)[i]? = some (.int (lo + i))
  | _, 0, _, h => by omega
  | lo, n + 1, 0, _ => by simp [rangeD]
  | lo, n + 1, i + 1, h => by
    simp only [rangeD, List.getElem?_cons_succ]
    rw [rangeD_get (lo + 1) n i (by omega)]
    congr 2
    omega
theorem downD_length : ∀ (lo : Int) (n : Nat), (downD lo n).length = n
  | _, 0 => rfl
  | lo, n + 1 => by simp [downD, downD_length (lo - 1) n]
theorem downD_get : ∀ (lo : Int) (n i : Nat), i < n → (downD lo n)[i]? = some (.int (lo - i))
  | _, 0, _, h => by omega
  | lo, n + 1, 0, _ => by simp [downD]
  | lo, n + 1, i + 1, h => by
    simp only [downD, List.getElem?_cons_succ]
    rw [downD_get (lo - 1) n i (by omega)]
    congr 2
    omega
theorem wk_range {lo : Int} {n : Nat} : WalkOf G φ H (Itr lo n) (rangeD lo n) (fun _ => True) := by
  unfold WalkOf
  rw [rangeD_length]
  refine (walk_range (lo := lo) (n := n)).mono (fun _ z => z) fun i H1 x H2 hi _ y => ⟨?_, fun e => ?_⟩
  · rw [y.1]
    exact same_rfl _
  · rw [y.2]
    exact ⟨_, rangeD_get lo n i hi, .int _⟩
theorem wk_down {lo : Int} {n : Nat} : WalkOf G φ H (Itc lo (-1) n) (downD lo n) (fun _ => True) := by
  unfold WalkOf
  rw [downD_length]
  refine (walk_rangeC (lo := lo) (c := -1) (n := n)).mono (fun _ z => z) fun i H1 x H2 hi _ y => ⟨?_, fun e => ?_⟩
  · rw [y.1]
    exact same_rfl _
  · rw [y.2]
    refine ⟨_, downD_get lo n i hi, ?_⟩
    have : lo + (i : Int) * -1 = lo - i := by omega
    show Rep G φ H2 (D.int (lo - i)) (V.int (lo + (i : Int) * -1))
    rw [this]
    exact .int _
theorem pairs_length : ∀ (xs ys : List D), (pairs xs ys).length = min xs.length ys.length
  | [], _ => by simp [pairs]
  | _ :: _, [] => by simp [pairs]
  | x :: xs, y :: ys => by simp [pairs, pairs_length xs ys, Nat.succ_min_succ]
theorem pairs_get : ∀ (xs ys : List D) (i : Nat) (x y : D), xs[i]? = some x → ys[i]? = some y → (pairs xs ys)[i]? = some (.tup [x, y])
  | [], _, _, _, _, h, _ => by simp at h
  | _ :: _, [], _, _, _, _, h => by simp at h
  | x :: xs, y :: ys, 0, _, _, h1, h2 => by
    simp at h1 h2
    subst h1 h2
    simp [pairs]
  | x :: xs, y :: ys, i + 1, a, b, h1, h2 => by
    simp only [pairs, List.getElem?_cons_succ]
    exact pairs_get xs ys i a b (by simpa using h1) (by simpa using h2)
theorem enumD_length : ∀ (n : Nat) (xs : List D), (enumD n xs).length = xs.length
  | _, [] => rfl
  | n, x :: xs => by simp [enumD, enumD_length (n + 1) xs]
theorem enumD_get : ∀ (n : Nat) (xs : List D) (i : Nat) (x : D), xs[i]? = some x → (enumD n xs)[i]? = some (.tup [.int ((n + i : Nat) : Int), x])
  | _, [], _, _, h => by simp at h
  | n, x :: xs, 0, _, h => by
    simp at h
    subst h
    simp [enumD]
  | n, x :: xs, i + 1, a, h => by
    simp only [enumD, List.getElem?_cons_succ]
    rw [enumD_get (n + 1) xs i a (by simpa using h)]
    congr 4
    omega
theorem rep_pair {H1 : Hp} {T : Addr} {x y : V} {d e : D} (hT : H1 T = none) (h1 : Rep G φ H1 d x) (h2 : Rep G φ H1 e y) : Rep G φ (upd H1 T (.tup [x, y])) (.tup [d, e]) (.ref T) := by
  have ex := same_ext (same_fresh (o := .tup [x, y]) hT)
  exact .tup (.inl (.inl upd_same)) (.cons (h1.mono (List.prefix_refl _) ex) (.cons (h2.mono (List.prefix_refl _) ex) .nil))
theorem wk_enum {J : It} {ds : List D} {vs : List V} {Gd : Hp → Prop} (w : Walk J vs.length Gd (YPair (fun i => some (.int (i : Nat))) (fun i => vs[i]?))) (r : Reps G φ H ds vs) : WalkOf G φ H J (enumD 0 ds) Gd := by
  unfold WalkOf
  rw [enumD_length, r.length]
  refine w.mono (fun _ z => z) fun i H1 v H2 hi _ y => ?_
  obtain ⟨T, x, z, rfl, hT, rfl, e1, e2⟩ := y
  refine ⟨same_fresh hT, fun e => ?_⟩
  have e2 : vs[i]? = some z := e2
  cases e1
  have hd : i < ds.length := by rw [r.length]; exact hi
  obtain ⟨w', h1, h2⟩ := r.get (List.getElem?_eq_getElem hd)
  rw [e2] at h1
  cases h1
  refine ⟨_, enumD_get 0 ds i _ (List.getElem?_eq_getElem hd), rep_pair hT ?_ (h2.mono (List.prefix_refl _) e)⟩
  rw [Nat.zero_add]
  exact .int _
theorem wk_zip {J : It} {ds es : List D} {vs ws : List V} {Gd : Hp → Prop} (w : Walk J (min vs.length ws.length) Gd (YPair (fun i => vs[i]?) (fun i => ws[i]?))) (r : Reps G φ H ds vs) (r2 : Reps G φ H es ws) : WalkOf G φ H J (pairs ds es) Gd := by
  unfold WalkOf
  rw [pairs_length, r.length, r2.length]
  refine w.mono (fun _ z => z) fun i H1 v H2 hi _ y => ?_
  obtain ⟨T, x, z, rfl, hT, rfl, e1, e2⟩ := y
  refine ⟨same_fresh hT, fun e => ?_⟩
  have e1 : vs[i]? = some x := e1
  have e2 : ws[i]? = some z := e2
  have hd : i < ds.length := by rw [r.length]; omega
  have he : i < es.length := by rw [r2.length]; omega
  obtain ⟨w1, h1, h2⟩ := r.get (List.getElem?_eq_getElem hd)
  obtain ⟨w2, h3, h4⟩ := r2.get (List.getElem?_eq_getElem he)
  rw [e1] at h1
  cases h1
  rw [e2] at h3
  cases h3
  exact ⟨_, pairs_get ds es i _ _ (List.getElem?_eq_getElem hd) (List.getElem?_eq_getElem he), rep_pair hT (h2.mono (List.prefix_refl _) e) (h4.mono (List.prefix_refl _) e)⟩
theorem wk_str {x : Str} : WalkOf G φ H (Its x) (x.cps.toList.map fun c => D.str ⟨#[c]⟩) (fun _ => True) := by
  unfold WalkOf
  have e : (x.cps.toList.map fun c => D.str ⟨#[c]⟩).length = x.cps.size := by simp
  rw [e]
  refine (walk_str (z := x)).mono (fun _ z => z) fun i H1 v H2 hi _ y => ?_
  obtain ⟨rfl, c, hc, rfl⟩ := y
  refine ⟨same_rfl _, fun e => ⟨.str ⟨#[c]⟩, ?_, .str _⟩⟩
  rw [List.getElem?_map, Array.getElem?_toList, hc]
  rfl

/-! ### lists that are only read meanwhile -/
/-- Hid' knows besides what the walk leans on; afterwards the store is given back -/
structure Held (G : Sg) (φ : List Addr) (H : Hp) (Hid Hid' : Hd) (lk : List (Nat × List D)) (h : Hh) (Gd : Hp → Prop) : Prop where
  st : ST G φ Hid' (lockH lk h) H
  lt : ∀ p ∈ lk, p.1 < φ.length
  good : ∀ φ2 h2 H2, Ext H H2 → ST G φ2 Hid' h2 H2 → Gd H2
  back : ∀ φ2 h2 H2, φ <+: φ2 → Ext H H2 → ST G φ2 Hid' h2 H2 → ST G φ2 Hid (unlockH lk h2) H2
theorem Held.none (s : ST G φ Hid h H) : Held G φ H Hid Hid [] h (fun _ => True) := ⟨s, (fun _ z => nomatch z), fun _ _ _ _ _ => trivial, fun _ _ _ _ _ z => z⟩
/-- what is known of the heap as it was ahead -/
theorem Held.and {Hid' : Hd} {lk : List (Nat × List D)} {Gd Gd' : Hp → Prop} (x : Held G φ H Hid Hid' lk h Gd) (k : ∀ H2, Ext H H2 → Gd' H2) : Held G φ H Hid Hid' lk h Gd' := ⟨x.st, x.lt, fun φ2 h2 H2 e z => k _ e, x.back⟩
theorem Held.imp {Hid' : Hd} {lk : List (Nat × List D)} {Gd Gd' : Hp → Prop} (x : Held G φ H Hid Hid' lk h Gd) (k : ∀ H2, Gd H2 → Gd' H2) : Held G φ H Hid Hid' lk h Gd' := ⟨x.st, x.lt, fun φ2 h2 H2 e z => k _ (x.good φ2 h2 H2 e z), x.back⟩
theorem Held.lst {a : Nat} {ds : List D} {p : Addr} (s : ST G φ Hid h H) (g : h.get a = some (.lst ds)) (ep : φ[a]? = some p) : ∃ vs, H p = some (.lst vs) ∧ Reps G φ H ds vs ∧ Held G φ H Hid (Hid.add p (.lst vs)) [(a, ds)] h (fun H2 => H2 p = some (.lst vs)) := by
  obtain ⟨vs, h1, h2, h3, h4⟩ := s.lock g ep
  refine ⟨vs, h1, h2, h4, fun q hq => ?_, fun φ2 hh H2 _ z => z.hid p _ upd_same, fun φ2 hh H2 pre e z => ?_⟩
  · obtain rfl : q = (a, ds) := by simpa using hq
    rw [s.len]
    exact s.lt g
  · exact z.unlock h3 (pre_get pre ep) (h2.mono pre e)
/-- what is known may be forgotten -/
theorem ST.forget {Hid' : Hd} (s : ST G φ Hid' h H) (k : ∀ c w, Hid.m c = some w → Hid'.m c = some w) (kb : ∀ c, Hid.bn c → Hid'.bn c) : ST G φ Hid h H :=
  ⟨s.len, s.live, s.inj, fun a o z => s.hid a o (k a o z), fun a u i o z => s.apart a u i o (k a u z), fun a i o z => s.ban a i o (kb a z)⟩
theorem Held.ro {a : Nat} {ds : List D} {p : Addr} (s : ST G φ Hid h H) (g : h.get a = some (.ro ds)) (ep : φ[a]? = some p) : ∃ vs, H p = some (.lst vs) ∧ Reps G φ H ds vs ∧ Held G φ H Hid (Hid.add p (.lst vs)) [] h (fun H2 => H2 p = some (.lst vs)) := by
  obtain ⟨p', h1, vs, h2, h3⟩ := s.live a _ g
  rw [ep] at h1
  cases h1
  have sub : ∀ c w, Hid.m c = some w → (Hid.add p (.lst vs)).m c = some w := fun c w z => by
    show upd Hid.m p (.lst vs) c = some w
    by_cases e : c = p
    · subst e
      rw [upd_same, ← h2]
      exact s.hid c w z
    · rw [upd_ne e]
      exact z
  refine ⟨vs, h2, h3, ⟨s.len, s.live, s.inj, fun c w z => ?_, fun c w i o z gi ei => ?_, s.ban⟩, (fun _ z => nomatch z), fun φ2 hh H2 _ z => z.hid p _ upd_same, fun φ2 hh H2 pre e z => z.forget sub fun _ b => b⟩
  · have z : upd Hid.m p (.lst vs) c = some w := z
    by_cases e : c = p
    · subst e
      rw [upd_same] at z
      cases z
      exact h2
    · rw [upd_ne e] at z
      exact s.hid c w z
  · have z : upd Hid.m p (.lst vs) c = some w := z
    by_cases e : c = p
    · subst e
      have gi : h.get i = some o := gi
      have := s.inj i a c o _ gi g ei ep
      subst this
      rw [g] at gi
      cases gi
      rfl
    · rw [upd_ne e] at z
      exact s.apart c w i o z gi ei
/-- two lists -/
theorem Held.two {a b : Nat} {ds es : List D} {p q : Addr} (s : ST G φ Hid h H) (ga : h.get a = some (.lst ds)) (gb : h.get b = some (.lst es)) (ep : φ[a]? = some p) (eq : φ[b]? = some q) :
    ∃ vs ws Hid', H p = some (.lst vs) ∧ H q = some (.lst ws) ∧ Reps G φ H ds vs ∧ Reps G φ H es ws ∧ Held G φ H Hid Hid' [(a, ds), (b, es)] h (fun H2 => H2 p = some (.lst vs) ∧ H2 q = some (.lst ws)) := by
  obtain ⟨vs, h1, h2, x⟩ := Held.lst s ga ep
  by_cases e : a = b
  · subst e
    rw [ga] at gb
    cases gb
    rw [ep] at eq
    cases eq
    refine ⟨vs, vs, _, h1, h1, h2, h2, ⟨?_, fun q hq => x.lt q (by simpa using hq), fun φ2 hh H2 ee z => ⟨x.good _ _ _ ee z, x.good _ _ _ ee z⟩, fun φ2 hh H2 pre ee z => ?_⟩⟩
    · have e1 : lockH [(a, ds), (a, ds)] h = (h.set a (.ro ds)).set a (.ro ds) := rfl
      have e2 : (h.set a (.ro ds)).set a (.ro ds) = h.set a (.ro ds) := by
        unfold Hh.set
        congr 1
        generalize h.ob = l
        induction l with
        | nil => rfl
        | cons c r ih =>
          obtain ⟨j, u⟩ := c
          by_cases ej : a = j
          · simp [setL, ej]
          · simp [setL, ej, ih]
      rw [e1, e2]
      exact x.st
    · have := x.back φ2 hh H2 pre ee z
      have e2 : ∀ hh : Hh, unlockH [(a, ds), (a, ds)] hh = unlockH [(a, ds)] hh := fun hh => by
        show ((hh.set a (.lst ds)).set a (.lst ds)) = hh.set a (.lst ds)
        unfold Hh.set
        congr 1
        generalize hh.ob = l
        induction l with
        | nil => rfl
        | cons c r ih =>
          obtain ⟨j, u⟩ := c
          by_cases ej : a = j
          · simp [setL, ej]
          · simp [setL, ej, ih]
      rw [e2]
      exact this
  · have gb' : (h.set a (.ro ds)).get b = some (.lst es) := by
      rw [get_set, if_neg (fun z => e z.symm)]
      exact gb
    obtain ⟨ws, k1, k2, y⟩ := Held.lst (h := h.set a (.ro ds)) x.st gb' eq
    have npq : p ≠ q := fun z => e (s.inj a b p _ _ ga gb ep (by rw [eq, z]))
    refine ⟨vs, ws, _, h1, k1, h2, k2, ⟨y.st, fun q hq => ?_, fun φ2 hh H2 ee z => ⟨z.hid p _ ?_, y.good _ _ _ ee z⟩, fun φ2 hh H2 pre ee z => ?_⟩⟩
    · rcases List.mem_cons.mp hq with e1 | e1
      · exact x.lt q (by rw [e1]; exact List.mem_cons_self)
      · exact y.lt q e1
    · show upd (upd Hid.m p (.lst vs)) q (.lst ws) p = _
      rw [upd_ne npq, upd_same]
    · have z1 := y.back φ2 hh H2 pre ee z
      have z2 := x.back φ2 _ H2 pre ee z1
      have comm : unlockH [(a, ds), (b, es)] hh = unlockH [(a, ds)] (unlockH [(b, es)] hh) := by
        show ((hh.set a (.lst ds)).set b (.lst es)) = (hh.set b (.lst es)).set a (.lst ds)
        unfold Hh.set
        congr 1
        generalize hh.ob = l
        induction l with
        | nil => rfl
        | cons c r ih =>
          obtain ⟨j, u⟩ := c
          by_cases ej : a = j
          · have eb : ¬ b = j := fun z => e (ej.trans z.symm)
            simp [setL, ej, eb]
          · by_cases eb : b = j
            · simp [setL, ej, eb]
            · simp [setL, ej, eb, ih]
      rw [comm]
      exact z2
end
end Alb
set_option Elab.async false
set_option linter.all false
set_option maxRecDepth 100000
set_option maxHeartbeats 4000000
/-! enumerate of a tuple -/
namespace Alb
open PySem PySem.Spec PyProof.Rows L2
open AutoSeq1 (wpAny_loadPart')
theorem enum_newT (l : Addr) (items : Array Value) (n : Nat) (dct : Option Addr) (sl : Array (Option Value)) :
    Meets (Builtin.«enumerate.__new__» ⟨[.type "enumerate", .ref l], []⟩) (fun _ R s => s.heap.get? l = some { cls := .type "tuple", dict := dct, data := .seq items n, slots := sl } ∧
      R (.ok (.ret (.ref (s.heap.push { cls := .type "tuple_iterator", data := .fields #[.ref l, .int 0 0] }).objs.size)))
        { s with heap := (s.heap.push { cls := .type "tuple_iterator", data := .fields #[.ref l, .int 0 0] }).push { cls := .type "enumerate", data := .fields #[.none, .bool false, .ref s.heap.objs.size, rawInt 0, .none, .none] } }) :=
  .of_wp fun prog w A R s h => by
    obtain ⟨hp, g, d, tk, os⟩ := s
    obtain ⟨hl, h⟩ := h
    have hsub := sub_enumerate
    have hL : Heap.IsTuple (Shared.heap ⟨hp, g, d, tk, os⟩) l items := ⟨_, hl, rfl, n, rfl⟩
    wp_walk using wpAny_loadPart' hl
    refine wpAny_stack_any fun st => wpAny_pure ?_
    split
    · rename_i c _ _ _ _ _
      cases (c == Value.type "enumerate")
      · wp_walk using wpAny_loadPart' hl, wpAny_pyIter_tuple hL
        exact ⟨_, rfl, h⟩
      · wp_walk using wpAny_loadPart' hl, wpAny_pyIter_tuple hL
        exact ⟨_, rfl, h⟩
    · wp_walk using wpAny_loadPart' hl, wpAny_pyIter_tuple hL
      exact ⟨_, rfl, h⟩
theorem call_enumT {prog : Program} {w : World} {A : Around} {E : Value → Shared → Prop} {s : Shared} {l : Addr} {items : Array Value} {Q : Value → Shared → Prop} (hL : s.heap.IsTuple l items)
    (h : ∀ h', IsEnum h' (s.heap.objs.size + 1) s.heap.objs.size 0 .none → h'.IsTupleIter s.heap.objs.size l 0 → h'.objs.size = s.heap.objs.size + 2 →
      (∀ b o, s.heap.get? b = some o → h'.get? b = some o) → Q (.ref (s.heap.objs.size + 1)) { s with heap := h' }) :
    wpAny (model prog w) A (call (.type "enumerate") [.ref l]) Q E s := by
  obtain ⟨⟨c, dct, dt, sl⟩, hl, hc, n, hd⟩ := hL
  replace hc : c = .type "tuple" := hc
  replace hd : dt = .seq items n := hd
  subst hc hd
  refine callType_new F.called_enumerate (by decide) (F.typeCall_enumerate_1 _) (F.newCall_enumerate_1 _) (fun obj => F.args_object_init_2 obj _) F.entry_enumerate_new
    (enum_newT l items n dct sl) ⟨hl, ?_⟩
  have hz : (s.heap.push { cls := .type "tuple_iterator", data := .fields #[.ref l, .int 0 0] }).objs.size = s.heap.objs.size + 1 := Heap.size_push ..
  show _ ∧ _
  rw [hz]
  have he : IsEnum ((s.heap.push { cls := .type "tuple_iterator", data := .fields #[.ref l, .int 0 0] }).push
      { cls := .type "enumerate", data := .fields #[.none, .bool false, .ref s.heap.objs.size, rawInt 0, .none, .none] }) (s.heap.objs.size + 1) s.heap.objs.size 0 .none := by
    have := Heap.get?_push_size (s.heap.push { cls := .type "tuple_iterator", data := .fields #[.ref l, .int 0 0] })
      (o := { cls := .type "enumerate", data := .fields #[.none, .bool false, .ref s.heap.objs.size, rawInt 0, .none, .none] }) rfl
    rw [hz] at this
    exact this
  exact ⟨⟨_, he, rfl⟩, h _ he ⟨_, Heap.get?_push_of_some _ (Heap.get?_push_size _ rfl), rfl, rfl⟩ (by rw [Heap.size_push, hz]) fun b o x => Heap.get?_push_of_some _ (Heap.get?_push_of_some _ x)⟩
/-- the tuple at a, each item in a new pair -/
def IteT (K : PySem.W.Frag) (a : Addr) : It :=
  ⟨fun i H => ∃ (xs : List V) (x : V), SqT K H a xs ∧ xs[i]? = some x, fun i H v H' => ∃ T x, v = .ref T ∧ H T = none ∧ H' = upd H T (.tup [.int (i : Nat), x]) ∧ ∀ xs, SqT K H a xs → xs[i]? = some x, fun i H => ∃ xs : List V, SqT K H a xs ∧ xs.length = i⟩
theorem turn_enumT {P : Program} {w : World} {K : PySem.W.Frag} {elts : List Expr} {kk : Nat} {tpos : Pos} (a e it : Addr) :
    Turn P w K (.Tuple elts kk tpos) (IteT K a) [e, it] e (fun i h => (∃ old, IsEnum h e it ((i : Nat) : Int) old) ∧ h.IsTupleIter it a i ∧ e ≠ it) where
  mem := by simp
  obj := fun i h st b hb => by
    obtain ⟨⟨old, he⟩, ⟨o, ho, hc, hd⟩, _⟩ := st
    have e' : b = e ∨ b = it := by simpa using hb
    rcases e' with z | z
    · rw [z]; exact ⟨_, he, fun v q => nomatch q⟩
    · rw [z]; exact ⟨o, ho, fun v q => by rw [hd] at q; cases q⟩
  keep := fun i h h' st k => let ⟨⟨old, he⟩, hi, hne⟩ := st; ⟨⟨old, k e (by simp) _ he⟩, hi.at fun o q => k it (by simp) o q, hne⟩
  item := by
    intro X hP hw hK hc i pins s σ H E I hf st hg
    subst hP hw hK
    obtain ⟨⟨old, he⟩, hit, hne⟩ := st
    obtain ⟨xs, x, hq, hx⟩ := hg
    obtain ⟨its, rv, p, hz⟩ := I.tuple hq
    obtain ⟨u, hu, ru⟩ := rv.get hx
    have hel : e < s.heap.objs.size := Heap.lt_size he
    have hil : it < s.heap.objs.size := by obtain ⟨_, q, _⟩ := hit; exact Heap.lt_size q
    have hh : X.A.handled = none := I.ok.hd hc
    have ha : a ≠ it := fun z => by
      obtain ⟨o, ho, c1, _⟩ := p
      obtain ⟨o2, ho2, c2, _⟩ := hit
      rw [z, ho2] at ho
      cases ho
      rw [c2] at c1
      exact absurd c1 (by decide)
    have hae : e ≠ a := fun z => by
      obtain ⟨o, ho, c1, _⟩ := p
      have he' : s.heap.get? e = some _ := he
      rw [z, ho] at he'
      cases he'
      have c1 : Value.type "enumerate" = Value.type "tuple" := c1
      exact absurd c1 (by decide)
    have D := Draws.tuple (prog := X.prog) (w := X.w) (A := X.A.in1) hh it a ha its.toArray
    have hlt : i < its.toArray.size := by
      have hu' : its[i]? = some u := hu
      rw [List.getElem?_eq_some_iff] at hu'
      simpa using hu'.1
    refine wpAny_pyNext_enum_itemC D he (i := i) ⟨hit, p⟩ hlt hne (by simp [hne, hae]) fun y h' tk hy ho hst hT hsz hk => ?_
    have ey : y = u := by
      have hu' : its.toArray[i]? = some u := by simpa using hu
      rw [hu'] at hy
      exact (Option.some.inj hy).symm
    subst ey
    refine ⟨_, rfl, wpAny_letOwnedTupleGo_enum (s := { s with heap := h', toks := tk + 1 }) ho fun h'' he' sb => ?_⟩
    have hT2 : h''.get? s.heap.objs.size = some { cls := .type "tuple", data := .seq #[.int i tk, y] } := (sb.2 _ (Nat.ne_of_gt hel)).trans hT
    have new : ObjOk X.prog X.w (upd H s.heap.objs.size (.tup [.int (i : Nat), x])) h'' s.heap.objs.size (.tup [.int (i : Nat), x]) :=
      ⟨by show 2 ≤ sizeLine; decide, [.int i tk, y], .cons ⟨_, rfl⟩ (.cons ru .nil), ⟨_, hT2, rfl, _, rfl⟩⟩
    have I1 : Inv X pins σ (upd H s.heap.objs.size (.tup [.int (i : Nat), x])) { s with heap := h'', toks := tk + 1 } :=
      I.turnedNew (ch := [e, it]) (fun b ob hb q => (sb.2 b (fun z => hb (by simp [z]))).trans (hk b ob (fun z => hb (by simp [z])) (fun z => hb (by simp [z])) q)) hf (Nat.le_refl _) new
    refine ⟨.ref s.heap.objs.size, _, I1, rfl, ⟨_, x, rfl, I.hok.fresh (Nat.le_refl _), rfl, fun ys hy => by rw [I.tuple_inj hy hq]; exact hx⟩, ⟨⟨y, ?_⟩, hst.1.at fun o q => (sb.2 it (Ne.symm hne)).trans q, hne⟩, fun b hb => ?_⟩
    · have e1 : ((i + 1 : Nat) : Int) = (i : Int) + 1 := by omega
      rw [e1]; exact he'
    · have hb' : b < s.heap.objs.size := by
        have e' : b = e ∨ b = it := by simpa using hb
        rcases e' with z | z
        · rw [z]; exact hel
        · rw [z]; exact hil
      rw [upd_ne (Nat.ne_of_lt hb')]
      exact (hf b hb).1
  done := by
    intro X hP hw hK hc i pins s σ H E I hf st hg
    subst hP hw hK
    obtain ⟨⟨old, he⟩, hit, hne⟩ := st
    obtain ⟨xs, hq, hx⟩ := hg
    obtain ⟨its, rv, p, hz⟩ := I.tuple hq
    obtain ⟨f0, f1, f2, f3, f4, f5⟩ := hf it (by simp)
    have hl := rv.length
    have ha : a ≠ it := fun z => by
      obtain ⟨o, ho, c1, _⟩ := p
      obtain ⟨o2, ho2, c2, _⟩ := hit
      rw [z, ho2] at ho
      cases ho
      rw [c2] at c1
      exact absurd c1 (by decide)
    have D := Draws.tuple (prog := X.prog) (w := X.w) (A := X.A.in1) (I.ok.hd hc) it a ha its.toArray
    have hi : i = its.toArray.size := by simp; omega
    subst hi
    exact wpAny_pyNext_enum_endD D he ⟨hit, p⟩ fun h' eb => ⟨rfl, I.turned (t' := s.toks) (fun b o hb q => eb b o hb q) f0 f1 f3 f4 f5⟩
  self := fun A i s Q E st h => let ⟨⟨_, he⟩, _⟩ := st; wpAny_pyIter_enum he h
def iEnumT (K : PySem.W.Frag) (ta : TA) : TI := fun σ H R => ta σ H fun vs H1 => ∃ a xs, vs = [.ref a] ∧ SqT K H1 a xs ∧ R (IteT K a) H1
theorem pi_enumT {X : Cx} {e : Expr} {ta : TA} {p pos tpos : Pos} {elts : List Expr} {kk : Nat} (hg : Gl X "enumerate") (hm : X.mg "enumerate" = none) (ha : PA X [e] ta) (hs : starEach [e] X.env = [(false, eval e X.env)] := by rfl) :
    PI X (.Tuple elts kk tpos) (.Call (.Name "enumerate" p) [e] [] pos) (iEnumT X.K ta) := by
  refine ⟨fun pins s σ H R I h => ?_⟩
  refine Call_ (ld_blt I hg hm boot_enumerate (PyProof.Rows.callWith_type1 (thn (ha.run pos pins s σ H _ I h) fun us s1 ⟨vs, H1, I1, r1, q1⟩ => ?_) hs rfl))
  obtain ⟨a, xs, ex, hq, q⟩ := q1
  subst ex
  cases r1 with
  | cons r rr =>
    cases rr
    cases r
    obtain ⟨its, rv, p', hz⟩ := I1.tuple hq
    refine call_enumT (show s1.heap.IsTuple a its.toArray from p') fun h' he hit hsz hk => wpAny_pyIter_enum he ?_
    have I2 : Inv X pins σ H1 { s1 with heap := h' } := I1.kept (t' := s1.toks) hk
    refine ⟨s1.heap.objs.size + 1, [s1.heap.objs.size + 1, s1.heap.objs.size], _, _, H1, rfl, I2, turn_enumT a (s1.heap.objs.size + 1) s1.heap.objs.size, ⟨⟨.none, he⟩, hit, Nat.succ_ne_self _⟩, fun b hb => ?_, q⟩
    have e' : b = s1.heap.objs.size + 1 ∨ b = s1.heap.objs.size := by simpa using hb
    have hle : s1.heap.objs.size ≤ b := by
      rcases e' with z | z
      · rw [z]; exact Nat.le_add_right _ _
      · rw [z]; exact Nat.le_refl _
    exact I1.fpOk hle (I1.hok.fresh hle)
theorem walk_enumT {K : PySem.W.Frag} {a : Addr} {xs : List V} : Walk (IteT K a) xs.length (fun H => SqT K H a xs) (YPair (fun i => some (.int (i : Nat))) (fun i => xs[i]?)) := by
  refine ⟨fun i _ hi q => ⟨xs, xs[i], q, by simp [hi]⟩, fun _ q => ⟨xs, q, rfl⟩, fun i H v H' _ q y => ?_⟩
  obtain ⟨T, x, h1, h2, h3, h4⟩ := y
  exact ⟨T, .int (i : Nat), x, h1, h2, h3, rfl, h4 xs q⟩
end Alb
set_option Elab.async false
set_option linter.all false
set_option maxRecDepth 100000
set_option maxHeartbeats 4000000
/-! The text against the small syntax. -/
namespace Alb
open PySem PySem.Spec PyProof.Rows L2

structure Nm where
  fn : Nat → Option Str
  g : Nat → Option Str
  cls : Nat → Option Str
  /-- there is a def that tells which error was caught -/
  tw : Bool
/-- where a piece of text stands: the slots' names, the scope, which names' cells are the block's own -/
structure Sc where
  N : List Str
  sc : Scope
  fb : Str → Bool
def visB (sc : Scope) (x : Str) : Bool := match sc.names.lookup x with
  | some .local => true
  | some .cell => true
  | some .free => true
  | _ => false
def locB (sc : Scope) (x : Str) : Bool := match sc.names.lookup x with
  | some .local => true
  | some .cell => true
  | _ => false
def isLoc (sc : Scope) (x : Str) : Bool := match sc.names.lookup x with
  | some .local => true
  | _ => false
def glB (sc : Scope) (x : Str) : Bool := match sc.names.lookup x with
  | some .globalImplicit => true
  | _ => false
def okN (x : Str) : Bool := decide (x ≠ ("__debug__" : Str)) && decide (x ≠ ("__classdict__" : Str)) && decide (x ≠ ("__name__" : Str))
/-- an expression of plain form -/
def pl : Expr → Bool
  | .Starred .. => false
  | .Set .. => false
  | .Slice .. => false
  | _ => true
def nosup : Expr → Bool
  | .Call (.Name _ _) [] [] _ => false
  | _ => true
def opX : BOp → Operator
  | .add => .Add
  | .sub => .Sub
  | .mul => .Mult
  | .fdiv => .FloorDiv
  | .mod => .Mod
  | .pow => .Pow
def copX : COp → CmpOp
  | .lt => .Lt
  | .le => .LtE
  | .gt => .Gt
  | .ge => .GtE
  | .eq => .Eq
  | .ne => .NotEq
  | .isx => .Is
  | .nis => .IsNot
  | .inx => .In
  | .nin => .NotIn
def cstB : D → Const → Bool
  | .non, .none => true
  | .bl b, .bool c => b == c
  | .int i, .int j => i == j
  | .str x, .str y => decide (x = y)
  | _, _ => false
def bnm : Blt → Option String
  | .len => some "len"
  | .max => some "max"
  | .min => some "min"
  | .sum => some "sum"
  | .all => some "all"
  | .tuple => some "tuple"
  | .list => some "list"
  | _ => none
def mnm : Mth → Option String
  | .append => some "append"
  | .extend => some "extend"
  | .count => some "count"
  | _ => none
def nmG (c : Sc) (i : Nat) (e : Expr) : Bool := match e with
  | .Name x _ => decide (c.N[i]? = some x) && locB c.sc x && (c.fb x || isLoc c.sc x)
  | _ => false
def nmGs (c : Sc) : List Nat → List Expr → Bool
  | [], [] => true
  | i :: is, e :: es => nmG c i e && nmGs c is es
  | _, _ => false
def mtG (c : Sc) (t : Tg) (e : Expr) : Bool := match t with
  | .nm i => nmG c i e
  | .tp is => (match e with
    | .Tuple es _ _ => nmGs c is es
    | _ => false)
mutual
/-- may stand as a test -/
def okT : E → Bool
  | .ite .. => false
  | .and es => okTs es
  | .or es => okTs es
  | .not a => okT a
  | _ => true
def okTs : Es → Bool
  | .nil => true
  | .cons e es => okT e && okTs es
end
def isTup : Expr → Bool
  | .Tuple .. => true
  | _ => false
/-- what is walked -/
def iterB (c : Sc) (k : Ik) (ms : List Expr → Bool) (mv : Expr → Bool) (tg iter : Expr) : Bool := match k with
  | .val => mv iter && pl iter
  | .r1 => (match iter with
    | .Call (.Name x _) [a] [] _ => decide (x = ("range" : Str)) && glB c.sc x && ms [a]
    | _ => false)
  | .r2 => (match iter with
    | .Call (.Name x _) [a, b] [] _ => decide (x = ("range" : Str)) && glB c.sc x && ms [a, b]
    | _ => false)
  | .r3 => (match iter with
    | .Call (.Name x _) [a, b, d] [] _ => decide (x = ("range" : Str)) && glB c.sc x && ms [a, b, d]
    | _ => false)
  | .enu => (match iter with
    | .Call (.Name x _) [a] [] _ => decide (x = ("enumerate" : Str)) && glB c.sc x && ms [a] && isTup tg
    | _ => false)
  | .zip => (match iter with
    | .Call (.Name x _) [a, b] [] _ => decide (x = ("zip" : Str)) && glB c.sc x && ms [a, b] && isTup tg
    | _ => false)
def Sc.blk (c : Sc) (scope : Scope) : Sc := ⟨c.N, relS scope c.sc, fun x => scope.names.lookup x == some .cell⟩
def ownOf (N : List Str) (own : List Nat) : List (Str × Nat) := own.filterMap fun i => (N[i]?).map fun x => (x, i)
mutual
def mt (M : Nm) (c : Sc) : E → Expr → Bool
  | .cst d, x => (match x with
    | .Constant k _ _ => cstB d k
    | _ => false)
  | .var i, x => (match x with
    | .Name y _ => decide (c.N[i]? = some y) && visB c.sc y && okN y
    | _ => false)
  | .fnv f, x => (match x with
    | .Name y _ => decide (M.fn f = some y) && glB c.sc y && okN y
    | _ => false)
  | .glb g, x => (match x with
    | .Name y _ => decide (M.g g = some y) && glB c.sc y && okN y
    | _ => false)
  | .bin o a b, x => (match x with
    | .BinOp l op r _ => decide (op = opX o) && mt M c a l && mt M c b r
    | _ => false)
  | .neg a, x => (match x with
    | .UnaryOp .USub y _ => mt M c a y
    | _ => false)
  | .cmp o a b, x => (match x with
    | .Compare l [op] [r] _ => decide (op = copX o) && pl r && mt M c a l && mt M c b r
    | _ => false)
  | .chn o p a b d, x => (match x with
    | .Compare l [op, oq] [r, s] _ => decide (op = copX o) && decide (oq = copX p) && pl r && pl s && mt M c a l && mt M c b r && mt M c d s
    | _ => false)
  | .chn3 o p q a b d e, x => (match x with
    | .Compare l [op, oq, oz] [r, s, u] _ => decide (op = copX o) && decide (oq = copX p) && decide (oz = copX q) && pl r && pl s && pl u && mt M c a l && mt M c b r && mt M c d s && mt M c e u
    | _ => false)
  | .and es, x => (match x with
    | .BoolOp .And vs _ => mts M c es vs && decide (2 ≤ vs.length)
    | _ => false)
  | .or es, x => (match x with
    | .BoolOp .Or vs _ => mts M c es vs && decide (2 ≤ vs.length)
    | _ => false)
  | .not a, x => (match x with
    | .UnaryOp .Not y _ => mt M c a y
    | _ => false)
  | .ite t a b, x => (match x with
    | .IfExp y z w _ => okT t && mt M c t y && mt M c a z && mt M c b w
    | _ => false)
  | .cal f es, x => (match x with
    | .Call (.Name y _) as [] _ => decide (M.fn f = some y) && glB c.sc y && okN y && mts M c es as && decide (1 ≤ as.length)
    | _ => false)
  | .cax fe es, x => (match x with
    | .Call (.Subscript a b p) as [] _ => mt M c fe (.Subscript a b p) && mts M c es as && decide (1 ≤ as.length)
    | _ => false)
  | .blt b es, x => (match x with
    | .Call (.Name y _) as [] _ => (match bnm b with
      | some z => decide (y = Str.ofString z)
      | none => false) && glB c.sc y && mts M c es as && decide (1 ≤ as.length)
    | _ => false)
  | .isi t a, x => (match x with
    | .Call (.Name y _) [u, .Name z _] [] _ => decide (y = ("isinstance" : Str)) && glB c.sc y && decide (t ≠ .own) && decide (z = Str.ofString t.nm) && glB c.sc z && pl u && mt M c a u
    | _ => false)
  | .mth m a es, x => (match x with
    | .Call (.Attribute o nm ap) as [] cp => (match mnm m with
      | some z => decide (nm = Str.ofString z)
      | none => false) && (ap.endLine == cp.line) && nosup o && mt M c a o && mts M c es as && decide (as.length = 1)
    | _ => false)
  | .tup es, x => (match x with
    | .Tuple xs _ _ => mts M c es xs && decide (xs.length ≤ 1000)
    | _ => false)
  | .lst es, x => (match x with
    | .List xs _ => mts M c es xs && decide (xs.length ≤ 1000)
    | _ => false)
  | .dct, _ => false
  | .sub a i, x => (match x with
    | .Subscript y z _ => pl z && mt M c a y && mt M c i z
    | _ => false)
  | .dget .., _ => false
  | .slc a lo hi, x => (match x with
    | .Subscript y (.Slice l u none _) _ => mt M c a y && mto M c lo l && mto M c hi u
    | _ => false)
  | .rev a, x => false
  | .lc own t k es cd e, x => (match x with
    | .ListComp elt [⟨tg, iter, ifs, 0⟩] scope _ =>
      blkC c.N c.sc scope (ownOf c.N own) && decide ((ownOf c.N own).map (·.2) = own) && iterB c k (fun as => mts M c es as) (fun y => match es with
        | .cons e1 .nil => mt M c e1 y
        | _ => false) tg iter &&
      mtG (c.blk scope) t tg && t.ix.all (own.contains ·) && mtc M (c.blk scope) cd ifs && mt M (c.blk scope) e elt
    | _ => false)
  | .fld .., _ => false
  | .mcl .., _ => false
  | .mk .., _ => false
  | .oeq .., _ => false
  | .olen .., _ => false
  | .ostr .., _ => false
def mts (M : Nm) (c : Sc) : Es → List Expr → Bool
  | .nil, xs => (match xs with
    | [] => true
    | _ => false)
  | .cons e es, xs => (match xs with
    | x :: r => pl x && mt M c e x && mts M c es r
    | _ => false)
def mto (M : Nm) (c : Sc) : Oe → Option Expr → Bool
  | .none, x => (match x with
    | none => true
    | _ => false)
  | .some e, x => (match x with
    | some y => mt M c e y
    | _ => false)
def mtc (M : Nm) (c : Sc) : Oe → List Expr → Bool
  | .none, xs => (match xs with
    | [] => true
    | _ => false)
  | .some e, xs => (match xs with
    | [y] => okT e && mt M c e y
    | _ => false)
end

theorem mt_lc (M : Nm) (c : Sc) (own : List Nat) (t : Tg) (k : Ik) (es : Es) (cd : Oe) (e : E) (x : Expr) : mt M c (.lc own t k es cd e) x = (match x with
    | .ListComp elt [⟨tg, iter, ifs, 0⟩] scope _ =>
      blkC c.N c.sc scope (ownOf c.N own) && decide ((ownOf c.N own).map (·.2) = own) && iterB c k (fun as => mts M c es as) (fun y => match es with
        | .cons e1 .nil => mt M c e1 y
        | _ => false) tg iter &&
      mtG (c.blk scope) t tg && t.ix.all (own.contains ·) && mtc M (c.blk scope) cd ifs && mt M (c.blk scope) e elt
    | _ => false) := by rw [mt.eq_def]

/-! ### plain forms -/
section
variable {env : PySem.Env} {x : Expr} {xs : List Expr}
theorem star_pl (h : pl x = true) : starEach (x :: xs) env = (false, eval x env) :: starEach xs env := by
  cases x <;> first | rfl | (simp [pl] at h)
theorem star_any {pos : Pos} : ∀ {xs : List Expr}, xs.all pl = true → (backTo pos (starEach xs env)).any (·.1) = false
  | [], _ => by simp [starEach, backTo]
  | x :: xs, h => by
    simp only [List.all_cons, Bool.and_eq_true] at h
    rw [star_pl h.1]
    have ih := star_any (pos := pos) (xs := xs) h.2
    simp only [backTo, List.map_cons, List.any_cons, Bool.false_or]
    exact ih
theorem star_one (h : pl x = true) : starEach [x] env = [(false, eval x env)] := star_pl (xs := []) h
theorem marks_pl {op : CmpOp} (h : pl x = true) : behindInMarks op x = false := by
  cases x <;> first | rfl | (simp [pl] at h)
theorem set_pl (h : pl x = true) (v : Value) : foldedSetIterable x env v = pure v := by
  cases x <;> first | rfl | (simp [pl] at h)
theorem plainIx_pl (h : pl x = true) : PlainIx x := by
  intro o i
  cases x <;> first | rfl | (simp [pl] at h)
theorem base_pl (h : nosup x = true) (a : Str) : attributeBase x a env (eval x env) = eval x env := by
  cases x with
  | Call f as ks p =>
    cases f with
    | Name n q =>
      cases as with
      | nil =>
        cases ks with
        | nil => simp [nosup] at h
        | cons _ _ => rfl
      | cons _ _ => rfl
    | _ => rfl
  | _ => rfl
theorem mts_pl {M : Nm} {c : Sc} : ∀ {es : Es} {xs : List Expr}, mts M c es xs = true → xs.all pl = true
  | .nil, [], _ => rfl
  | .nil, _ :: _, h => by simp [mts] at h
  | .cons e es, [], h => by simp [mts] at h
  | .cons e es, x :: r, h => by
    simp only [mts, Bool.and_eq_true] at h
    simp only [List.all_cons, Bool.and_eq_true]
    exact ⟨h.1.1, mts_pl h.2⟩
end
end Alb
set_option Elab.async false
set_option linter.all false
set_option maxRecDepth 100000
set_option maxHeartbeats 4000000
/-! Expressions: the evaluator's answer is the model's. -/
namespace Alb
open PySem PySem.Spec PyProof.Rows L2

/-- a def's promise: it answers as the evaluator -/
def SpF (G : Sg) (cl : Cl) (f : Nat) : Sp := fun vs H Q E => ∃ Hid φ h ds, ST G φ Hid h H ∧ Reps G φ H ds vs ∧ Out G Hid φ H (fun c d _ H' => E c d H') [] (cl.f f ds h) Q
def bltNames : List String := ["len", "max", "min", "sum", "all", "tuple", "list", "range", "enumerate", "zip", "isinstance", "int", "bool", "str", "set", "sorted"]
/-- where the text stands, and what is known there -/
structure Good (G : Sg) (M : Nm) (cl : Cl) (n : Nat) (X : Cx) (W : WX) (c : Sc) : Prop where
  hK : X.K = G.K
  hN : X.N = c.N
  hsc : X.env.scope = c.sc
  hfb : X.fn = c.fb
  nd : c.N.Nodup
  calm : X.calm = true
  tk : L2N.Takes X W
  room : Room n X.A
  fns : ∀ f a, G.fa f = some a → ∃ fd ps, Binds X.K fd ps [] ∧ PySem.W.keepIn X.K (.ref a) = true ∧ FnOk X.prog X.w X.K X.mg X.base (L2N.CX X.prog X.w) n a fd ps (SpF G cl f)
  nms : ∀ f x, M.fn f = some x → ∃ a, G.fa f = some a ∧ X.mg x = some (.ref a)
  glb : ∀ g x d, M.g g = some x → cl.g g = some d → ∃ u v, X.mg x = some u ∧ RelV v u ∧ ∀ φ H, Rep G φ H d v
  blt : ∀ x ∈ bltNames, X.mg (Str.ofString x) = none
  po : PassesOwn (model X.prog X.w) X.A X.env X.xe
  exc : ∀ k x, M.cls k = some x → ∃ C, G.ca k = some C ∧ X.mg x = some (.ref C) ∧ PySem.W.excIn X.K C [.type "ValueError", .type "Exception", .type "BaseException", .type "object"] "ValueError.__new__" = true ∧ PySem.W.keepIn X.K (.ref C) = true ∧ PySem.W.subIn X.K (.ref C) (.type "BaseException") = some true ∧ PySem.W.typeIn X.K (.ref C) = some (.type "type")
section
variable {G : Sg} {M : Nm} {cl : Cl} {n : Nat} {X : Cx} {W : WX} {c : Sc}
theorem Good.un (g : Good G M cl n X W c) : X.A.units + 64 < cLine := g.room.units
theorem Good.gl (g : Good G M cl n X W c) {x : Str} (h : glB c.sc x = true) : Gl X x := by
  unfold glB at h
  unfold Gl PySem.Env.kindOf
  rw [g.hsc]
  split at h
  · assumption
  · cases h
theorem Good.vis (g : Good G M cl n X W c) {x : Str} (h : visB c.sc x = true) : Vis X.env.scope x := by
  unfold visB at h
  unfold Vis
  rw [g.hsc]
  split at h
  · exact .inl (by assumption)
  · exact .inr (.inl (by assumption))
  · exact .inr (.inr (by assumption))
  · cases h
theorem Good.loc (g : Good G M cl n X W c) {x : Str} (h : locB c.sc x = true) : L2.Loc X.env.scope x := by
  unfold locB at h
  unfold L2.Loc
  rw [g.hsc]
  split at h
  · exact .inl (by assumption)
  · exact .inr (by assumption)
  · cases h
theorem okN_of {x : Str} (h : okN x = true) : (x == ("__debug__" : Str)) = false ∧ (x == ("__classdict__" : Str)) = false ∧ x ≠ "__name__" := by
  simp only [okN, Bool.and_eq_true, decide_eq_true_eq] at h
  exact ⟨beq_eq_false_iff_ne.mpr h.1.1, beq_eq_false_iff_ne.mpr h.1.2, h.2⟩

/-! ### the parts of a computation -/
theorem e_cst {d : D} {k : Const} {j : Nat} {p : Pos} (h : cstB d k = true) : PE X (.Constant k j p) (RE G W cl (.cst d)) := by
  cases d <;> cases k <;> try (simp [cstB] at h; done)
  · exact peI pe_non fun σ H Q ⟨Hid, φ, h, r, S, E, o⟩ => o φ H _ (List.prefix_refl _) S .non (Ext.refl H)
  · simp only [cstB, beq_iff_eq] at h
    subst h
    exact peI pe_bl fun σ H Q ⟨Hid, φ, h, r, S, E, o⟩ => o φ H _ (List.prefix_refl _) S (.bl _) (Ext.refl H)
  · simp only [cstB, beq_iff_eq] at h
    subst h
    exact peI pe_int fun σ H Q ⟨Hid, φ, h, r, S, E, o⟩ => o φ H _ (List.prefix_refl _) S (.int _) (Ext.refl H)
  · simp only [cstB, decide_eq_true_eq] at h
    subst h
    exact peI pe_str fun σ H Q ⟨Hid, φ, h, r, S, E, o⟩ => o φ H _ (List.prefix_refl _) S (.str _) (Ext.refl H)
theorem e_var (g : Good G M cl n X W c) {i : Nat} {y : Str} {p : Pos} (h : (decide (c.N[i]? = some y) && visB c.sc y && okN y) = true) : PE X (.Name y p) (RE G W cl (.var i)) := by
  simp only [Bool.and_eq_true, decide_eq_true_eq] at h
  obtain ⟨h1, h2, _⟩ := okN_of h.2
  refine peI (pe_var (i := i) (by rw [g.hN]; exact h.1.1) (g.vis h.1.2) h1 h2) fun σ H Q ⟨Hid, φ, h, r, S, E, o⟩ => ?_
  simp only [ev] at o
  split at o
  · rename_i d e
    obtain ⟨v, e1, e2⟩ := E.at_ i d e
    exact ⟨v, e1, o φ H _ (List.prefix_refl _) S e2 (Ext.refl H)⟩
  · exact o.elim
theorem e_fnv (g : Good G M cl n X W c) {f : Nat} {y : Str} {p : Pos} (h : (decide (M.fn f = some y) && glB c.sc y && okN y) = true) : PE X (.Name y p) (RE G W cl (.fnv f)) := by
  simp only [Bool.and_eq_true, decide_eq_true_eq] at h
  obtain ⟨h1, h2, _⟩ := okN_of h.2
  obtain ⟨a, e1, e2⟩ := g.nms f y h.1.1
  exact peI (pe_glob (v := .ref a) (g.gl h.1.2) e2 rfl h1) fun σ H Q ⟨Hid, φ, h, r, S, E, o⟩ => o φ H _ (List.prefix_refl _) S (.fn e1) (Ext.refl H)
theorem e_glb (g : Good G M cl n X W c) {f : Nat} {y : Str} {p : Pos} (h : (decide (M.g f = some y) && glB c.sc y && okN y) = true) : PE X (.Name y p) (RE G W cl (.glb f)) := by
  simp only [Bool.and_eq_true, decide_eq_true_eq] at h
  obtain ⟨h1, h2, _⟩ := okN_of h.2
  cases e : cl.g f with
  | none =>
    refine ⟨fun pins s σ H Q I ⟨Hid, φ, h, r, S, E, o⟩ => ?_⟩
    simp only [ev, e, ofV] at o
    exact o.elim
  | some d =>
    obtain ⟨u, v, e1, e2, e3⟩ := g.glb f y d h.1.1 e
    refine peI (pe_glob (v := v) (g.gl h.1.2) e1 e2 h1) fun σ H Q ⟨Hid, φ, h, r, S, E, o⟩ => ?_
    simp only [ev, e, ofV] at o
    exact o φ H _ (List.prefix_refl _) S (e3 _ _) (Ext.refl H)
theorem e_op {a b : E} {f : D → D → Hh → R D} {rr : R2} {e : E} (he : ∀ r h, ev cl e r h = (ev cl a r h).bind fun x h => (ev cl b r h).bind fun y h => f x y h)
    (hr : ∀ Hid φ h H σ d e x y Q, ST G φ Hid h H → Rep G φ H d x → Rep G φ H e y → Out G Hid φ H W σ (f d e h) Q → rr x y H Q) : ∀ σ H Q, RE G W cl e σ H Q → tOp rr (RE G W cl a) (RE G W cl b) σ H Q := by
  intro σ H Q ⟨Hid, φ, h, r, S, E, o⟩
  rw [he] at o
  refine ⟨Hid, φ, h, r, S, E, (OutG.bind o).imp fun x H1 ⟨d, φ1, h1, p1, S1, r1, e1, o1⟩ => ?_⟩
  refine ⟨Hid, φ1, h1, r, S1, E.mono p1 e1, (OutG.bind o1).imp fun y H2 ⟨e, φ2, h2, p2, S2, r2, e2, o2⟩ => ?_⟩
  exact hr Hid φ2 h2 H2 σ d e x y Q S2 (r1.mono p2 e2) r2 o2
theorem bin_imp {o : BOp} {a b : E} : ∀ σ H Q, RE G W cl (.bin o a b) σ H Q → tOp (P2 G (binD o)) (RE G W cl a) (RE G W cl b) σ H Q :=
  e_op (fun _ _ => rfl) fun Hid φ h H σ d e x y Q S r1 r2 q => by
    obtain ⟨z, h', e1, po⟩ := out_ofO q
    exact ⟨Hid, φ, h, d, e, z, h', S, r1, r2, e1, po⟩
theorem cmp_imp {o : COp} {a b : E} : ∀ σ H Q, RE G W cl (.cmp o a b) σ H Q → tOp (P2B G (cmpD o)) (RE G W cl a) (RE G W cl b) σ H Q :=
  e_op (fun _ _ => rfl) fun Hid φ h H σ d e x y Q S r1 r2 q => by
    obtain ⟨k, e1, po⟩ := out_ofB q S
    exact ⟨Hid, φ, h, d, e, k, S, r1, r2, e1, po⟩
theorem pr_bin (g : Good G M cl n X W c) (o : BOp) : OpR X (binaryOp (opX o)) (P2 G (binD o)) := by
  cases o with
  | add => exact pr_add g.hK
  | sub => exact pr_sub
  | mul => exact pr_mul g.hK
  | fdiv => exact pr_fdiv
  | mod => exact pr_mod
  | pow => exact pr_pow
theorem pr_cmp (g : Good G M cl n X W c) (o : COp) : OpR X (compareOp (copX o)) (P2B G (cmpD o)) := by
  cases o with
  | lt => exact pr_lt
  | le => exact pr_le
  | gt => exact pr_gt
  | ge => exact pr_ge
  | eq => exact pr_eq g.hK g.un
  | ne => exact pr_ne g.hK g.un
  | isx => exact pr_is
  | nis => exact pr_nis
  | inx => exact pr_in g.hK
  | nin => exact pr_nin g.hK
theorem neg_imp {a : E} : ∀ σ H Q, RE G W cl (.neg a) σ H Q → tUn (P1V G negD) (RE G W cl a) σ H Q := by
  intro σ H Q ⟨Hid, φ, h, r, S, E, o⟩
  refine ⟨Hid, φ, h, r, S, E, (OutG.bind (Rq := Rep G) o).imp fun x H1 ⟨d, φ1, h1, p1, S1, r1, e1, o1⟩ => ?_⟩
  obtain ⟨z, e2, po⟩ := out_ofV o1
  exact ⟨Hid, φ1, h1, d, z, S1, r1, e2, po⟩
theorem chn_imp {o p : COp} {a b d : E} : ∀ σ H Q, RE G W cl (.chn o p a b d) σ H Q → tChain (P2B G (cmpD o)) (P2B G (cmpD p)) (RE G W cl a) (RE G W cl b) (RE G W cl d) σ H Q := by
  intro σ H Q ⟨Hid, φ, h, r, S, E, oo⟩
  refine ⟨Hid, φ, h, r, S, E, (OutG.bind (Rq := Rep G) oo).imp fun x H1 ⟨dx, φ1, h1, p1, S1, r1, e1, o1⟩ => ?_⟩
  refine ⟨Hid, φ1, h1, r, S1, E.mono p1 e1, (OutG.bind (Rq := Rep G) o1).imp fun y H2 ⟨dy, φ2, h2, p2, S2, r2, e2, o2⟩ => ?_⟩
  simp only at o2
  split at o2
  · rename_i e3
    refine ⟨Hid, φ2, h2, dx, dy, true, S2, r1.mono p2 e2, r2, e3, true, rfl, ?_⟩
    simp only [if_true]
    refine ⟨Hid, φ2, h2, r, S2, (E.mono p1 e1).mono p2 e2, (OutG.bind (Rq := Rep G) o2).imp fun z H3 ⟨dz, φ3, h3, p3, S3, r3, e4, o3⟩ => ?_⟩
    obtain ⟨k, e5, po⟩ := out_ofB o3 S3
    exact ⟨Hid, φ3, h3, dy, dz, k, S3, r2.mono p3 e4, r3, e5, po⟩
  · rename_i e3
    refine ⟨Hid, φ2, h2, dx, dy, false, S2, r1.mono p2 e2, r2, e3, false, rfl, ?_⟩
    simp only [Bool.false_eq_true, if_false]
    exact o2 φ2 H2 _ (List.prefix_refl _) S2 (.bl _) (Ext.refl _)
  · exact o2.elim
/-- a op1 b op2 c op3 d -/
def tChain3 (r r' r'' : R2) (ta tb tc td : TE) : TE := fun σ H Q => ta σ H fun x H1 => tb σ H1 fun y H2 => r x y H2 fun z H3 => ∃ k, z = .bl k ∧
  (if k = true then tc σ H3 fun w' H4 => r' y w' H4 fun z2 H5 => ∃ k2, z2 = .bl k2 ∧ (if k2 = true then td σ H5 fun w2 H6 => r'' w' w2 H6 Q else Q (.bl false) H5) else Q (.bl false) H3)
theorem pe_chain3 {a b c d : Expr} {ta tb tc td : TE} {pos : Pos} {op op' op'' : CmpOp} {r r' r'' : R2} (ho : OpR X (compareOp op) r) (ho' : OpR X (compareOp op') r') (ho'' : OpR X (compareOp op'') r'') (ha : PE X a ta) (hb : PE X b tb) (hc : PE X c tc) (hd : PE X d td)
    (hm : lastMarks [op, op', op''] [b, c, d] = false) : PE X (.Compare a [op, op', op''] [b, c, d] pos) (tChain3 r r' r'' ta tb tc td) := by
  refine ⟨fun pins s σ H Q I h => ?_⟩
  refine Compare_chain (thn (ha.run pins s σ H _ I h) fun v s1 ⟨x, H1, I1, r1, q1⟩ => chain_link (thn (hb.run pins s1 σ H1 _ I1 q1) fun u s2 ⟨y, H2, I2, r2, q2⟩ =>
    thn (ho pins s2 σ H2 x y v u _ I2 r1 r2 q2) fun d s3 ⟨z, H3, I3, r3, k, e, q3⟩ => ?_)) hm
  subst e
  cases r3
  refine wpAny_truthy_bool ?_
  cases k with
  | false => exact ite_ff ⟨.bl false, H3, I3, rfl, q3⟩
  | true =>
    refine ite_tt (chain_link (thn (hc.run pins s3 σ H3 _ I3 q3) fun w' s4 ⟨z', H4, I4, r4, q4⟩ => thn (ho' pins s4 σ H4 y z' u w' _ I4 r2 r4 q4) fun d' s5 ⟨z2, H5, I5, r5, k2, e2, q5⟩ => ?_))
    subst e2
    cases r5
    refine wpAny_truthy_bool ?_
    cases k2 with
    | false => exact ite_ff ⟨.bl false, H5, I5, rfl, q5⟩
    | true => exact ite_tt (chain_last (thn (hd.run pins s5 σ H5 _ I5 q5) fun w2 s6 ⟨z3, H6, I6, r6, q6⟩ => ho'' pins s6 σ H6 z' z3 w' w2 Q I6 r4 r6 q6))
theorem pt_chain3 {a b c d : Expr} {ta tb tc td : TE} {pos : Pos} {op op' op'' : CmpOp} {r r' r'' : R2} (ho : OpR X (compareOp op) r) (ho' : OpR X (compareOp op') r') (ho'' : OpR X (compareOp op'') r'') (ha : PE X a ta) (hb : PE X b tb) (hc : PE X c tc) (hd : PE X d td)
    (hm : lastMarks [op, op', op''] [b, c, d] = false) : PT X (.Compare a [op, op', op''] [b, c, d] pos) (tTest (tChain3 r r' r'' ta tb tc td)) := by
  refine ⟨fun pins s σ H Q I h => ?_⟩
  refine isTrue_chain (thn (ha.run pins s σ H _ I h) fun v s1 ⟨x, H1, I1, r1, q1⟩ => test_link (thn (hb.run pins s1 σ H1 _ I1 q1) fun u s2 ⟨y, H2, I2, r2, q2⟩ =>
    thn (ho pins s2 σ H2 x y v u _ I2 r1 r2 q2) fun d s3 ⟨z, H3, I3, r3, k, e, q3⟩ => ?_)) hm
  subst e
  cases r3
  refine wpAny_truthy_bool ?_
  cases k with
  | false =>
    obtain ⟨k', e', q'⟩ := q3
    cases e'
    exact ite_ff ⟨H3, I3, q'⟩
  | true =>
    refine ite_tt (test_link (thn (hc.run pins s3 σ H3 _ I3 q3) fun w' s4 ⟨z', H4, I4, r4, q4⟩ => thn (ho' pins s4 σ H4 y z' u w' _ I4 r2 r4 q4) fun d' s5 ⟨z2, H5, I5, r5, k2, e2, q5⟩ => ?_))
    subst e2
    cases r5
    refine wpAny_truthy_bool ?_
    cases k2 with
    | false =>
      obtain ⟨k', e', q'⟩ := q5
      cases e'
      exact ite_ff ⟨H5, I5, q'⟩
    | true =>
      refine ite_tt (test_last (thn (hd.run pins s5 σ H5 _ I5 q5) fun w2 s6 ⟨z3, H6, I6, r6, q6⟩ => thn (ho'' pins s6 σ H6 z' z3 w' w2 _ I6 r4 r6 q6) fun d2 s7 ⟨z4, H7, I7, r7, k3, e3, q7⟩ => ?_))
      subst e3
      cases r7
      exact wpAny_truthy_bool ⟨H7, I7, q7⟩
theorem chn3_imp {o p q : COp} {a b d e : E} : ∀ σ H Q, RE G W cl (.chn3 o p q a b d e) σ H Q → tChain3 (P2B G (cmpD o)) (P2B G (cmpD p)) (P2B G (cmpD q)) (RE G W cl a) (RE G W cl b) (RE G W cl d) (RE G W cl e) σ H Q := by
  intro σ H Q ⟨Hid, φ, h, r, S, E, oo⟩
  refine ⟨Hid, φ, h, r, S, E, (OutG.bind (Rq := Rep G) oo).imp fun x H1 ⟨dx, φ1, h1, p1, S1, r1, e1, o1⟩ => ?_⟩
  refine ⟨Hid, φ1, h1, r, S1, E.mono p1 e1, (OutG.bind (Rq := Rep G) o1).imp fun y H2 ⟨dy, φ2, h2, p2, S2, r2, e2, o2⟩ => ?_⟩
  simp only at o2
  split at o2
  · rename_i e3
    refine ⟨Hid, φ2, h2, dx, dy, true, S2, r1.mono p2 e2, r2, e3, true, rfl, ?_⟩
    simp only [if_true]
    refine ⟨Hid, φ2, h2, r, S2, (E.mono p1 e1).mono p2 e2, (OutG.bind (Rq := Rep G) o2).imp fun z H3 ⟨dz, φ3, h3, p3, S3, r3, e4, o3⟩ => ?_⟩
    simp only at o3
    split at o3
    · rename_i e5
      refine ⟨Hid, φ3, h3, dy, dz, true, S3, r2.mono p3 e4, r3, e5, true, rfl, ?_⟩
      simp only [if_true]
      refine ⟨Hid, φ3, h3, r, S3, ((E.mono p1 e1).mono p2 e2).mono p3 e4, (OutG.bind (Rq := Rep G) o3).imp fun u H4 ⟨du, φ4, h4, p4, S4, r4, e6, o4⟩ => ?_⟩
      obtain ⟨k, e7, po⟩ := out_ofB o4 S4
      exact ⟨Hid, φ4, h4, dz, du, k, S4, r3.mono p4 e6, r4, e7, po⟩
    · rename_i e5
      refine ⟨Hid, φ3, h3, dy, dz, false, S3, r2.mono p3 e4, r3, e5, false, rfl, ?_⟩
      simp only [Bool.false_eq_true, if_false]
      exact o3 φ3 H3 _ (List.prefix_refl _) S3 (.bl _) (Ext.refl _)
    · exact o3.elim
  · rename_i e3
    refine ⟨Hid, φ2, h2, dx, dy, false, S2, r1.mono p2 e2, r2, e3, false, rfl, ?_⟩
    simp only [Bool.false_eq_true, if_false]
    exact o2 φ2 H2 _ (List.prefix_refl _) S2 (.bl _) (Ext.refl _)
  · exact o2.elim
theorem not_imp {a : E} : ∀ σ H Q, RE G W cl (.not a) σ H Q → tNotV (RE G W cl a) σ H Q := by
  intro σ H Q ⟨Hid, φ, h, r, S, E, o⟩
  refine ⟨Hid, φ, h, r, S, E, (OutG.bind (Rq := Rep G) o).imp fun x H1 ⟨d, φ1, h1, p1, S1, r1, e1, o1⟩ => ?_⟩
  simp only at o1
  split at o1
  · cases r1
    exact ⟨_, rfl, o1 φ1 H1 _ (List.prefix_refl _) S1 (.bl _) (Ext.refl _)⟩
  · exact o1.elim
theorem notT_imp {a : E} : ∀ σ H Q, RT G W cl (.not a) σ H Q → tNot (RT G W cl a) σ H Q := by
  intro σ H Q h
  obtain ⟨Hid, φ, h, r, S, E, o⟩ := not_imp σ H _ h
  refine ⟨Hid, φ, h, r, S, E, o.imp fun x H1 ⟨k, e, k', e2, q⟩ => ⟨k, e, ?_⟩⟩
  cases e2
  exact q
theorem ite_imp {t a b : E} : ∀ σ H Q, RE G W cl (.ite t a b) σ H Q → tIf (RT G W cl t) (RE G W cl a) (RE G W cl b) σ H Q := by
  intro σ H Q ⟨Hid, φ, h, r, S, E, o⟩
  refine ⟨Hid, φ, h, r, S, E, (OutG.bind (Rq := Rep G) o).imp fun x H1 ⟨d, φ1, h1, p1, S1, r1, e1, o1⟩ => ?_⟩
  simp only at o1
  split at o1
  · cases r1
    refine ⟨true, rfl, ?_⟩
    simp only [if_true]
    exact ⟨Hid, φ1, h1, r, S1, E.mono p1 e1, o1⟩
  · cases r1
    refine ⟨false, rfl, ?_⟩
    simp only [Bool.false_eq_true, if_false]
    exact ⟨Hid, φ1, h1, r, S1, E.mono p1 e1, o1⟩
  · exact o1.elim

/-! ### and, or -/
def RAnd (G : Sg) (W : WX) (cl : Cl) (es : Es) : TE := fun σ H Q => ∃ Hid φ h r, ST G φ Hid h H ∧ EnvR G φ H r σ ∧ Out G Hid φ H W σ (evAnd cl es r h) Q
def ROr (G : Sg) (W : WX) (cl : Cl) (es : Es) : TE := fun σ H Q => ∃ Hid φ h r, ST G φ Hid h H ∧ EnvR G φ H r σ ∧ Out G Hid φ H W σ (evOr cl es r h) Q
theorem and_step {e : E} {es : Es} : ∀ σ H Q, RAnd G W cl (.cons e es) σ H Q → tAndV (RE G W cl e) (RAnd G W cl es) σ H Q := by
  intro σ H Q ⟨Hid, φ, h, r, S, E, o⟩
  refine ⟨Hid, φ, h, r, S, E, (OutG.bind (Rq := Rep G) o).imp fun x H1 ⟨d, φ1, h1, p1, S1, r1, e1, o1⟩ => ?_⟩
  simp only at o1
  split at o1
  · cases r1
    refine ⟨true, rfl, ?_⟩
    simp only [if_true]
    exact ⟨Hid, φ1, h1, r, S1, E.mono p1 e1, o1⟩
  · cases r1
    refine ⟨false, rfl, ?_⟩
    simp only [Bool.false_eq_true, if_false]
    exact o1 φ1 H1 _ (List.prefix_refl _) S1 (.bl _) (Ext.refl _)
  · exact o1.elim
theorem or_step {e : E} {es : Es} : ∀ σ H Q, ROr G W cl (.cons e es) σ H Q → tOrV (RE G W cl e) (ROr G W cl es) σ H Q := by
  intro σ H Q ⟨Hid, φ, h, r, S, E, o⟩
  refine ⟨Hid, φ, h, r, S, E, (OutG.bind (Rq := Rep G) o).imp fun x H1 ⟨d, φ1, h1, p1, S1, r1, e1, o1⟩ => ?_⟩
  simp only at o1
  split at o1
  · cases r1
    refine ⟨false, rfl, ?_⟩
    simp only [Bool.false_eq_true, if_false]
    exact ⟨Hid, φ1, h1, r, S1, E.mono p1 e1, o1⟩
  · cases r1
    refine ⟨true, rfl, ?_⟩
    simp only [if_true]
    exact o1 φ1 H1 _ (List.prefix_refl _) S1 (.bl _) (Ext.refl _)
  · exact o1.elim
/-- the last one -/
theorem and_last {e : E} : ∀ σ H Q, RAnd G W cl (.cons e .nil) σ H Q → RE G W cl e σ H Q := by
  intro σ H Q hh
  obtain ⟨Hid, φ, h, r, S, E, o⟩ := and_step σ H Q hh
  refine ⟨Hid, φ, h, r, S, E, o.imp fun x H1 ⟨k, e, q⟩ => ?_⟩
  subst e
  cases k with
  | true =>
    simp only [if_true] at q
    obtain ⟨Hid, φ, h, r, S, E, o⟩ := q
    exact o φ H1 _ (List.prefix_refl _) S (.bl _) (Ext.refl _)
  | false => simpa using q
theorem or_last {e : E} : ∀ σ H Q, ROr G W cl (.cons e .nil) σ H Q → RE G W cl e σ H Q := by
  intro σ H Q hh
  obtain ⟨Hid, φ, h, r, S, E, o⟩ := or_step σ H Q hh
  refine ⟨Hid, φ, h, r, S, E, o.imp fun x H1 ⟨k, e, q⟩ => ?_⟩
  subst e
  cases k with
  | true => simpa using q
  | false =>
    simp only [Bool.false_eq_true, if_false] at q
    obtain ⟨Hid, φ, h, r, S, E, o⟩ := q
    exact o φ H1 _ (List.prefix_refl _) S (.bl _) (Ext.refl _)
theorem andT_step {e : E} {es : Es} : ∀ σ H Q, tTest (RAnd G W cl (.cons e es)) σ H Q → tAnd (RT G W cl e) (tTest (RAnd G W cl es)) σ H Q := by
  intro σ H Q hh
  obtain ⟨Hid, φ, h, r, S, E, o⟩ := and_step σ H _ hh
  refine ⟨Hid, φ, h, r, S, E, o.imp fun x H1 ⟨k, e, q⟩ => ⟨k, e, ?_⟩⟩
  cases k with
  | true => exact q
  | false =>
    simp only [Bool.false_eq_true, if_false] at q ⊢
    obtain ⟨k, e, q⟩ := q
    cases e
    exact q
theorem orT_step {e : E} {es : Es} : ∀ σ H Q, tTest (ROr G W cl (.cons e es)) σ H Q → tOr (RT G W cl e) (tTest (ROr G W cl es)) σ H Q := by
  intro σ H Q hh
  obtain ⟨Hid, φ, h, r, S, E, o⟩ := or_step σ H _ hh
  refine ⟨Hid, φ, h, r, S, E, o.imp fun x H1 ⟨k, e, q⟩ => ⟨k, e, ?_⟩⟩
  cases k with
  | false => exact q
  | true =>
    simp only [if_true] at q ⊢
    obtain ⟨k, e, q⟩ := q
    cases e
    exact q

/-! ### arguments, calls -/
theorem args_cons {e : E} {es : Es} : ∀ σ H Q, RA G W cl (.cons e es) σ H Q → tCons (RE G W cl e) (RA G W cl es) σ H Q := by
  intro σ H Q ⟨Hid, φ, h, r, S, E, o⟩
  refine ⟨Hid, φ, h, r, S, E, (OutG.bind (Rp := Rep G) (Rq := Reps G) o).imp fun x H1 ⟨d, φ1, h1, p1, S1, r1, e1, o1⟩ => ?_⟩
  refine ⟨Hid, φ1, h1, r, S1, E.mono p1 e1, (OutG.bind (Rp := Reps G) (Rq := Reps G) o1).imp fun xs H2 ⟨ds, φ2, h2, p2, S2, r2, e2, o2⟩ => ?_⟩
  exact o2 φ2 H2 _ (List.prefix_refl _) S2 (.cons (r1.mono p2 e2) r2) (Ext.refl _)
theorem args_nil : ∀ σ H Q, RA G W cl .nil σ H Q → tNil σ H Q := fun σ H Q ⟨Hid, φ, h, r, S, E, o⟩ => o φ H _ (List.prefix_refl _) S .nil (Ext.refl _)
theorem cal_imp {f : Nat} {es : Es} : ∀ σ H Q, RE G W cl (.cal f es) σ H Q → tCallS (SpF G cl f) (WE W) (RA G W cl es) σ H Q := by
  intro σ H Q ⟨Hid, φ, h, r, S, E, o⟩
  refine ⟨Hid, φ, h, r, S, E, (OutG.bind (Rp := Reps G) (Rq := Rep G) o).imp fun xs H1 ⟨ds, φ1, h1, p1, S1, r1, e1, o1⟩ => ?_⟩
  refine ⟨Hid, φ1, h1, ds, S1, r1, ?_⟩
  have o1 : Out G Hid φ1 H1 W σ (cl.f f ds h1) Q := o1
  cases e : cl.f f ds h1 with
  | ok d h' =>
    rw [e] at o1
    exact o1
  | ex k h' =>
    rw [e] at o1
    exact o1
  | bad =>
    rw [e] at o1
    exact o1.elim
theorem pl_imp {b : List D → Hh → Option (D × Hh)} {e : E} {es : Es} (he : ∀ r h, ev cl e r h = (evs cl es r h).bind fun ds h => ofO (b ds h)) : ∀ σ H Q, RE G W cl e σ H Q → tCB (PL G b) (RA G W cl es) σ H Q := by
  intro σ H Q ⟨Hid, φ, h, r, S, E, o⟩
  rw [he] at o
  refine ⟨Hid, φ, h, r, S, E, (OutG.bind (Rp := Reps G) (Rq := Rep G) o).imp fun xs H1 ⟨ds, φ1, h1, p1, S1, r1, e1, o1⟩ => ?_⟩
  obtain ⟨z, h', e2, po⟩ := out_ofO o1
  exact ⟨Hid, φ1, h1, ds, z, h', S1, r1, e2, po⟩
theorem isi_imp {t : Ty} {a : E} {c : V} : ∀ σ H Q, RE G W cl (.isi t a) σ H Q → tCB (P1B G (isiD t) c) (tCons (RE G W cl a) (tCons (tC c) tNil)) σ H Q := by
  intro σ H Q ⟨Hid, φ, h, r, S, E, o⟩
  refine ⟨Hid, φ, h, r, S, E, (OutG.bind (Rp := Rep G) (Rq := Rep G) o).imp fun x H1 ⟨d, φ1, h1, p1, S1, r1, e1, o1⟩ => ?_⟩
  obtain ⟨k, e2, po⟩ := out_ofB o1 S1
  exact ⟨x, rfl, Hid, φ1, h1, d, k, S1, r1, e2, po⟩
theorem mth_imp {m : Mth} {a : E} {es : Es} {T : String} (hT : ∀ d h x φ Hid H, recvD m d h = true → ST G φ Hid h H → Rep G φ H d x → tyV G.K T x H) : ∀ σ H Q, RE G W cl (.mth m a es) σ H Q → tBM G.K T (PM G (mthD m)) (RE G W cl a) (RA G W cl es) σ H Q := by
  intro σ H Q ⟨Hid, φ, h, r, S, E, o⟩
  refine ⟨Hid, φ, h, r, S, E, (OutG.bind (Rp := Rep G) (Rq := Rep G) o).imp fun x H1 ⟨d, φ1, h1, p1, S1, r1, e1, o1⟩ => ?_⟩
  simp only at o1
  split at o1
  · rename_i hr
    refine ⟨hT d h1 x φ1 Hid H1 hr S1 r1, Hid, φ1, h1, r, S1, E.mono p1 e1, (OutG.bind (Rp := Reps G) (Rq := Rep G) o1).imp fun xs H2 ⟨ds, φ2, h2, p2, S2, r2, e2, o2⟩ => ?_⟩
    obtain ⟨z, h', e3, po⟩ := out_ofO o2
    exact ⟨Hid, φ2, h2, d, ds, z, h', S2, r1.mono p2 e2, r2, e3, po⟩
  · exact o1.elim
theorem recv_list {m : Mth} (hm : m = .append ∨ m = .extend ∨ m = .count) (d : D) (h : Hh) (x : V) (φ : List Addr) (Hid : Hd) (H : Hp) (hr : recvD m d h = true) (S : ST G φ Hid h H) (r : Rep G φ H d x) : tyV G.K "list" x H := by
  have key : ∃ a o, d = .loc a ∧ (h.get a = some (.lst o) ∨ h.get a = some (.ro o)) := by
    rcases hm with rfl | rfl | rfl <;> (cases d <;> simp [recvD] at hr <;> (split at hr <;> first | exact ⟨_, _, rfl, .inl (by assumption)⟩ | exact ⟨_, _, rfl, .inr (by assumption)⟩ | cases hr))
  obtain ⟨a, o, rfl, g | g⟩ := key
  · obtain ⟨p, vs, rfl, _, h1, _⟩ := lst_of S g r
    exact .inl ⟨rfl, vs, SqL.of h1⟩
  · obtain ⟨p, vs, rfl, _, h1, _⟩ := ro_of S g r
    exact .inl ⟨rfl, vs, SqL.of h1⟩
theorem tup_imp {es : Es} (hl : ∀ r h ds h', evs cl es r h = .ok ds h' → ds.length ≤ 1000) : ∀ σ H Q, RE G W cl (.tup es) σ H Q → tTup (RA G W cl es) σ H Q := by
  intro σ H Q ⟨Hid, φ, h, r, S, E, o⟩
  refine ⟨Hid, φ, h, r, S, E, ?_⟩
  have o' : OutG (Rep G) G Hid φ H W σ ((evs cl es r h).bind fun ds h => .ok (.tup ds) h) Q := o
  revert o'
  cases e : evs cl es r h with
  | ok ds h' =>
    intro o' φ1 H1 xs p1 S1 r1 e1
    have hz := hl r h ds h' e
    refine ⟨by rw [← r1.length]; exact Nat.le_trans hz (by decide), fun p hp => ?_⟩
    have ex := same_ext (same_fresh (o := .tup xs) hp)
    exact o' φ1 _ _ p1 (S1.same (same_fresh hp)) (.tup (.inl (.inl upd_same)) (r1.mono (List.prefix_refl _) ex)) (e1.trans ex)
  | ex k h' => exact fun o' => o'
  | bad => exact fun o' => o'
theorem lst_imp {es : Es} (hl : ∀ r h ds h', evs cl es r h = .ok ds h' → ds.length ≤ 1000) : ∀ σ H Q, RE G W cl (.lst es) σ H Q → tLst (RA G W cl es) σ H Q := by
  intro σ H Q ⟨Hid, φ, h, r, S, E, o⟩
  refine ⟨Hid, φ, h, r, S, E, ?_⟩
  have o' : OutG (Rep G) G Hid φ H W σ ((evs cl es r h).bind fun ds h => .ok (.loc h.nx) (h.new (.lst ds))) Q := o
  revert o'
  cases e : evs cl es r h with
  | ok ds h' =>
    intro o' φ1 H1 xs p1 S1 r1 e1
    have hz := hl r h ds h' e
    refine ⟨by rw [← r1.length]; exact Nat.le_trans hz (by decide), fun p hp => ?_⟩
    have ex := same_ext (same_fresh (o := .lst xs) hp)
    exact o' _ _ _ (p1.trans (List.prefix_append _ _)) (S1.newL hp r1) S1.newRep (e1.trans ex)
  | ex k h' => exact fun o' => o'
  | bad => exact fun o' => o'
theorem evs_len : ∀ (es : Es) (xs : List Expr) (c : Sc) (r : Env) (h : Hh) (ds : List D) (h' : Hh), mts M c es xs = true → evs cl es r h = .ok ds h' → ds.length = xs.length
  | .nil, [], c, r, h, ds, h', _, e => by
    simp only [evs, R.ok.injEq] at e
    rw [← e.1]
    rfl
  | .nil, _ :: _, c, r, h, ds, h', m, e => by simp [mts] at m
  | .cons x es, [], c, r, h, ds, h', m, e => by simp [mts] at m
  | .cons x es, y :: ys, c, r, h, ds, h', m, e => by
    simp only [mts, Bool.and_eq_true] at m
    simp only [evs, R.bind] at e
    split at e
    · rename_i d h1 e1
      split at e
      · rename_i ds2 h2 e2
        cases e
        simp [evs_len es ys c r h1 ds2 _ m.2 e2]
      · cases e
      · cases e
    · cases e
    · cases e
theorem sub_imp {a i : E} : ∀ σ H Q, RE G W cl (.sub a i) σ H Q → tOp (P2V G subD) (RE G W cl a) (RE G W cl i) σ H Q :=
  e_op (fun _ _ => rfl) fun Hid φ h H σ d e x y Q S r1 r2 q => by
    obtain ⟨z, e1, po⟩ := out_ofV q
    exact ⟨Hid, φ, h, d, e, z, S, r1, r2, e1, po⟩
/-- an optional bound -/
def RO (G : Sg) (W : WX) (cl : Cl) (e : Oe) : TO := fun σ H Q => ∃ Hid φ h r, ST G φ Hid h H ∧ EnvR G φ H r σ ∧ OutG (fun _ _ a b => a = b) G Hid φ H W σ (evo cl e r h) Q
theorem ro_none : ∀ σ H Q, RO G W cl .none σ H Q → tNoPart σ H Q := fun σ H Q ⟨Hid, φ, h, r, S, E, o⟩ => o φ H _ (List.prefix_refl _) S rfl (Ext.refl _)
theorem ro_some {e : E} : ∀ σ H Q, RO G W cl (.some e) σ H Q → tPart (RE G W cl e) σ H Q := by
  intro σ H Q ⟨Hid, φ, h, r, S, E, o⟩
  refine ⟨Hid, φ, h, r, S, E, (OutG.bind (Rp := Rep G) (Rq := fun _ _ a b => a = b) o).imp fun x H1 ⟨d, φ1, h1, p1, S1, r1, e1, o1⟩ => ?_⟩
  simp only at o1
  split at o1
  · cases r1
    exact ⟨_, rfl, o1 φ1 H1 _ (List.prefix_refl _) S1 rfl (Ext.refl _)⟩
  · exact o1.elim
theorem slc_imp {a : E} {lo hi : Oe} : ∀ σ H Q, RE G W cl (.slc a lo hi) σ H Q → tSl (PSl G slcD) (RE G W cl a) (RO G W cl lo) (RO G W cl hi) σ H Q := by
  intro σ H Q ⟨Hid, φ, h, r, S, E, o⟩
  refine ⟨Hid, φ, h, r, S, E, (OutG.bind (Rp := Rep G) (Rq := Rep G) o).imp fun x H1 ⟨d, φ1, h1, p1, S1, r1, e1, o1⟩ => ?_⟩
  refine ⟨Hid, φ1, h1, r, S1, E.mono p1 e1, (OutG.bind (Rp := fun _ _ a b => a = b) (Rq := Rep G) o1).imp fun l H2 ⟨l', φ2, h2, p2, S2, r2, e2, o2⟩ => ?_⟩
  subst r2
  refine ⟨Hid, φ2, h2, r, S2, (E.mono p1 e1).mono p2 e2, (OutG.bind (Rp := fun _ _ a b => a = b) (Rq := Rep G) o2).imp fun u H3 ⟨u', φ3, h3, p3, S3, r3, e3, o3⟩ => ?_⟩
  subst r3
  obtain ⟨z, h', e4, po⟩ := out_ofO o3
  exact ⟨Hid, φ3, h3, d, z, h', S3, (r1.mono p2 e2).mono p3 e3, e4, po⟩
end
end Alb
set_option Elab.async false
set_option linter.all false
set_option maxRecDepth 100000
set_option maxHeartbeats 4000000
/-! What is walked; comprehensions. -/
namespace Alb
open PySem PySem.Spec PyProof.Rows L2

/-- the walk that a for or a comprehension goes -/
def RI (G : Sg) (W : WX) (cl : Cl) (k : Ik) (es : Es) : TI := fun σ H R => ∃ Hid φ h r, ST G φ Hid h H ∧ EnvR G φ H r σ ∧ (match evs cl es r h with
  | .ok ds h1 => (match iterD k ds h1 with
    | some (items, lk) => ∀ φ' H' J Hid' Gd, φ <+: φ' → Ext H H' → Held G φ' H' Hid Hid' lk h1 Gd → WalkOf G φ' H' J items Gd → R J H'
    | none => False)
  | .ex c h1 => ∃ C, G.ca c = some C ∧ ∀ φ' H', φ <+: φ' → ST G φ' Hid h1 H' → Ext H H' → W (.ref C) none σ H'
  | .bad => False)
section
variable {G : Sg} {M : Nm} {cl : Cl} {n : Nat} {X : Cx} {W : WX} {c : Sc}
/-- from the arguments' reading to the walk's -/
theorem ri_args {k : Ik} {es : Es} {σ : L2.St} {H : Hp} {R : It → Hp → Prop} {Q : List V → Hp → Prop} (q : RI G W cl k es σ H R)
    (k' : ∀ Hid φ' H' ds vs h1 items lk, ST G φ' Hid h1 H' → Reps G φ' H' ds vs → iterD k ds h1 = some (items, lk) → (∀ J Hid' Gd, Held G φ' H' Hid Hid' lk h1 Gd → WalkOf G φ' H' J items Gd → R J H') → Q vs H') : RA G W cl es σ H Q := by
  obtain ⟨Hid, φ, h, r, S, E, o⟩ := q
  refine ⟨Hid, φ, h, r, S, E, ?_⟩
  cases e : evs cl es r h with
  | ok ds h1 =>
    rw [e] at o
    intro φ' H' vs p S' rv e'
    simp only at o
    split at o
    · rename_i items lk ei
      exact k' Hid φ' H' ds vs h1 items lk S' rv ei fun J Hid' Gd hh ww => o φ' H' J Hid' Gd p e' hh ww
    · exact o.elim
  | ex c h1 =>
    rw [e] at o
    exact o
  | bad =>
    rw [e] at o
    exact o.elim
theorem rok {i : Int} (h : rOk i = true) : -(2 ^ 62) ≤ i ∧ i < 2 ^ 62 := by
  simp only [rOk, Bool.and_eq_true, decide_eq_true_eq] at h
  omega
theorem i_r1 (g : Good G M cl n X W c) {es : Es} {a : Expr} {p pos : Pos} {tg : Expr} (hg : glB c.sc "range" = true) (hp : pl a = true) (ha : PA X [a] (RA G W cl es)) : PI X tg (.Call (.Name "range" p) [a] [] pos) (RI G W cl .r1 es) :=
  piI (pi_range1 (g.gl hg) (g.blt _ (by decide)) ha (star_one hp)) fun σ H R q => ri_args q fun Hid φ' H' ds vs h1 items lk S rv ei k => by
    match ds, rv, ei with
    | [], _, ei => simp [iterD] at ei
    | _ :: _ :: _, _, ei => simp [iterD] at ei
    | [d], rv, ei =>
      obtain ⟨x, rfl, q⟩ := reps1 rv
      cases d with
      | int j =>
        cases q
        simp only [iterD] at ei
        split at ei
        · rename_i hr
          cases ei
          exact ⟨j, rfl, (rok hr).1, (rok hr).2, k _ Hid (fun _ => True) (Held.none S) wk_range⟩
        · cases ei
      | _ => simp [iterD] at ei
theorem i_r2 (g : Good G M cl n X W c) {es : Es} {a b : Expr} {p pos : Pos} {tg : Expr} (hg : glB c.sc "range" = true) (hp : pl a = true) (hp2 : pl b = true) (ha : PA X [a, b] (RA G W cl es)) : PI X tg (.Call (.Name "range" p) [a, b] [] pos) (RI G W cl .r2 es) :=
  piI (pi_range2 (g.gl hg) (g.blt _ (by decide)) ha (by rw [star_pl hp, star_one hp2]) (star_one hp2)) fun σ H R q => ri_args q fun Hid φ' H' ds vs h1 items lk S rv ei k => by
    match ds, rv, ei with
    | [], _, ei => simp [iterD] at ei
    | [_], _, ei => simp [iterD] at ei
    | _ :: _ :: _ :: _, _, ei => simp [iterD] at ei
    | [d, e], rv, ei =>
      obtain ⟨x, y, rfl, q, q2⟩ := reps2 rv
      cases d with
      | int i =>
        cases e with
        | int j =>
          cases q
          cases q2
          simp only [iterD] at ei
          split at ei
          · rename_i hr
            cases ei
            rw [Bool.and_eq_true] at hr
            have h1 := rok hr.1
            have h2 := rok hr.2
            exact ⟨i, j, rfl, ⟨h1.1, h1.2, h2.1, h2.2⟩, k _ Hid (fun _ => True) (Held.none S) wk_range⟩
          · cases ei
        | _ => simp [iterD] at ei
      | _ => simp [iterD] at ei
theorem reps3 {φ : List Addr} {H : Hp} {d e f : D} {xs : List V} (r : Reps G φ H [d, e, f] xs) : ∃ x y z, xs = [x, y, z] ∧ Rep G φ H d x ∧ Rep G φ H e y ∧ Rep G φ H f z := by
  cases r with
  | cons q t =>
    obtain ⟨y, z, rfl, q2, q3⟩ := reps2 t
    exact ⟨_, _, _, rfl, q, q2, q3⟩
theorem i_r3 (g : Good G M cl n X W c) {es : Es} {a b d : Expr} {p pos : Pos} {tg : Expr} (hg : glB c.sc "range" = true) (hp : pl a = true) (hp2 : pl b = true) (hp3 : pl d = true) (ha : PA X [a, b, d] (RA G W cl es)) : PI X tg (.Call (.Name "range" p) [a, b, d] [] pos) (RI G W cl .r3 es) :=
  piI (pi_range3 (g.gl hg) (g.blt _ (by decide)) ha (star_pl hp) (star_any (by simp [hp2, hp3]))) fun σ H R q => ri_args q fun Hid φ' H' ds vs h1 items lk S rv ei k => by
    match ds, rv, ei with
    | [], _, ei => simp [iterD] at ei
    | [_], _, ei => simp [iterD] at ei
    | [_, _], _, ei => simp [iterD] at ei
    | _ :: _ :: _ :: _ :: _, _, ei => simp [iterD] at ei
    | [d, e, f], rv, ei =>
      obtain ⟨x, y, z, rfl, q, q2, q3⟩ := reps3 rv
      cases d with
      | int i =>
        cases e with
        | int j =>
          cases f with
          | int l =>
            cases q
            cases q2
            cases q3
            simp only [iterD] at ei
            split at ei
            · rename_i hr
              cases ei
              simp only [Bool.and_eq_true, beq_iff_eq] at hr
              obtain ⟨⟨hr1, hr2⟩, rfl⟩ := hr
              have h1 := rok hr1
              have h2 := rok hr2
              exact ⟨i, j, -1, _, rfl, RgC.neg h1.1 h1.2 h2.1 h2.2, k _ Hid (fun _ => True) (Held.none S) wk_down⟩
            · cases ei
          | _ => simp [iterD] at ei
        | _ => simp [iterD] at ei
      | _ => simp [iterD] at ei
theorem i_val (g : Good G M cl n X W c) {e : E} {x tg : Expr} (ha : PE X x (RE G W cl e)) : PI X tg x (RI G W cl .val (.cons e .nil)) := by
  refine piI (piOr (pi_list ha) (piOr (pi_tup ha) (pi_str ha))) fun σ H R q => ?_
  obtain ⟨Hid, φ, h, r, S, E, o⟩ := q
  cases ee : ev cl e r h with
  | ok d h1 =>
    have e1 : evs cl (.cons e .nil) r h = .ok [d] h1 := by simp [evs, ee, Alb.R.bind]
    rw [e1] at o
    simp only at o
    cases d with
    | tup xs =>
      simp only [iterD] at o
      refine .inr (.inl ⟨Hid, φ, h, r, S, E, ?_⟩)
      rw [ee]
      intro φ' H' v p S' rv e'
      cases rv with
      | @tup a vs _ q t =>
        refine ⟨a, rfl, ⟨vs, g.hK ▸ q⟩, ?_⟩
        rw [g.hK]
        exact o φ' H' _ Hid (fun H2 => SqT G.K H2 a vs) p e' ((Held.none S').and fun H2 ex => ex.sqT q) (wk_seq walk_tup t)
    | str x =>
      simp only [iterD] at o
      refine .inr (.inr ⟨Hid, φ, h, r, S, E, ?_⟩)
      rw [ee]
      intro φ' H' v p S' rv e'
      cases rv
      exact ⟨x, rfl, o φ' H' _ Hid (fun _ => True) p e' (Held.none S') wk_str⟩
    | loc a =>
      refine .inl ⟨Hid, φ, h, r, S, E, ?_⟩
      rw [ee]
      intro φ' H' v p S' rv e'
      cases rv with
      | @loc _ q ep =>
        simp only [iterD] at o
        split at o
        · rename_i items lk ei
          split at ei
          · rename_i xs gx
            cases ei
            obtain ⟨vs, h1, h2, hh⟩ := Held.lst S' gx ep
            refine ⟨q, rfl, ⟨vs, SqL.of h1⟩, ?_⟩
            rw [g.hK]
            exact o φ' H' _ _ (fun H2 => SqL G.K H2 q vs) p e' (hh.imp fun H2 z => SqL.of z) (wk_seq walk_list h2)
          · rename_i xs gx
            cases ei
            obtain ⟨vs, h1, h2, hh⟩ := Held.ro S' gx ep
            refine ⟨q, rfl, ⟨vs, SqL.of h1⟩, ?_⟩
            rw [g.hK]
            exact o φ' H' _ _ (fun H2 => SqL G.K H2 q vs) p e' (hh.imp fun H2 z => SqL.of z) (wk_seq walk_list h2)
          · cases ei
        · exact o.elim
    | _ => simp [iterD] at o
  | ex k h1 =>
    have e1 : evs cl (.cons e .nil) r h = .ex k h1 := by simp [evs, ee, Alb.R.bind]
    rw [e1] at o
    refine .inl ⟨Hid, φ, h, r, S, E, ?_⟩
    rw [ee]
    exact o
  | bad =>
    have e1 : evs cl (.cons e .nil) r h = .bad := by simp [evs, ee, Alb.R.bind]
    rw [e1] at o
    exact o.elim
/-- one argument: a list or a tuple -/
theorem i_enu (g : Good G M cl n X W c) {es : Es} {a : Expr} {p pos tp : Pos} {elts : List Expr} {kk : Nat} (hg : glB c.sc "enumerate" = true) (hp : pl a = true) (ha : PA X [a] (RA G W cl es)) : PI X (.Tuple elts kk tp) (.Call (.Name "enumerate" p) [a] [] pos) (RI G W cl .enu es) := by
  refine piI (piOr (pi_enum (g.gl hg) (g.blt _ (by decide)) ha (star_one hp)) (pi_enumT (g.gl hg) (g.blt _ (by decide)) ha (star_one hp))) fun σ H R q => ?_
  obtain ⟨Hid, φ, h, r, S, E, o⟩ := q
  cases ee : evs cl es r h with
  | ok ds h1 =>
    rw [ee] at o
    simp only at o
    match ds, ee with
    | [], ee => simp [iterD] at o
    | d :: e :: r, ee => simp [iterD] at o
    | [d], ee =>
      cases d with
      | tup xs =>
        simp only [iterD] at o
        refine .inr ⟨Hid, φ, h, r, S, E, ?_⟩
        rw [ee]
        intro φ' H' v p S' rv e'
        obtain ⟨x, rfl, q⟩ := reps1 rv
        cases q with
        | @tup a vs _ q t =>
          refine ⟨a, vs, rfl, g.hK ▸ q, ?_⟩
          rw [g.hK]
          exact o φ' H' _ Hid (fun H2 => SqT G.K H2 a vs) p e' ((Held.none S').and fun H2 ex => ex.sqT q) (wk_enum walk_enumT t)
      | loc a =>
        refine .inl ⟨Hid, φ, h, r, S, E, ?_⟩
        rw [ee]
        intro φ' H' v p S' rv e'
        obtain ⟨x, rfl, q⟩ := reps1 rv
        cases q with
        | @loc _ q ep =>
          simp only [iterD] at o
          split at o
          · rename_i items lk ei
            split at ei
            · rename_i xs gx
              cases ei
              obtain ⟨vs, h1, h2, hh⟩ := Held.lst S' gx ep
              refine ⟨q, vs, rfl, SqL.of h1, ?_⟩
              rw [g.hK]
              exact o φ' H' _ _ (fun H2 => SqL G.K H2 q vs) p e' (hh.imp fun H2 z => SqL.of z) (wk_enum walk_enum h2)
            · rename_i xs gx
              cases ei
              obtain ⟨vs, h1, h2, hh⟩ := Held.ro S' gx ep
              refine ⟨q, vs, rfl, SqL.of h1, ?_⟩
              rw [g.hK]
              exact o φ' H' _ _ (fun H2 => SqL G.K H2 q vs) p e' (hh.imp fun H2 z => SqL.of z) (wk_enum walk_enum h2)
            · cases ei
          · exact o.elim
      | _ => simp [iterD] at o
  | ex k h1 =>
    rw [ee] at o
    refine .inl ⟨Hid, φ, h, r, S, E, ?_⟩
    rw [ee]
    exact o
  | bad =>
    rw [ee] at o
    exact o.elim
theorem walk_zipT {K : PySem.W.Frag} {a b : Addr} {xs ys : List V} : Walk (RZ.ItzT K a b) (min xs.length ys.length) (fun H => SqT K H a xs ∧ SqT K H b ys) (YPair (fun i => xs[i]?) (fun i => ys[i]?)) := by
  refine ⟨fun i _ hi q => ?_, fun _ q => ⟨xs, ys, q.1, q.2, by omega⟩, fun i H v H' _ q y => ?_⟩
  · have h1 : i < xs.length := by omega
    have h2 : i < ys.length := by omega
    exact ⟨xs, ys, xs[i], ys[i], q.1, q.2, by simp [h1], by simp [h2]⟩
  · obtain ⟨T, x, z, h1, h2, h3, h4, h5⟩ := y
    exact ⟨T, x, z, h1, h2, h3, h4 xs q.1, h5 ys q.2⟩
theorem i_zip (g : Good G M cl n X W c) {es : Es} {a b : Expr} {p pos tp : Pos} {elts : List Expr} {kk : Nat} (hg : glB c.sc "zip" = true) (hp : pl a = true) (hp2 : pl b = true) (ha : PA X [a, b] (RA G W cl es)) : PI X (.Tuple elts kk tp) (.Call (.Name "zip" p) [a, b] [] pos) (RI G W cl .zip es) :=
  piI (RZ.pi_zipA (g.gl hg) (g.blt _ (by decide)) ha (star_pl hp) (star_any (by simp [hp2]))) fun σ H R q => ri_args q fun Hid φ' H' ds vs h1 items lk S rv ei k => by
    match ds, rv, ei with
    | [], _, ei => simp [iterD] at ei
    | [_], _, ei => simp [iterD] at ei
    | _ :: _ :: _ :: _, _, ei => simp [iterD] at ei
    | [d, e], rv, ei =>
      obtain ⟨x, y, rfl, q, q2⟩ := reps2 rv
      cases d with
      | tup xs =>
        cases e with
        | tup ys =>
          simp only [iterD, Option.some.injEq, Prod.mk.injEq] at ei
          obtain ⟨rfl, rfl⟩ := ei
          cases q with
          | @tup a vs _ qa ta =>
            cases q2 with
            | @tup b ws _ qb tb =>
              refine ⟨a, b, vs, ws, rfl, .inr ⟨g.hK ▸ qa, g.hK ▸ qb, ?_⟩⟩
              rw [g.hK]
              exact k _ Hid (fun H2 => SqT G.K H2 a vs ∧ SqT G.K H2 b ws) ((Held.none S).and fun H2 ex => ⟨ex.sqT qa, ex.sqT qb⟩) (wk_zip walk_zipT ta tb)
        | _ => simp [iterD] at ei
      | loc i =>
        cases e with
        | loc j =>
          simp only [iterD] at ei
          split at ei
          · rename_i xs ys g1 g2
            simp only [Option.some.injEq, Prod.mk.injEq] at ei
            obtain ⟨rfl, rfl⟩ := ei
            cases q with
            | @loc _ pa ea =>
              cases q2 with
              | @loc _ pb eb =>
                obtain ⟨vs, ws, Hid', h1, h2, t1, t2, hh⟩ := Held.two S g1 g2 ea eb
                refine ⟨pa, pb, vs, ws, rfl, .inl ⟨SqL.of h1, SqL.of h2, ?_⟩⟩
                rw [g.hK]
                exact k _ Hid' (fun H2 => SqL G.K H2 pa vs ∧ SqL G.K H2 pb ws) (hh.imp fun H2 z => ⟨SqL.of z.1, SqL.of z.2⟩) (wk_zip (walk_zip rfl) t1 t2)
          · cases ei
        | _ => simp [iterD] at ei
      | _ => simp [iterD] at ei

/-! ### comprehensions -/
abbrev W0 : WX := fun _ _ _ _ => False
def RC (G : Sg) (cl : Cl) (e : Oe) : TT := fun σ H Q => ∃ Hid φ h r, ST G φ Hid h H ∧ EnvR G φ H r σ ∧ OutG (fun _ _ a b => a = b) G Hid φ H W0 σ (evc cl e r h) Q
theorem rc_none : ∀ σ H Q, RC G cl .none σ H Q → tYes σ H Q := fun σ H Q ⟨Hid, φ, h, r, S, E, o⟩ => o φ H _ (List.prefix_refl _) S rfl (Ext.refl _)
theorem rc_some {e : E} : ∀ σ H Q, RC G cl (.some e) σ H Q → RT G W0 cl e σ H Q := by
  intro σ H Q ⟨Hid, φ, h, r, S, E, o⟩
  refine ⟨Hid, φ, h, r, S, E, (OutG.bind (Rp := Rep G) (Rq := fun _ _ a b => a = b) o).imp fun x H1 ⟨d, φ1, h1, p1, S1, r1, e1, o1⟩ => ?_⟩
  simp only at o1
  split at o1
  · cases r1
    exact ⟨_, rfl, o1 φ1 H1 _ (List.prefix_refl _) S1 rfl (Ext.refl _)⟩
  · exact o1.elim
/-- one turn of a comprehension -/
def turnF (cl : Cl) (own : List Nat) (t : Tg) (cd : Oe) (e : E) (r : Env) : D → Hh → R (Option D) := fun x h => match asgT t x (wipeD r own) with
  | some r1 => (evc cl cd r1 h).bind fun b h => if b then (ev cl e r1 h).bind fun y h => .ok (some y) h else .ok none h
  | none => .bad
theorem ev_lc (own : List Nat) (t : Tg) (k : Ik) (es : Es) (cd : Oe) (e : E) (r : Env) (h : Hh) : ev cl (.lc own t k es cd e) r h = (evs cl es r h).bind fun ds h => (match iterD k ds h with
    | some (items, lk) => (compGo (turnF cl own t cd e r) items [] (lockH lk h)).bind fun acc h => .ok (.loc (unlockH lk h).nx) ((unlockH lk h).new (.lst acc))
    | none => .bad) := rfl
theorem set_nx (h : Hh) (i : Nat) (o : O) : (h.set i o).nx = h.nx := rfl
theorem unlock_nx : ∀ (lk : List (Nat × List D)) (h : Hh), (unlockH lk h).nx = h.nx
  | [], _ => rfl
  | (a, xs) :: r, h => by
    show (unlockH r (h.set a (.lst xs))).nx = _
    rw [unlock_nx r]
    rfl
/-- a list that was hidden is handed over -/
theorem ST.reveal {Hid : Hd} {φ : List Addr} {h : Hh} {H : Hp} {D0 : Addr} {ds : List D} {vs : List V} (s : ST G φ (Hid.hide D0 (.lst vs)) h H) (hn : Hid.m D0 = none) (r : Reps G φ H ds vs) :
    ST G (φ ++ [D0]) Hid (h.new (.lst ds)) H := by
  have pre : φ <+: φ ++ [D0] := List.prefix_append _ _
  have hD : H D0 = some (.lst vs) := s.hid D0 _ upd_same
  have na : ∀ i o, h.get i = some o → φ[i]? ≠ some D0 := fun i o g => s.ban D0 i o (.inl rfl) g
  have last : (φ ++ [D0])[h.nx]? = some D0 := by
    rw [← s.len, List.getElem?_append_right (Nat.le_refl _)]
    simp
  have sub : ∀ c w, Hid.m c = some w → (Hid.hide D0 (.lst vs)).m c = some w := fun c w z => by
    have : c ≠ D0 := by
      rintro rfl
      rw [hn] at z
      cases z
    show upd Hid.m D0 (.lst vs) c = some w
    rw [upd_ne this]
    exact z
  refine ⟨by simp [s.len, Hh.new], fun i o g => ?_, fun i j a o1 o2 g1 g2 e1 e2 => ?_, fun a w z => s.hid a w (sub a w z), fun a w i o z g e1 => ?_, fun a i o hb g e1 => ?_⟩
  · rw [get_new] at g
    split at g
    · rename_i q
      subst q
      cases g
      exact ⟨D0, last, vs, hD, r.mono pre (Ext.refl _)⟩
    · obtain ⟨a, h1, h2⟩ := s.live i o g
      exact ⟨a, pre_get pre h1, h2.mono pre (Ext.refl _) fun _ z => z⟩
  · rw [get_new] at g1 g2
    split at g1
    · rename_i q1
      split at g2
      · rename_i q2
        rw [q1, q2]
      · exfalso
        obtain ⟨b, h1, h2⟩ := s.live j o2 g2
        rw [q1, last] at e1
        cases e1
        rw [pre_get pre h1] at e2
        cases e2
        exact na j o2 g2 h1
    · rename_i q1
      split at g2
      · rename_i q2
        exfalso
        obtain ⟨b, h1, h2⟩ := s.live i o1 g1
        rw [q2, last] at e2
        cases e2
        rw [pre_get pre h1] at e1
        cases e1
        exact na i o1 g1 h1
      · obtain ⟨b, h1, _⟩ := s.live i o1 g1
        obtain ⟨d, h2, _⟩ := s.live j o2 g2
        rw [pre_get pre h1] at e1
        rw [pre_get pre h2] at e2
        cases e1
        cases e2
        exact s.inj i j _ o1 o2 g1 g2 h1 h2
  · rw [get_new] at g
    split at g
    · rename_i q
      rw [q, last] at e1
      cases e1
      rw [hn] at z
      cases z
    · obtain ⟨b, h1, _⟩ := s.live i o g
      rw [pre_get pre h1] at e1
      cases e1
      exact s.apart _ w i o (sub _ _ z) g h1
  · rw [get_new] at g
    split at g
    · rename_i q
      rw [q, last] at e1
      cases e1
      exact Hid.ok D0 hb hn
    · obtain ⟨b, h1, _⟩ := s.live i o g
      rw [pre_get pre h1] at e1
      cases e1
      exact s.ban _ i o (.inr hb) g h1
/-- a new object is hidden -/
theorem ST.hideNew {Hid : Hd} {φ : List Addr} {h : Hh} {H : Hp} {D0 : Addr} {u : HO} (s : ST G φ Hid h H) (hp : H D0 = none) : ST G φ (Hid.hide D0 u) h (upd H D0 u) := by
  have s1 : ST G φ Hid h (upd H D0 u) := s.same (same_fresh hp)
  refine ⟨s1.len, s1.live, s1.inj, fun a w z => ?_, fun a w i o z g e1 => ?_, fun a i o hb g e1 => ?_⟩
  · have z : upd Hid.m D0 u a = some w := z
    by_cases e : a = D0
    · subst e
      rw [upd_same] at z ⊢
      exact z
    · rw [upd_ne e] at z
      exact s1.hid a w z
  · have z : upd Hid.m D0 u a = some w := z
    by_cases e : a = D0
    · subst e
      exact absurd e1 (s.nofresh hp g)
    · rw [upd_ne e] at z
      exact s1.apart a w i o z g e1
  · rcases hb with rfl | hb
    · exact s.nofresh hp g e1
    · exact s1.ban a i o hb g e1
/-- the hidden list changes -/
theorem ST.hideSet {Hid : Hd} {φ : List Addr} {h : Hh} {H : Hp} {D0 : Addr} {vs ws : List V} (s : ST G φ (Hid.hide D0 (.lst vs)) h H) : ST G φ (Hid.hide D0 (.lst ws)) h (upd H D0 (.lst ws)) ∧ Ext H (upd H D0 (.lst ws)) := by
  have hD : H D0 = some (.lst vs) := s.hid D0 _ upd_same
  have e : Ext H (upd H D0 (.lst ws)) := Ext.wr hD (fun _ z => nomatch z) (fun _ _ z => nomatch z)
  have na : ∀ i o, h.get i = some o → φ[i]? ≠ some D0 := fun i o g => s.ban D0 i o (.inl rfl) g
  refine ⟨⟨s.len, fun i o g => ?_, s.inj, fun a w z => ?_, fun a w i o z g e1 => ?_, s.ban⟩, e⟩
  · obtain ⟨a, h1, h2⟩ := s.live i o g
    refine ⟨a, h1, h2.mono (List.prefix_refl _) e fun u z => ?_⟩
    have : a ≠ D0 := fun q => na i o g (by rw [h1, q])
    rw [upd_ne this]
    exact z
  · have z : upd Hid.m D0 (.lst ws) a = some w := z
    by_cases q : a = D0
    · subst q
      rw [upd_same] at z ⊢
      exact z
    · rw [upd_ne q] at z ⊢
      refine s.hid a w ?_
      show upd Hid.m D0 (.lst vs) a = some w
      rw [upd_ne q]
      exact z
  · have z : upd Hid.m D0 (.lst ws) a = some w := z
    by_cases q : a = D0
    · subst q
      exact absurd e1 (na i o g)
    · rw [upd_ne q] at z
      refine s.apart a w i o ?_ g e1
      show upd Hid.m D0 (.lst vs) a = some w
      rw [upd_ne q]
      exact z
theorem set_new {h : Hh} {a : Nat} {o u : O} (ha : a ≠ h.nx) : (h.new u).set a o = (h.set a o).new u := by
  unfold Hh.set Hh.new
  simp only [setL, if_neg ha]
theorem unlock_new : ∀ {lk : List (Nat × List D)} {h : Hh} {u : O}, (∀ p ∈ lk, p.1 < h.nx) → unlockH lk (h.new u) = (unlockH lk h).new u
  | [], _, _, _ => rfl
  | (a, xs) :: r, h, u, hl => by
    show unlockH r ((h.new u).set a (.lst xs)) = (unlockH r (h.set a (.lst xs))).new u
    rw [set_new (Nat.ne_of_lt (hl (a, xs) List.mem_cons_self))]
    exact unlock_new fun p hp => hl p (List.mem_cons_of_mem _ hp)
theorem ST.unhide {Hid : Hd} {φ : List Addr} {h : Hh} {H : Hp} {D0 : Addr} {u : HO} (s : ST G φ (Hid.hide D0 u) h H) (hn : Hid.m D0 = none) : ST G φ Hid h H :=
  s.forget (fun c w z => by
    have : c ≠ D0 := by
      rintro rfl
      rw [hn] at z
      cases z
    show upd Hid.m D0 u c = some w
    rw [upd_ne this]
    exact z) fun c b => .inr b
theorem lc_imp (hK : X.K = G.K) {own : List Nat} {t : Tg} {k : Ik} {es : Es} {cd : Oe} {e : E} (hown : ∀ i ∈ t.ix, i ∈ own) :
    ∀ σ H Q, RE G W cl (.lc own t k es cd e) σ H Q → tLc (RI G W cl k es) (gT X.K t) (RC G cl cd) (RE G W0 cl e) own σ H Q := by
  intro σ H Q ⟨Hid, φ, h, r, S, E, o⟩
  refine ⟨Hid, φ, h, r, S, E, ?_⟩
  rw [ev_lc] at o
  cases ee : evs cl es r h with
  | ex k h1 =>
    rw [ee] at o
    exact o
  | bad =>
    rw [ee] at o
    exact o.elim
  | ok ds h1 =>
    rw [ee] at o
    have o : Out G Hid φ H W σ (match iterD k ds h1 with
      | some (items, lk) => (compGo (turnF cl own t cd e r) items [] (lockH lk h1)).bind fun acc h => .ok (.loc (unlockH lk h).nx) ((unlockH lk h).new (.lst acc))
      | none => .bad) Q := o
    simp only
    cases ei : iterD k ds h1 with
    | none =>
      rw [ei] at o
      exact o.elim
    | some pr =>
      obtain ⟨items, lk⟩ := pr
      rw [ei] at o
      simp only at o ⊢
      intro φ' H' J Hid' Gd pp e' hh ww D0 hD0
      have hn : Hid'.m D0 = none := by
        cases q : Hid'.m D0 with
        | none => rfl
        | some w =>
          rw [hh.st.hid D0 w q] at hD0
          cases hD0
      cases ec : compGo (turnF cl own t cd e r) items [] (lockH lk h1) with
      | ex k2 h2 =>
        exfalso
        have never : ∀ (l acc : List D) (hh : Hh) (c : Nat) (h2 : Hh), compGo (turnF cl own t cd e r) l acc hh ≠ .ex c h2 := by
          intro l
          induction l with
          | nil =>
            intro acc hh c h2 q
            simp [compGo] at q
          | cons x xs ih =>
            intro acc hh c h2 q
            simp only [compGo] at q
            split at q
            · split at q
              · exact ih _ _ _ _ q
              · cases q
            · exact ih _ _ _ _ q
            · cases q
        exact never _ _ _ _ _ ec
      | bad =>
        rw [ec] at o
        exact o.elim
      | ok accF hF =>
        rw [ec] at o
        refine lc_it ww (fun i H2 => ∃ φi hi acc vs, φ' <+: φi ∧ Ext H' H2 ∧ ST G φi (Hid'.hide D0 (.lst vs)) hi H2 ∧ Reps G φi H2 acc vs ∧ compGo (turnF cl own t cd e r) (items.drop i) acc hi = .ok accF hF)
          ⟨φ', lockH lk h1, [], [], List.prefix_refl _, same_ext (same_fresh hD0), hh.st.hideNew hD0, .nil, by rw [List.drop_zero]; exact ec⟩ ?_ ?_ ?_
        · rintro i H2 hi ⟨φi, hi', acc, vs, p1, x1, s1, r1, c1⟩
          exact hh.good φi hi' H2 x1 (s1.unhide hn)
        · rintro i x H2 H3 hi ⟨φi, hi', acc, vs, p1, x1, s1, r1, c1⟩ ⟨sm, yy⟩
          obtain ⟨d, ed, rd⟩ := yy x1
          have x3 : Ext H2 H3 := same_ext sm
          have s3 : ST G φi (Hid'.hide D0 (.lst vs)) hi' H3 := s1.same sm
          have dr : items.drop i = d :: items.drop (i + 1) := by
            have hl : i < items.length := hi
            rw [List.getElem?_eq_getElem hl] at ed
            cases ed
            exact List.drop_eq_getElem_cons hl
          rw [dr] at c1
          simp only [compGo] at c1
          have E3 : EnvR G φi H3 (wipeD r own) (wipe σ own) := (E.mono (pp.trans p1) ((e'.trans x1).trans x3)).wipe own
          have rd3 : Rep G φi H3 d x := rd.mono p1 (Ext.refl _)
          cases ea : asgT t d (wipeD r own) with
          | none => simp [turnF, ea] at c1
          | some r1' =>
            have ft : ∀ hh, turnF cl own t cd e r d hh = (evc cl cd r1' hh).bind fun b h => if b then (ev cl e r1' h).bind fun y h => .ok (some y) h else .ok none h := fun hh => by simp [turnF, ea]
            rw [ft] at c1
            obtain ⟨is, vs', rfl, E4, kk⟩ := gT_ok E3 rd3 ea
            rw [hK]
            refine kk _ ⟨wipe_setV hown, Hid'.hide D0 (.lst vs), φi, hi', r1', s3, E4, ?_⟩
            cases eb : evc cl cd r1' hi' with
            | ex _ _ => simp [eb, Alb.R.bind] at c1
            | bad => simp [eb, Alb.R.bind] at c1
            | ok b h4 =>
              rw [eb] at c1
              intro φ4 H4 b' p4 s4 rb x4
              subst rb
              cases b with
              | false =>
                simp only [Bool.false_eq_true, if_false]
                have c1 : compGo (turnF cl own t cd e r) (items.drop (i + 1)) acc h4 = .ok accF hF := by simpa [Alb.R.bind] using c1
                exact ⟨φ4, h4, acc, vs, p1.trans p4, (x1.trans x3).trans x4, s4, r1.mono p4 (x3.trans x4), c1⟩
              | true =>
                simp only [if_true]
                refine ⟨Hid'.hide D0 (.lst vs), φ4, h4, r1', s4, E4.mono p4 x4, ?_⟩
                cases ey : ev cl e r1' h4 with
                | ex _ _ => simp [Alb.R.bind, ey] at c1
                | bad => simp [Alb.R.bind, ey] at c1
                | ok y h5 =>
                  intro φ5 H5 yv p5 s5 ry x5
                  have c1 : (if acc.length < lim then compGo (turnF cl own t cd e r) (items.drop (i + 1)) (acc ++ [y]) h5 else .bad) = .ok accF hF := by simpa [Alb.R.bind, ey] using c1
                  split at c1
                  · rename_i hlim
                    have hD5 : H5 D0 = some (.lst vs) := s5.hid D0 _ upd_same
                    refine ⟨vs, hD5, lim_lt (by rw [← r1.length]; exact hlim), ?_⟩
                    obtain ⟨s6, x6⟩ := s5.hideSet (ws := vs ++ [yv])
                    have r5 : Reps G φ5 H5 (acc ++ [y]) (vs ++ [yv]) := (r1.mono (p4.trans p5) ((x3.trans x4).trans x5)).append (.cons ry .nil)
                    exact ⟨φ5, h5, acc ++ [y], vs ++ [yv], (p1.trans p4).trans p5, (((x1.trans x3).trans x4).trans x5).trans x6, s6, r5.mono (List.prefix_refl _) x6, c1⟩
                  · cases c1
        · rintro H2 ⟨φi, hi', acc, vs, p1, x1, s1, r1, c1⟩
          rw [List.drop_length] at c1
          simp only [compGo, R.ok.injEq] at c1
          obtain ⟨rfl, rfl⟩ := c1
          have pre2 : φi <+: φi ++ [D0] := List.prefix_append _ _
          have s2 := s1.reveal hn r1
          have s3 := hh.back (φi ++ [D0]) _ H2 (p1.trans pre2) x1 s2
          have hl : ∀ p ∈ lk, p.1 < hi'.nx := fun p hp => by
            rw [← s1.len]
            exact Nat.lt_of_lt_of_le (hh.lt p hp) p1.length_le
          rw [unlock_new hl] at s3
          refine o _ H2 _ ((pp.trans p1).trans pre2) s3 (.loc ?_) (e'.trans x1)
          rw [unlock_nx, ← s1.len, List.getElem?_append_right (Nat.le_refl _)]
          simp
end
end Alb
set_option Elab.async false
set_option linter.all false
set_option maxRecDepth 100000
set_option maxHeartbeats 4000000
/-! Every expression. -/
namespace Alb
open PySem PySem.Spec PyProof.Rows L2
section
variable {G : Sg} {M : Nm} {cl : Cl} {n : Nat} {X : Cx} {W : WX} {c : Sc}
theorem e_cal (g : Good G M cl n X W c) {f : Nat} {es : Es} {y : Str} {as : List Expr} {p pos : Pos} (h : (decide (M.fn f = some y) && glB c.sc y && okN y) = true) (hp : as.all pl = true) (hl : 1 ≤ as.length) (ha : PA X as (RA G W cl es)) : PE X (.Call (.Name y p) as [] pos) (RE G W cl (.cal f es)) := by
  simp only [Bool.and_eq_true, decide_eq_true_eq] at h
  obtain ⟨h1, h2, _⟩ := okN_of h.2
  obtain ⟨a, e1, e2⟩ := g.nms f y h.1.1
  obtain ⟨fd, ps, hb, hk, F⟩ := g.fns f a e1
  cases as with
  | nil => simp at hl
  | cons x r =>
    simp only [List.all_cons, Bool.and_eq_true] at hp
    exact peI (pe_callS F g.room (g.gl h.1.2) e2 hk hb (fun σ => L2N.passAt g.tk σ) ha h1 (star_pl hp.1) (star_any hp.2)) cal_imp
/-- a call of a def that a value names -/
theorem e_cax (g : Good G M cl n X W c) {fe : E} {es : Es} {a b : Expr} {q : Pos} {as : List Expr} {pos : Pos} (hf : PE X (.Subscript a b q) (RE G W cl fe)) (hp : as.all pl = true) (hl : 1 ≤ as.length) (ha : PA X as (RA G W cl es)) : PE X (.Call (.Subscript a b q) as [] pos) (RE G W cl (.cax fe es)) := by
  cases as with
  | nil => simp at hl
  | cons x r =>
    simp only [List.all_cons, Bool.and_eq_true] at hp
    refine ⟨fun pins s σ H Q I ⟨Hid, φ, h, r', S, E, o⟩ => ?_⟩
    have o : Out G Hid φ H W σ ((ev cl fe r' h).bind fun x h => (match x with
      | .fn f => (evs cl es r' h).bind fun ds h => cl.f f ds h
      | _ => .bad)) Q := o
    refine Call_ (thn (hf.run pins s σ H _ I ⟨Hid, φ, h, r', S, E, OutG.bind (Rp := Rep G) (Rq := Rep G) o⟩) fun v s1 ⟨xv, H1, I1, rv, d, φ1, h1, p1, S1, r1, e1, o1⟩ => ?_)
    simp only at o1
    split at o1
    · rename_i f
      cases r1 with
      | fn ef =>
        obtain ⟨fd, ps, hb, hk, F⟩ := g.fns f _ ef
        cases rv
        refine PySem.W.callWith_K (h₀ := X.base) I1.ok.mod.kin hk (thn (ha.run pos pins s1 σ H1 _ I1 ⟨Hid, φ1, h1, r', S1, E.mono p1 e1, OutG.bind (Rp := Reps G) (Rq := Rep G) o1⟩) fun us s2 ⟨vs, H2, I2, rvs, ds, φ2, h2, p2, S2, r2, e2, o2⟩ => ⟨I2.kIn, ?_⟩) (star_pl hp.1) (star_any hp.2)
        refine run_fnS (E := WE W) F g.room hb (L2N.passAt g.tk σ) I2 rvs ⟨Hid, φ2, h2, ds, S2, r2, ?_⟩
        have o2 : Out G Hid φ2 H2 W σ (cl.f f ds h2) Q := o2
        cases e : cl.f f ds h2 with
        | ok d h' =>
          rw [e] at o2
          exact o2
        | ex k h' =>
          rw [e] at o2
          exact o2
        | bad =>
          rw [e] at o2
          exact o2.elim
    · exact o1.elim
theorem blt_ne {z : String} (h : z ∈ bltNames) : (Str.ofString z ≠ ("__name__" : Str)) ∧ ((Str.ofString z == ("__debug__" : Str)) = false) := by
  simp only [bltNames, List.mem_cons, List.not_mem_nil, or_false] at h
  rcases h with rfl | rfl | rfl | rfl | rfl | rfl | rfl | rfl | rfl | rfl | rfl | rfl | rfl | rfl | rfl | rfl <;> exact ⟨by decide +kernel, by decide +kernel⟩
theorem e_blt (g : Good G M cl n X W c) {b : Blt} {z : String} {es : Es} {as : List Expr} {p pos : Pos} (hz : bnm b = some z) (hg : glB c.sc (Str.ofString z) = true) (hp : as.all pl = true) (hl : 1 ≤ as.length) (ha : PA X as (RA G W cl es)) : PE X (.Call (.Name (Str.ofString z) p) as [] pos) (RE G W cl (.blt b es)) := by
  cases as with
  | nil => simp at hl
  | cons x r =>
    simp only [List.all_cons, Bool.and_eq_true] at hp
    have s1 := star_pl (env := X.env) (xs := r) hp.1
    have s2 := star_any (env := X.env) (pos := pos) hp.2
    have go : ∀ {id : String}, z ∈ bltNames → CallR X (.builtin id) (PL G (bltD b)) → bootBuiltins (Str.ofString z) = some (.builtin id) → PE X (.Call (.Name (Str.ofString z) p) (x :: r) [] pos) (RE G W cl (.blt b es)) := fun {id} hm hc hv =>
      peI (pe_callB hc (g.gl hg) (g.blt _ hm) hv ha (blt_ne hm).1 (blt_ne hm).2 s1 s2) (pl_imp fun _ _ => rfl)
    have goT : ∀ {id : String}, z ∈ bltNames → CallR X (.type id) (PL G (bltD b)) → bootBuiltins (Str.ofString z) = some (.type id) → PE X (.Call (.Name (Str.ofString z) p) (x :: r) [] pos) (RE G W cl (.blt b es)) := fun {id} hm hc hv =>
      peI (pe_callTy hc (g.gl hg) (g.blt _ hm) hv ha (blt_ne hm).1 (blt_ne hm).2 s1 s2) (pl_imp fun _ _ => rfl)
    cases b with
    | len => cases hz; exact go (by decide) (pc_len g.hK) boot_len
    | max => cases hz; exact go (by decide) (pc_max g.calm) boot_max
    | min => cases hz; exact go (by decide) (pc_min g.hK g.calm) boot_min
    | sum => cases hz; exact go (by decide) (pc_sum g.hK g.calm) boot_sum
    | all => cases hz; exact go (by decide) (pc_all g.hK g.calm) boot_all
    | tuple => cases hz; exact goT (by decide) (pc_tuple g.hK) boot_tuple
    | list => cases hz; exact goT (by decide) (pc_list g.hK) boot_list
    | _ => cases hz
theorem boot_ty {t : Ty} (ht : t ≠ .own) : bootBuiltins (Str.ofString t.nm) = some (.type t.nm) ∧ t.nm ∈ bltNames := by
  cases t with
  | int => exact ⟨PyProof.Rows.boot_int, by decide⟩
  | bool => exact ⟨by decide +kernel, by decide⟩
  | tuple => exact ⟨PyProof.Rows.boot_tuple, by decide⟩
  | str => exact ⟨PyProof.Rows.boot_str, by decide⟩
  | own => exact absurd rfl ht
theorem e_isi (g : Good G M cl n X W c) {t : Ty} {a : E} {u : Expr} {p q pos : Pos} (hg : glB c.sc "isinstance" = true) (ht : t ≠ .own) (hg2 : glB c.sc (Str.ofString t.nm) = true) (hp : pl u = true) (ha : PE X u (RE G W cl a)) :
    PE X (.Call (.Name "isinstance" p) [u, .Name (Str.ofString t.nm) q] [] pos) (RE G W cl (.isi t a)) := by
  obtain ⟨hv, hm⟩ := boot_ty ht
  have hb : PE X (.Name (Str.ofString t.nm) q) (tC (.ty t.nm)) := pe_bltn (g.gl hg2) (g.blt _ hm) hv rfl (blt_ne hm).1 (blt_ne hm).2
  have s1 := star_pl (env := X.env) (xs := [.Name (Str.ofString t.nm) q]) hp
  exact peI (pe_callB (pc_isi g.hK ht) (g.gl hg) (g.blt "isinstance" (by decide)) boot_isinstance (pa_cons ha (pa_cons hb pa_nil) s1) (by decide) (by decide) s1 rfl) isi_imp
theorem e_mth (g : Good G M cl n X W c) {m : Mth} {z : String} {a : E} {es : Es} {o y : Expr} {ap cp : Pos} (hz : mnm m = some z) (hline : (ap.endLine == cp.line) = true) (hs : nosup o = true) (hp : pl y = true) (ho : PE X o (RE G W cl a)) (ha : PA X [y] (RA G W cl es)) :
    PE X (.Call (.Attribute o (Str.ofString z) ap) [y] [] cp) (RE G W cl (.mth m a es)) := by
  have s1 := star_pl (env := X.env) (xs := []) hp
  have hfew : ((backTo cp (starEach [y] X.env)).all (fun x => !x.1) && (backToKw cp (keywordEach [] X.env)).all (fun x => x.1.isSome)
      && decide ([y].length + ([] : List Keyword).length + (if ([] : List Keyword).isEmpty then 0 else 1) < 30)) = true := by
    rw [s1]
    rfl
  cases m with
  | append =>
    cases hz
    refine peI (pe_bm PySem.F.plainAttrs_list PySem.F.slot_list_append PySem.F.type_list_append (pm_append (G := G)) ho ha (base_pl hs _) hfew hline s1 rfl) ?_
    rw [g.hK]
    exact mth_imp (recv_list (.inl rfl))
  | extend =>
    cases hz
    refine peI (pe_bm PySem.F.plainAttrs_list PySem.F.slot_list_extend PySem.F.type_list_extend (pm_extend (G := G)) ho ha (base_pl hs _) hfew hline s1 rfl) ?_
    rw [g.hK]
    exact mth_imp (recv_list (.inr (.inl rfl)))
  | count =>
    cases hz
    refine peI (pe_bm PySem.F.plainAttrs_list PySem.F.slot_list_count PySem.F.type_list_count (pm_count (G := G) g.hK) ho ha (base_pl hs _) hfew hline s1 rfl) ?_
    rw [g.hK]
    exact mth_imp (recv_list (.inr (.inr rfl)))
  | _ => cases hz
theorem takesN0 {X : Cx} : L2N.Takes X W0 := fun _ _ x => by
  obtain ⟨_, _, _, _, _, _, _, _, _, _, _, _, _, _, _, _, z⟩ := x
  exact z.elim
theorem Good.blk (g : Good G M cl n X W c) {scope : Scope} (s : Shared) (H : Hp) (C : Addr) (cs : List (Str × Addr)) (fp : List Addr) : Good G M cl n (X.blk s H scope (compEnvC scope cs C X.env) fp) W0 (c.blk scope) :=
  { hK := g.hK, hN := g.hN, hsc := by
      show relS scope X.env.scope = relS scope c.sc
      rw [g.hsc], hfb := rfl, nd := g.nd, calm := g.calm, tk := takesN0, room := g.room, fns := g.fns, nms := g.nms, glb := g.glb, blt := g.blt, po := PassesOwn.never, exc := g.exc }
theorem g_nm (g : Good G M cl n X W c) {i : Nat} {x : Expr} (h : nmG c i x = true) : PG X x (gName i) := by
  cases x with
  | Name y p =>
    simp only [nmG, Bool.and_eq_true, decide_eq_true_eq, Bool.or_eq_true] at h
    refine pg_name (by rw [g.hN]; exact g.nd) (by rw [g.hN]; exact h.1.1) (g.loc h.1.2) ?_
    rcases h.2 with z | z
    · left
      rw [g.hfb]
      exact z
    · right
      unfold isLoc at z
      rw [g.hsc]
      split at z
      · assumption
      · cases z
  | _ => simp [nmG] at h
theorem nm_name {i : Nat} {x : Expr} (h : nmG c i x = true) : ∃ y p, x = .Name y p := by
  cases x with
  | Name y p => exact ⟨y, p, rfl⟩
  | _ => simp [nmG] at h
theorem g_nms (g : Good G M cl n X W c) : ∀ {is : List Nat} {xs : List Expr}, nmGs c is xs = true → PGs X xs (gTs is) ∧ (assignEach xs X.env).length = is.length ∧ (assignEach xs X.env).findIdx? (·.1) = none
  | [], [], _ => ⟨pgs_nil, rfl, rfl⟩
  | [], _ :: _, h => by simp [nmGs] at h
  | _ :: _, [], h => by simp [nmGs] at h
  | i :: is, x :: xs, h => by
    simp only [nmGs, Bool.and_eq_true] at h
    obtain ⟨y, p, rfl⟩ := nm_name h.1
    obtain ⟨h1, h2, h3⟩ := g_nms g h.2
    refine ⟨pgs_cons (g_nm g h.1) h1 rfl, ?_, ?_⟩
    · show ((false, assign (.Name y p) X.env) :: assignEach xs X.env).length = _
      simp [h2]
    · show ((false, assign (.Name y p) X.env) :: assignEach xs X.env).findIdx? (·.1) = none
      rw [List.findIdx?_cons]
      simp [h3]
theorem g_tg (g : Good G M cl n X W c) {t : Tg} {x : Expr} (h : mtG c t x = true) : PG X x (gT X.K t) := by
  cases t with
  | nm i => exact g_nm g h
  | tp is =>
    cases x with
    | Tuple es k p =>
      simp only [mtG] at h
      obtain ⟨h1, h2, h3⟩ := g_nms g h
      exact pg_tup g.calm h1 h2 h3
    | _ => simp [mtG] at h
theorem i_any (g : Good G M cl n X W c) {k : Ik} {es : Es} {tg iter : Expr} (h : iterB c k (fun as => mts M c es as) (fun y => match es with
        | .cons e1 .nil => mt M c e1 y
        | _ => false) tg iter = true) (hA : ∀ as, mts M c es as = true → PA X as (RA G W cl es)) (hE : ∀ e1 y, es = .cons e1 .nil → mt M c e1 y = true → PE X y (RE G W cl e1)) : PI X tg iter (RI G W cl k es) ∧ ∀ x, foldedSetIterable iter X.env x = pure x := by
  cases k with
  | val =>
    simp only [iterB, Bool.and_eq_true] at h
    refine ⟨?_, set_pl h.2⟩
    split at h
    · rename_i e1
      exact i_val g (hE e1 iter rfl h.1)
    · simp at h
  | r1 =>
    simp only [iterB] at h
    split at h
    · simp only [Bool.and_eq_true, decide_eq_true_eq] at h
      obtain ⟨⟨rfl, h2⟩, h3⟩ := h
      have hp := mts_pl h3
      simp only [List.all_cons, List.all_nil, Bool.and_true] at hp
      exact ⟨i_r1 g h2 hp (hA _ h3), fun _ => rfl⟩
    · cases h
  | r2 =>
    simp only [iterB] at h
    split at h
    · simp only [Bool.and_eq_true, decide_eq_true_eq] at h
      obtain ⟨⟨rfl, h2⟩, h3⟩ := h
      have hp := mts_pl h3
      simp only [List.all_cons, List.all_nil, Bool.and_true, Bool.and_eq_true] at hp
      exact ⟨i_r2 g h2 hp.1 hp.2 (hA _ h3), fun _ => rfl⟩
    · cases h
  | r3 =>
    simp only [iterB] at h
    split at h
    · simp only [Bool.and_eq_true, decide_eq_true_eq] at h
      obtain ⟨⟨rfl, h2⟩, h3⟩ := h
      have hp := mts_pl h3
      simp only [List.all_cons, List.all_nil, Bool.and_true, Bool.and_eq_true] at hp
      exact ⟨i_r3 g h2 hp.1 hp.2.1 hp.2.2 (hA _ h3), fun _ => rfl⟩
    · cases h
  | enu =>
    simp only [iterB] at h
    split at h
    · simp only [Bool.and_eq_true, decide_eq_true_eq] at h
      obtain ⟨⟨⟨rfl, h2⟩, h3⟩, h4⟩ := h
      have hp := mts_pl h3
      simp only [List.all_cons, List.all_nil, Bool.and_true] at hp
      cases tg with
      | Tuple elts kk tp => exact ⟨i_enu g h2 hp (hA _ h3), fun _ => rfl⟩
      | _ => simp [isTup] at h4
    · cases h
  | zip =>
    simp only [iterB] at h
    split at h
    · simp only [Bool.and_eq_true, decide_eq_true_eq] at h
      obtain ⟨⟨⟨rfl, h2⟩, h3⟩, h4⟩ := h
      have hp := mts_pl h3
      simp only [List.all_cons, List.all_nil, Bool.and_true, Bool.and_eq_true] at hp
      cases tg with
      | Tuple elts kk tp => exact ⟨i_zip g h2 hp.1 hp.2 (hA _ h3), fun _ => rfl⟩
      | _ => simp [isTup] at h4
    · cases h
/-- as a value and as a test -/
def Both (G : Sg) (W : WX) (cl : Cl) (X : Cx) (e : E) (x : Expr) : Prop := PE X x (RE G W cl e) ∧ (okT e = true → PT X x (RT G W cl e))
theorem both_val {e : E} {x : Expr} (h : PE X x (RE G W cl e)) (he : ∀ whole, isTrue x X.env whole = (do let v ← whole; standAt x.pos; holding [v] (truthy v)) := by intro _; rfl) : Both G W cl X e x := ⟨h, fun _ => pt_val h he⟩
mutual
theorem sE : ∀ (e : E) (x : Expr) (X : Cx) (W : WX) (c : Sc), mt M c e x = true → Good G M cl n X W c → Both G W cl X e x
  | .cst d, x, X, W, c, h, g => by
    cases x <;> simp only [mt, Bool.false_eq_true] at h
    exact both_val (e_cst h)
  | .var i, x, X, W, c, h, g => by
    cases x <;> simp only [mt, Bool.false_eq_true] at h
    exact both_val (e_var g h)
  | .fnv i, x, X, W, c, h, g => by
    cases x <;> simp only [mt, Bool.false_eq_true] at h
    exact both_val (e_fnv g h)
  | .glb i, x, X, W, c, h, g => by
    cases x <;> simp only [mt, Bool.false_eq_true] at h
    exact both_val (e_glb g h)
  | .bin o a b, x, X, W, c, h, g => by
    cases x <;> simp only [mt, Bool.false_eq_true] at h
    simp only [Bool.and_eq_true, decide_eq_true_eq] at h
    obtain ⟨⟨rfl, h1⟩, h2⟩ := h
    exact both_val (peI (pe_op (pr_bin g o) (sE a _ X W c h1 g).1 (sE b _ X W c h2 g).1) bin_imp)
  | .neg a, x, X, W, c, h, g => by
    simp only [mt] at h
    split at h
    · exact both_val (peI (pe_un pr_neg (sE a _ X W c h g).1) neg_imp)
    · cases h
  | .cmp o a b, x, X, W, c, h, g => by
    simp only [mt] at h
    split at h
    · simp only [Bool.and_eq_true, decide_eq_true_eq] at h
      obtain ⟨⟨⟨rfl, hp⟩, h1⟩, h2⟩ := h
      have ha := (sE a _ X W c h1 g).1
      have hb := (sE b _ X W c h2 g).1
      exact ⟨peI (pe_cmpR (pr_cmp g o) ha hb (marks_pl hp)) cmp_imp, fun _ => ptI (pt_cmpR (pr_cmp g o) ha hb (marks_pl hp)) fun σ H Q q => cmp_imp σ H _ q⟩
    · cases h
  | .chn o p a b d, x, X, W, c, h, g => by
    simp only [mt] at h
    split at h
    · simp only [Bool.and_eq_true, decide_eq_true_eq] at h
      obtain ⟨⟨⟨⟨⟨⟨rfl, rfl⟩, hp⟩, hp2⟩, h1⟩, h2⟩, h3⟩ := h
      have ha := (sE a _ X W c h1 g).1
      have hb := (sE b _ X W c h2 g).1
      have hd := (sE d _ X W c h3 g).1
      have hm : ∀ (r s : Expr), pl s = true → lastMarks [copX o, copX p] [r, s] = false := fun r s hs => marks_pl hs
      exact ⟨peI (pe_chain (pr_cmp g o) (pr_cmp g p) ha hb hd (hm _ _ hp2)) chn_imp, fun _ => ptI (pt_chain (pr_cmp g o) (pr_cmp g p) ha hb hd (hm _ _ hp2)) fun σ H Q q => chn_imp σ H _ q⟩
    · cases h
  | .chn3 o p q a b d e, x, X, W, c, h, g => by
    simp only [mt] at h
    split at h
    · simp only [Bool.and_eq_true, decide_eq_true_eq] at h
      obtain ⟨⟨⟨⟨⟨⟨⟨⟨⟨rfl, rfl⟩, rfl⟩, hp⟩, hp2⟩, hp3⟩, h1⟩, h2⟩, h3⟩, h4⟩ := h
      have ha := (sE a _ X W c h1 g).1
      have hb := (sE b _ X W c h2 g).1
      have hd := (sE d _ X W c h3 g).1
      have he := (sE e _ X W c h4 g).1
      have hm : ∀ (r s u : Expr), pl u = true → lastMarks [copX o, copX p, copX q] [r, s, u] = false := fun r s u hs => marks_pl hs
      exact ⟨peI (pe_chain3 (pr_cmp g o) (pr_cmp g p) (pr_cmp g q) ha hb hd he (hm _ _ _ hp3)) chn3_imp, fun _ => ptI (pt_chain3 (pr_cmp g o) (pr_cmp g p) (pr_cmp g q) ha hb hd he (hm _ _ _ hp3)) fun σ H Q qq => chn3_imp σ H _ qq⟩
    · cases h
  | .and es, x, X, W, c, h, g => by
    simp only [mt] at h
    split at h
    · simp only [Bool.and_eq_true, decide_eq_true_eq] at h
      obtain ⟨h1, h2⟩ := sAnd es _ X W c h.1 (by omega) g
      exact ⟨h1 _, fun ok => (h2 (by simpa [okT] using ok) _).pt⟩
    · cases h
  | .or es, x, X, W, c, h, g => by
    simp only [mt] at h
    split at h
    · simp only [Bool.and_eq_true, decide_eq_true_eq] at h
      obtain ⟨h1, h2⟩ := sOr es _ X W c h.1 (by omega) g
      exact ⟨h1 _, fun ok => (h2 (by simpa [okT] using ok) _).pt⟩
    · cases h
  | .not a, x, X, W, c, h, g => by
    simp only [mt] at h
    split at h
    · have ha := sE a _ X W c h g
      exact ⟨peI (pe_not ha.1) not_imp, fun ok => ptI (pt_not (ha.2 (by simpa [okT] using ok))) notT_imp⟩
    · cases h
  | .ite t a b, x, X, W, c, h, g => by
    simp only [mt] at h
    split at h
    · simp only [Bool.and_eq_true] at h
      obtain ⟨⟨⟨ok, h1⟩, h2⟩, h3⟩ := h
      exact ⟨peI (pe_ifExp ((sE t _ X W c h1 g).2 ok) (sE a _ X W c h2 g).1 (sE b _ X W c h3 g).1) ite_imp, fun ok => by simp [okT] at ok⟩
    · cases h
  | .cal f es, x, X, W, c, h, g => by
    simp only [mt] at h
    split at h
    · simp only [Bool.and_eq_true, decide_eq_true_eq] at h
      obtain ⟨⟨⟨⟨h1, h2⟩, h3⟩, h4⟩, h5⟩ := h
      exact both_val (e_cal g (by simp [h1, h2, h3]) (mts_pl h4) h5 (sA es _ X W c h4 g))
    · cases h
  | .cax fe es, x, X, W, c, h, g => by
    simp only [mt] at h
    split at h
    · simp only [Bool.and_eq_true, decide_eq_true_eq] at h
      obtain ⟨⟨h1, h4⟩, h5⟩ := h
      exact both_val (e_cax g (sE fe _ X W c h1 g).1 (mts_pl h4) h5 (sA es _ X W c h4 g))
    · cases h
  | .blt b es, x, X, W, c, h, g => by
    simp only [mt] at h
    split at h
    · simp only [Bool.and_eq_true, decide_eq_true_eq] at h
      obtain ⟨⟨⟨h1, h2⟩, h4⟩, h5⟩ := h
      split at h1
      · rename_i z hz
        have e := of_decide_eq_true h1
        subst e
        exact both_val (e_blt g hz h2 (mts_pl h4) h5 (sA es _ X W c h4 g))
      · cases h1
    · cases h
  | .isi t a, x, X, W, c, h, g => by
    simp only [mt] at h
    split at h
    · simp only [Bool.and_eq_true, decide_eq_true_eq] at h
      obtain ⟨⟨⟨⟨⟨⟨rfl, h1⟩, h2⟩, rfl⟩, h3⟩, h4⟩, h5⟩ := h
      exact both_val (e_isi g h1 h2 h3 h4 (sE a _ X W c h5 g).1)
    · cases h
  | .mth m a es, x, X, W, c, h, g => by
    simp only [mt] at h
    split at h
    · rename_i o nm ap as cp
      simp only [Bool.and_eq_true, decide_eq_true_eq] at h
      obtain ⟨⟨⟨⟨⟨h1, h2⟩, h3⟩, h4⟩, h5⟩, h6⟩ := h
      split at h1
      · rename_i z hz
        have e := of_decide_eq_true h1
        subst e
        match as, h5, h6 with
        | [y], h5, _ =>
          have hp := mts_pl h5
          simp only [List.all_cons, List.all_nil, Bool.and_true] at hp
          exact both_val (e_mth g hz h2 h3 hp (sE a _ X W c h4 g).1 (sA es _ X W c h5 g))
      · cases h1
    · cases h
  | .tup es, x, X, W, c, h, g => by
    cases x <;> simp only [mt, Bool.false_eq_true] at h
    simp only [Bool.and_eq_true, decide_eq_true_eq] at h
    exact both_val (peI (pe_tup (sA es _ X W c h.1 g)) (tup_imp fun r hh ds h' e => by rw [evs_len es _ c r hh ds h' h.1 e]; exact h.2))
  | .lst es, x, X, W, c, h, g => by
    cases x <;> simp only [mt, Bool.false_eq_true] at h
    simp only [Bool.and_eq_true, decide_eq_true_eq] at h
    exact both_val (peI (pe_lst (sA es _ X W c h.1 g)) (lst_imp fun r hh ds h' e => by rw [evs_len es _ c r hh ds h' h.1 e]; exact h.2))
  | .dct, x, X, W, c, h, g => by simp [mt] at h
  | .sub a i, x, X, W, c, h, g => by
    cases x <;> simp only [mt, Bool.false_eq_true] at h
    simp only [Bool.and_eq_true] at h
    exact both_val (peI (pe_ix (pr_ix g.hK) (sE a _ X W c h.1.2 g).1 (sE i _ X W c h.2 g).1 (plainIx_pl h.1.1)) sub_imp)
  | .dget .., x, X, W, c, h, g => by simp [mt] at h
  | .slc a lo hi, x, X, W, c, h, g => by
    simp only [mt] at h
    split at h
    · simp only [Bool.and_eq_true] at h
      exact both_val (peI (pe_slice (pr_slice g.hK) (sE a _ X W c h.1.1 g).1 (sO lo _ X W c h.1.2 g) (sO hi _ X W c h.2 g)) slc_imp)
    · cases h
  | .rev a, x, X, W, c, h, g => by simp [mt] at h
  | .lc own t k es cd e, x, X, W, c, h, g => by
    rw [mt_lc] at h
    split at h
    · rename_i elt tg iter ifs scope pos
      simp only [Bool.and_eq_true, decide_eq_true_eq] at h
      obtain ⟨⟨⟨⟨⟨⟨h1, h2⟩, h3⟩, h4⟩, h5⟩, h6⟩, h7⟩ := h
      obtain ⟨hi, hf⟩ := i_any g h3 (fun as hm => sA es as X W c hm g) (fun e1 y he hm => by
        subst he
        exact (sE e1 y X W c hm g).1)
      have hown : ∀ i ∈ t.ix, i ∈ own := fun i hi => by
        have := List.all_eq_true.mp h5 i hi
        simpa using this
      have pe := pe_lc (own := ownOf c.N own) (g := gT X.K t) (tt := RC G cl cd) (te := RE G W0 cl e) (pos := pos) g.calm (by rw [g.hN]; exact g.nd) hi (by rw [g.hN, g.hsc]; exact blkOk_by h1)
        (fun s H C cs fp => g_tg (g.blk s H C cs fp) h4) (fun s H C cs fp => sC cd ifs _ _ h6 (g.blk s H C cs fp)) (fun s H C cs fp => (sE e elt _ _ _ h7 (g.blk s H C cs fp)).1) hf
      rw [h2] at pe
      exact both_val (peI pe (lc_imp g.hK hown))
    · cases h
  | .fld .., x, X, W, c, h, g => by simp [mt] at h
  | .mcl .., x, X, W, c, h, g => by simp [mt] at h
  | .mk .., x, X, W, c, h, g => by simp [mt] at h
  | .oeq .., x, X, W, c, h, g => by simp [mt] at h
  | .olen .., x, X, W, c, h, g => by simp [mt] at h
  | .ostr .., x, X, W, c, h, g => by simp [mt] at h
theorem sA : ∀ (es : Es) (xs : List Expr) (X : Cx) (W : WX) (c : Sc), mts M c es xs = true → Good G M cl n X W c → PA X xs (RA G W cl es)
  | .nil, [], X, W, c, _, _ => paI pa_nil args_nil
  | .nil, _ :: _, X, W, c, h, _ => by simp [mts] at h
  | .cons e es, [], X, W, c, h, _ => by simp [mts] at h
  | .cons e es, x :: r, X, W, c, h, g => by
    simp only [mts, Bool.and_eq_true] at h
    exact paI (pa_cons (sE e x X W c h.1.2 g).1 (sA es r X W c h.2 g) (star_pl h.1.1)) args_cons
theorem sAnd : ∀ (es : Es) (xs : List Expr) (X : Cx) (W : WX) (c : Sc), mts M c es xs = true → 1 ≤ xs.length → Good G M cl n X W c → (∀ pos, PE X (.BoolOp .And xs pos) (RAnd G W cl es)) ∧ (okTs es = true → ∀ pos, PW X (.BoolOp .And xs pos) (tTest (RAnd G W cl es)))
  | .nil, [], X, W, c, _, hl, _ => by simp at hl
  | .nil, _ :: _, X, W, c, h, _, _ => by simp [mts] at h
  | .cons e es, [], X, W, c, h, _, _ => by simp [mts] at h
  | .cons e es, [x], X, W, c, h, _, g => by
    simp only [mts, Bool.and_eq_true] at h
    have he := sE e x X W c h.1.2 g
    cases es with
    | nil => exact ⟨fun pos => peI (pe_one he.1) and_last, fun ok pos => pwI (pw_and1 (he.2 (by simpa [okTs] using ok))) fun σ H Q q => and_last σ H _ q⟩
    | cons _ _ => simp [mts] at h
  | .cons e es, x :: y :: r, X, W, c, h, _, g => by
    simp only [mts, Bool.and_eq_true] at h
    have he := sE e x X W c h.1.2 g
    have hr := sAnd es (y :: r) X W c h.2 (by simp) g
    refine ⟨fun pos => peI (pe_and he.1 (hr.1 pos)) and_step, fun ok pos => ?_⟩
    simp only [okTs, Bool.and_eq_true] at ok
    exact pwI (pw_and (he.2 ok.1) (hr.2 ok.2 pos)) andT_step
theorem sOr : ∀ (es : Es) (xs : List Expr) (X : Cx) (W : WX) (c : Sc), mts M c es xs = true → 1 ≤ xs.length → Good G M cl n X W c → (∀ pos, PE X (.BoolOp .Or xs pos) (ROr G W cl es)) ∧ (okTs es = true → ∀ pos, PW X (.BoolOp .Or xs pos) (tTest (ROr G W cl es)))
  | .nil, [], X, W, c, _, hl, _ => by simp at hl
  | .nil, _ :: _, X, W, c, h, _, _ => by simp [mts] at h
  | .cons e es, [], X, W, c, h, _, _ => by simp [mts] at h
  | .cons e es, [x], X, W, c, h, _, g => by
    simp only [mts, Bool.and_eq_true] at h
    have he := sE e x X W c h.1.2 g
    cases es with
    | nil => exact ⟨fun pos => peI (pe_one he.1) or_last, fun ok pos => pwI (pw_or1 (he.2 (by simpa [okTs] using ok))) fun σ H Q q => or_last σ H _ q⟩
    | cons _ _ => simp [mts] at h
  | .cons e es, x :: y :: r, X, W, c, h, _, g => by
    simp only [mts, Bool.and_eq_true] at h
    have he := sE e x X W c h.1.2 g
    have hr := sOr es (y :: r) X W c h.2 (by simp) g
    refine ⟨fun pos => peI (pe_or he.1 (hr.1 pos)) or_step, fun ok pos => ?_⟩
    simp only [okTs, Bool.and_eq_true] at ok
    exact pwI (pw_or (he.2 ok.1) (hr.2 ok.2 pos)) orT_step
theorem sO : ∀ (e : Oe) (x : Option Expr) (X : Cx) (W : WX) (c : Sc), mto M c e x = true → Good G M cl n X W c → PO X x (RO G W cl e)
  | .none, none, X, W, c, _, _ => ⟨fun pins s σ H Q I q => po_none.run pins s σ H Q I (ro_none σ H Q q)⟩
  | .none, some _, X, W, c, h, _ => by simp [mto] at h
  | .some e, none, X, W, c, h, _ => by simp [mto] at h
  | .some e, some x, X, W, c, h, g => by
    simp only [mto] at h
    exact ⟨fun pins s σ H Q I q => (po_some (sE e x X W c h g).1).run pins s σ H Q I (ro_some σ H Q q)⟩
theorem sC : ∀ (e : Oe) (xs : List Expr) (X : Cx) (c : Sc), mtc M c e xs = true → Good G M cl n X W0 c → PTs X xs (RC G cl e)
  | .none, [], X, c, _, _ => ⟨fun pins s σ H Q I q => pts_nil.run pins s σ H Q I (rc_none σ H Q q)⟩
  | .none, _ :: _, X, c, h, _ => by simp [mtc] at h
  | .some e, [], X, c, h, _ => by simp [mtc] at h
  | .some e, [x], X, c, h, g => by
    simp only [mtc, Bool.and_eq_true] at h
    exact ⟨fun pins s σ H Q I q => (pts_one ((sE e x X W0 c h.2 g).2 h.1)).run pins s σ H Q I (rc_some σ H Q q)⟩
  | .some e, _ :: _ :: _, X, c, h, _ => by simp [mtc] at h
end
end
end Alb
set_option Elab.async false
set_option linter.all false
set_option maxRecDepth 100000
set_option maxHeartbeats 4000000
/-! Statements. -/
namespace Alb
open PySem PySem.Spec PyProof.Rows L2

def SOut (G : Sg) (Hid : Hd) (φ : List Addr) (H : Hp) (W : WX) (σ : L2.St) (res : SR) (Dn : Ends) : Prop := match res with
  | .nx r' h' => ∀ φ' H' σ', φ <+: φ' → ST G φ' Hid h' H' → EnvR G φ' H' r' σ' → Ext H H' → Dn.nx σ' H'
  | .rt d h' => ∀ φ' H' v, φ <+: φ' → ST G φ' Hid h' H' → Rep G φ' H' d v → Ext H H' → Dn.rt v H'
  | .ex c h' => ∃ C, G.ca c = some C ∧ ∀ φ' H' σ', σ'.length = σ.length → φ <+: φ' → ST G φ' Hid h' H' → Ext H H' → W (.ref C) none σ' H'
  | .bad => False
def RS (G : Sg) (W : WX) (cl : Cl) (s : S) : TS := fun Dn σ H => ∃ Hid φ h r, ST G φ Hid h H ∧ EnvR G φ H r σ ∧ SOut G Hid φ H W σ (ex cl s r h) Dn
def RSs (G : Sg) (W : WX) (cl : Cl) (s : Ss) : TS := fun Dn σ H => ∃ Hid φ h r, ST G φ Hid h H ∧ EnvR G φ H r σ ∧ SOut G Hid φ H W σ (exs cl s r h) Dn
theorem psI {X : Cx} {x : Stmt} {t t' : TS} (h : PS X x t) (k : ∀ D σ H, t' D σ H → t D σ H) : PS X x t' := ⟨fun pins s σ H D I q => h.run pins s σ H D I (k _ _ _ q)⟩
theorem pssI {X : Cx} {x : List Stmt} {t t' : TS} (h : PSs X x t) (k : ∀ D σ H, t' D σ H → t D σ H) : PSs X x t' := ⟨fun pins s σ H D I q => h.run pins s σ H D I (k _ _ _ q)⟩
section
variable {G : Sg} {M : Nm} {cl : Cl} {n : Nat} {X : Cx} {W : WX} {c : Sc} {Hid : Hd} {φ φ1 : List Addr} {H H1 : Hp} {σ : L2.St} {Dn Dn' : Ends}
theorem SOut.mono {res : SR} {σ1 : L2.St} (o : SOut G Hid φ H W σ res Dn) (p : φ <+: φ1) (e : Ext H H1) (hl : σ1.length = σ.length) : SOut G Hid φ1 H1 W σ1 res Dn := by
  cases res with
  | nx r' h' => exact fun φ' H' σ' p' s r e' => o φ' H' σ' (p.trans p') s r (e.trans e')
  | rt d h' => exact fun φ' H' v p' s r e' => o φ' H' v (p.trans p') s r (e.trans e')
  | ex k h' =>
    obtain ⟨C, hC, z⟩ := o
    exact ⟨C, hC, fun φ' H' σ' l p' s e' => z φ' H' σ' (l.trans hl) (p.trans p') s (e.trans e')⟩
  | bad => exact o
/-- what is known behind an expression ahead of the rest -/
def MidS {α β : Type} (Rp : List Addr → Hp → α → β → Prop) (G : Sg) (Hid : Hd) (φ : List Addr) (H : Hp) (W : WX) (σ : L2.St) (f : α → Hh → SR) (Dn : Ends) (b : β) (H1 : Hp) : Prop :=
  ∃ (a : α) (φ1 : List Addr) (h1 : Hh), φ <+: φ1 ∧ ST G φ1 Hid h1 H1 ∧ Rp φ1 H1 a b ∧ Ext H H1 ∧ SOut G Hid φ1 H1 W σ (f a h1) Dn
theorem SOut.bind {α β : Type} {Rp : List Addr → Hp → α → β → Prop} {res : R α} {f : α → Hh → SR} (o : SOut G Hid φ H W σ (res.thn f) Dn) : OutG Rp G Hid φ H W σ res (MidS Rp G Hid φ H W σ f Dn) := by
  cases res with
  | ok a h' => exact fun φ' H' b p' s r e' => ⟨a, φ', h', p', s, r, e', o.mono p' e' rfl⟩
  | ex k h' =>
    obtain ⟨C, hC, z⟩ := o
    exact ⟨C, hC, fun φ' H' p' s e' => z φ' H' σ rfl p' s e'⟩
  | bad => exact o
theorem SOut.seq {res : SR} {f : Env → Hh → SR} {t : TS} (o : SOut G Hid φ H W σ (res.thn f) Dn)
    (k : ∀ r' h' φ' H' σ', φ <+: φ' → ST G φ' Hid h' H' → EnvR G φ' H' r' σ' → Ext H H' → σ'.length = σ'.length → SOut G Hid φ' H' W σ' (f r' h') Dn → t Dn σ' H') (hlen : ∀ r' h', res = .nx r' h' → r'.length = σ.length) : SOut G Hid φ H W σ res { Dn with nx := t Dn } := by
  cases res with
  | nx r' h' => exact fun φ' H' σ' p' s r e' => k r' h' φ' H' σ' p' s r e' rfl (o.mono p' e' (by rw [← r.len]; exact hlen r' h' rfl))
  | rt d h' => exact o
  | ex k h' => exact o
  | bad => exact o
/-! ### lengths of the slots -/
theorem asgL_len : ∀ {is : List Nat} {ds : List D} {r r1 : Env}, asgL is ds r = some r1 → r1.length = r.length
  | [], [], r, r1, h => by
    cases h
    rfl
  | i :: is, d :: ds, r, r1, h => by
    simp only [asgL] at h
    split at h
    · rw [asgL_len h, List.length_set]
    · cases h
  | [], _ :: _, _, _, h => by simp [asgL] at h
  | _ :: _, [], _, _, h => by simp [asgL] at h
theorem asgT_len {t : Tg} {d : D} {r r1 : Env} (h : asgT t d r = some r1) : r1.length = r.length := by
  cases t with
  | nm i =>
    simp only [asgT] at h
    split at h
    · cases h
      rw [List.length_set]
    · cases h
  | tp is =>
    cases d with
    | tup ds => exact asgL_len h
    | _ => simp [asgT] at h
theorem thn_nx {α : Type} {res : R α} {f : α → Hh → SR} {r' : Env} {h' : Hh} (h : res.thn f = .nx r' h') : ∃ a h1, res = .ok a h1 ∧ f a h1 = .nx r' h' := by
  cases res with
  | ok a h1 => exact ⟨a, h1, rfl, h⟩
  | ex _ _ => cases h
  | bad => cases h
theorem forGo_len {f : D → Env → Hh → SR} (hf : ∀ x r h r' h', f x r h = .nx r' h' → r'.length = r.length) : ∀ (l : List D) (r : Env) (h : Hh) (r' : Env) (h' : Hh), forGo f l r h = .nx r' h' → r'.length = r.length
  | [], r, h, r', h', e => by
    simp only [forGo, SR.nx.injEq] at e
    rw [e.1]
  | x :: xs, r, h, r', h', e => by
    simp only [forGo] at e
    split at e
    · rename_i r1 h1 e1
      rw [forGo_len hf xs _ _ _ _ e, hf _ _ _ _ _ e1]
    · cases e
    · cases e
    · cases e
theorem whileGo_len {cc : Env → Hh → R D} {b : Env → Hh → SR} (hb : ∀ r h r' h', b r h = .nx r' h' → r'.length = r.length) : ∀ (m : Nat) (r : Env) (h : Hh) (r' : Env) (h' : Hh), whileGo cc b m r h = .nx r' h' → r'.length = r.length
  | 0, _, _, _, _, e => by cases e
  | m + 1, r, h, r', h', e => by
    simp only [whileGo] at e
    split at e
    · split at e
      · rename_i r1 h2 e1
        rw [whileGo_len hb m _ _ _ _ e, hb _ _ _ _ e1]
      · cases e
      · cases e
      · cases e
    · cases e
      rfl
    · cases e
    · cases e
mutual
theorem ex_len : ∀ (s : S) (r : Env) (h : Hh) (r' : Env) (h' : Hh), ex cl s r h = .nx r' h' → r'.length = r.length
  | .asg i e, r, h, r', h', q => by
    simp only [ex] at q
    obtain ⟨a, h1, _, q⟩ := thn_nx q
    split at q
    · cases q
      rw [List.length_set]
    · cases q
  | .unp is e, r, h, r', h', q => by
    simp only [ex] at q
    obtain ⟨a, h1, _, q⟩ := thn_nx q
    split at q
    · rename_i r1 e1
      cases q
      exact asgT_len e1
    · cases q
  | .par is es, r, h, r', h', q => by
    simp only [ex] at q
    obtain ⟨a, h1, _, q⟩ := thn_nx q
    split at q
    · rename_i r1 e1
      cases q
      exact asgL_len e1
    · cases q
  | .sto o i e, r, h, r', h', q => by
    simp only [ex] at q
    obtain ⟨a, h1, _, q⟩ := thn_nx q
    obtain ⟨a, h1, _, q⟩ := thn_nx q
    obtain ⟨a, h1, _, q⟩ := thn_nx q
    split at q
    · cases q
      rfl
    · cases q
  | .sto2 a i b j e f, r, h, r', h', q => by
    simp only [ex] at q
    obtain ⟨a, h1, _, q⟩ := thn_nx q
    obtain ⟨a, h1, _, q⟩ := thn_nx q
    obtain ⟨a, h1, _, q⟩ := thn_nx q
    obtain ⟨a, h1, _, q⟩ := thn_nx q
    split at q
    · obtain ⟨a, h1, _, q⟩ := thn_nx q
      obtain ⟨a, h1, _, q⟩ := thn_nx q
      split at q
      · cases q
        rfl
      · cases q
    · cases q
  | .dput o i e, r, h, r', h', q => by
    simp only [ex] at q
    obtain ⟨a, h1, _, q⟩ := thn_nx q
    obtain ⟨a, h1, _, q⟩ := thn_nx q
    obtain ⟨a, h1, _, q⟩ := thn_nx q
    split at q
    · cases q
      rfl
    · cases q
  | .aug i o e, r, h, r', h', q => by
    simp only [ex] at q
    split at q
    · obtain ⟨a, h1, _, q⟩ := thn_nx q
      split at q
      · cases q
        rw [List.length_set]
      · cases q
    · cases q
  | .aus a i o e, r, h, r', h', q => by
    simp only [ex] at q
    obtain ⟨a, h1, _, q⟩ := thn_nx q
    obtain ⟨a, h1, _, q⟩ := thn_nx q
    split at q
    · obtain ⟨a, h1, _, q⟩ := thn_nx q
      split at q
      · split at q
        · cases q
          rfl
        · cases q
      · cases q
    · cases q
  | .exp e, r, h, r', h', q => by
    simp only [ex] at q
    obtain ⟨a, h1, _, q⟩ := thn_nx q
    cases q
    rfl
  | .ret e, r, h, r', h', q => by
    simp only [ex] at q
    obtain ⟨a, h1, _, q⟩ := thn_nx q
    cases q
  | .ife cc a b, r, h, r', h', q => by
    simp only [ex] at q
    obtain ⟨x, h1, _, q⟩ := thn_nx q
    split at q
    · exact exs_len a _ _ _ _ q
    · exact exs_len b _ _ _ _ q
    · cases q
  | .for t k es b, r, h, r', h', q => by
    simp only [ex] at q
    obtain ⟨x, h1, _, q⟩ := thn_nx q
    split at q
    · split at q
      · rename_i e1
        cases q
        refine forGo_len (fun x r h r' h' e => ?_) _ _ _ _ _ e1
        split at e
        · rename_i r2 e2
          rw [exs_len b _ _ _ _ e, asgT_len e2]
        · cases e
      · cases q
      · cases q
      · cases q
    · cases q
  | .whi cc b, r, h, r', h', q => by
    simp only [ex] at q
    exact whileGo_len (fun r h r' h' e => exs_len b _ _ _ _ e) _ _ _ _ _ q
  | .rai k, r, h, r', h', q => by
    simp only [ex] at q
    cases q
  | .tryw i b, r, h, r', h', q => by
    simp only [ex] at q
    split at q
    · split at q
      · cases q
      · cases q
    · exact exs_len b _ _ _ _ q
  | .fst o f e, r, h, r', h', q => by
    simp only [ex] at q
    obtain ⟨a, h1, _, q⟩ := thn_nx q
    obtain ⟨a, h1, _, q⟩ := thn_nx q
    split at q
    · cases q
      rfl
    · cases q
theorem exs_len : ∀ (s : Ss) (r : Env) (h : Hh) (r' : Env) (h' : Hh), exs cl s r h = .nx r' h' → r'.length = r.length
  | .nil, r, h, r', h', q => by
    simp only [exs, SR.nx.injEq] at q
    rw [q.1]
  | .cons s ss, r, h, r', h', q => by
    simp only [exs, SR.thn] at q
    split at q
    · rename_i r1 h1 e1
      rw [exs_len ss _ _ _ _ q, ex_len s _ _ _ _ e1]
    · cases q
    · cases q
    · cases q
end
end
end Alb
set_option Elab.async false
set_option linter.all false
set_option maxRecDepth 100000
set_option maxHeartbeats 4000000
/-! The laws' def that tells which error was caught: it is called with the error while that is handled. -/
namespace Alb
open PySem PySem.Spec PyProof.Rows L2

/-- as HotCalls' FnH, but the promise knows the handled error -/
structure FnW (P : Program) (w : World) (K : PySem.W.Frag) (mg : Str → Option Value) (base : Heap) (k : Nat) (f : Addr) (fd : FuncData) (ps : List Str) (sp : Addr × Obj → Sp) : Prop where
  len : ∀ p vs H Q E, sp p vs H Q E → vs.length = ps.length
  run : ∀ (A : Around) (outer : List PySem.Env) (s : Shared) (H : Hp) (args : Args) (us : List Value) (vs : List V) (Q : VK) (E : XK) (p : Addr × Obj), L2H.RoomH k A → L2H.PinOk outer H s p → Env0 P w K mg base A outer s H → BindsTo s fd args (ps.zip us) → Vals vs us → sp p vs H Q E →
    codeAny (model P w) A (.call (.ref f) args) (CR (L2N.CX P w) outer P w H s Q E) s
theorem FnW.of {P : Program} {w : World} {K : PySem.W.Frag} {mg : Str → Option Value} {base : Heap} {k : Nat} {f : Addr} {name qual : Str} {params : Arguments} {body : List Stmt} {scope : Scope} {dV kV doc pm cdv ct oc : Value} {an od : Option Addr}
    {osl : Array (Option Value)} {N ps : List Str} {sp : Addr × Obj → Sp} (lk : K.lookup f = some ⟨oc, od, .func (PySem.W.fnOf name qual params body scope dV kV doc pm an cdv ct), osl⟩) (hcd : PySem.W.codeIn K cdv qual = true) (S : FnScope N ps scope)
    (len : ∀ p vs H Q E, sp p vs H Q E → vs.length = ps.length)
    (hbody : ∀ (A : Around) (outer : List PySem.Env) (s : Shared) (H : Hp) (vs : List V) (Q : VK) (E : XK) (p : Addr × Obj), L2H.RoomH k (A.deeper (envOfC qual scope s.heap.objs.size f cdv)) → sp p vs H Q E →
      ∃ t, PSs (L2H.cxH (L2N.CX P w) P w K mg base N qual scope f cdv A outer s H E p) body t ∧ t { nx := fun _ H' => Q .non H', rt := Q } (L2.start N vs) H) :
    FnW P w K mg base (k + 1) f (PySem.W.fnOf name qual params body scope dV kV doc pm an cdv ct) ps sp := by
  refine ⟨len, fun A outer s H args us vs Q E p hr hpin e0 hb r hsp => ?_⟩
  have KX : K.In s.heap := e0.mod.kin.keeps fun b o e => (e0.bs b o e).1
  have nolim : s.heap.NoLimit := e0.mod.nolimit.keeps fun b o e => (e0.bs b o e).1
  refine codeAny_call_function hr.depth (KX _ _ lk) rfl S.co S.gen rfl (PySem.W.codeRec_of KX hcd) (hb _ _ _ _ ?_)
  refine wpAny_newFunctionEnv_cells S.kind (fun ⟨m, v⟩ hy => ?_) fun env he s1 x => ?_
  · rcases S.par m (List.of_mem_zip hy).1 with q | q
    · exact .inl q
    · exact .inr ⟨q, PySem.W.cellsFrom_some _ _ _ (.inl q)⟩
  · subst he
    refine ⟨nolim.keeps x.toInCall.keep, codeAny_func ?_⟩
    obtain ⟨t, ht, hq⟩ := hbody A outer s H vs Q E p (hr.deeper _) hsp
    have I := L2H.inv_startH (CX := L2N.CX P w) (E := E) (cd := cdv) (f := f) (qual := qual) S hpin e0 (len _ _ _ _ _ hsp) r x
    refine wpAny_mono (ht.run [] s1 (L2.start N vs) H _ I hq) (fun fl s' hs => ?_) fun e s' hs => hs
    cases fl with
    | ret u =>
      obtain ⟨v, σ', H', J, rv, q⟩ := hs
      exact ⟨v, H', J.os, J.bare, J.base, J.hok, rv, q⟩
    | next =>
      obtain ⟨σ', H', J, q⟩ := hs
      exact ⟨V.non, H', J.os, J.bare, J.base, J.hok, rfl, q⟩
    | brk => exact hs.elim fun _ z => z.elim fun _ z => z.2.elim
    | cont => exact hs.elim fun _ z => z.elim fun _ z => z.2.elim
section
variable {X : Cx} {k : Nat} {f : Addr} {fd : FuncData} {ps : List Str} {sp : Addr × Obj → Sp}
/-- f(e): the handled error e is pinned -/
theorem pe_callW {p : Addr × Obj} {x : Str} {q pos : Pos} {e : Expr} {i : Nat} (F : FnW X.prog X.w X.K X.mg X.base k f fd ps sp) (hp : p ∈ X.pn) (hr : L2H.RoomH k X.A) (hg : Gl X x) (hm : X.mg x = some (.ref f)) (hk : PySem.W.keepIn X.K (.ref f) = true) (hb : Binds X.K fd ps [])
    (ha : PE X e (tVar i)) (hdb : (x == ("__debug__" : Str)) = false) (he : pl e = true) :
    PE X (.Call (.Name x q) [e] [] pos) (fun σ H Q => ∃ v, σ[i]? = some (some v) ∧ sp p [v] H Q fun _ _ _ => False) := by
  refine ⟨fun pins s σ H Q I h => ?_⟩
  refine wpAny_Call_Name_kw (ld_glob I hg hm ?_ hdb)
  have ha' : PA X [e] (tCons (tVar i) tNil) := pa_cons ha pa_nil (star_pl he)
  refine PySem.W.callWith_K (h₀ := X.base) I.ok.mod.kin hk (thn (ha'.run pos pins s σ H (fun vs H1 => ∃ v, vs = [v] ∧ sp p [v] H1 Q fun _ _ _ => False) I ?_) fun us s1 ⟨vs, H1, I1, r, v, ev, q⟩ => ⟨I1.kIn, ?_⟩) (star_pl he) rfl
  · obtain ⟨v, e1, q1⟩ := h
    exact ⟨v, e1, v, rfl, q1⟩
  · subst ev
    have hl : us.length = ps.length := by rw [← r.length]; exact F.len _ _ _ _ _ q
    have b := hb s1 us I1.kIn (by rw [List.append_nil]; exact hl)
    rw [List.append_nil] at b
    have P1 := I1.pin p (List.mem_append_left _ hp)
    have hpin : L2H.PinOk X.stack H1 s1 p := ⟨P1.1, P1.2.1, fun hm => (List.mem_cons.mp (I1.stkSub p.1 hm)).elim P1.2.2.1 P1.2.2.2.1, P1.2.2.2.2⟩
    refine wpAny_call (codeAny_mono (F.run X.A X.stack s1 H1 ⟨us, []⟩ us [v] Q _ p hr hpin I1.env0 b r q) fun r s' hq => ?_)
    cases r with
    | error e =>
      obtain ⟨_, _, _, _, _, _, _, _, _, _, _, _, z⟩ := hq
      exact z.elim
    | ok fl =>
      cases fl with
      | ret u => exact I1.after hq
      | next => exact False.elim hq
      | brk => exact False.elim hq
      | cont => exact False.elim hq
end

/-! ### the def's body -/
section
variable {X : Cx}
theorem call_isP {p : Addr × Obj} {D : Addr} (hp : p ∈ X.pn) (C : ExcC X.K D) (hz : Zc (.ref D) none p.2) (hf : ∃ vs, p.2.data = .fields vs) : CallR X (.builtin "isinstance") (rIsE X.K D p.1) := by
  intro pins s σ H xs us Q I r h
  obtain ⟨c, cv, b, rfl, hcv, e, q⟩ := h
  obtain ⟨u1, u2, rfl, r1, r2⟩ := vals2 r
  cases r1
  have ec := hcv _ r2
  subst ec
  obtain ⟨hget, _⟩ := I.pin p (List.mem_append_left _ hp)
  obtain ⟨vs, hv⟩ := hf
  have J : PySem.W.InstAt s.heap p.1 p.2 D none := by
    obtain ⟨a, oc, od, oda, osl⟩ := p
    obtain ⟨h1, h2⟩ := hz
    dsimp only at h1 h2 hv
    subst h1 h2 hv
    exact ⟨hget, rfl, rfl, trivial⟩
  exact PySem.W.kia_one (PySem.W.handS_kitx_exc C.hg C.hk C.hs C.hd C.ha C.hn C.ht C.hm) I.kIn J e (fun z => nomatch z) fun tk => ⟨.bl b, H, I.kept (t' := tk) fun _ _ z => z, rfl, q⟩
def isT : Value → Bool
  | .bool b => b
  | _ => false
/-- xs.count(True), of truth values -/
theorem mt_bcount : MtR X "list.count" (fun x xs H Q => ∃ (p : Addr) (bs : List Bool), x = .ref p ∧ xs = [.bl true] ∧ SqL X.K H p (bs.map V.bl) ∧ Q (.int (bs.count true : Nat)) H) := by
  intro pins s σ H x xs v us Q I rx rxs h
  obtain ⟨p, bs, rfl, rfl, hs, q⟩ := h
  cases rx
  obtain ⟨u, rfl, ru⟩ := rxs.one
  cases ru
  obtain ⟨its, rv, ⟨⟨cls, dd, data, sl⟩, n, ho, hc, hdn, hd⟩, hlen⟩ := I.list hs
  simp only at hc hd
  subst hc hd
  have hi := rv.bls
  refine call_meets PySem.F.slot_list_count ⟨_, ho, rfl⟩ PySem.F.entry_list_count (PySem.F.args_list_count_2 _ _)
    (SeqAt.list_countAt p its.toArray n dd sl (.bool true) isT) ⟨ho, fun y hy => ?_, ?_⟩
  · have hy : y ∈ its := by simpa using hy
    rw [hi] at hy
    obtain ⟨b, _, rfl⟩ := List.mem_map.mp hy
    have := eqAt_V (A := X.A.in1) (s := s) (y := .bl b) (x := .bl true) (u := .bool b) (v := .bool true) rfl rfl rfl rfl
    have e : eqV (.bl b) (.bl true) = isT (.bool b) := by cases b <;> rfl
    rw [e] at this
    exact this
  · have ec : its.toArray.toList.countP isT = bs.count true := by
      rw [hi]
      simp only [List.countP_map, List.count]
      congr 1
      funext b
      cases b <;> rfl
    refine ⟨.int (bs.count true : Nat), H, I.tok _, ⟨s.toks, ?_⟩, q⟩
    show Value.int ((its.toArray.toList.countP isT : Nat) : Int) s.toks = Value.int ((bs.count true : Nat) : Int) s.toks
    rw [ec]
end

/-! ### its text -/
def clsNames : List String := ["InvalidAlbum", "InvalidSize", "InvalidNumber", "InvalidChance", "InvalidFrequencies", "InvalidCollection", "InvalidSticker", "NeverReached", "NothingToUndo", "ParseError"]
def cnm (j : Nat) : Str := Str.ofString (clsNames.getD j "")
def isxB (cn : Str) : Expr → Bool
  | .Call (.Name i _) [.Name e _, .Name c _] [] _ => decide (i = ("isinstance" : Str)) && decide (e = ("e" : Str)) && decide (c = cn)
  | _ => false
def l3B (a b c : Nat) : Expr → Bool
  | .List [x, y, z] _ => isxB (cnm a) x && isxB (cnm b) y && isxB (cnm c) z
  | _ => false
def w1B : Stmt → Bool
  | .Assign [.Name o _] l _ => decide (o = ("own" : Str)) && l3B 0 1 2 l
  | _ => false
def w2B (a b c : Nat) : Stmt → Bool
  | .Expr (.Call (.Attribute (.Name o _) m ap) [l] [] cp) _ => decide (o = ("own" : Str)) && decide (m = ("extend" : Str)) && (ap.endLine == cp.line) && l3B a b c l
  | _ => false
def w4B : Stmt → Bool
  | .Expr (.Call (.Attribute (.Name o _) m ap) [x] [] cp) _ => decide (o = ("own" : Str)) && decide (m = ("append" : Str)) && (ap.endLine == cp.line) && isxB (cnm 9) x
  | _ => false
def w5B : Stmt → Bool
  | .If (.BoolOp .Or [.Compare (.Call (.Attribute (.Name o _) m ap) [.Constant (.bool true) _ _] [] cp) [.NotEq] [.Constant (.int 1) _ _] _, .UnaryOp .Not x _] _) _ [] _ =>
    decide (o = ("own" : Str)) && decide (m = ("count" : Str)) && (ap.endLine == cp.line) && isxB ("ValueError" : Str) x
  | _ => false
def w6B : Stmt → Bool
  | .Return (some (.Tuple [.Constant (.str t) _ _, .Call (.Attribute (.Name o _) m ap) [.Constant (.bool true) _ _] [] cp] _ _)) _ =>
    decide (t = raised) && decide (o = ("own" : Str)) && decide (m = ("index" : Str)) && (ap.endLine == cp.line)
  | _ => false
def whichB : List Stmt → Bool
  | [a, b, c, d, e, f] => w1B a && w2B 3 4 5 b && w2B 6 7 8 c && w4B d && w5B e && w6B f
  | _ => false
/-- what is known of the error's class k, and where the body runs -/
structure WhX (G : Sg) (X : Cx) (k : Nat) (p : Addr × Obj) (Dc : Addr) : Prop where
  hp : p ∈ X.pn
  hN : X.N = ([("e" : Str), ("own" : Str)])
  kE : X.env.scope.names.lookup ("e" : Str) = some NameKind.local
  kO : X.env.scope.names.lookup ("own" : Str) = some NameKind.local
  gi : Gl X ("isinstance" : Str)
  mi : X.mg ("isinstance" : Str) = none
  gc : ∀ j, j < 10 → Gl X (cnm j)
  gv : Gl X ("ValueError" : Str)
  mv : X.mg ("ValueError" : Str) = none
  hfn : X.fn = fun _ => true
  cls : ∀ j, j < 10 → ∃ C, X.mg (cnm j) = some (.ref C) ∧ PySem.W.kitOne X.K (.ref Dc) (.ref C) = some (decide (k = j))
  cv : PySem.W.kitOne X.K (.ref Dc) (.type "ValueError") = some true
  ec : ExcC X.K Dc
  hz : Zc (.ref Dc) none p.2
  hf : ∃ vs, p.2.data = .fields vs
def tIs (a : Addr) (b : Bool) : TE := fun σ H Q => σ[0]? = some (some (.ref a)) ∧ Q (.bl b) H
section
variable {G : Sg} {X : Cx} {k : Nat} {p : Addr × Obj} {Dc : Addr}
theorem w_e (g : WhX G X k p Dc) {q : Pos} : PE X (.Name ("e" : Str) q) (tVar 0) := pe_var (by rw [g.hN] <;> rfl) (.inl g.kE)
theorem w_own (g : WhX G X k p Dc) {q : Pos} : PE X (.Name ("own" : Str) q) (tVar 1) := pe_var (by rw [g.hN] <;> rfl) (.inl g.kO)
theorem w_isx (g : WhX G X k p Dc) {x : Expr} {j : Nat} (hj : j < 10) (h : isxB (cnm j) x = true) : PE X x (tIs p.1 (decide (k = j))) ∧ pl x = true := by
  unfold isxB at h
  split at h
  · simp only [Bool.and_eq_true, decide_eq_true_eq] at h
    obtain ⟨⟨rfl, rfl⟩, rfl⟩ := h
    obtain ⟨C, e1, e2⟩ := g.cls j hj
    have hd : ((cnm j) == ("__debug__" : Str)) = false := by
      have : ∀ j, j < 10 → ((cnm j) == ("__debug__" : Str)) = false := by decide +kernel
      exact this j hj
    refine ⟨peI (pe_callB (call_isP g.hp g.ec g.hz g.hf) g.gi g.mi boot_isinstance (pa_cons (w_e g) (pa_cons (pe_glob (v := .ref C) (g.gc j hj) e1 rfl hd) pa_nil)) (by decide) (by decide) rfl rfl) fun σ H Q q => ?_, rfl⟩
    exact ⟨_, q.1, .ref C, .ref C, _, rfl, fun u hu => hu, e2, q.2⟩
  · cases h
theorem w_isv (g : WhX G X k p Dc) {x : Expr} (h : isxB ("ValueError" : Str) x = true) : PE X x (tIs p.1 true) ∧ (∀ whole, isTrue x X.env whole = (do let v ← whole; standAt x.pos; holding [v] (truthy v))) := by
  unfold isxB at h
  split at h
  · simp only [Bool.and_eq_true, decide_eq_true_eq] at h
    obtain ⟨⟨rfl, rfl⟩, rfl⟩ := h
    refine ⟨peI (pe_callB (call_isP g.hp g.ec g.hz g.hf) g.gi g.mi boot_isinstance (pa_cons (w_e g) (pa_cons (pe_bltn (v := .ty "ValueError") g.gv g.mv (by decide +kernel) rfl) pa_nil)) (by decide) (by decide) rfl rfl) fun σ H Q q => ?_, fun _ => rfl⟩
    exact ⟨_, q.1, .ty "ValueError", .type "ValueError", _, rfl, fun u hu => hu, g.cv, q.2⟩
  · cases h
theorem w_l3 (g : WhX G X k p Dc) {x : Expr} {a b c : Nat} (ha : a < 10) (hb : b < 10) (hc : c < 10) (h : l3B a b c x = true) :
    PE X x (tLst (tCons (tIs p.1 (decide (k = a))) (tCons (tIs p.1 (decide (k = b))) (tCons (tIs p.1 (decide (k = c))) tNil)))) ∧ pl x = true ∧ ∀ t l, swapsWith x t l X.env = pure false := by
  unfold l3B at h
  split at h
  · simp only [Bool.and_eq_true] at h
    obtain ⟨h1, l1⟩ := w_isx g ha h.1.1
    obtain ⟨h2, l2⟩ := w_isx g hb h.1.2
    obtain ⟨h3, l3⟩ := w_isx g hc h.2
    exact ⟨pe_lst (pa_cons h1 (pa_cons h2 (pa_cons h3 pa_nil (star_pl l3)) (star_pl l2)) (star_pl l1)), rfl, fun t l => rfl⟩
  · cases h
/-- the whole body's reading: the tuple ('raised', k) -/
theorem w_body (g : WhX G X k p Dc) (hk : k < 10) {body : List Stmt} (h : whichB body = true) :
    ∃ t, PSs X body t ∧ ∀ (Q : VK) (H : Hp) (nx : L2.St → Hp → Prop), (∀ H' q, Same H H' → H' q = some (.tup [.str raised, .int k]) → Q (.ref q) H') → t { nx := nx, rt := Q } [some (.ref p.1), none] H := by
  unfold whichB at h
  split at h
  · rename_i s1 s2 s3 s4 s5 s6
    simp only [Bool.and_eq_true] at h
    obtain ⟨⟨⟨⟨⟨h1, h2⟩, h3⟩, h4⟩, h5⟩, h6⟩ := h
    have nd : X.N.Nodup := by
      rw [g.hN]
      decide +kernel
    have i1 : X.N[1]? = some ("own" : Str) := by rw [g.hN] <;> rfl
    have fn1 : X.fn ("own" : Str) = true := by rw [g.hfn]
    -- own = [..]
    have p1 : PS X s1 (tAsg (tLst (tCons (tIs p.1 (decide (k = 0))) (tCons (tIs p.1 (decide (k = 1))) (tCons (tIs p.1 (decide (k = 2))) tNil)))) (gName 1)) := by
      unfold w1B at h1
      split at h1
      · simp only [Bool.and_eq_true, decide_eq_true_eq] at h1
        obtain ⟨rfl, h1⟩ := h1
        obtain ⟨q1, q2, q3⟩ := w_l3 g (by decide) (by decide) (by decide) h1
        exact ps_set (i := 1) nd i1 (.inl g.kO) q1 (q3 _ _) (.inl fn1)
      · cases h1
    have ext : ∀ (a b c : Nat) (s : Stmt), a < 10 → b < 10 → c < 10 → w2B a b c s = true → PS X s (tDrop (tBM X.K "list" rExtend (tVar 1) (tCons (tLst (tCons (tIs p.1 (decide (k = a))) (tCons (tIs p.1 (decide (k = b))) (tCons (tIs p.1 (decide (k = c))) tNil)))) tNil))) := by
      intro a b c s ha hb hc hs
      unfold w2B at hs
      split at hs
      · simp only [Bool.and_eq_true, decide_eq_true_eq] at hs
        obtain ⟨⟨⟨rfl, rfl⟩, hl⟩, hs⟩ := hs
        obtain ⟨q1, q2, q3⟩ := w_l3 g ha hb hc hs
        have st := star_pl (env := X.env) (xs := []) q2
        exact ps_expr (pe_bm PySem.F.plainAttrs_list PySem.F.slot_list_extend PySem.F.type_list_extend mt_extend (w_own g) (pa_cons q1 pa_nil st) rfl (by rw [st]; rfl) hl st rfl) rfl
      · cases hs
    have p4 : PS X s4 (tDrop (tBM X.K "list" rAppend (tVar 1) (tCons (tIs p.1 (decide (k = 9))) tNil))) := by
      unfold w4B at h4
      split at h4
      · simp only [Bool.and_eq_true, decide_eq_true_eq] at h4
        obtain ⟨⟨⟨rfl, rfl⟩, hl⟩, hs⟩ := h4
        obtain ⟨q1, q2⟩ := w_isx g (by decide) hs
        have st := star_pl (env := X.env) (xs := []) q2
        exact ps_expr (pe_bm PySem.F.plainAttrs_list PySem.F.slot_list_append PySem.F.type_list_append mt_append (w_own g) (pa_cons q1 pa_nil st) rfl (by rw [st]; rfl) hl st rfl) rfl
      · cases h4
    have p5 : ∃ t5, PS X s5 t5 ∧ ∀ (D : Ends) (σ : L2.St) (H : Hp) (l : Addr) (bs : List Bool), σ = [some (.ref p.1), some (.ref l)] → H l = some (.lst (bs.map V.bl)) → bs.count true = 1 → D.nx σ H → t5 D σ H := by
      unfold w5B at h5
      split at h5
      · simp only [Bool.and_eq_true, decide_eq_true_eq] at h5
        obtain ⟨⟨⟨rfl, rfl⟩, hl⟩, hs⟩ := h5
        obtain ⟨q1, q2⟩ := w_isv g hs
        have cnt := fun {cp ap q q2 : Pos} {j : Nat} (hl : (ap.endLine == cp.line) = true) => pe_bm (o := .Name ("own" : Str) q) (e := .Constant (.bool true) j q2) (apos := ap) (cpos := cp) PySem.F.plainAttrs_list PySem.F.slot_list_count PySem.F.type_list_count (mt_bcount (X := X)) (w_own g) (pa_cons pe_bl pa_nil) rfl rfl hl rfl rfl
        refine ⟨_, ps_if (PW.pt (pw_or (pt_cmpR op_ne (cnt hl) pe_int (nomark _)) (pw_or1 (pt_not (pt_val q1 q2))))) pss_never pss_nil, ?_⟩
        intro D σ H l bs e1 e2 e3 e4
        subst e1
        refine ⟨.ref l, rfl, .inl ⟨rfl, _, SqL.of e2⟩, l, bs, rfl, rfl, SqL.of e2, ?_⟩
        rw [e3]
        refine ⟨rfl, false, rfl, ?_⟩
        simp only [Bool.false_eq_true, if_false]
        exact ⟨rfl, true, rfl, e4⟩
      · cases h5
    have p6 : ∃ t6, PS X s6 t6 ∧ ∀ (D : Ends) (σ : L2.St) (H : Hp) (l : Addr) (bs : List Bool), σ = [some (.ref p.1), some (.ref l)] → H l = some (.lst (bs.map V.bl)) → bs[k]? = some true → (∀ m, m < k → bs[m]? = some false) → (∀ q, H q = none → D.rt (.ref q) (upd H q (.tup [.str raised, .int k]))) → t6 D σ H := by
      unfold w6B at h6
      split at h6
      · simp only [Bool.and_eq_true, decide_eq_true_eq] at h6
        obtain ⟨⟨⟨rfl, rfl⟩, rfl⟩, hl⟩ := h6
        refine ⟨_, ps_ret (pe_tup (pa_cons pe_str (pa_cons (pe_bm PySem.F.plainAttrs_list PySem.F.slot_list_index PySem.F.type_list_index mt_index (w_own g) (pa_cons pe_bl pa_nil) rfl rfl hl rfl rfl) pa_nil))), ?_⟩
        intro D σ H l bs e1 e2 e3 e4 e5
        subst e1
        refine ⟨.ref l, rfl, .inl ⟨rfl, _, SqL.of e2⟩, l, bs.map V.bl, .bl true, k, .bl true, rfl, rfl, SqL.of e2, rfl, by simp [List.all_map]; exact ⟨fun _ => rfl, fun _ => rfl⟩, by rw [List.getElem?_map, e3]; rfl, rfl, fun m z hm hz => ?_, by show 2 ≤ sizeLine; decide, e5⟩
        rw [List.getElem?_map, e4 m hm] at hz
        cases hz
        rfl
      · cases h6
    obtain ⟨t5, q5, r5⟩ := p5
    obtain ⟨t6, q6, r6⟩ := p6
    refine ⟨_, pss_cons p1 (pss_cons (ext 3 4 5 s2 (by decide) (by decide) (by decide) h2) (pss_cons (ext 6 7 8 s3 (by decide) (by decide) (by decide) h3) (pss_cons p4 (pss_cons q5 (pss_one q6))))), fun Q H nx fin => ?_⟩
    refine ⟨rfl, rfl, rfl, by show 3 ≤ sizeLine; decide, fun l hl => ?_⟩
    have L1 : upd H l (.lst [.bl (decide (k = 0)), .bl (decide (k = 1)), .bl (decide (k = 2))]) l = some (.lst [.bl (decide (k = 0)), .bl (decide (k = 1)), .bl (decide (k = 2))]) := upd_same
    have S1 : Same H (upd H l (.lst [.bl (decide (k = 0)), .bl (decide (k = 1)), .bl (decide (k = 2))])) := same_fresh hl
    -- a step: a new list b, then l grows
    refine ⟨.ref l, rfl, .inl ⟨rfl, _, SqL.of L1⟩, rfl, rfl, rfl, by show 3 ≤ sizeLine; decide, fun b2 hb2 => ?_⟩
    have nb2 : l ≠ b2 := ne_of_none L1 hb2
    refine ⟨l, b2, _, _, rfl, rfl, by rw [upd_ne nb2]; exact L1, upd_same, by show 6 ≤ sizeLine; decide, ?_⟩
    refine ⟨.ref l, rfl, .inl ⟨rfl, _, SqL.of upd_same⟩, rfl, rfl, rfl, by show 3 ≤ sizeLine; decide, fun b3 hb3 => ?_⟩
    have nb3 : l ≠ b3 := ne_of_none upd_same hb3
    refine ⟨l, b3, _, _, rfl, rfl, by rw [upd_ne nb3]; exact upd_same, upd_same, by show 9 ≤ sizeLine; decide, ?_⟩
    refine ⟨.ref l, rfl, .inl ⟨rfl, _, SqL.of upd_same⟩, rfl, l, _, _, rfl, rfl, upd_same, by show 9 < sizeLine; decide, ?_⟩
    have bs10 : ∀ k, k < 10 → ∃ bs : List Bool, ([.bl (decide (k = 0)), .bl (decide (k = 1)), .bl (decide (k = 2))] ++ [.bl (decide (k = 3)), .bl (decide (k = 4)), .bl (decide (k = 5))] ++ [.bl (decide (k = 6)), .bl (decide (k = 7)), .bl (decide (k = 8))] ++ [.bl (decide (k = 9))] : List V) = bs.map V.bl ∧ bs.count true = 1 ∧ bs[k]? = some true ∧ ∀ m, m < k → bs[m]? = some false := fun k hk =>
      ⟨[decide (k = 0), decide (k = 1), decide (k = 2), decide (k = 3), decide (k = 4), decide (k = 5), decide (k = 6), decide (k = 7), decide (k = 8), decide (k = 9)], rfl, by revert k; decide, by revert k; decide, by revert k; decide⟩
    obtain ⟨bs, e1, e2, e3, e4⟩ := bs10 k hk
    rw [e1]
    -- the heap at last knows what H knew
    have keep : ∀ {H0 : Hp} {o : HO}, Same H H0 → Same H (upd H0 l o) := fun {H0 o} s0 b x hb => by
      have : b ≠ l := fun z => by
        subst z
        rw [hl] at hb
        cases hb
      rw [upd_ne this]
      exact s0 b x hb
    have SF : Same H (upd (upd (upd (upd (upd (upd H l (.lst [.bl (decide (k = 0)), .bl (decide (k = 1)), .bl (decide (k = 2))])) b2 (.lst [.bl (decide (k = 3)), .bl (decide (k = 4)), .bl (decide (k = 5))])) l
        (.lst ([.bl (decide (k = 0)), .bl (decide (k = 1)), .bl (decide (k = 2))] ++ [.bl (decide (k = 3)), .bl (decide (k = 4)), .bl (decide (k = 5))]))) b3 (.lst [.bl (decide (k = 6)), .bl (decide (k = 7)), .bl (decide (k = 8))])) l
        (.lst ([.bl (decide (k = 0)), .bl (decide (k = 1)), .bl (decide (k = 2))] ++ [.bl (decide (k = 3)), .bl (decide (k = 4)), .bl (decide (k = 5))] ++ [.bl (decide (k = 6)), .bl (decide (k = 7)), .bl (decide (k = 8))]))) l (.lst (bs.map V.bl))) :=
      keep (keep (same_tr (keep (same_tr S1 (same_fresh hb2))) (same_fresh hb3)))
    refine r5 _ _ _ l bs rfl upd_same e2 ?_
    refine r6 _ _ _ l bs rfl upd_same e3 e4 fun q hq => fin _ q (same_tr SF (same_fresh hq)) upd_same
  · cases h
end
end Alb
set_option Elab.async false
set_option linter.all false
set_option maxRecDepth 100000
set_option maxHeartbeats 4000000
/-! Statements: the evaluator's end is the model's. -/
namespace Alb
open PySem PySem.Spec PyProof.Rows L2

/-! ### the match -/
def isLc : Expr → Bool
  | .ListComp .. => true
  | .SetComp .. => true
  | .DictComp .. => true
  | _ => false
def lcOk (c : Sc) (y : Str) (py : Pos) (x : Expr) : Bool := match x with
  | .ListComp _ _ scope lp => (isLoc c.sc y && (py.line == lp.line) && !(scope.names.any fun (n, k) => n == y && (k == .local || k == .cell))) || !isLoc c.sc y
  | .SetComp .. => false
  | .DictComp .. => false
  | _ => true
/-- the stores of a, b = x, y come from the right -/
def par2B (c : Sc) (i j : Nat) (ts xs : List Expr) : Bool := match ts, xs with
  | [.Name x px, .Name y py], [a, b] => isLoc c.sc x && isLoc c.sc y && (py.line == px.line) && decide (x ≠ y) && decide (i ≠ j) && !([a, b].all (foldedForSure 8)) && !([a, b].all (constantsAlone 8))
  | _, _ => false
def par3B (c : Sc) (i j l : Nat) (ts xs : List Expr) : Bool := match ts, xs with
  | [.Name x px, .Name y py, .Name z pz], [a, b, d] => isLoc c.sc x && isLoc c.sc y && isLoc c.sc z && (py.line == px.line) && (pz.line == px.line) && decide (x ≠ y) && decide (x ≠ z) && decide (y ≠ z) && decide (i ≠ j) && decide (i ≠ l) && decide (j ≠ l) && !([a, b, d].all (foldedForSure 8)) && !([a, b, d].all (constantsAlone 8))
  | _, _ => false
/-- they come in order: one of two names is a cell, or all values are constants -/
def parNB (c : Sc) (ts xs : List Expr) : Bool := match ts, xs with
  | [.Name x _, .Name y _], [a, b] => !isLoc c.sc x || !isLoc c.sc y || [a, b].all (foldedForSure 8)
  | _, _ => false
def augX : BOp → Option Operator
  | .add => some .Add
  | .sub => some .Sub
  | _ => none
mutual
def mS (M : Nm) (c : Sc) : S → Stmt → Bool
  | .asg i e, x => (match x with
    | .Assign [.Name y py] v _ => nmG c i (.Name y py) && lcOk c y py v && mt M c e v
    | _ => false)
  | .unp is e, x => (match x with
    | .Assign [.Tuple ts _ _] v _ => nmGs c is ts && !isTup v && !isLc v && mt M c e v
    | _ => false)
  | .par is es, x => (match x with
    | .Assign [.Tuple ts _ _] (.Tuple xs _ _) _ => nmGs c is ts && mts M c es xs && decide (xs.length ≤ 1000) && (match is with
      | [i, j] => par2B c i j ts xs || parNB c ts xs
      | [i, j, l] => par3B c i j l ts xs
      | _ => false)
    | _ => false)
  | .sto o i e, x => (match x with
    | .Assign [.Subscript a b _] v _ => pl b && mt M c o a && mt M c i b && mt M c e v
    | _ => false)
  | .sto2 .., _ => false
  | .dput .., _ => false
  | .aug i o e, x => (match x with
    | .AugAssign (.Name y p) op v _ => nmG c i (.Name y p) && decide (augX o = some op) && mt M c e v
    | _ => false)
  | .aus a i o e, x => (match x with
    | .AugAssign (.Subscript u w _) op v _ => pl w && decide (augX o = some op) && mt M c a u && mt M c i w && mt M c e v
    | _ => false)
  | .exp e, x => (match x with
    | .Expr v _ => !isLc v && mt M c e v
    | _ => false)
  | .ret e, x => (match x with
    | .Return (some v) _ => mt M c e v
    | _ => false)
  | .ife t a b, x => (match x with
    | .If u p q _ => okT t && mt M c t u && mSs M c a p && mSs M c b q
    | _ => false)
  | .for t k es b, x => (match x with
    | .For tg iter body [] _ => iterB c k (fun as => mts M c es as) (fun y => match es with
        | .cons e1 .nil => mt M c e1 y
        | _ => false) tg iter && mtG c t tg && mSs M c b body
    | _ => false)
  | .whi t b, x => (match x with
    | .While u body [] _ => okT t && mt M c t u && mSs M c b body
    | _ => false)
  | .rai k, x => (match x with
    | .Raise (some (.Call (.Name y _) [.Constant (.str _) _ _] [] _)) none _ => decide (M.cls k = some y) && glB c.sc y && okN y
    | _ => false)
  | .tryw i b, x => (match x with
    | .Try body [.ExceptHandler (some (.Name ae _)) (some nm) [.Return (some (.Call (.Name wh _) [.Name nm2 _] [] _)) _] _] [] [] _ =>
      M.tw && decide (ae = ("AlbumError" : Str)) && glB c.sc ae && decide (wh = ("_law_which" : Str)) && glB c.sc wh && decide (nm2 = nm) && decide (c.N[i]? = some nm) && isLoc c.sc nm && okN nm && mSs M c b body
    | _ => false)
  | .fst .., _ => false
def mSs (M : Nm) (c : Sc) : Ss → List Stmt → Bool
  | .nil, xs => (match xs with
    | [] => true
    | _ => false)
  | .cons s ss, xs => (match xs with
    | x :: r => mS M c s x && mSs M c ss r
    | _ => false)
end

/-! ### what is known besides -/
/-- the promise of the def that tells which error was caught -/
def SpW (G : Sg) : Addr × Obj → Sp := fun p vs H Q _ => ∃ k C, k < 10 ∧ G.ca k = some C ∧ vs = [.ref p.1] ∧ L2N.Zn (.ref C) none p.2 ∧ (∃ us, p.2.data = .fields us) ∧
  ∀ H' q, Same H H' → H' q = some (.tup [.str raised, .int (k : Nat)]) → Q (.ref q) H'
structure WhOk (G : Sg) (X : Cx) (n : Nat) : Prop where
  ca : ∀ k, k < 10 → ∃ C, G.ca k = some C
  ae : ∃ B, X.mg ("AlbumError" : Str) = some (.ref B) ∧ ∀ k C, G.ca k = some C → PySem.W.exmOne X.K (.ref C) (.ref B) = some true
  fn : ∃ f fd, X.mg ("_law_which" : Str) = some (.ref f) ∧ PySem.W.keepIn X.K (.ref f) = true ∧ Binds X.K fd [("e" : Str)] [] ∧ FnW X.prog X.w X.K X.mg X.base n f fd [("e" : Str)] (SpW G)
structure GoodS (G : Sg) (M : Nm) (cl : Cl) (n : Nat) (X : Cx) (W : WX) (c : Sc) : Prop extends Good G M cl n X W c where
  stk : X.stack = X.env :: X.outer
  frm : X.env.frame = some X.env.locals
  knd : X.env.scope.kind = .function
  wh : M.tw = true → WhOk G X n
section
variable {G : Sg} {M : Nm} {cl : Cl} {n : Nat} {X : Cx} {W : WX} {c : Sc}
theorem Good.isLoc (g : Good G M cl n X W c) {x : Str} (h : isLoc c.sc x = true) : X.env.scope.names.lookup x = some .local := by
  unfold Alb.isLoc at h
  rw [g.hsc]
  split at h
  · assumption
  · cases h
theorem Good.notLoc (g : Good G M cl n X W c) {x : Str} (h : Alb.isLoc c.sc x = false) : (X.env.kindOf x == some .local) = false := by
  unfold Alb.isLoc at h
  show (X.env.scope.names.lookup x == some .local) = false
  rw [g.hsc]
  split at h
  · cases h
  · rename_i z
    cases q : c.sc.names.lookup x with
    | none => rfl
    | some k =>
      rw [q] at z
      cases k <;> first | rfl | exact absurd rfl z
theorem Good.isLocK (g : Good G M cl n X W c) {x : Str} (h : Alb.isLoc c.sc x = true) : (X.env.kindOf x == some .local) = true := by
  have : X.env.kindOf x = some .local := g.isLoc h
  rw [this]
  rfl
/-! ### the readings -/
theorem asg_imp {i : Nat} {e : E} : ∀ D σ H, RS G W cl (.asg i e) D σ H → tAsg (RE G W cl e) (gName i) D σ H := by
  intro D σ H ⟨Hid, φ, h, r, S, E, o⟩
  refine ⟨Hid, φ, h, r, S, E, (SOut.bind (Rp := Rep G) o).imp fun x H1 ⟨d, φ1, h1, p1, S1, r1, e1, o1⟩ => ?_⟩
  simp only at o1
  split at o1
  · exact o1 φ1 H1 _ (List.prefix_refl _) S1 ((E.mono p1 e1).set i r1) (Ext.refl _)
  · exact o1.elim
theorem unp_imp {is : List Nat} {e : E} : ∀ D σ H, RS G W cl (.unp is e) D σ H → tAsg (RE G W cl e) (gT G.K (.tp is)) D σ H := by
  intro D σ H ⟨Hid, φ, h, r, S, E, o⟩
  refine ⟨Hid, φ, h, r, S, E, (SOut.bind (Rp := Rep G) o).imp fun x H1 ⟨d, φ1, h1, p1, S1, r1, e1, o1⟩ => ?_⟩
  simp only at o1
  split at o1
  · rename_i r2 e2
    obtain ⟨js, vs, _, k1, k2⟩ := gT_ok (E.mono p1 e1) r1 e2
    exact k2 _ (o1 φ1 H1 _ (List.prefix_refl _) S1 k1 (Ext.refl _))
  · exact o1.elim
theorem par_imp {is : List Nat} {es : Es} {Q : List V → L2.St → Hp → Prop} {D : Ends} {σ : L2.St} {H : Hp} (hq : ∀ vs H1, vs.length = is.length → D.nx (setV is vs σ) H1 → Q vs σ H1) :
    RS G W cl (.par is es) D σ H → RA G W cl es σ H fun vs H1 => Q vs σ H1 := by
  intro ⟨Hid, φ, h, r, S, E, o⟩
  refine ⟨Hid, φ, h, r, S, E, (SOut.bind (Rp := Reps G) o).imp fun x H1 ⟨d, φ1, h1, p1, S1, r1, e1, o1⟩ => ?_⟩
  simp only at o1
  split at o1
  · rename_i r2 e2
    exact hq _ _ (EnvR.asgL (E.mono p1 e1) r1 e2).symm (o1 φ1 H1 _ (List.prefix_refl _) S1 (gTs_ok (Q := fun _ _ => True) (E.mono p1 e1) r1 e2).1 (Ext.refl _))
  · exact o1.elim
theorem parN_imp {is : List Nat} {es : Es} (hl : ∀ r h ds h', evs cl es r h = .ok ds h' → ds.length ≤ 1000) : ∀ D σ H, RS G W cl (.par is es) D σ H → tAsg (tTup (RA G W cl es)) (gT G.K (.tp is)) D σ H := by
  intro D σ H ⟨Hid, φ, h, r, S, E, o⟩
  refine ⟨Hid, φ, h, r, S, E, ?_⟩
  have o' : SOut G Hid φ H W σ ((evs cl es r h).thn fun xs h => (match asgL is xs r with
    | some r1 => .nx r1 h
    | none => .bad)) D := o
  revert o'
  cases e : evs cl es r h with
  | ok ds h' =>
    intro o' φ1 H1 xs p1 S1 r1 e1
    have hz := hl r h ds h' e
    refine ⟨by rw [← r1.length]; exact Nat.le_trans hz (by decide), fun p hp => ?_⟩
    have ex := same_ext (same_fresh (o := .tup xs) hp)
    have o1 : SOut G Hid φ H W σ (match asgL is ds r with
      | some r1 => .nx r1 h'
      | none => .bad) D := o'
    split at o1
    · rename_i r2 e2
      have rp : Rep G φ1 (upd H1 p (.tup xs)) (.tup ds) (.ref p) := .tup (.inl (.inl upd_same)) (r1.mono (List.prefix_refl _) ex)
      obtain ⟨js, vs, _, k1, k2⟩ := gT_ok (t := .tp is) ((E.mono p1 e1).mono (List.prefix_refl _) ex) rp e2
      exact k2 _ (o1 φ1 _ _ p1 (S1.same (same_fresh hp)) k1 (e1.trans ex))
    · exact o1.elim
  | ex k h' =>
    intro o'
    obtain ⟨C, hC, z⟩ := o'
    exact ⟨C, hC, fun φ' H' p' s e' => z φ' H' σ rfl p' s e'⟩
  | bad => exact fun o' => o'
theorem sto_imp {a i e : E} : ∀ D σ H, RS G W cl (.sto a i e) D σ H → tAsg (RE G W cl e) (gSub (RE G W cl a) (RE G W cl i) (PSt G stoD)) D σ H := by
  intro D σ H ⟨Hid, φ, h, r, S, E, o⟩
  refine ⟨Hid, φ, h, r, S, E, (SOut.bind (Rp := Rep G) o).imp fun x H1 ⟨d, φ1, h1, p1, S1, r1, e1, o1⟩ => ?_⟩
  refine ⟨Hid, φ1, h1, r, S1, E.mono p1 e1, (SOut.bind (Rp := Rep G) o1).imp fun y H2 ⟨d2, φ2, h2, p2, S2, r2, e2, o2⟩ => ?_⟩
  refine ⟨Hid, φ2, h2, r, S2, (E.mono p1 e1).mono p2 e2, (SOut.bind (Rp := Rep G) o2).imp fun z H3 ⟨d3, φ3, h3, p3, S3, r3, e3, o3⟩ => ?_⟩
  simp only at o3
  split at o3
  · rename_i h4 e4
    exact ⟨Hid, φ3, h3, d2, d3, d, h4, S3, r2.mono p3 e3, r3, (r1.mono p2 e2).mono p3 e3, e4, fun H4 S4 e5 => o3 φ3 H4 _ (List.prefix_refl _) S4 ((((E.mono p1 e1).mono p2 e2).mono p3 e3).mono (List.prefix_refl _) e5) e5⟩
  · exact o3.elim
theorem aug_imp {i : Nat} {op : BOp} {e : E} : ∀ D σ H, RS G W cl (.aug i op e) D σ H → tAug i (RE G W cl e) (PAg G (augD op)) D σ H := by
  intro D σ H ⟨Hid, φ, h, r, S, E, o⟩
  simp only [ex] at o
  split at o
  · rename_i x hx
    obtain ⟨v, hv, rv⟩ := E.at_ i x hx
    refine ⟨v, hv, Hid, φ, h, r, S, E, (SOut.bind (Rp := Rep G) o).imp fun y H1 ⟨d, φ1, h1, p1, S1, r1, e1, o1⟩ => ?_⟩
    simp only at o1
    split at o1
    · rename_i z ez
      exact ⟨Hid, φ1, h1, x, d, z, S1, rv.mono p1 e1, r1, ez, fun φ2 H2 w p2 S2 r2 e2 => o1 φ2 H2 _ p2 S2 (((E.mono p1 e1).mono p2 e2).set i r2) e2⟩
    · exact o1.elim
  · exact o.elim
theorem aus_imp {a i : E} {op : BOp} {e : E} : ∀ D σ H, RS G W cl (.aus a i op e) D σ H → tAugS (RE G W cl a) (RE G W cl i) (RE G W cl e) (P2V G lgetD) (PAg G (augD op)) (PSt G stoD) D σ H := by
  intro D σ H ⟨Hid, φ, h, r, S, E, o⟩
  refine ⟨Hid, φ, h, r, S, E, (SOut.bind (Rp := Rep G) o).imp fun x H1 ⟨d, φ1, h1, p1, S1, r1, e1, o1⟩ => ?_⟩
  refine ⟨Hid, φ1, h1, r, S1, E.mono p1 e1, (SOut.bind (Rp := Rep G) o1).imp fun y H2 ⟨d2, φ2, h2, p2, S2, r2, e2, o2⟩ => ?_⟩
  simp only at o2
  split at o2
  · rename_i q eq
    refine ⟨Hid, φ2, h2, d, d2, q, S2, r1.mono p2 e2, r2, eq, fun φ3 H3 w p3 S3 r3 e3 => ?_⟩
    have o2 := o2.mono p3 e3 rfl
    refine ⟨Hid, φ3, h2, r, S3, ((E.mono p1 e1).mono p2 e2).mono p3 e3, (SOut.bind (Rp := Rep G) o2).imp fun u H4 ⟨d4, φ4, h4, p4, S4, r4, e4, o4⟩ => ?_⟩
    simp only at o4
    split at o4
    · rename_i z ez
      refine ⟨Hid, φ4, h4, q, d4, z, S4, r3.mono p4 e4, r4, ez, fun φ5 H5 w5 p5 S5 r5 e5 => ?_⟩
      split at o4
      · rename_i h6 e6
        exact ⟨Hid, φ5, h4, d, d2, z, h6, S5, (((r1.mono p2 e2).mono p3 e3).mono p4 e4).mono p5 e5, ((r2.mono p3 e3).mono p4 e4).mono p5 e5, r5, e6, fun H6 S6 e7 => o4 φ5 H6 _ p5 S6 (((((E.mono p1 e1).mono p2 e2).mono p3 e3).mono p4 e4).mono p5 (e5.trans e7)) (e5.trans e7)⟩
      · exact o4.elim
    · exact o4.elim
  · exact o2.elim
theorem exp_imp {e : E} : ∀ D σ H, RS G W cl (.exp e) D σ H → tDrop (RE G W cl e) D σ H := by
  intro D σ H ⟨Hid, φ, h, r, S, E, o⟩
  refine ⟨Hid, φ, h, r, S, E, (SOut.bind (Rp := Rep G) o).imp fun x H1 ⟨d, φ1, h1, p1, S1, r1, e1, o1⟩ => ?_⟩
  exact o1 φ1 H1 _ (List.prefix_refl _) S1 (E.mono p1 e1) (Ext.refl _)
theorem ret_imp {e : E} : ∀ D σ H, RS G W cl (.ret e) D σ H → tRet (RE G W cl e) D σ H := by
  intro D σ H ⟨Hid, φ, h, r, S, E, o⟩
  refine ⟨Hid, φ, h, r, S, E, (SOut.bind (Rp := Rep G) o).imp fun x H1 ⟨d, φ1, h1, p1, S1, r1, e1, o1⟩ => ?_⟩
  exact o1 φ1 H1 _ (List.prefix_refl _) S1 r1 (Ext.refl _)
theorem ife_imp {t : E} {a b : Ss} : ∀ D σ H, RS G W cl (.ife t a b) D σ H → tIfS (RT G W cl t) (RSs G W cl a) (RSs G W cl b) D σ H := by
  intro D σ H ⟨Hid, φ, h, r, S, E, o⟩
  refine ⟨Hid, φ, h, r, S, E, (SOut.bind (Rp := Rep G) o).imp fun x H1 ⟨d, φ1, h1, p1, S1, r1, e1, o1⟩ => ?_⟩
  simp only at o1
  split at o1
  · cases r1
    refine ⟨true, rfl, ?_⟩
    simp only [if_true]
    exact ⟨Hid, φ1, h1, r, S1, E.mono p1 e1, o1⟩
  · cases r1
    refine ⟨false, rfl, ?_⟩
    simp only [Bool.false_eq_true, if_false]
    exact ⟨Hid, φ1, h1, r, S1, E.mono p1 e1, o1⟩
  · exact o1.elim
def unl (lk : List (Nat × List D)) : SR → SR
  | .nx r h => .nx r (unlockH lk h)
  | .rt d h => .rt d (unlockH lk h)
  | .ex c h => .ex c (unlockH lk h)
  | .bad => .bad
theorem for_imp (hK : X.K = G.K) {t : Tg} {k : Ik} {es : Es} {b : Ss} : ∀ D σ H, RS G W cl (.for t k es b) D σ H → tFor (RI G W cl k es) (gT X.K t) (RSs G W cl b) D σ H := by
  intro D σ H ⟨Hid, φ, h, r, S, E, o⟩
  refine ⟨Hid, φ, h, r, S, E, ?_⟩
  have o' : SOut G Hid φ H W σ ((evs cl es r h).thn fun ds h => (match iterD k ds h with
    | some (items, lk) => unl lk (forGo (fun x r h => match asgT t x r with
        | some r1 => exs cl b r1 h
        | none => .bad) items r (lockH lk h))
    | none => .bad)) D := by
    have e : ex cl (.for t k es b) r h = ((evs cl es r h).thn fun ds h => (match iterD k ds h with
      | some (items, lk) => unl lk (forGo (fun x r h => match asgT t x r with
        | some r1 => exs cl b r1 h
        | none => .bad) items r (lockH lk h))
      | none => .bad)) := by
      simp only [ex]
      congr 1
    rw [← e]
    exact o
  revert o'
  cases ee : evs cl es r h with
  | ex c h1 =>
    intro o'
    obtain ⟨C, hC, z⟩ := o'
    exact ⟨C, hC, fun φ' H' p' s e' => z φ' H' σ rfl p' s e'⟩
  | bad => exact fun o' => o'
  | ok ds h1 =>
    intro o'
    have o' : SOut G Hid φ H W σ (match iterD k ds h1 with
      | some (items, lk) => unl lk (forGo (fun x r h => match asgT t x r with
        | some r1 => exs cl b r1 h
        | none => .bad) items r (lockH lk h1))
      | none => .bad) D := o'
    simp only
    split
    · rename_i items lk ei
      rw [ei] at o'
      simp only at o'
      intro φ' H' J Hid' Gd p e' held walk
      generalize hf : (fun (x : Alb.D) (r : Env) (h : Hh) => match asgT t x r with
        | some r1 => exs cl b r1 h
        | none => .bad) = f at o'
      let Pv : Nat → L2.St → Hp → Prop := fun i σ1 H1 => ∃ φ1 r1 h1, φ' <+: φ1 ∧ ST G φ1 Hid' h1 H1 ∧ EnvR G φ1 H1 r1 σ1 ∧ Ext H' H1 ∧ SOut G Hid φ1 H1 W σ1 (unl lk (forGo f (items.drop i) r1 h1)) D
      refine for_it walk Pv ⟨φ', r, lockH lk h1, List.prefix_refl _, held.st, E.mono p e', Ext.refl _, ?_⟩ ?_ ?_ ?_
      · exact o'.mono p e' rfl
      · intro i σ1 H1 hi ⟨φ1, r1, h2, q1, S1, E1, x1, _⟩
        exact held.good _ _ _ x1 S1
      · intro i x σ1 Ha Hb hi ⟨φ1, r1, h2, q1, S1, E1, x1, o1⟩ ⟨sm, yy⟩
        obtain ⟨d, hd, rd⟩ := yy x1
        have eb := same_ext sm
        have hdrop : items.drop i = d :: items.drop (i + 1) := by
          have hlt : i < items.length := hi
          rw [List.drop_eq_getElem_cons hlt]
          rw [List.getElem?_eq_getElem hlt] at hd
          cases hd
          rfl
        rw [hdrop] at o1
        simp only [forGo] at o1
        cases ea : asgT t d r1 with
        | none =>
          have : f d r1 h2 = .bad := by rw [← hf]; simp only [ea]
          rw [this] at o1
          exact o1.elim
        | some r2 =>
          have fe : f d r1 h2 = exs cl b r2 h2 := by rw [← hf]; simp only [ea]
          obtain ⟨js, vs, _, k1, k2⟩ := gT_ok (E1.mono (List.prefix_refl _) eb) (rd.mono q1 (Ext.refl _)) ea
          rw [hK]
          refine k2 _ ⟨Hid', φ1, h2, r2, S1.same sm, k1, ?_⟩
          rw [fe] at o1
          have hlen : (setV js vs σ1).length = σ1.length := setV_length js vs σ1
          cases er : exs cl b r2 h2 with
          | nx r3 h3 =>
            rw [er] at o1
            intro φ3 H3 σ3 p3 S3 E3 x3
            refine ⟨φ3, r3, h3, q1.trans p3, S3, E3, x1.trans (eb.trans x3), ?_⟩
            refine SOut.mono (φ := φ1) (H := Ha) (σ := σ1) o1 p3 (eb.trans x3) ?_
            rw [← E3.len, exs_len b _ _ _ _ er, asgT_len ea, E1.len]
          | rt d3 h3 =>
            rw [er] at o1
            exact fun φ3 H3 v p3 S3 r3 x3 => o1 φ3 H3 v p3 (held.back φ3 h3 H3 (q1.trans p3) (x1.trans (eb.trans x3)) S3) r3 (eb.trans x3)
          | ex c3 h3 =>
            rw [er] at o1
            obtain ⟨C, hC, z⟩ := o1
            exact ⟨C, hC, fun φ3 H3 σ3 l3 p3 S3 x3 => z φ3 H3 σ3 (l3.trans hlen) p3 (held.back φ3 h3 H3 (q1.trans p3) (x1.trans (eb.trans x3)) S3) (eb.trans x3)⟩
          | bad =>
            rw [er] at o1
            exact o1.elim
      · intro σ1 H1 ⟨φ1, r1, h2, q1, S1, E1, x1, o1⟩
        rw [List.drop_length] at o1
        exact o1 φ1 H1 _ (List.prefix_refl _) (held.back _ _ _ q1 x1 S1) E1 (Ext.refl _)
    · rename_i en
      rw [en] at o'
      exact o'.elim
theorem whi_imp {t : E} {b : Ss} : ∀ D σ H, RS G W cl (.whi t b) D σ H → tWhile (RT G W cl t) (RSs G W cl b) D σ H := by
  intro D σ H ⟨Hid, φ, h, r, S, E, o⟩
  let Wv : Nat → L2.St → Hp → Prop := fun m σ1 H1 => ∃ φ1 r1 h1, ST G φ1 Hid h1 H1 ∧ EnvR G φ1 H1 r1 σ1 ∧ SOut G Hid φ1 H1 W σ1 (whileGo (ev cl t) (exs cl b) m r1 h1) D
  refine ⟨Wv, ⟨wfuel, φ, r, h, S, E, o⟩, ?_⟩
  intro m σ1 H1 ⟨φ1, r1, h1, S1, E1, o1⟩
  cases m with
  | zero => exact o1.elim
  | succ m =>
    refine ⟨Hid, φ1, h1, r1, S1, E1, ?_⟩
    simp only [whileGo] at o1
    cases ec : ev cl t r1 h1 with
    | bad =>
      rw [ec] at o1
      exact o1.elim
    | ex k h2 =>
      rw [ec] at o1
      obtain ⟨C, hC, z⟩ := o1
      exact ⟨C, hC, fun φ' H' p' s e' => z φ' H' σ1 rfl p' s e'⟩
    | ok d h2 =>
      rw [ec] at o1
      intro φ2 H2 v p2 S2 r2 e2
      cases d with
      | bl k =>
        cases r2
        refine ⟨k, rfl, ?_⟩
        cases k with
        | false => exact o1 φ2 H2 _ p2 S2 (E1.mono p2 e2) e2
        | true =>
          simp only at o1
          refine ⟨Wv m, fun σ' H' w => ⟨m, Nat.lt_succ_self m, w⟩, Hid, φ2, h2, r1, S2, E1.mono p2 e2, ?_⟩
          cases er : exs cl b r1 h2 with
          | nx r3 h3 =>
            rw [er] at o1
            intro φ3 H3 σ3 p3 S3 E3 x3
            refine ⟨φ3, r3, h3, S3, E3, ?_⟩
            refine SOut.mono (φ := φ1) (H := H1) (σ := σ1) o1 (p2.trans p3) (e2.trans x3) ?_
            rw [← E3.len, exs_len b _ _ _ _ er, E1.len]
          | rt d3 h3 =>
            rw [er] at o1
            exact fun φ3 H3 v p3 S3 r3 x3 => o1 φ3 H3 v (p2.trans p3) S3 r3 (e2.trans x3)
          | ex c3 h3 =>
            rw [er] at o1
            obtain ⟨C, hC, z⟩ := o1
            exact ⟨C, hC, fun φ3 H3 σ3 l3 p3 S3 x3 => z φ3 H3 σ3 l3 (p2.trans p3) S3 (e2.trans x3)⟩
          | bad =>
            rw [er] at o1
            exact o1.elim
      | _ => exact o1.elim

theorem sw_nolc {x : Expr} {tg : Option Expr} {l : Nat} {env : PySem.Env} (h : isLc x = false) : swapsWith x tg l env = pure false := by
  cases x <;> first | rfl | (simp [isLc] at h)
theorem sw_lcN {elt : Expr} {gs : List Comprehension} {scope : Scope} {pos py : Pos} {y : Str} {l : Nat} {env : PySem.Env} (hy : (env.kindOf y == some .local) = false) : swapsWith (.ListComp elt gs scope pos) (some (.Name y py)) l env = pure false := by
  unfold swapsWith
  simp only [hy, Bool.and_false, Bool.false_and]
/-- a, b = x, y -/
theorem sw2 (g : GoodS G M cl n X W c) {x y : Str} {px py pt : Pos} {a b : Expr} {kt k2 : Nat} {pt2 : Pos} {i j : Nat} (h : par2B c i j [.Name x px, .Name y py] [a, b] = true) (hp : pl a = true) (hq : pl b = true) :
    swappedStores [.Tuple [.Name x px, .Name y py] kt pt] (.Tuple [a, b] k2 pt2) X.env = pure (some [x, y]) := by
  simp only [par2B, Bool.and_eq_true, decide_eq_true_eq, Bool.not_eq_true'] at h
  obtain ⟨⟨⟨⟨⟨⟨h1, h2⟩, h3⟩, h4⟩, h5⟩, h6⟩, h7⟩ := h
  have bk : X.env.blockKind = .function := by unfold Env.blockKind; rw [g.knd]; rfl
  have e1 := g.toGood.isLocK h1
  have e2 := g.toGood.isLocK h2
  have hxy : (y == x) = false := beq_eq_false_iff_ne.mpr (Ne.symm h4)
  unfold swappedStores
  simp only [bk, e1, e2, h3, h6, h7, Expr.pos, List.head?, List.filterMap, Option.map, Option.getD, List.length, BEq.rfl, Bool.and_self, if_true, List.eraseDups, List.eraseDupsBy, List.eraseDupsBy.loop, hxy, List.any]
  refine Eq.trans (if_neg (by decide)) (Eq.trans (if_neg ?_) rfl)
  simp only [Bool.or_eq_true]
  rintro (h | h | h)
  · cases a <;> first | (simp [pl] at hp; done) | cases h
  · cases b <;> first | (simp [pl] at hq; done) | cases h
  · cases h
theorem sw3 (g : GoodS G M cl n X W c) {x y z : Str} {px py pz pt : Pos} {a b d : Expr} {kt k2 : Nat} {pt2 : Pos} {i j l : Nat} (h : par3B c i j l [.Name x px, .Name y py, .Name z pz] [a, b, d] = true) (hp : pl a = true) (hq : pl b = true) (hr : pl d = true) :
    swappedStores [.Tuple [.Name x px, .Name y py, .Name z pz] kt pt] (.Tuple [a, b, d] k2 pt2) X.env = pure (some [x, y, z]) := by
  simp only [par3B, Bool.and_eq_true, decide_eq_true_eq, Bool.not_eq_true'] at h
  obtain ⟨⟨⟨⟨⟨⟨⟨⟨⟨⟨⟨⟨h1, h2⟩, h3⟩, h4⟩, h5⟩, h6⟩, h7⟩, h8⟩, h9⟩, h10⟩, h11⟩, h12⟩, h13⟩ := h
  have bk : X.env.blockKind = .function := by unfold Env.blockKind; rw [g.knd]; rfl
  have e1 := g.toGood.isLocK h1
  have e2 := g.toGood.isLocK h2
  have e3 := g.toGood.isLocK h3
  have hxy : (y == x) = false := beq_eq_false_iff_ne.mpr (Ne.symm h6)
  have hxz : (z == x) = false := beq_eq_false_iff_ne.mpr (Ne.symm h7)
  have hyz : (z == y) = false := beq_eq_false_iff_ne.mpr (Ne.symm h8)
  unfold swappedStores
  simp only [bk, e1, e2, e3, h4, h5, h12, h13, Expr.pos, List.head?, List.filterMap, Option.map, Option.getD, List.length, BEq.rfl, Bool.and_self, if_true, List.eraseDups, List.eraseDupsBy, List.eraseDupsBy.loop, hxy, hxz, hyz, List.any]
  refine Eq.trans (if_neg (by decide)) (Eq.trans (if_neg ?_) rfl)
  simp only [Bool.or_eq_true]
  rintro (h | h | h | h)
  · cases a <;> first | (simp [pl] at hp; done) | cases h
  · cases b <;> first | (simp [pl] at hq; done) | cases h
  · cases d <;> first | (simp [pl] at hr; done) | cases h
  · cases h
theorem swN (g : GoodS G M cl n X W c) {x y : Str} {px py pt : Pos} {a b : Expr} {kt k2 : Nat} {pt2 : Pos} (h : parNB c [.Name x px, .Name y py] [a, b] = true) :
    swappedStores [.Tuple [.Name x px, .Name y py] kt pt] (.Tuple [a, b] k2 pt2) X.env = pure none := by
  simp only [parNB, Bool.or_eq_true, Bool.not_eq_true'] at h
  unfold swappedStores
  rcases h with (h | h) | h
  · have e1 := g.toGood.notLoc h
    simp only [e1, Bool.false_and, List.filterMap]
    split <;> (repeat' split) <;> first | rfl | simp_all
  · have e1 := g.toGood.notLoc h
    simp only [e1, Bool.false_and, List.filterMap]
    split <;> (repeat' split) <;> first | rfl | simp_all
  · simp only [h]
    split <;> (repeat' split) <;> first | rfl | simp_all
end
end Alb
set_option Elab.async false
set_option linter.all false
set_option maxRecDepth 100000
set_option maxHeartbeats 4000000
/-! Every statement is sound. -/
namespace Alb
open PySem PySem.Spec PyProof.Rows L2
section
variable {G : Sg} {M : Nm} {cl : Cl} {n : Nat}
theorem GoodS.tr {X : Cx} {W W' : WX} {c : Sc} (g : GoodS G M cl n X W c) {pn : List (Addr × Obj)} {xe : Value → Shared → Prop} (tk : L2N.Takes (X.tr pn xe) W') (po : PassesOwn (model X.prog X.w) X.A X.env xe) : GoodS G M cl n (X.tr pn xe) W' c :=
  { hK := g.hK, hN := g.hN, hsc := g.hsc, hfb := g.hfb, nd := g.nd, calm := g.calm, tk := tk, room := g.room, fns := g.fns, nms := g.nms, glb := g.glb, blt := g.blt, po := po, exc := g.exc, stk := g.stk, frm := g.frm, knd := g.knd,
    wh := fun h => ⟨(g.wh h).ca, (g.wh h).ae, (g.wh h).fn⟩ }
theorem asg_index {o i : Expr} {pos : Pos} {env : PySem.Env} (h : pl i = true) : ∀ v, assign (.Subscript o i pos) env v = (do
      let ov ← holding [v] (eval o env)
      let iv ← holding [v, ov] (eval i env)
      standAt pos
      holding [v, ov, iv] (setItem ov iv v)
      release [v, ov, iv] []) := by
  intro v
  cases i <;> first | rfl | (simp [pl] at h)
theorem aug_index {i : Expr} (h : pl i = true) : ∀ ov iv new, augStore i ov iv new = (do holding [new, ov, iv] (setItem ov iv new); release [new, ov, iv] []; pure .next) := by
  intro ov iv new
  cases i <;> first | rfl | (simp [pl] at h)
theorem sws_any {tg e : Expr} {env : PySem.Env} (h : isTup tg = false ∨ isTup e = false) (hl : ∀ es p, tg ≠ .List es p) : swappedStores [tg] e env = pure none := by
  unfold swappedStores
  rcases h with h | h
  · cases tg <;> first | rfl | (simp [isTup] at h; done) | exact absurd rfl (hl _ _)
  · cases tg <;> first | rfl | exact absurd rfl (hl _ _) | (cases e <;> first | rfl | (simp [isTup] at h; done))
theorem pr_aug {X : Cx} {o : BOp} {op : Operator} (h : augX o = some op) : PIp X op (PAg G (augD o)) := by
  cases o <;> simp [augX] at h <;> subst h
  · exact pr_iadd
  · exact pr_isub
/-- the handler's suite -/
def wTs (G : Sg) (i : Nat) (a : Addr) (cls : Value) (d : Option Addr) : TS := fun D σ H => ∃ k C, k < 10 ∧ G.ca k = some C ∧ cls = .ref C ∧ d = none ∧ σ[i]? = some (some (.ref a)) ∧
  ∀ H' q, Same H H' → H' q = some (.tup [.str raised, .int (k : Nat)]) → D.rt (.ref q) H'
mutual
theorem sS : ∀ (s : S) (x : Stmt) (X : Cx) (W : WX) (c : Sc), mS M c s x = true → GoodS G M cl n X W c → PS X x (RS G W cl s)
  | .asg i e, x, X, W, c, h, g => by
    simp only [mS] at h
    split at h
    · rename_i y py v pos
      simp only [Bool.and_eq_true] at h
      obtain ⟨⟨h1, h2⟩, h3⟩ := h
      have nd : X.N.Nodup := by rw [g.hN]; exact g.nd
      have h1' := h1
      simp only [nmG, Bool.and_eq_true, decide_eq_true_eq, Bool.or_eq_true] at h1'
      have hi : X.N[i]? = some y := by rw [g.hN]; exact h1'.1.1
      have hf : X.fn y = true ∨ X.env.scope.names.lookup y = some .local := by
        rcases h1'.2 with z | z
        · left
          rw [g.hfb]
          exact z
        · exact .inr (g.toGood.isLoc z)
      by_cases hl : isLc v = true
      · cases v with
        | ListComp elt gs scope lp =>
          simp only [lcOk, Bool.or_eq_true, Bool.and_eq_true, Bool.not_eq_true'] at h2
          rcases h2 with ⟨⟨z1, z2⟩, z3⟩ | z
          · have hyl := g.toGood.isLoc z1
            have hsw : swapsWith (.ListComp elt gs scope lp) (some (.Name y py)) pos.line X.env = pure true := sw_true g.knd hyl z2 z3
            cases e with
            | lc own t k es cd e =>
              rw [mt_lc] at h3
              split at h3
              · rename_i elt' tg iter ifs scope' pos' heq
                cases heq
                simp only [Bool.and_eq_true, decide_eq_true_eq] at h3
                obtain ⟨⟨⟨⟨⟨⟨k1, k2⟩, k3⟩, k4⟩, k5⟩, k6⟩, k7⟩ := h3
                obtain ⟨hit, hft⟩ := i_any g.toGood k3 (fun as hm => sA es as X W c hm g.toGood) (fun e1 y he hm => by
                  subst he
                  exact (sE e1 y X W c hm g.toGood).1)
                have hown : ∀ i ∈ t.ix, i ∈ own := fun i hi => by
                  have := List.all_eq_true.mp k5 i hi
                  simpa using this
                have ps := ps_setLc (i := i) (own := ownOf c.N own) (g := gT X.K t) (tt := RC G cl cd) (te := RE G W0 cl e) g.calm nd hi hyl hsw hit (by rw [g.hN, g.hsc]; exact blkOk_by k1)
                  (fun s H C cs fp => g_tg (g.toGood.blk s H C cs fp) k4) (fun s H C cs fp => sC cd ifs _ _ k6 (g.toGood.blk s H C cs fp)) (fun s H C cs fp => (sE e elt _ _ _ k7 (g.toGood.blk s H C cs fp)).1) hft
                rw [k2] at ps
                exact psI ps fun D σ H q => lc_imp g.hK hown _ _ _ (asg_imp _ _ _ q)
              · cases h3
            | _ => simp [mt] at h3
          · exact psI (ps_set nd hi (g.toGood.loc h1'.1.2) (sE e _ X W c h3 g.toGood).1 (sw_lcN (g.toGood.notLoc z)) hf) asg_imp
        | SetComp => simp [lcOk] at h2
        | DictComp => simp [lcOk] at h2
        | _ => simp [isLc] at hl
      · exact psI (ps_set nd hi (g.toGood.loc h1'.1.2) (sE e _ X W c h3 g.toGood).1 (sw_nolc (by simpa using hl)) hf) asg_imp
    · cases h
  | .unp is e, x, X, W, c, h, g => by
    simp only [mS] at h
    split at h
    · simp only [Bool.and_eq_true, Bool.not_eq_true'] at h
      obtain ⟨⟨⟨h1, h2⟩, h3⟩, h4⟩ := h
      obtain ⟨k1, k2, k3⟩ := g_nms g.toGood h1
      exact psI (ps_asg (sE e _ X W c h4 g.toGood).1 (pg_tup g.calm k1 k2 k3) (by unfold swapsWithSole; exact sw_nolc h3) (sws_any (.inr h2) (fun _ _ z => by cases z)) rfl) fun D σ H q => by
        rw [g.hK]
        exact unp_imp D σ H q
    · cases h
  | .par is es, x, X, W, c, h, g => by
    simp only [mS] at h
    split at h
    · rename_i ts k1 p1 xs k2 p2 pos
      simp only [Bool.and_eq_true, decide_eq_true_eq] at h
      obtain ⟨⟨⟨h1, h2⟩, h3⟩, h4⟩ := h
      have hA := sA es xs X W c h2 g.toGood
      have hpl := mts_pl h2
      have nd : X.N.Nodup := by rw [g.hN]; exact g.nd
      have lenE : ∀ r h ds h', evs cl es r h = .ok ds h' → ds.length ≤ 1000 := fun r h ds h' e => by
        rw [evs_len es xs c r h ds h' h2 e]
        exact h3
      split at h4
      · rename_i i j
        simp only [Bool.or_eq_true] at h4
        rcases h4 with h4 | h4
        · have h4' := h4
          unfold par2B at h4'
          split at h4'
          · rename_i x px y py a b
            simp only [Bool.and_eq_true, decide_eq_true_eq] at h4'
            simp only [nmGs, nmG, Bool.and_eq_true, decide_eq_true_eq, Bool.and_true] at h1
            simp only [List.all_cons, List.all_nil, Bool.and_true, Bool.and_eq_true] at hpl
            refine psI (ps_par (i := i) (j := j) g.calm nd (by rw [g.hN]; exact h1.1.1.1) (by rw [g.hN]; exact h1.2.1.1) h4'.1.1.2 (g.toGood.isLoc h4'.1.1.1.1.1.1) (g.toGood.isLoc h4'.1.1.1.1.1.2) hA (sw2 g h4 hpl.1 hpl.2) rfl) fun D σ H q => ?_
            exact par_imp (Q := fun vs σ H1 => ∃ v w, vs = [v, w] ∧ D.nx ((σ.set i (some v)).set j (some w)) H1) (fun vs H1 hl q => by
              match vs, hl with
              | [v, w], _ => exact ⟨v, w, rfl, q⟩) q
          · cases h4'
        · have h4' := h4
          unfold parNB at h4'
          split at h4'
          · obtain ⟨k1, k2, k3⟩ := g_nms g.toGood h1
            exact psI (ps_asg (pe_tup hA) (pg_tup g.calm k1 k2 k3) rfl (swN g h4) rfl) fun D σ H q => by
              rw [g.hK]
              exact parN_imp lenE D σ H q
          · cases h4'
      · rename_i i j l
        have h4' := h4
        unfold par3B at h4'
        split at h4'
        · rename_i x px y py z pz a b d
          simp only [Bool.and_eq_true, decide_eq_true_eq] at h4'
          simp only [nmGs, nmG, Bool.and_eq_true, decide_eq_true_eq, Bool.and_true] at h1
          simp only [List.all_cons, List.all_nil, Bool.and_true, Bool.and_eq_true] at hpl
          obtain ⟨⟨⟨⟨⟨⟨⟨⟨⟨⟨⟨⟨z1, z2⟩, z3⟩, z4⟩, z5⟩, z6⟩, z7⟩, z8⟩, z9⟩, z10⟩, z11⟩, z12⟩, z13⟩ := h4'
          refine psI (ps_par3 (i := i) (j := j) (l := l) g.calm nd (by rw [g.hN]; exact h1.1.1.1) (by rw [g.hN]; exact h1.2.1.1.1) (by rw [g.hN]; exact h1.2.2.1.1) z9 z10 z11 (g.toGood.isLoc z1) (g.toGood.isLoc z2) (g.toGood.isLoc z3) hA (sw3 g h4 hpl.1 hpl.2.1 hpl.2.2) rfl) fun D σ H q => ?_
          exact par_imp (Q := fun vs σ H1 => ∃ u v w, vs = [u, v, w] ∧ D.nx (((σ.set i (some u)).set j (some v)).set l (some w)) H1) (fun vs H1 hl q => by
            match vs, hl with
            | [u, v, w], _ => exact ⟨u, v, w, rfl, q⟩) q
        · cases h4'
      · cases h4
    · cases h
  | .sto o i e, x, X, W, c, h, g => by
    simp only [mS] at h
    split at h
    · rename_i a b p v pos
      simp only [Bool.and_eq_true] at h
      obtain ⟨⟨⟨h1, h2⟩, h3⟩, h4⟩ := h
      refine psI (ps_asg (sE e _ X W c h4 g.toGood).1 (pg_sub (sE o _ X W c h2 g.toGood).1 (sE i _ X W c h3 g.toGood).1 pr_sto (asg_index h1)) ?_ (sws_any (.inl rfl) (fun _ _ z => by cases z)) rfl) sto_imp
      cases v <;> rfl
    · cases h
  | .sto2 .., x, X, W, c, h, g => by simp [mS] at h
  | .dput .., x, X, W, c, h, g => by simp [mS] at h
  | .aug i o e, x, X, W, c, h, g => by
    simp only [mS] at h
    split at h
    · simp only [Bool.and_eq_true, decide_eq_true_eq] at h
      obtain ⟨⟨h1, h2⟩, h3⟩ := h
      simp only [nmG, Bool.and_eq_true, decide_eq_true_eq, Bool.or_eq_true] at h1
      refine psI (ps_aug (by rw [g.hN]; exact g.nd) (by rw [g.hN]; exact h1.1.1) (g.toGood.loc h1.1.2) (sE e _ X W c h3 g.toGood).1 (pr_aug h2) ?_) aug_imp
      rcases h1.2 with z | z
      · left
        rw [g.hfb]
        exact z
      · exact .inr (g.toGood.isLoc z)
    · cases h
  | .aus a i o e, x, X, W, c, h, g => by
    simp only [mS] at h
    split at h
    · simp only [Bool.and_eq_true, decide_eq_true_eq] at h
      obtain ⟨⟨⟨⟨h1, h2⟩, h3⟩, h4⟩, h5⟩ := h
      exact psI (ps_augS (sE a _ X W c h3 g.toGood).1 (sE i _ X W c h4 g.toGood).1 pr_get (sE e _ X W c h5 g.toGood).1 (pr_aug h2) pr_sto (aug_index h1)) aus_imp
    · cases h
  | .exp e, x, X, W, c, h, g => by
    simp only [mS] at h
    split at h
    · simp only [Bool.and_eq_true, Bool.not_eq_true'] at h
      exact psI (ps_expr (sE e _ X W c h.2 g.toGood).1 (sw_nolc h.1)) exp_imp
    · cases h
  | .ret e, x, X, W, c, h, g => by
    simp only [mS] at h
    split at h
    · exact psI (ps_ret (sE e _ X W c h g.toGood).1) ret_imp
    · cases h
  | .ife t a b, x, X, W, c, h, g => by
    simp only [mS] at h
    split at h
    · simp only [Bool.and_eq_true] at h
      obtain ⟨⟨⟨h1, h2⟩, h3⟩, h4⟩ := h
      exact psI (ps_if ((sE t _ X W c h2 g.toGood).2 h1) (sSs a _ X W c h3 g) (sSs b _ X W c h4 g)) ife_imp
    · cases h
  | .for t k es b, x, X, W, c, h, g => by
    simp only [mS] at h
    split at h
    · simp only [Bool.and_eq_true] at h
      obtain ⟨⟨h1, h2⟩, h3⟩ := h
      obtain ⟨hi, hf⟩ := i_any g.toGood h1 (fun as hm => sA es as X W c hm g.toGood) (fun e1 y he hm => by
        subst he
        exact (sE e1 y X W c hm g.toGood).1)
      exact psI (ps_for g.po g.calm hi (g_tg g.toGood h2) (sSs b _ X W c h3 g) hf) (for_imp g.hK)
    · cases h
  | .whi t b, x, X, W, c, h, g => by
    simp only [mS] at h
    split at h
    · simp only [Bool.and_eq_true] at h
      obtain ⟨⟨h1, h2⟩, h3⟩ := h
      exact psI (ps_while g.po ((sE t _ X W c h2 g.toGood).2 h1) (sSs b _ X W c h3 g)) whi_imp
    · cases h
  | .rai k, x, X, W, c, h, g => by
    simp only [mS] at h
    split at h
    · simp only [Bool.and_eq_true, decide_eq_true_eq] at h
      obtain ⟨C, e1, e2, e3, e4, e5, e6⟩ := g.exc k _ h.1.1
      exact psI (L2N.ps_raise g.calm g.tk (L2N.pmk_own PySem.F.excBase_ValueError e3 e2 e4 (raises_own e5 e6) (g.toGood.gl h.1.2) (okN_of h.2).1)) fun D σ H ⟨Hid, φ, h, r, S, E, o⟩ => by
        obtain ⟨C', hC, z⟩ := o
        rw [e1] at hC
        cases hC
        exact z φ H σ rfl (List.prefix_refl _) S (Ext.refl _)
    · cases h
  | .tryw i b, x, X, W, c, h, g => by
    simp only [mS] at h
    split at h
    · rename_i body ae p1 nm wh p2 nm2 p3 p4 p5 p6 p7
      simp only [Bool.and_eq_true, decide_eq_true_eq] at h
      obtain ⟨⟨⟨⟨⟨⟨⟨⟨⟨tw, rfl⟩, h2⟩, rfl⟩, h4⟩, rfl⟩, h6⟩, h7⟩, h8⟩, h9⟩ := h
      obtain ⟨B, hB, exm⟩ := (g.wh tw).ae
      obtain ⟨f, fd, w1, w2, w3, w4⟩ := (g.wh tw).fn
      have hln := g.toGood.isLoc h7
      have hi : X.N[i]? = some nm2 := by rw [g.hN]; exact h6
      refine psI (L2N.ps_try_as (c := .ref B) (i := i) (tb := fun W => RSs G W cl b) (ts := wTs G i) g.stk g.frm (by rw [g.hN]; exact g.nd) hi hln ⟨g.toGood.gl h2, by decide, .inl hB⟩ g.tk (fun W' pn xe tk po => sSs b _ _ W' c h9 (g.tr tk po)) (fun a oe cls d pn hz hd => ?_)) ?_
      · have ha : PE (X.suite a ((a, oe) :: pn)) (.Name nm2 p3) (tVar i) := pe_var hi (.inl hln) (okN_of h8).1 (okN_of h8).2.1
        refine pssI (pss_one (ps_ret (pe_callW (X := X.suite a ((a, oe) :: pn)) (p := (a, oe)) w4 List.mem_cons_self ⟨g.room.dp, g.room.un⟩ (g.toGood.gl h4) w1 w2 w3 ha (by decide) rfl))) ?_
        intro D σ H ⟨k, C, hk, hC, e1, e2, e3, fin⟩
        subst e1 e2
        exact ⟨_, e3, k, C, hk, hC, rfl, hz, hd, fin⟩
      · intro D σ H ⟨Hid, φ, h, r, S, E, o⟩
        refine ⟨Hid, φ, h, r, S, E, ?_⟩
        simp only [ex] at o
        cases er : exs cl b r h with
        | nx r1 h1 =>
          rw [er] at o
          exact o
        | rt d h1 =>
          rw [er] at o
          exact o
        | bad =>
          rw [er] at o
          exact o
        | ex k h1 =>
          rw [er] at o
          simp only at o
          split at o
          · rename_i hk
            obtain ⟨hk, hir⟩ := hk
            obtain ⟨C, hC⟩ := (g.wh tw).ca k hk
            refine ⟨C, hC, fun φ' H' σ' l p S' e' => ⟨true, exm k C hC, fun _ a ha => ?_, fun z => by cases z⟩⟩
            have hil : i < σ'.length := by
              rw [l, ← E.len]
              exact hir
            refine ⟨k, C, hk, hC, rfl, rfl, by rw [List.getElem?_set_self hil], fun H2 q sm hq => ?_⟩
            have ex := same_ext sm
            exact o φ' H2 _ p (S'.same sm) (.tup (.inl (.inl hq)) (.cons (.str _) (.cons (.int _) .nil))) (e'.trans ex)
          · exact o.elim
    · cases h
  | .fst .., x, X, W, c, h, g => by simp [mS] at h
theorem sSs : ∀ (s : Ss) (xs : List Stmt) (X : Cx) (W : WX) (c : Sc), mSs M c s xs = true → GoodS G M cl n X W c → PSs X xs (RSs G W cl s)
  | .nil, [], X, W, c, h, g => pssI pss_nil fun D σ H ⟨Hid, φ, h, r, S, E, o⟩ => o φ H σ (List.prefix_refl _) S E (Ext.refl _)
  | .nil, _ :: _, X, W, c, h, g => by simp [mSs] at h
  | .cons s ss, [], X, W, c, h, g => by simp [mSs] at h
  | .cons s ss, x :: r, X, W, c, h, g => by
    simp only [mSs, Bool.and_eq_true] at h
    refine pssI (pss_cons (sS s x X W c h.1 g) (sSs ss r X W c h.2 g)) fun D σ H ⟨Hid, φ, h, r, S, E, o⟩ => ?_
    refine ⟨Hid, φ, h, r, S, E, SOut.seq (f := fun r h => exs cl ss r h) o (fun r' h' φ' H' σ' p' S' E' e' _ o' => ⟨Hid, φ', h', r', S', E', o'⟩) fun r' h' e => ?_⟩
    rw [ex_len s _ _ _ _ e, E.len]
end
end
end Alb
set_option Elab.async false
set_option linter.all false
set_option maxRecDepth 100000
set_option maxHeartbeats 4000000
/-! Defs: a def answers as the evaluator. -/
namespace Alb
open PySem PySem.Spec PyProof.Rows L2

section
variable {G : Sg} {φ : List Addr} {Hid : Hd} {h : Hh} {H : Hp}
theorem start_env {N : List Str} {ds : List D} {vs : List V} (r : Reps G φ H ds vs) : EnvR G φ H (stEnv N.length ds) (L2.start N vs) := by
  refine ⟨by simp [stEnv, L2.start, r.length], fun i d e => ?_⟩
  unfold stEnv at e
  by_cases hi : i < ds.length
  · rw [List.getElem?_append_left (by simpa using hi), List.getElem?_map] at e
    cases q : ds[i]? with
    | none =>
      rw [q] at e
      cases e
    | some d' =>
      rw [q] at e
      cases e
      obtain ⟨v, h1, h2⟩ := r.get q
      refine ⟨v, ?_, h2⟩
      unfold L2.start
      rw [List.getElem?_append_left (by rw [List.length_map, ← r.length]; exact hi), List.getElem?_map, h1]
      rfl
  · rw [List.getElem?_append_right (by simpa using hi), List.getElem?_replicate] at e
    split at e <;> cases e

/-! ### a def of its own store -/
/-- the lists that are handed over: their addresses -/
structure Imp (G : Sg) (φ : List Addr) (h : Hh) (H : Hp) (ds : List D) (vs : List V) (ps : List ArgP) (k : Nat) (φ0 : List Addr) : Prop where
  len : φ0.length = cntA ps
  reps : ∀ pre : List Addr, pre.length = k → Reps G (pre ++ φ0) H (layA ps k).1 vs
  obj : ∀ i o, getL i (layA ps k).2 = some o → ∃ a xs ws, k ≤ i ∧ φ0[i - k]? = some a ∧ o = .ro xs ∧ H a = some (.lst ws) ∧ pureL xs = true ∧ Reps G φ H xs ws
  from_ : ∀ a, a ∈ φ0 → ∃ m o, m ∈ locsOf ds ∧ h.get m = some o ∧ φ[m]? = some a
  nd : φ0.Nodup
theorem imp_ok (S : ST G φ Hid h H) : ∀ (ds : List D) (vs : List V) (ps : List ArgP) (k : Nat), Reps G φ H ds vs → impD ds h = some ps → ∃ φ0, Imp G φ h H ds vs ps k φ0
  | [], vs, ps, k, r, e => by
    cases r
    cases e
    exact ⟨[], rfl, fun pre _ => .nil, fun i o z => by simp [layA, getL] at z, fun a z => by simp at z, List.nodup_nil⟩
  | d :: ds, vs, ps, k, r, e => by
    cases r with
    | @cons _ v _ vs' rd rt =>
    have val : ∀ ps', impD ds h = some ps' → d.pure = true → ps = .val d :: ps' → locsOf (d :: ds) = locsOf ds → ∃ φ0, Imp G φ h H (d :: ds) (v :: vs') ps k φ0 := by
      intro ps' e1 hp e2 hl
      subst e2
      obtain ⟨φ0, h1, h2, h3, h4, h5⟩ := imp_ok S ds vs' ps' k rt e1
      exact ⟨φ0, h1, fun pre hpre => .cons (Rep.pure hp rd) (h2 pre hpre), h3, fun a ha => by rw [hl]; exact h4 a ha, h5⟩
    cases d with
    | loc a =>
      simp only [impD] at e
      split at e
      · cases e
      · rename_i hna
        have go : ∀ xs ps', (h.get a = some (.lst xs) ∨ h.get a = some (.ro xs)) → impD ds h = some ps' → pureL xs = true → ps = .lst xs :: ps' → ∃ φ0, Imp G φ h H (.loc a :: ds) (v :: vs') ps k φ0 := by
          intro xs ps' g e1 hp e2
          subst e2
          have key : ∃ p ws, v = .ref p ∧ φ[a]? = some p ∧ H p = some (.lst ws) ∧ Reps G φ H xs ws ∧ ∃ o, h.get a = some o := by
            rcases g with g | g
            · obtain ⟨p, ws, q1, q2, q3, q4⟩ := lst_of S g rd
              exact ⟨p, ws, q1, q2, q3, q4, _, g⟩
            · obtain ⟨p, ws, q1, q2, q3, q4⟩ := ro_of S g rd
              exact ⟨p, ws, q1, q2, q3, q4, _, g⟩
          obtain ⟨p, ws, rfl, q2, q3, q4, o0, q5⟩ := key
          obtain ⟨φ0, h1, h2, h3, h4, h5⟩ := imp_ok S ds vs' ps' (k + 1) rt e1
          refine ⟨p :: φ0, by simp [cntA, h1], fun pre hpre => ?_, fun i o z => ?_, fun b hb => ?_, ?_⟩
          · refine .cons (.loc ?_) ?_
            · rw [← hpre, List.getElem?_append_right (Nat.le_refl _)]
              simp
            · have := h2 (pre ++ [p]) (by simp [hpre])
              rw [List.append_assoc] at this
              exact this
          · simp only [layA, getL] at z
            split at z
            · rename_i ei
              subst ei
              cases z
              exact ⟨p, xs, ws, Nat.le_refl _, by simp, rfl, q3, hp, q4⟩
            · obtain ⟨b, ys, us, k1, k2, k3⟩ := h3 i o z
              refine ⟨b, ys, us, by omega, ?_, k3⟩
              have : i - k = (i - (k + 1)) + 1 := by omega
              rw [this, List.getElem?_cons_succ]
              exact k2
          · rcases List.mem_cons.mp hb with rfl | hb
            · exact ⟨a, o0, by simp [locsOf], q5, q2⟩
            · obtain ⟨m, o, m1, m2, m3⟩ := h4 b hb
              exact ⟨m, o, by simp [locsOf, m1], m2, m3⟩
          · refine List.nodup_cons.mpr ⟨fun hb => ?_, h5⟩
            obtain ⟨m, o, m1, m2, m3⟩ := h4 p hb
            have := S.inj a m p _ _ q5 m2 q2 m3
            subst this
            exact hna m1
        split at e
        · rename_i xs ps' g1 g2
          split at e
          · cases e
            exact go xs ps' (.inl g1) g2 (by assumption) rfl
          · cases e
        · rename_i xs ps' g1 g2
          split at e
          · cases e
            exact go xs ps' (.inr g1) g2 (by assumption) rfl
          · cases e
        · cases e
    | _ =>
      simp only [impD] at e
      split at e
      · rename_i ps' e1
        split at e
        · cases e
          exact val ps' e1 (by assumption) rfl rfl
        · cases e
      · cases e
theorem imp_st {ds : List D} {vs : List V} {ps : List ArgP} {φ0 : List Addr} (S : ST G φ Hid h H) (I : Imp G φ h H ds vs ps 0 φ0) : ST G φ0 (Hd.of H) ⟨cntA ps, (layA ps 0).2⟩ H := by
  refine ⟨I.len, fun i o g => ?_, fun i j a o u _ _ e1 e2 => ?_, fun a o z => z, fun a u i o _ g e1 => ?_, fun a i o z => z.elim⟩
  · obtain ⟨a, xs, ws, _, k2, rfl, k3, k4, k5⟩ := I.obj i o g
    exact ⟨a, k2, ws, k3, Reps.pure k4 k5⟩
  · have hi := (List.getElem?_eq_some_iff.mp e1).1
    exact (List.getElem?_inj hi I.nd).mp (e1.trans e2.symm)
  · obtain ⟨a, xs, ws, _, _, rfl, _⟩ := I.obj i o g
    rfl
theorem ST.addHide {H2 : Hp} {p : Addr} {u : HO} (s : ST G φ Hid h H) (sm : Same H H2) (hp : H p = none) (hu : H2 p = some u) : ST G φ (Hid.hide p u) h H2 := by
  have s2 := s.same sm
  have nf : ∀ i o, h.get i = some o → φ[i]? ≠ some p := fun i o g => s.nofresh hp g
  refine ⟨s2.len, s2.live, s2.inj, fun a o z => ?_, fun a w i o z g e1 => ?_, fun a i o z g e1 => ?_⟩
  · by_cases e : a = p
    · subst e
      have z : upd Hid.m a u a = some o := z
      rw [upd_same] at z
      cases z
      exact hu
    · have z : upd Hid.m p u a = some o := z
      rw [upd_ne e] at z
      exact s2.hid a o z
  · by_cases e : a = p
    · subst e
      exact absurd e1 (nf i o g)
    · have z : upd Hid.m p u a = some w := z
      rw [upd_ne e] at z
      exact s2.apart a w i o z g e1
  · rcases z with rfl | z
    · exact nf i o g e1
    · exact s2.ban a i o z g e1
end

/-! ### the defs of a row -/
structure DI where
  x : Str
  st : Stmt
  ps : List Str
  N : List Str
structure PrgOk (P : Program) (w : World) (K : PySem.W.Frag) (mg : Str → Option Value) (base : Heap) (G : Sg) (M : Nm) (T : Tab) (DL : Nat → Option DI) : Prop where
  hK : K = G.K
  fa : ∀ f a, G.fa f = some a → ∃ di fd, DL f = some di ∧ Fun K di.x di.x di.st a fd ∧ Binds K fd di.ps []
  fn : ∀ f x, M.fn f = some x → ∃ a, G.fa f = some a ∧ mg x = some (.ref a)
  tab : ∀ f di, DL f = some di → ∃ fd, T.fd f = some fd ∧ fd.np = di.ps.length ∧ fd.ns = di.N.length ∧ FnScope di.N di.ps (defScope di.st) ∧ mSs M ⟨di.N, defScope di.st, fun _ => true⟩ fd.body (defBody di.st) = true
  glb : ∀ g x d, M.g g = some x → T.g g = some d → ∃ u v, mg x = some u ∧ RelV v u ∧ ∀ φ H, Rep G φ H d v
  blt : ∀ x ∈ bltNames, mg (Str.ofString x) = none
  exc : ∀ k x, M.cls k = some x → ∃ C, G.ca k = some C ∧ mg x = some (.ref C) ∧ PySem.W.excIn K C [.type "ValueError", .type "Exception", .type "BaseException", .type "object"] "ValueError.__new__" = true ∧ PySem.W.keepIn K (.ref C) = true ∧ PySem.W.subIn K (.ref C) (.type "BaseException") = some true ∧ PySem.W.typeIn K (.ref C) = some (.type "type")
  wh : M.tw = true → (∀ k, k < 10 → ∃ C, G.ca k = some C) ∧ (∃ B, mg ("AlbumError" : Str) = some (.ref B) ∧ ∀ k C, G.ca k = some C → PySem.W.exmOne K (.ref C) (.ref B) = some true) ∧
    ∃ f fd, mg ("_law_which" : Str) = some (.ref f) ∧ PySem.W.keepIn K (.ref f) = true ∧ Binds K fd [("e" : Str)] [] ∧ FnW P w K mg base 1 f fd [("e" : Str)] (SpW G)
theorem FnW.mono {P : Program} {w : World} {K : PySem.W.Frag} {mg : Str → Option Value} {base : Heap} {j k : Nat} {f : Addr} {fd : FuncData} {ps : List Str} {sp : Addr × Obj → Sp} (F : FnW P w K mg base j f fd ps sp) (h : j ≤ k) : FnW P w K mg base k f fd ps sp :=
  ⟨F.len, fun A outer s H args us vs Q E p hr => F.run A outer s H args us vs Q E p (hr.mono h)⟩
section
variable {P : Program} {w : World} {K : PySem.W.Frag} {mg : Str → Option Value} {base : Heap} {G : Sg} {M : Nm} {T : Tab} {DL : Nat → Option DI}
theorem clg : ∀ n, (clOf T n).g = T.g
  | 0 => rfl
  | _ + 1 => rfl
theorem clf (n f : Nat) (ds : List D) (h : Hh) : (clOf T (n + 1)).f f ds h = (match T.fd f with
      | some fd => if fd.own then (match impD ds h with
          | some ps => (runP (clOf T n) fd ps).r h
          | none => .bad) else runG (clOf T n) fd ds h
      | none => .bad) := rfl
theorem fns_one (p : PrgOk P w K mg base G M T DL) : ∀ n f a di fd, DL f = some di → Fun K di.x di.x di.st a fd → FnOk P w K mg base (L2N.CX P w) (n + 1) a fd di.ps (SpF G (clOf T n) f)
  | 0, f, a, di, fd, _, F => by
    have no : ∀ vs H Q E, SpF G (clOf T 0) f vs H Q E → False := fun vs H Q E ⟨_, _, _, _, _, _, o⟩ => o
    exact ⟨fun vs H Q E z => (no vs H Q E z).elim, fun A outer s H args us vs Q E _ _ _ _ z => (no vs H Q E z).elim⟩
  | n + 1, f, a, di, fd, e1, F => by
    obtain ⟨fdE, e2, e3, e4, SC, e5⟩ := p.tab f di e1
    obtain ⟨oc, od, kV, doc, pm, an, cdv, ct, osl, rfl, lk, hcd⟩ := F.ex
    have args : ∀ vs H Q E, SpF G (clOf T (n + 1)) f vs H Q E → vs.length = di.ps.length := by
      intro vs H Q E ⟨Hid, φ, h, ds, S, r, o⟩
      rw [clf, e2] at o
      simp only at o
      rw [← r.length, ← e3]
      split at o
      · split at o
        · rename_i ps ei
          unfold runP at o
          have hl : ∀ (ds : List D) (ps : List ArgP), impD ds h = some ps → ps.length = ds.length := by
            intro ds
            induction ds with
            | nil =>
              intro ps z
              cases z
              rfl
            | cons d ds ih =>
              intro ps z
              cases d with
              | loc a =>
                simp only [impD] at z
                split at z
                · cases z
                · split at z
                  · split at z
                    · cases z
                      simp [ih _ (by assumption)]
                    · cases z
                  · split at z
                    · cases z
                      simp [ih _ (by assumption)]
                    · cases z
                  · cases z
              | _ =>
                simp only [impD] at z
                split at z
                · split at z
                  · cases z
                    simp [ih _ (by assumption)]
                  · cases z
                · cases z
          split at o
          · rename_i q
            rw [← hl ds ps ei]
            exact q
          · exact o.elim
        · exact o.elim
      · unfold runG at o
        split at o
        · assumption
        · exact o.elim
    refine fn_of lk hcd SC args fun A outer s H vs Q E hr hsp => ?_
    have hlen := args vs H Q E hsp
    let X : Cx := cxOf (L2N.CX P w) P w K mg base di.N di.x (defScope di.st) a cdv A outer s H E
    have gd : GoodS G M (clOf T n) (n + 1) X (fun cls d _ H' => E cls d H') ⟨di.N, defScope di.st, fun _ => true⟩ :=
      { hK := p.hK, hN := rfl, hsc := rfl, hfb := rfl, nd := SC.nd, calm := rfl, tk := L2N.takes_of rfl rfl rfl rfl, room := hr,
        fns := fun f' a' e' => by
          obtain ⟨di', fd', q1, q2, q3⟩ := p.fa f' a' e'
          exact ⟨fd', di'.ps, q3, q2.kp, fns_one p n f' a' di' fd' q1 q2⟩,
         nms := p.fn, glb := fun g x d h1 h2 => p.glb g x d h1 (by rw [← clg (T := T) n]; exact h2), blt := p.blt, po := passes_of rfl, exc := p.exc, stk := rfl, frm := rfl, knd := SC.kind,
        wh := fun z => by
          obtain ⟨w1, w2, f', fd', w3, w4, w5, w6⟩ := p.wh z
          exact ⟨w1, w2, f', fd', w3, w4, w5, w6.mono (by omega)⟩ }
    refine ⟨_, sSs fdE.body _ X _ _ e5 gd, ?_⟩
    obtain ⟨Hid, φ, h, ds, S, r, o⟩ := hsp
    rw [clf, e2] at o
    simp only at o
    split at o
    · -- of its own store
      split at o
      · rename_i ps ei
        obtain ⟨φ0, I⟩ := imp_ok S ds vs ps 0 r ei
        have S0 := imp_st S I
        have r0 : Reps G φ0 H (layA ps 0).1 vs := I.reps [] rfl
        refine ⟨Hd.of H, φ0, _, _, S0, by rw [← e4] at *; exact start_env r0, ?_⟩
        unfold runP at o
        split at o
        · have sm : ∀ {φ1 h1 H1}, ST G φ1 (Hd.of H) h1 H1 → Same H H1 := fun S1 b u z => S1.hid b u z
          rw [e4] at o
          cases er : exs (clOf T n) fdE.body (stEnv di.N.length (layA ps 0).1) ⟨cntA ps, (layA ps 0).2⟩ with
          | nx r1 h1 =>
            rw [er] at o
            intro φ1 H1 σ1 p1 S1 E1 x1
            exact o φ H1 .non (List.prefix_refl _) (S.same (sm S1)) .non x1
          | ex c h1 =>
            rw [er] at o
            obtain ⟨C, hC, z⟩ := o
            exact ⟨C, hC, fun φ1 H1 σ1 l p1 S1 x1 => z φ H1 (List.prefix_refl _) (S.same (sm S1)) x1⟩
          | bad =>
            rw [er] at o
            exact o
          | rt d h1 =>
            rw [er] at o
            intro φ1 H1 v p1 S1 rv x1
            have pv : d.pure = true → Out G Hid φ H (fun c d _ H' => E c d H') [] (.ok d h) Q → Q v H1 := fun hp o => o φ H1 v (List.prefix_refl _) (S.same (sm S1)) (Rep.pure hp rv) x1
            cases d with
            | loc b =>
              simp only [expD] at o
              split at o
              · rename_i xs gb
                split at o
                · rename_i hp
                  obtain ⟨q, ws, rfl, q2, q3, q4⟩ := lst_of S1 gb rv
                  have hq : H q = none := by
                    cases z : H q with
                    | none => rfl
                    | some u =>
                      have := S1.apart q u b _ z gb q2
                      cases this
                  have S2 := (S.addHide (sm S1) hq q3).reveal (ds := xs) (by
                    cases z : Hid.m q with
                    | none => rfl
                    | some u =>
                      have := S.hid q u z
                      rw [hq] at this
                      cases this) (Reps.pure hp q4)
                  exact o _ H1 _ (List.prefix_append _ _) S2 S.newRep x1
                · exact o.elim
              · exact o.elim
            | _ =>
              simp only [expD] at o
              split at o
              · exact pv (by assumption) o
              · exact o.elim
        · exact o.elim
      · exact o.elim
    · refine ⟨Hid, φ, h, stEnv di.N.length ds, S, start_env r, ?_⟩
      unfold runG at o
      split at o
      · rw [e4] at o
        cases er : exs (clOf T n) fdE.body (stEnv di.N.length ds) h with
        | nx r1 h1 =>
          rw [er] at o
          exact fun φ1 H1 σ1 p1 S1 E1 x1 => o φ1 H1 .non p1 S1 .non x1
        | rt d h1 =>
          rw [er] at o
          exact o
        | ex c h1 =>
          rw [er] at o
          obtain ⟨C, hC, z⟩ := o
          exact ⟨C, hC, fun φ1 H1 σ1 l p1 S1 x1 => z φ1 H1 p1 S1 x1⟩
        | bad =>
          rw [er] at o
          exact o
      · exact o.elim
end
end Alb
set_option Elab.async false
set_option linter.all false
set_option maxRecDepth 100000
set_option maxHeartbeats 4000000
/-! A row: what is asked of its text and of what the top has written. -/
namespace Alb
open PySem PySem.Spec PyProof.Rows L2

def addrIn (K : PySem.W.Frag) (x : Str) : Option Addr := match PySem.W.nsIn K mainGlobals x with
  | some (some (.ref a)) => some a
  | _ => none
theorem addr_of {K : PySem.W.Frag} {x : Str} {a : Addr} (h : addrIn K x = some a) : PySem.W.nsIn K mainGlobals x = some (some (.ref a)) := by
  unfold addrIn at h
  split at h
  · rename_i b e
    cases h
    exact e
  · cases h
theorem addr_in {K : PySem.W.Frag} {x : Str} {a : Addr} (h : PySem.W.nsIn K mainGlobals x = some (some (.ref a))) : addrIn K x = some a := by
  unfold addrIn
  rw [h]
structure Row where
  dl : List (Nat × DI)
  gl : List (Nat × Str)
  cl : List Nat
  tw : Bool
  wS : Stmt
def Row.nm (R : Row) : Nm := ⟨fun f => (R.dl.lookup f).map (·.x), fun g => R.gl.lookup g, fun k => if R.cl.contains k then some (cnm k) else none, R.tw⟩
def fnmS : Nat → Str
  | 0 => ("stickers" : Str)
  | 1 => ("came" : Str)
  | _ => ("kept" : Str)
def Row.sg (R : Row) (K : PySem.W.Frag) : Sg := { K := K, fa := fun f => (R.nm.fn f).bind (addrIn K), ca := fun k => (R.nm.cls k).bind (addrIn K), C := (addrIn K ("Collector" : Str)).getD 0, fnm := fnmS }

/-! ### what is asked of the text -/
def fsB (N ps : List Str) (sc : Scope) : Bool := decide (sc.kind = .function) && !sc.isCoroutine && !sc.isGenerator && decide N.Nodup && decide (N.take ps.length = ps) && ps.all (locB sc) && sc.names.all fun y => decide (y.2 ≠ .free)
theorem fs_of {N ps : List Str} {sc : Scope} (h : fsB N ps sc = true) : FnScope N ps sc := by
  simp only [fsB, Bool.and_eq_true, decide_eq_true_eq, Bool.not_eq_true', List.all_eq_true] at h
  obtain ⟨⟨⟨⟨⟨⟨h1, h2⟩, h3⟩, h4⟩, h5⟩, h6⟩, h7⟩ := h
  refine ⟨h1, h2, h3, h4, h5, fun x hx => ?_, h7⟩
  have := h6 x hx
  unfold locB at this
  split at this
  · exact .inl (by assumption)
  · exact .inr (by assumption)
  · cases this
def defOk (T : Tab) (M : Nm) (p : Nat × DI) : Bool := match T.fd p.1 with
  | some fd => decide (fd.np = p.2.ps.length) && decide (fd.ns = p.2.N.length) && fsB p.2.N p.2.ps (defScope p.2.st) && mSs M ⟨p.2.N, defScope p.2.st, fun _ => true⟩ fd.body (defBody p.2.st)
  | none => false
def whN : List Str := [("e" : Str), ("own" : Str)]
def whP : List Str := [("e" : Str)]
def whTxt (st : Stmt) : Bool := whichB (defBody st) && fsB whN whP (defScope st) && isLoc (defScope st) ("e" : Str) && isLoc (defScope st) ("own" : Str) && glB (defScope st) ("isinstance" : Str) && glB (defScope st) ("ValueError" : Str) && (List.range 10).all fun j => glB (defScope st) (cnm j)
def Row.txt (T : Tab) (R : Row) : Bool := R.dl.all (defOk T R.nm) && (!R.tw || (whTxt R.wS && (List.range 10).all fun k => R.cl.contains k)) && R.cl.all (fun k => decide (k < 10))

/-! ### what is asked of what the top has written -/
def vErr : List Value := [.type "ValueError", .type "Exception", .type "BaseException", .type "object"]
def clsB (K : PySem.W.Frag) (k : Nat) : Bool := match addrIn K (cnm k) with
  | some C => PySem.W.excIn K C vErr "ValueError.__new__" && PySem.W.keepIn K (.ref C) && decide (PySem.W.subIn K (.ref C) (.type "BaseException") = some true) && decide (PySem.W.typeIn K (.ref C) = some (.type "type"))
  | none => false
def excCB (K : PySem.W.Frag) (D : Addr) : Bool :=
  decide (PySem.W.findIn K (.ref D) "__getattribute__" = some (some (.builtin "BaseException.__getattribute__"))) && decide (PySem.W.findIn K (.ref D) "__getattr__" = some none) && decide (PySem.W.subIn K (.ref D) (.type "BaseException") = some true) && PySem.W.hasDictIn K D &&
  decide (PySem.W.findIn K (.ref D) "__class__" = some (some (.builtin "object.__class__"))) && decide (PySem.W.specialIn K (.builtin "object.__class__") "__get__" = some (some (.builtin "getset_descriptor.__get__"))) && decide (PySem.W.takesIn K (.builtin "object.__class__") = some true) && decide (PySem.W.mroIn K D (.type "object") = some true)
def kitB (K : PySem.W.Frag) (k : Nat) (C : Addr) (j : Nat) : Bool := match addrIn K (cnm j) with
  | some C' => decide (PySem.W.kitOne K (.ref C) (.ref C') = some (decide (k = j)))
  | none => false
def whB (K : PySem.W.Frag) (B : Addr) (k : Nat) : Bool := match addrIn K (cnm k) with
  | some C => decide (PySem.W.exmOne K (.ref C) (.ref B) = some true) && excCB K C && decide (PySem.W.kitOne K (.ref C) (.type "ValueError") = some true) && (List.range 10).all (kitB K k C)
  | none => false
def bltB (K : PySem.W.Frag) (x : String) : Bool := decide (PySem.W.nsIn K mainGlobals (Str.ofString x) = some none)
def glvB (K : PySem.W.Frag) (T : Tab) (p : Nat × Str) : Bool := match PySem.W.nsIn K mainGlobals p.2, T.g p.1 with
  | some (some (.int i _)), some (.int j) => decide (i = j)
  | some (some (.str i _)), some (.str j) => decide (i = j)
  | _, none => true
  | _, _ => false
def Row.top (T : Tab) (R : Row) (K : PySem.W.Frag) : Bool := bltNames.all (bltB K) && R.cl.all (clsB K) && R.gl.all (glvB K T) &&
  (!R.tw || (match addrIn K ("AlbumError" : Str) with
    | some B => (List.range 10).all (whB K B)
    | none => false) && decide (PySem.W.nsIn K mainGlobals ("ValueError" : Str) = some none))
/-- the defs as they stand behind the top -/
inductive Facts (K : PySem.W.Frag) : List (Nat × DI) → Prop
  | nil : Facts K []
  | cons {f : Nat} {di : DI} {r : List (Nat × DI)} {a : Addr} {oc : Value} {od an : Option Addr} {osl : Array (Option Value)} {kV doc pm cdv ct : Value}
      (h1 : PySem.W.nsIn K mainGlobals di.x = some (some (.ref a))) (h2 : K.lookup a = some ⟨oc, od, .func (PySem.W.fnOf di.x di.x (defArgs di.st) (defBody di.st) (defScope di.st) .none kV doc pm an cdv ct), osl⟩)
      (h3 : PySem.W.codeIn K cdv di.x = true) (h4 : PySem.W.keepIn K (.ref a) = true)
      (hb : ∀ (kV doc pm : Value) (an : Option Addr) (cdv ct : Value) (us : List Value), us.length = di.ps.length → bindArgs (PySem.W.fnOf di.x di.x (defArgs di.st) (defBody di.st) (defScope di.st) .none kV doc pm an cdv ct) ⟨us, []⟩ = pure (di.ps.zip us))
      (t : Facts K r) : Facts K ((f, di) :: r)
theorem Facts.get {K : PySem.W.Frag} : ∀ {l : List (Nat × DI)} {f : Nat} {di : DI}, Facts K l → l.lookup f = some di → ∃ a fd, addrIn K di.x = some a ∧ Fun K di.x di.x di.st a fd ∧ ∀ us : List Value, us.length = di.ps.length → bindArgs fd ⟨us, []⟩ = pure (di.ps.zip us)
  | _, _, _, .nil, e => by cases e
  | _, g, dj, .cons (f := f) (di := di) h1 h2 h3 h4 hb r, e => by
    rw [List.lookup_cons] at e
    split at e
    · cases e
      exact ⟨_, _, addr_in h1, fun_mk h2 h3 h4, hb _ _ _ _ _ _⟩
    · exact r.get e
section
variable {P : Program} {w : World} {K : PySem.W.Frag} {mg : Str → Option Value} {base : Heap} {T : Tab} {R : Row}
theorem wh_ok {f : Addr} {fd : FuncData} {B : Addr} (F : Fun K ("_law_which" : Str) ("_law_which" : Str) R.wS f fd) (hg : ∀ x a, addrIn K x = some a → mg x = some (.ref a)) (hn : ∀ x, PySem.W.nsIn K mainGlobals x = some none → mg x = none)
    (ht : whTxt R.wS = true) (hc : ∀ k, k < 10 → R.cl.contains k = true) (hcl : ∀ k, R.cl.contains k = true → k < 10) (hk : (List.range 10).all (whB K B) = true) (hi : bltB K "isinstance" = true) (hv : PySem.W.nsIn K mainGlobals ("ValueError" : Str) = some none) :
    FnW P w K mg base 1 f fd [("e" : Str)] (SpW (R.sg K)) := by
  obtain ⟨oc, od, kV, doc, pm, an, cdv, ct, osl, rfl, lk, hcd⟩ := F.ex
  simp only [whTxt, Bool.and_eq_true, List.all_eq_true, List.mem_range] at ht
  obtain ⟨⟨⟨⟨⟨⟨t1, t2⟩, t3⟩, t4⟩, t5⟩, t6⟩, t7⟩ := ht
  have sc := fs_of t2
  have lc : ∀ {x : Str}, isLoc (defScope R.wS) x = true → (defScope R.wS).names.lookup x = some .local := fun {x} h => by
    unfold isLoc at h
    split at h
    · assumption
    · cases h
  have gb : ∀ {x : Str}, glB (defScope R.wS) x = true → (defScope R.wS).names.lookup x = some .globalImplicit := fun {x} h => by
    unfold glB at h
    split at h
    · assumption
    · cases h
  refine FnW.of lk hcd sc (fun p vs H Q E ⟨k, C, _, _, e, _⟩ => by rw [e]; rfl) fun A outer s H vs Q E p hr hsp => ?_
  obtain ⟨k, C, hk10, hC, rfl, hz, hf, fin⟩ := hsp
  have hCa : addrIn K (cnm k) = some C := by
    have hC : ((if R.cl.contains k then some (cnm k) else none).bind (addrIn K)) = some C := hC
    rw [if_pos (hc k hk10)] at hC
    exact hC
  simp only [List.all_eq_true, List.mem_range] at hk
  have hw := hk k hk10
  unfold whB at hw
  rw [hCa] at hw
  simp only [Bool.and_eq_true, decide_eq_true_eq, List.all_eq_true, List.mem_range] at hw
  obtain ⟨⟨⟨w1, w2⟩, w3⟩, w4⟩ := hw
  simp only [excCB, Bool.and_eq_true, decide_eq_true_eq] at w2
  obtain ⟨⟨⟨⟨⟨⟨⟨c1, c2⟩, c3⟩, c4⟩, c5⟩, c6⟩, c7⟩, c8⟩ := w2
  have g : WhX (R.sg K) (L2H.cxH (L2N.CX P w) P w K mg base whN ("_law_which" : Str) (defScope R.wS) f cdv A outer s H E p) k p C :=
    { hp := List.mem_cons_self, hN := rfl, kE := lc t3, kO := lc t4, gi := gb t5, mi := hn _ (by simpa [bltB] using hi), gc := fun j hj => gb (t7 j hj), gv := gb t6, mv := hn _ hv, hfn := rfl,
      cls := fun j hj => by
        have := w4 j hj
        unfold kitB at this
        split at this
        · rename_i C' e'
          exact ⟨C', hg _ _ e', of_decide_eq_true this⟩
        · cases this
      cv := w3, ec := ⟨c1, c2, c3, c4, c5, c6, c7, c8⟩, hz := hz.zc, hf := hf }
  obtain ⟨t, ps, go⟩ := w_body g hk10 t1
  exact ⟨t, ps, go Q H _ fin⟩
theorem prg_ok {h : Heap} {fw : Addr} {fdw : FuncData} (X : K.In h) (Gn : h.Ns mainGlobals mg) (ht : R.txt T = true) (hk : R.top T K = true) (hF : Facts K R.dl)
    (hw : R.tw = true → ∃ fw fdw, addrIn K ("_law_which" : Str) = some fw ∧ Fun K ("_law_which" : Str) ("_law_which" : Str) R.wS fw fdw ∧ ∀ us : List Value, us.length = 1 → bindArgs fdw ⟨us, []⟩ = pure ([("e" : Str)].zip us)) :
    PrgOk P w K mg base (R.sg K) R.nm T (fun f => R.dl.lookup f) := by
  have hg : ∀ x a, addrIn K x = some a → mg x = some (.ref a) := fun x a e => PySem.W.mg_of X Gn (addr_of e)
  have hn : ∀ x, PySem.W.nsIn K mainGlobals x = some none → mg x = none := fun x e => PySem.W.mg_none_of X Gn e
  simp only [Row.txt, Bool.and_eq_true, List.all_eq_true, Bool.or_eq_true, Bool.not_eq_true'] at ht
  obtain ⟨⟨t1, t2⟩, t3⟩ := ht
  have hk0 := hk
  simp only [Row.top, Bool.and_eq_true, Bool.or_eq_true, Bool.not_eq_true', decide_eq_true_eq] at hk
  obtain ⟨⟨⟨k1, k2⟩, k3⟩, k4⟩ := hk
  simp only [List.all_eq_true] at k1 k2 k3
  have mcls : ∀ k x, R.nm.cls k = some x → k ∈ R.cl ∧ x = cnm k := fun k x e => by
    have e : (if R.cl.contains k then some (cnm k) else none) = some x := e
    split at e
    · rename_i z
      cases e
      exact ⟨by simpa using z, rfl⟩
    · cases e
  have lkmem : ∀ (l : List (Nat × DI)) (f : Nat) (di : DI), l.lookup f = some di → (f, di) ∈ l := by
    intro l
    induction l with
    | nil =>
      intro f di e
      cases e
    | cons p r ih =>
      intro f di e
      obtain ⟨g, dj⟩ := p
      rw [List.lookup_cons] at e
      split at e
      · rename_i z
        cases e
        have : f = g := by simpa using z
        subst this
        exact List.mem_cons_self
      · exact List.mem_cons_of_mem _ (ih f di e)
  refine ⟨rfl, fun f a e => ?_, fun f x e => ?_, fun f di e => ?_, fun g x d e1 e2 => ?_, fun x hx => ?_, fun k x e => ?_, fun tw => ?_⟩
  · have e : ((R.dl.lookup f).map (·.x)).bind (addrIn K) = some a := e
    cases q : R.dl.lookup f with
    | none =>
      rw [q] at e
      cases e
    | some di =>
      rw [q] at e
      obtain ⟨a', fd, q1, q2, q3⟩ := hF.get q
      have e : addrIn K di.x = some a := e
      rw [q1] at e
      cases e
      exact ⟨di, fd, rfl, q2, .all q3⟩
  · have e : ((R.dl.lookup f).map (·.x)) = some x := e
    cases q : R.dl.lookup f with
    | none =>
      rw [q] at e
      cases e
    | some di =>
      rw [q] at e
      cases e
      obtain ⟨a', fd, q1, q2, q3⟩ := hF.get q
      refine ⟨a', ?_, hg _ _ q1⟩
      show ((R.dl.lookup f).map (·.x)).bind (addrIn K) = some a'
      rw [q]
      exact q1
  · have := t1 _ (lkmem _ _ _ e)
    unfold defOk at this
    split at this
    · rename_i fd e1
      simp only [Bool.and_eq_true, decide_eq_true_eq] at this
      exact ⟨fd, e1, this.1.1.1, this.1.1.2, fs_of this.1.2, this.2⟩
    · cases this
  · have e1 : R.gl.lookup g = some x := e1
    have hm : (g, x) ∈ R.gl := by
      clear k3
      revert e1
      induction R.gl with
      | nil =>
        intro e
        cases e
      | cons p r ih =>
        intro e
        obtain ⟨g', y⟩ := p
        rw [List.lookup_cons] at e
        split at e
        · rename_i z
          cases e
          have : g = g' := by simpa using z
          subst this
          exact List.mem_cons_self
        · exact List.mem_cons_of_mem _ (ih e)
    have := k3 _ hm
    unfold glvB at this
    rw [e2] at this
    simp only at this
    split at this
    · rename_i i t j q1 q2
      cases q2
      have : i = j := by simpa using this
      subst this
      exact ⟨_, .int i, PySem.W.mg_of X Gn q1, ⟨_, rfl⟩, fun φ H => .int i⟩
    · rename_i i t j q1 q2
      cases q2
      have : i = j := by simpa using this
      subst this
      exact ⟨_, .str i, PySem.W.mg_of X Gn q1, ⟨_, rfl⟩, fun φ H => .str i⟩
    · rename_i q1 q2
      cases q2
    · cases this
  · have := k1 x hx
    exact hn _ (by simpa [bltB] using this)
  · obtain ⟨m1, rfl⟩ := mcls k x e
    have := k2 k m1
    unfold clsB at this
    split at this
    · rename_i C q
      simp only [Bool.and_eq_true, decide_eq_true_eq] at this
      refine ⟨C, ?_, hg _ _ q, this.1.1.1, this.1.1.2, this.1.2, this.2⟩
      show (R.nm.cls k).bind (addrIn K) = some C
      rw [e]
      exact q
    · cases this
  · have tw : R.tw = true := tw
    rw [tw] at t2 k4
    simp only [Bool.true_eq_false, false_or] at t2 k4
    obtain ⟨t21, t22⟩ := t2
    obtain ⟨k41, k42⟩ := k4
    split at k41
    · rename_i B eB
      have hc : ∀ k, k < 10 → R.cl.contains k = true := fun k hk => t22 k (List.mem_range.mpr hk)
      have hk41 := k41
      simp only [List.all_eq_true, List.mem_range] at k41
      have hca : ∀ k, k < 10 → ∃ C, addrIn K (cnm k) = some C ∧ PySem.W.exmOne K (.ref C) (.ref B) = some true := fun k hk => by
        have := k41 k hk
        unfold whB at this
        split at this
        · rename_i C e
          simp only [Bool.and_eq_true, decide_eq_true_eq] at this
          exact ⟨C, e, this.1.1.1⟩
        · cases this
      have caE : ∀ k, k < 10 → (R.sg K).ca k = addrIn K (cnm k) := fun k hk => by
        show ((if R.cl.contains k then some (cnm k) else none).bind (addrIn K)) = _
        rw [if_pos (hc k hk)]
        rfl
      refine ⟨fun k hk => ?_, ⟨B, hg _ _ eB, fun k C e => ?_⟩, ?_⟩
      · obtain ⟨C, e, _⟩ := hca k hk
        exact ⟨C, by rw [caE k hk]; exact e⟩
      · have hk : k < 10 := by
          have e' : ((if R.cl.contains k then some (cnm k) else none).bind (addrIn K)) = some C := e
          split at e'
          · rename_i z
            simpa using t3 k (by simpa using z)
          · cases e'
        rw [caE k hk] at e
        obtain ⟨C', e', h'⟩ := hca k hk
        rw [e] at e'
        cases e'
        exact h'
      · obtain ⟨fw, fdw, q1, q2, q3⟩ := hw tw
        exact ⟨fw, fdw, hg _ _ q1, q2.kp, .all q3, wh_ok (B := B) q2 hg hn t21 hc (fun k hk => by simpa using t3 k (by simpa using hk)) hk41 (k1 "isinstance" (by decide)) k42⟩
    · cases k41
/-- the law's promise -/
def spLaw (R : Row) (T : Tab) (n f : Nat) (K : PySem.W.Frag) : Sp := SpF (R.sg K) (clOf T n) f
theorem row_mk {l : PySem.W.OpenLaw} {n lf : Nat} {h : Heap} {fa : Addr} {di : DI} (X : K.In h) (Gn : h.Ns mainGlobals mg) (hfa : mg ("law" : Str) = some (.ref fa)) (hlf : R.dl.lookup lf = some di) (hdx : di.x = ("law" : Str)) (hdp : di.ps = [("script" : Str)]) (ht : R.txt T = true) (hk : R.top T K = true) (hF : Facts K R.dl)
    (hw : R.tw = true → ∃ fw fdw, addrIn K ("_law_which" : Str) = some fw ∧ Fun K ("_law_which" : Str) ("_law_which" : Str) R.wS fw fdw ∧ ∀ us : List Value, us.length = 1 → bindArgs fdw ⟨us, []⟩ = pure ([("e" : Str)].zip us)) :
    ∃ fd : FuncData, (∀ (s : Shared) (v : Value), BindsTo s fd ⟨[v], []⟩ [(("script" : Str), v)]) ∧ ∀ base : Heap, K.In base → base.Ns mainGlobals mg → FnOk l.prog w K mg base (L2N.CX l.prog w) (n + 1) fa fd [("script" : Str)] (spLaw R T n lf K) := by
  obtain ⟨a, fd, q1, q2, q3⟩ := hF.get hlf
  have ea : (R.sg K).fa lf = some a := by
    show ((R.dl.lookup lf).map (·.x)).bind (addrIn K) = some a
    rw [hlf]
    exact q1
  have : fa = a := by
    rw [hdx] at q1
    have := PySem.W.mg_of X Gn (addr_of q1)
    rw [hfa] at this
    cases this
    rfl
  subst this
  rw [hdp] at q3
  refine ⟨fd, fun s v => .of_eq (q3 [v] rfl), fun base KB GB => ?_⟩
  have p : PrgOk l.prog w K mg base (R.sg K) R.nm T (fun f => R.dl.lookup f) := prg_ok (h := h) (fw := 0) (fdw := fd) X Gn ht hk hF hw
  have := fns_one p n lf _ di fd hlf q2
  rw [hdp] at this
  exact this
end
theorem law_sp {R : Row} {T : Tab} {n lf : Nat} (hl : ∀ ns : List Int, ns.length ≤ 63 → ∃ h', callF T n lf [.scr ns] ⟨0, []⟩ = .ok (.bl true) h') (K : PySem.W.Frag) (H : Hp) (a : Addr) (ns : List Int) (h63 : ns.length ≤ 63) (hO : Only H) (hS : SqL K H a (ns.map V.int)) :
    spLaw R T n lf K [.ref a] H (fun v _ => v = .bl true) fun _ _ _ => False := by
  obtain ⟨h', e⟩ := hl ns h63
  have fz : FzL K H a (ns.map V.int) := by
    rcases hS with (h | ⟨o, h⟩) | h
    · rcases hO a with z | ⟨o, xs, z⟩
      · rw [z] at h
        cases h
      · rw [z] at h
        cases h
    · exact .inl ⟨o, h⟩
    · exact .inr h
  refine ⟨⟨fun _ => none, fun _ => False, fun _ z => z.elim⟩, [], ⟨0, []⟩, [.scr ns], ⟨rfl, fun i o g => (by cases g), fun i j b o u g => (by cases g), fun b o z => (by cases z), fun b u i o z => (by cases z), fun b i o z => z.elim⟩, .cons (.scr fz) .nil, ?_⟩
  have e' : (clOf T n).f lf [.scr ns] ⟨0, []⟩ = .ok (.bl true) h' := e
  rw [e']
  intro φ' H' v _ _ r _
  cases r
  rfl
theorem cx_no {P : Program} {w : World} {H : Hp} {s : Shared} {e : Value} {s' : Shared} (h : L2N.CX P w [] H s (fun _ _ _ => False) e s') : False := by
  obtain ⟨_, _, _, _, _, _, _, _, _, _, _, _, z⟩ := h
  exact z
theorem wh_mk {K : PySem.W.Frag} {st : Stmt} {a : Addr} {oc : Value} {od an : Option Addr} {osl : Array (Option Value)} {kV doc pm cdv ct : Value}
    (h1 : PySem.W.nsIn K mainGlobals ("_law_which" : Str) = some (some (.ref a))) (h2 : K.lookup a = some ⟨oc, od, .func (PySem.W.fnOf ("_law_which" : Str) ("_law_which" : Str) (defArgs st) (defBody st) (defScope st) .none kV doc pm an cdv ct), osl⟩)
    (h3 : PySem.W.codeIn K cdv ("_law_which" : Str) = true) (h4 : PySem.W.keepIn K (.ref a) = true)
    (hb : ∀ (kV doc pm : Value) (an : Option Addr) (cdv ct : Value) (us : List Value), us.length = 1 → bindArgs (PySem.W.fnOf ("_law_which" : Str) ("_law_which" : Str) (defArgs st) (defBody st) (defScope st) .none kV doc pm an cdv ct) ⟨us, []⟩ = pure ([("e" : Str)].zip us)) :
    ∃ fw fdw, addrIn K ("_law_which" : Str) = some fw ∧ Fun K ("_law_which" : Str) ("_law_which" : Str) st fw fdw ∧ ∀ us : List Value, us.length = 1 → bindArgs fdw ⟨us, []⟩ = pure ([("e" : Str)].zip us) :=
  ⟨a, _, addr_in h1, fun_mk h2 h3 h4, hb _ _ _ _ _ _⟩
end Alb
set_option Elab.async false
set_option linter.all false
set_option maxRecDepth 100000
/-! The small syntax of the defs (printed by gen.py). -/
namespace Alb
open PySem
/-- 0: is_integer -/
def b_is_integer : Fd := ⟨3, 3, true, (.cons (.ret (.and (.cons (.isi .int (.var 0)) (.cons (.not (.isi .bool (.var 0))) (.cons (.chn .le .le (.var 1) (.var 0) (.var 2)) .nil))))) .nil)⟩
/-- 1: divisor_of -/
def b_divisor_of : Fd := ⟨2, 2, true, (.cons (.whi (.cmp .gt (.var 1) (.cst (.int 0))) (.cons (.par [0, 1] (.cons (.var 1) (.cons (.bin .mod (.var 0) (.var 1)) .nil))) .nil)) (.cons (.ret (.var 0)) .nil))⟩
/-- 2: lowest -/
def b_lowest : Fd := ⟨2, 3, true, (.cons (.asg 2 (.cal 1 (.cons (.blt .max (.cons (.var 0) (.cons (.bin .sub (.cst (.int 0)) (.var 0)) .nil))) (.cons (.var 1) .nil)))) (.cons (.ret (.tup (.cons (.bin .fdiv (.var 0) (.var 2)) (.cons (.bin .fdiv (.var 1) (.var 2)) .nil)))) .nil))⟩
/-- 3: ways -/
def b_ways : Fd := ⟨2, 4, true, (.cons (.ife (.or (.cons (.cmp .lt (.var 1) (.cst (.int 0))) (.cons (.cmp .gt (.var 1) (.var 0)) .nil))) (.cons (.ret (.cst (.int 0))) .nil) .nil) (.cons (.asg 2 (.cst (.int 1))) (.cons (.for (.nm 3) .r1 (.cons (.var 1) .nil) (.cons (.asg 2 (.bin .fdiv (.bin .mul (.var 2) (.bin .sub (.var 0) (.var 3))) (.bin .add (.var 3) (.cst (.int 1))))) .nil)) (.cons (.ret (.var 2)) .nil))))⟩
/-- 4: check_album -/
def b_check_album : Fd := ⟨1, 1, true, (.cons (.ife (.not (.cal 0 (.cons (.var 0) (.cons (.cst (.int 1)) (.cons (.cst (.int 8)) .nil))))) (.cons (.rai 0) .nil) .nil) .nil)⟩
/-- 5: check_size -/
def b_check_size : Fd := ⟨2, 2, true, (.cons (.exp (.cal 4 (.cons (.var 0) .nil))) (.cons (.ife (.not (.cal 0 (.cons (.var 1) (.cons (.cst (.int 1)) (.cons (.var 0) .nil))))) (.cons (.rai 1) .nil) .nil) .nil))⟩
/-- 6: check_number -/
def b_check_number : Fd := ⟨2, 2, true, (.cons (.ife (.not (.cal 0 (.cons (.var 0) (.cons (.cst (.int 0)) (.cons (.var 1) .nil))))) (.cons (.rai 2) .nil) .nil) .nil)⟩
/-- 7: fresh_chance -/
def b_fresh_chance : Fd := ⟨4, 5, true, (.cons (.asg 4 (.bin .mul (.cal 3 (.cons (.bin .sub (.var 0) (.var 2)) (.cons (.var 3) .nil))) (.cal 3 (.cons (.var 2) (.cons (.bin .sub (.var 1) (.var 3)) .nil))))) (.cons (.ret (.cal 2 (.cons (.var 4) (.cons (.cal 3 (.cons (.var 0) (.cons (.var 1) .nil))) .nil)))) .nil))⟩
/-- 8: pack_chance -/
def b_pack_chance : Fd := ⟨4, 4, true, (.cons (.exp (.cal 5 (.cons (.var 0) (.cons (.var 1) .nil)))) (.cons (.exp (.cal 6 (.cons (.var 2) (.cons (.var 0) .nil)))) (.cons (.exp (.cal 6 (.cons (.var 3) (.cons (.var 0) .nil)))) (.cons (.ret (.cal 7 (.cons (.var 0) (.cons (.var 1) (.cons (.var 2) (.cons (.var 3) .nil)))))) .nil))))⟩
/-- 9: _law_part -/
def b_law_part : Fd := ⟨2, 4, true, (.cons (.par [2, 3] (.cons (.blt .max (.cons (.var 0) (.cons (.bin .sub (.cst (.int 0)) (.var 0)) .nil))) (.cons (.var 1) .nil))) (.cons (.whi (.cmp .gt (.var 3) (.cst (.int 0))) (.cons (.par [2, 3] (.cons (.var 3) (.cons (.bin .mod (.var 2) (.var 3)) .nil))) .nil)) (.cons (.ret (.tup (.cons (.bin .fdiv (.var 0) (.var 2)) (.cons (.bin .fdiv (.var 1) (.var 2)) .nil)))) .nil)))⟩
/-- 10: _law_joined -/
def b_law_joined : Fd := ⟨1, 4, true, (.cons (.par [2, 3] (.cons (.cst (.int 0)) (.cons (.cst (.int 1)) .nil))) (.cons (.for (.nm 1) .val (.cons (.var 0) .nil) (.cons (.unp [2, 3] (.cal 9 (.cons (.bin .add (.bin .mul (.var 2) (.sub (.var 1) (.cst (.int 1)))) (.bin .mul (.sub (.var 1) (.cst (.int 0))) (.var 3))) (.cons (.bin .mul (.var 3) (.sub (.var 1) (.cst (.int 1)))) .nil)))) .nil)) (.cons (.ret (.tup (.cons (.var 2) (.cons (.var 3) .nil)))) .nil)))⟩
/-- 11: _law_cell_at -/
def b_law_cell_at : Fd := ⟨2, 4, true, (.cons (.ife (.cmp .lt (.var 1) (.blt .len (.cons (.var 0) .nil))) (.cons (.ret (.sub (.var 0) (.var 1))) .nil) .nil) (.cons (.ife (.cmp .eq (.var 0) (.lst .nil)) (.cons (.ret (.cst (.int 0))) .nil) .nil) (.cons (.asg 2 (.sub (.var 0) (.bin .mod (.var 1) (.blt .len (.cons (.var 0) .nil))))) (.cons (.for (.nm 3) .r1 (.cons (.blt .min (.cons (.bin .fdiv (.var 1) (.blt .len (.cons (.var 0) .nil))) (.cons (.cst (.int 60)) .nil))) .nil) (.cons (.asg 2 (.bin .fdiv (.var 2) (.cst (.int 1000003)))) .nil)) (.cons (.ret (.bin .add (.bin .add (.bin .mul (.sub (.var 0) (.bin .mod (.var 1) (.blt .len (.cons (.var 0) .nil)))) (.cst (.int 31))) (.var 1)) (.bin .mul (.var 2) (.cst (.int 101))))) .nil)))))⟩
/-- 12: _law_mixed -/
def b_law_mixed : Fd := ⟨3, 4, true, (.cons (.asg 3 (.bin .mod (.bin .add (.bin .add (.bin .mul (.cal 11 (.cons (.var 0) (.cons (.var 1) .nil))) (.cst (.int 1103515245))) (.bin .mul (.cst (.int 7919)) (.var 1))) (.cst (.int 12345))) (.cst (.int 2147483647)))) (.cons (.ret (.bin .mod (.bin .mod (.bin .mod (.bin .pow (.var 3) (.cst (.int 5))) (.cst (.int 2147483647))) (.cst (.int 999983))) (.var 2))) .nil))⟩
/-- 13: _law_draw -/
def b_law_draw : Fd := ⟨3, 3, false, (.cons (.exp (.mth .append (.var 1) (.cons (.cst (.int 0)) .nil))) (.cons (.ret (.cal 12 (.cons (.var 0) (.cons (.blt .len (.cons (.var 1) .nil)) (.cons (.var 2) .nil))))) .nil))⟩
/-- 14: _law_some_album -/
def b_law_some_album : Fd := ⟨3, 4, false, (.cons (.asg 3 (.bin .add (.cst (.int 1)) (.cal 13 (.cons (.var 0) (.cons (.var 1) (.cons (.var 2) .nil)))))) (.cons (.ret (.tup (.cons (.var 3) (.cons (.bin .add (.cst (.int 1)) (.cal 13 (.cons (.var 0) (.cons (.var 1) (.cons (.var 3) .nil))))) (.cons (.cal 13 (.cons (.var 0) (.cons (.var 1) (.cons (.bin .add (.var 3) (.cst (.int 1))) .nil)))) .nil))))) .nil))⟩
/-- 15: _law_sets_of -/
def b_law_sets_of : Fd := ⟨2, 8, true, (.cons (.asg 2 (.lst (.cons (.tup .nil) .nil))) (.cons (.for (.nm 3) .r1 (.cons (.var 1) .nil) (.cons (.asg 4 (.lst .nil)) (.cons (.for (.nm 5) .val (.cons (.var 2) .nil) (.cons (.asg 6 (.ite (.cmp .ne (.var 5) (.tup .nil)) (.bin .add (.sub (.var 5) (.neg (.cst (.int 1)))) (.cst (.int 1))) (.cst (.int 0)))) (.cons (.exp (.mth .extend (.var 4) (.cons (.lc [7] (.nm 7) .r2 (.cons (.var 6) (.cons (.var 0) .nil)) .none (.bin .add (.var 5) (.tup (.cons (.var 7) .nil)))) .nil))) .nil))) (.cons (.asg 2 (.var 4)) .nil)))) (.cons (.ret (.var 2)) .nil)))⟩
/-- 16: _law_next_chances -/
def b_law_next_chances : Fd := ⟨3, 8, true, (.cons (.par [4, 5] (.cons (.bin .mul (.lst (.cons (.cst (.int 0)) .nil)) (.bin .add (.var 0) (.cst (.int 1)))) (.cons (.cal 15 (.cons (.var 0) (.cons (.var 1) .nil))) .nil))) (.cons (.for (.nm 3) .val (.cons (.var 5) .nil) (.cons (.aus (.var 4) (.bin .add (.var 2) (.blt .len (.cons (.lc [7] (.nm 7) .val (.cons (.var 3) .nil) (.some (.cmp .ge (.var 7) (.var 2))) (.var 7)) .nil))) .add (.cst (.int 1))) .nil)) (.cons (.ret (.lc [6] (.nm 6) .val (.cons (.var 4) .nil) .none (.cal 9 (.cons (.var 6) (.cons (.blt .len (.cons (.var 5) .nil)) .nil))))) .nil)))⟩
/-- 17: _law_ask -/
def b_law_ask : Fd := ⟨4, 5, true, (.cons (.tryw 4 (.cons (.ret (.cal 8 (.cons (.var 0) (.cons (.var 1) (.cons (.var 2) (.cons (.var 3) .nil)))))) .nil)) .nil)⟩
def k01_0 : S := .asg 1 (.lst .nil)
def k01_1 : S := .unp [5, 6, 7] (.cal 14 (.cons (.var 0) (.cons (.var 1) (.cons (.cst (.int 8)) .nil))))
def k01_2 : S := .asg 2 (.cal 16 (.cons (.var 5) (.cons (.var 6) (.cons (.var 7) .nil))))
def k01_3 : S := .asg 3 (.lc [8] (.nm 8) .r1 (.cons (.bin .add (.var 5) (.cst (.int 1))) .nil) .none (.cal 17 (.cons (.var 5) (.cons (.var 6) (.cons (.var 7) (.cons (.var 8) .nil))))))
def k01_4 : S := .ife (.or (.cons (.cmp .ne (.slc (.var 3) .none (.some (.bin .add (.bin .sub (.var 5) (.var 7)) (.cst (.int 1))))) (.slc (.var 2) (.some (.var 7)) .none)) (.cons (.cmp .ne (.lc [9] (.nm 9) .val (.cons (.slc (.var 3) (.some (.bin .add (.bin .sub (.var 5) (.var 7)) (.cst (.int 1)))) .none) .nil) (.some (.cmp .ne (.var 9) (.tup (.cons (.cst (.int 0)) (.cons (.cst (.int 1)) .nil))))) (.var 9)) (.lst .nil)) .nil))) (.cons (.ret (.cst (.bl false))) .nil) .nil
def k01_5 : S := .ife (.cmp .ne (.cal 10 (.cons (.var 3) .nil)) (.tup (.cons (.cst (.int 1)) (.cons (.cst (.int 1)) .nil)))) (.cons (.ret (.cst (.bl false))) .nil) .nil
def k01_6b : Ss := (.cons (.ife (.cmp .ne (.cal 17 (.cons (.var 4) (.cons (.cst .non) (.cons (.cst .non) (.cons (.cst .non) .nil))))) (.tup (.cons (.cst (.str (Str.ofString "raised"))) (.cons (.cst (.int 0)) .nil)))) (.cons (.ret (.cst (.bl false))) .nil) .nil) .nil)
def k01_6 : S := .for (.nm 4) .val (.cons (.lst (.cons (.cst .non) (.cons (.cst (.int 0)) (.cons (.cst (.int 9)) (.cons (.cst (.str (Str.ofString "3"))) (.cons (.cst (.bl true)) (.cons (.tup (.cons (.cst (.int 3)) .nil)) .nil))))))) .nil) k01_6b
def k01_7b : Ss := (.cons (.ife (.cmp .ne (.cal 17 (.cons (.var 5) (.cons (.var 4) (.cons (.cst .non) (.cons (.cst .non) .nil))))) (.tup (.cons (.cst (.str (Str.ofString "raised"))) (.cons (.cst (.int 1)) .nil)))) (.cons (.ret (.cst (.bl false))) .nil) .nil) .nil)
def k01_7 : S := .for (.nm 4) .val (.cons (.lst (.cons (.cst .non) (.cons (.cst (.int 0)) (.cons (.bin .add (.var 5) (.cst (.int 1))) (.cons (.cst (.str (Str.ofString "1"))) (.cons (.cst (.bl true)) .nil)))))) .nil) k01_7b
def k01_8b : Ss := (.cons (.ife (.or (.cons (.cmp .ne (.cal 17 (.cons (.var 5) (.cons (.var 6) (.cons (.var 4) (.cons (.cst .non) .nil))))) (.tup (.cons (.cst (.str (Str.ofString "raised"))) (.cons (.cst (.int 2)) .nil)))) (.cons (.cmp .ne (.cal 17 (.cons (.var 5) (.cons (.var 6) (.cons (.var 7) (.cons (.var 4) .nil))))) (.tup (.cons (.cst (.str (Str.ofString "raised"))) (.cons (.cst (.int 2)) .nil)))) .nil))) (.cons (.ret (.cst (.bl false))) .nil) .nil) .nil)
def k01_8 : S := .for (.nm 4) .val (.cons (.lst (.cons (.cst .non) (.cons (.bin .sub (.cst (.int 0)) (.cst (.int 1))) (.cons (.bin .add (.var 5) (.cst (.int 1))) (.cons (.cst (.str (Str.ofString "1"))) (.cons (.cst (.bl true)) .nil)))))) .nil) k01_8b
def k01_9 : S := .ret (.cst (.bl true))
/-- 18: law -/
def b_law_k01 : Fd := ⟨1, 10, false, (.cons k01_0 (.cons k01_1 (.cons k01_2 (.cons k01_3 (.cons k01_4 (.cons k01_5 (.cons k01_6 (.cons k01_7 (.cons k01_8 (.cons k01_9 .nil))))))))))⟩
/-- 19: plus -/
def b_plus : Fd := ⟨2, 2, true, (.cons (.ret (.cal 2 (.cons (.bin .add (.bin .mul (.sub (.var 0) (.cst (.int 0))) (.sub (.var 1) (.cst (.int 1)))) (.bin .mul (.sub (.var 1) (.cst (.int 0))) (.sub (.var 0) (.cst (.int 1))))) (.cons (.bin .mul (.sub (.var 0) (.cst (.int 1))) (.sub (.var 1) (.cst (.int 1)))) .nil)))) .nil)⟩
/-- 20: times -/
def b_times : Fd := ⟨2, 2, true, (.cons (.ret (.cal 2 (.cons (.bin .mul (.sub (.var 0) (.cst (.int 0))) (.sub (.var 1) (.cst (.int 0)))) (.cons (.bin .mul (.sub (.var 0) (.cst (.int 1))) (.sub (.var 1) (.cst (.int 1)))) .nil)))) .nil)⟩
/-- 21: step -/
def b_step : Fd := ⟨3, 8, true, (.cons (.asg 3 (.bin .mul (.lst (.cons (.tup (.cons (.cst (.int 0)) (.cons (.cst (.int 1)) .nil))) .nil)) (.bin .add (.var 0) (.cst (.int 1))))) (.cons (.for (.tp [4, 5]) .enu (.cons (.var 2) .nil) (.cons (.for (.nm 6) .r1 (.cons (.bin .add (.bin .sub (.var 0) (.var 4)) (.cst (.int 1))) .nil) (.cons (.asg 7 (.cal 20 (.cons (.var 5) (.cons (.cal 7 (.cons (.var 0) (.cons (.var 1) (.cons (.var 4) (.cons (.var 6) .nil))))) .nil)))) (.cons (.sto (.var 3) (.bin .add (.var 4) (.var 6)) (.cal 19 (.cons (.sub (.var 3) (.bin .add (.var 4) (.var 6))) (.cons (.var 7) .nil)))) .nil))) .nil)) (.cons (.ret (.blt .tuple (.cons (.var 3) .nil))) .nil)))⟩
/-- 22: spread_after -/
def b_spread_after : Fd := ⟨4, 7, true, (.cons (.asg 4 (.blt .tuple (.cons (.lc [6] (.nm 6) .r1 (.cons (.bin .add (.var 0) (.cst (.int 1))) .nil) .none (.ite (.cmp .eq (.var 6) (.var 2)) (.tup (.cons (.cst (.int 1)) (.cons (.cst (.int 1)) .nil))) (.tup (.cons (.cst (.int 0)) (.cons (.cst (.int 1)) .nil))))) .nil))) (.cons (.for (.nm 5) .r1 (.cons (.var 3) .nil) (.cons (.asg 4 (.cal 21 (.cons (.var 0) (.cons (.var 1) (.cons (.var 4) .nil))))) .nil)) (.cons (.ret (.var 4)) .nil)))⟩
/-- 23: spread -/
def b_spread : Fd := ⟨4, 4, true, (.cons (.exp (.cal 5 (.cons (.var 0) (.cons (.var 1) .nil)))) (.cons (.exp (.cal 6 (.cons (.var 2) (.cons (.var 0) .nil)))) (.cons (.exp (.cal 6 (.cons (.var 3) (.cons (.glb 0) .nil)))) (.cons (.ret (.cal 22 (.cons (.var 0) (.cons (.var 1) (.cons (.var 2) (.cons (.var 3) .nil)))))) .nil))))⟩
/-- 24: mean_different -/
def b_mean_different : Fd := ⟨4, 7, true, (.cons (.exp (.cal 5 (.cons (.var 0) (.cons (.var 1) .nil)))) (.cons (.exp (.cal 6 (.cons (.var 2) (.cons (.var 0) .nil)))) (.cons (.exp (.cal 6 (.cons (.var 3) (.cons (.glb 0) .nil)))) (.cons (.asg 4 (.tup (.cons (.cst (.int 0)) (.cons (.cst (.int 1)) .nil)))) (.cons (.for (.tp [5, 6]) .enu (.cons (.cal 22 (.cons (.var 0) (.cons (.var 1) (.cons (.var 2) (.cons (.var 3) .nil))))) .nil) (.cons (.asg 4 (.cal 19 (.cons (.var 4) (.cons (.cal 20 (.cons (.tup (.cons (.var 5) (.cons (.cst (.int 1)) .nil))) (.cons (.var 6) .nil))) .nil)))) .nil)) (.cons (.ret (.var 4)) .nil))))))⟩
/-- 25: _law_by -/
def b_law_by : Fd := ⟨2, 2, true, (.cons (.ret (.cal 9 (.cons (.bin .mul (.sub (.var 0) (.cst (.int 0))) (.sub (.var 1) (.cst (.int 0)))) (.cons (.bin .mul (.sub (.var 0) (.cst (.int 1))) (.sub (.var 1) (.cst (.int 1)))) .nil)))) .nil)⟩
/-- 26: _law_ask -/
def b_law_ask_2 : Fd := ⟨5, 6, true, (.cons (.tryw 5 (.cons (.ret (.cax (.sub (.lst (.cons (.fnv 23) (.cons (.fnv 24) .nil))) (.var 0)) (.cons (.var 1) (.cons (.var 2) (.cons (.var 3) (.cons (.var 4) .nil)))))) .nil)) .nil)⟩
def k02_0 : S := .asg 1 (.lst .nil)
def k02_1 : S := .unp [8, 9, 10] (.cal 14 (.cons (.var 0) (.cons (.var 1) (.cons (.cst (.int 7)) .nil))))
def k02_2 : S := .asg 2 (.cal 13 (.cons (.var 0) (.cons (.var 1) (.cons (.cst (.int 6)) .nil))))
def k02_3 : S := .asg 3 (.lc [12] (.nm 12) .r1 (.cons (.bin .add (.var 8) (.cst (.int 1))) .nil) .none (.ite (.cmp .eq (.var 12) (.var 10)) (.tup (.cons (.cst (.int 1)) (.cons (.cst (.int 1)) .nil))) (.tup (.cons (.cst (.int 0)) (.cons (.cst (.int 1)) .nil)))))
def k02_4b : Ss := (.cons (.asg 11 (.bin .mul (.lst (.cons (.tup (.cons (.cst (.int 0)) (.cons (.cst (.int 1)) .nil))) .nil)) (.bin .add (.var 8) (.cst (.int 1))))) (.cons (.for (.tp [12, 13]) .enu (.cons (.var 3) .nil) (.cons (.ife (.cmp .ne (.var 13) (.tup (.cons (.cst (.int 0)) (.cons (.cst (.int 1)) .nil)))) (.cons (.for (.tp [15, 16]) .enu (.cons (.cal 16 (.cons (.var 8) (.cons (.var 9) (.cons (.var 12) .nil)))) .nil) (.cons (.sto (.var 11) (.var 15) (.cal 10 (.cons (.lst (.cons (.sub (.var 11) (.var 15)) (.cons (.cal 25 (.cons (.var 13) (.cons (.var 16) .nil))) .nil))) .nil))) .nil)) .nil) .nil) .nil)) (.cons (.asg 3 (.var 11)) .nil)))
def k02_4 : S := .for (.nm 4) .r1 (.cons (.var 2) .nil) k02_4b
def k02_5 : S := .ife (.or (.cons (.cmp .ne (.cal 26 (.cons (.cst (.int 0)) (.cons (.var 8) (.cons (.var 9) (.cons (.var 10) (.cons (.var 2) .nil)))))) (.blt .tuple (.cons (.var 3) .nil))) (.cons (.cmp .ne (.cal 10 (.cons (.var 3) .nil)) (.tup (.cons (.cst (.int 1)) (.cons (.cst (.int 1)) .nil)))) .nil))) (.cons (.ret (.cst (.bl false))) .nil) .nil
def k02_6 : S := .asg 5 (.cal 10 (.cons (.lc [12, 13] (.tp [12, 13]) .enu (.cons (.var 3) .nil) .none (.cal 25 (.cons (.tup (.cons (.var 12) (.cons (.cst (.int 1)) .nil))) (.cons (.var 13) .nil)))) .nil))
def k02_7 : S := .ife (.cmp .ne (.cal 26 (.cons (.cst (.int 1)) (.cons (.var 8) (.cons (.var 9) (.cons (.var 10) (.cons (.var 2) .nil)))))) (.var 5)) (.cons (.ret (.cst (.bl false))) .nil) .nil
def k02_8 : S := .asg 6 (.tup (.cons (.cst (.int 1)) (.cons (.cst (.int 1)) .nil)))
def k02_9b : Ss := (.cons (.asg 6 (.cal 25 (.cons (.var 6) (.cons (.cal 9 (.cons (.bin .sub (.var 8) (.var 9)) (.cons (.var 8) .nil))) .nil)))) .nil)
def k02_9 : S := .for (.nm 4) .r1 (.cons (.var 2) .nil) k02_9b
def k02_10 : S := .ife (.cmp .ne (.cal 26 (.cons (.cst (.int 1)) (.cons (.var 8) (.cons (.var 9) (.cons (.cst (.int 0)) (.cons (.var 2) .nil)))))) (.cal 10 (.cons (.lst (.cons (.tup (.cons (.var 8) (.cons (.cst (.int 1)) .nil))) (.cons (.cal 25 (.cons (.tup (.cons (.bin .sub (.cst (.int 0)) (.var 8)) (.cons (.cst (.int 1)) .nil))) (.cons (.var 6) .nil))) .nil))) .nil))) (.cons (.ret (.cst (.bl false))) .nil) .nil
def k02_11b : Ss := (.cons (.ife (.cmp .ne (.lc [14] (.nm 14) .val (.cons (.tup (.cons (.cst (.int 0)) (.cons (.cst (.int 1)) .nil))) .nil) .none (.cal 26 (.cons (.var 14) (.cons (.var 8) (.cons (.var 9) (.cons (.var 10) (.cons (.var 7) .nil))))))) (.bin .mul (.lst (.cons (.tup (.cons (.cst (.str (Str.ofString "raised"))) (.cons (.cst (.int 2)) .nil))) .nil)) (.cst (.int 2)))) (.cons (.ret (.cst (.bl false))) .nil) .nil) .nil)
def k02_11 : S := .for (.nm 7) .val (.cons (.lst (.cons (.cst .non) (.cons (.bin .sub (.cst (.int 0)) (.cst (.int 1))) (.cons (.cst (.int 31)) (.cons (.cst (.str (Str.ofString "1"))) (.cons (.cst (.bl true)) .nil)))))) .nil) k02_11b
def k02_12 : S := .ret (.cmp .eq (.lc [14] (.nm 14) .val (.cons (.tup (.cons (.cst (.int 0)) (.cons (.cst (.int 1)) .nil))) .nil) .none (.cal 26 (.cons (.var 14) (.cons (.var 8) (.cons (.var 9) (.cons (.bin .add (.var 8) (.cst (.int 1))) (.cons (.cst .non) .nil))))))) (.bin .mul (.lst (.cons (.tup (.cons (.cst (.str (Str.ofString "raised"))) (.cons (.cst (.int 2)) .nil))) .nil)) (.cst (.int 2))))
/-- 27: law -/
def b_law_k02 : Fd := ⟨1, 17, false, (.cons k02_0 (.cons k02_1 (.cons k02_2 (.cons k02_3 (.cons k02_4 (.cons k02_5 (.cons k02_6 (.cons k02_7 (.cons k02_8 (.cons k02_9 (.cons k02_10 (.cons k02_11 (.cons k02_12 .nil)))))))))))))⟩
/-- 28: mean_from_here -/
def b_mean_from_here : Fd := ⟨3, 9, true, (.cons (.asg 3 (.lst (.cons (.tup (.cons (.cst (.int 0)) (.cons (.cst (.int 1)) .nil))) .nil))) (.cons (.for (.nm 4) .r2 (.cons (.cst (.int 1)) (.cons (.bin .add (.bin .sub (.var 0) (.var 2)) (.cst (.int 1))) .nil)) (.cons (.asg 5 (.bin .sub (.var 0) (.var 4))) (.cons (.asg 6 (.cal 7 (.cons (.var 0) (.cons (.var 1) (.cons (.var 5) (.cons (.cst (.int 0)) .nil)))))) (.cons (.asg 7 (.tup (.cons (.cst (.int 1)) (.cons (.cst (.int 1)) .nil)))) (.cons (.for (.nm 8) .r2 (.cons (.cst (.int 1)) (.cons (.bin .add (.var 4) (.cst (.int 1))) .nil)) (.cons (.asg 7 (.cal 19 (.cons (.var 7) (.cons (.cal 20 (.cons (.cal 7 (.cons (.var 0) (.cons (.var 1) (.cons (.var 5) (.cons (.var 8) .nil))))) (.cons (.sub (.var 3) (.bin .sub (.var 4) (.var 8))) .nil))) .nil)))) .nil)) (.cons (.exp (.mth .append (.var 3) (.cons (.cal 20 (.cons (.var 7) (.cons (.cal 2 (.cons (.sub (.var 6) (.cst (.int 1))) (.cons (.bin .sub (.sub (.var 6) (.cst (.int 1))) (.sub (.var 6) (.cst (.int 0)))) .nil))) .nil))) .nil))) .nil)))))) (.cons (.ret (.sub (.var 3) (.neg (.cst (.int 1))))) .nil)))⟩
/-- 29: mean_packs -/
def b_mean_packs : Fd := ⟨3, 3, true, (.cons (.exp (.cal 5 (.cons (.var 0) (.cons (.var 1) .nil)))) (.cons (.exp (.cal 6 (.cons (.var 2) (.cons (.var 0) .nil)))) (.cons (.ret (.cal 28 (.cons (.var 0) (.cons (.var 1) (.cons (.var 2) .nil))))) .nil)))⟩
/-- 30: chance_full -/
def b_chance_full : Fd := ⟨4, 4, true, (.cons (.exp (.cal 5 (.cons (.var 0) (.cons (.var 1) .nil)))) (.cons (.exp (.cal 6 (.cons (.var 2) (.cons (.var 0) .nil)))) (.cons (.exp (.cal 6 (.cons (.var 3) (.cons (.glb 0) .nil)))) (.cons (.ret (.sub (.cal 22 (.cons (.var 0) (.cons (.var 1) (.cons (.var 2) (.cons (.var 3) .nil))))) (.neg (.cst (.int 1))))) .nil))))⟩
/-- 31: _law_ask -/
def b_law_ask_3 : Fd := ⟨3, 4, true, (.cons (.tryw 3 (.cons (.ret (.cal 29 (.cons (.var 0) (.cons (.var 1) (.cons (.var 2) .nil))))) .nil)) .nil)⟩
def k03_0 : S := .asg 1 (.lst .nil)
def k03_1 : S := .unp [7, 8, 9] (.cal 14 (.cons (.var 0) (.cons (.var 1) (.cons (.cst (.int 8)) .nil))))
def k03_2 : S := .asg 2 (.cal 31 (.cons (.var 7) (.cons (.var 8) (.cons (.var 9) .nil))))
def k03_3 : S := .ife (.cmp .eq (.var 9) (.var 7)) (.cons (.ife (.cmp .ne (.var 2) (.tup (.cons (.cst (.int 0)) (.cons (.cst (.int 1)) .nil)))) (.cons (.ret (.cst (.bl false))) .nil) .nil) .nil) (.cons (.asg 10 (.lst (.cons (.tup (.cons (.cst (.int 1)) (.cons (.cst (.int 1)) .nil))) .nil))) (.cons (.for (.tp [13, 14]) .enu (.cons (.cal 16 (.cons (.var 7) (.cons (.var 8) (.cons (.var 9) .nil)))) .nil) (.cons (.ife (.cmp .ne (.var 14) (.tup (.cons (.cst (.int 0)) (.cons (.cst (.int 1)) .nil)))) (.cons (.exp (.mth .append (.var 10) (.cons (.cal 25 (.cons (.var 14) (.cons (.cal 31 (.cons (.var 7) (.cons (.var 8) (.cons (.var 13) .nil)))) .nil))) .nil))) .nil) .nil) .nil)) (.cons (.ife (.or (.cons (.cmp .ne (.cal 10 (.cons (.var 10) .nil)) (.var 2)) (.cons (.cmp .lt (.sub (.var 2) (.cst (.int 0))) (.sub (.var 2) (.cst (.int 1)))) .nil))) (.cons (.ret (.cst (.bl false))) .nil) .nil) .nil)))
def k03_4 : S := .asg 3 (.cal 10 (.cons (.lc [15] (.nm 15) .r2 (.cons (.cst (.int 1)) (.cons (.bin .add (.bin .sub (.var 7) (.var 9)) (.cst (.int 1))) .nil)) .none (.cal 9 (.cons (.var 7) (.cons (.var 15) .nil)))) .nil))
def k03_5 : S := .ife (.or (.cons (.cmp .ne (.cal 31 (.cons (.var 7) (.cons (.cst (.int 1)) (.cons (.var 9) .nil)))) (.var 3)) (.cons (.cmp .ne (.cal 31 (.cons (.var 7) (.cons (.var 8) (.cons (.bin .sub (.var 7) (.cst (.int 1))) .nil)))) (.cal 9 (.cons (.var 7) (.cons (.var 8) .nil)))) .nil))) (.cons (.ret (.cst (.bl false))) .nil) .nil
def k03_6 : S := .ife (.cmp .ne (.cal 31 (.cons (.var 7) (.cons (.var 7) (.cons (.cst (.int 0)) .nil)))) (.tup (.cons (.cst (.int 1)) (.cons (.cst (.int 1)) .nil)))) (.cons (.ret (.cst (.bl false))) .nil) .nil
def k03_7 : S := .asg 4 (.cal 13 (.cons (.var 0) (.cons (.var 1) (.cons (.cst (.int 8)) .nil))))
def k03_8 : S := .asg 5 (.lc [15] (.nm 15) .r1 (.cons (.bin .add (.var 4) (.cst (.int 1))) .nil) .none (.cal 30 (.cons (.var 7) (.cons (.var 8) (.cons (.var 9) (.cons (.var 15) .nil))))))
def k03_9 : S := .ife (.cmp .ne (.sub (.var 5) (.neg (.cst (.int 1)))) (.sub (.cal 23 (.cons (.var 7) (.cons (.var 8) (.cons (.var 9) (.cons (.var 4) .nil))))) (.neg (.cst (.int 1))))) (.cons (.ret (.cst (.bl false))) .nil) .nil
def k03_10b : Ss := (.cons (.ife (.cmp .gt (.bin .mul (.sub (.var 11) (.cst (.int 0))) (.sub (.var 12) (.cst (.int 1)))) (.bin .mul (.sub (.var 12) (.cst (.int 0))) (.sub (.var 11) (.cst (.int 1))))) (.cons (.ret (.cst (.bl false))) .nil) .nil) .nil)
def k03_10 : S := .for (.tp [11, 12]) .zip (.cons (.var 5) (.cons (.slc (.var 5) (.some (.cst (.int 1))) .none) .nil)) k03_10b
def k03_11 : S := .asg 6 (.cal 10 (.cons (.bin .add (.lst (.cons (.tup (.cons (.bin .add (.var 4) (.cst (.int 1))) (.cons (.cst (.int 1)) .nil))) .nil)) (.lc [17, 18] (.tp [17, 18]) .val (.cons (.var 5) .nil) .none (.tup (.cons (.bin .sub (.cst (.int 0)) (.var 17)) (.cons (.var 18) .nil))))) .nil))
def k03_12 : S := .ife (.cmp .gt (.bin .mul (.sub (.var 6) (.cst (.int 0))) (.sub (.var 2) (.cst (.int 1)))) (.bin .mul (.sub (.var 2) (.cst (.int 0))) (.sub (.var 6) (.cst (.int 1))))) (.cons (.ret (.cst (.bl false))) .nil) .nil
def k03_13 : S := .ret (.cmp .eq (.lc [16] (.nm 16) .val (.cons (.tup (.cons (.cst .non) (.cons (.bin .sub (.cst (.int 0)) (.cst (.int 1))) (.cons (.bin .add (.var 7) (.cst (.int 1))) (.cons (.cst (.str (Str.ofString "0"))) (.cons (.cst (.bl true)) .nil)))))) .nil) .none (.cal 31 (.cons (.var 7) (.cons (.var 8) (.cons (.var 16) .nil))))) (.bin .mul (.lst (.cons (.tup (.cons (.cst (.str (Str.ofString "raised"))) (.cons (.cst (.int 2)) .nil))) .nil)) (.cst (.int 5))))
/-- 32: law -/
def b_law_k03 : Fd := ⟨1, 19, false, (.cons k03_0 (.cons k03_1 (.cons k03_2 (.cons k03_3 (.cons k03_4 (.cons k03_5 (.cons k03_6 (.cons k03_7 (.cons k03_8 (.cons k03_9 (.cons k03_10 (.cons k03_11 (.cons k03_12 (.cons k03_13 .nil))))))))))))))⟩
/-- 33: check_chance -/
def b_check_chance : Fd := ⟨1, 2, true, (.cons (.ife (.or (.cons (.not (.isi .tuple (.var 0))) (.cons (.cmp .ne (.blt .len (.cons (.var 0) .nil)) (.cst (.int 2))) (.cons (.not (.blt .all (.cons (.lc [1] (.nm 1) .val (.cons (.var 0) .nil) .none (.cal 0 (.cons (.var 1) (.cons (.cst (.int 1)) (.cons (.cst (.int 99)) .nil))))) .nil))) .nil)))) (.cons (.rai 3) .nil) .nil) (.cons (.ife (.or (.cons (.cmp .ge (.sub (.var 0) (.cst (.int 0))) (.sub (.var 0) (.cst (.int 1)))) (.cons (.cmp .gt (.cal 1 (.cons (.sub (.var 0) (.cst (.int 1))) (.cons (.sub (.var 0) (.cst (.int 0))) .nil))) (.cst (.int 1))) .nil))) (.cons (.rai 3) .nil) .nil) .nil))⟩
/-- 34: packs_for -/
def b_packs_for : Fd := ⟨4, 8, true, (.cons (.exp (.cal 5 (.cons (.var 0) (.cons (.var 1) .nil)))) (.cons (.exp (.cal 6 (.cons (.var 2) (.cons (.var 0) .nil)))) (.cons (.exp (.cal 33 (.cons (.var 3) .nil))) (.cons (.asg 4 (.cal 22 (.cons (.var 0) (.cons (.var 1) (.cons (.var 2) (.cons (.cst (.int 0)) .nil)))))) (.cons (.for (.nm 5) .r1 (.cons (.bin .add (.glb 0) (.cst (.int 1))) .nil) (.cons (.unp [6, 7] (.sub (.var 4) (.neg (.cst (.int 1))))) (.cons (.ife (.cmp .ge (.bin .mul (.var 6) (.sub (.var 3) (.cst (.int 1)))) (.bin .mul (.sub (.var 3) (.cst (.int 0))) (.var 7))) (.cons (.ret (.var 5)) .nil) .nil) (.cons (.asg 4 (.cal 21 (.cons (.var 0) (.cons (.var 1) (.cons (.var 4) .nil))))) .nil)))) (.cons (.rai 7) .nil))))))⟩
/-- 35: _law_pick -/
def b_law_pick : Fd := ⟨3, 3, false, (.cons (.ret (.sub (.var 2) (.cal 13 (.cons (.var 0) (.cons (.var 1) (.cons (.blt .len (.cons (.var 2) .nil)) .nil)))))) .nil)⟩
/-- 36: _law_ask -/
def b_law_ask_4 : Fd := ⟨4, 5, true, (.cons (.tryw 4 (.cons (.ret (.cal 34 (.cons (.var 0) (.cons (.var 1) (.cons (.var 2) (.cons (.var 3) .nil)))))) .nil)) .nil)⟩
def k04_0 : S := .asg 1 (.lst .nil)
def k04_1 : S := .unp [9, 10, 11] (.cal 14 (.cons (.var 0) (.cons (.var 1) (.cons (.cst (.int 6)) .nil))))
def k04_2 : S := .asg 2 (.bin .add (.cst (.int 2)) (.cal 13 (.cons (.var 0) (.cons (.var 1) (.cons (.cst (.int 20)) .nil)))))
def k04_3 : S := .asg 3 (.cal 9 (.cons (.bin .add (.cst (.int 1)) (.cal 13 (.cons (.var 0) (.cons (.var 1) (.cons (.bin .sub (.var 2) (.cst (.int 1))) .nil))))) (.cons (.var 2) .nil)))
def k04_4 : S := .asg 4 (.lc [12] (.nm 12) .r1 (.cons (.cst (.int 31)) .nil) .none (.cal 30 (.cons (.var 9) (.cons (.var 10) (.cons (.var 11) (.cons (.var 12) .nil))))))
def k04_5 : S := .asg 5 (.lc [15] (.nm 15) .val (.cons (.var 4) .nil) (.some (.chn3 .lt .lt .le (.cst (.int 0)) (.sub (.var 15) (.cst (.int 0))) (.sub (.var 15) (.cst (.int 1))) (.cst (.int 99)))) (.var 15))
def k04_6 : S := .ife (.and (.cons (.cmp .ne (.var 5) (.lst .nil)) (.cons (.cmp .eq (.cal 13 (.cons (.var 0) (.cons (.var 1) (.cons (.cst (.int 2)) .nil)))) (.cst (.int 0))) .nil))) (.cons (.asg 3 (.cal 35 (.cons (.var 0) (.cons (.var 1) (.cons (.var 5) .nil))))) .nil) .nil
def k04_7 : S := .asg 6 (.cst .non)
def k04_8b : Ss := (.cons (.ife (.and (.cons (.cmp .isx (.var 6) (.cst .non)) (.cons (.cmp .ge (.bin .mul (.sub (.var 13) (.cst (.int 0))) (.sub (.var 3) (.cst (.int 1)))) (.bin .mul (.sub (.var 3) (.cst (.int 0))) (.sub (.var 13) (.cst (.int 1))))) .nil))) (.cons (.asg 6 (.var 12)) .nil) .nil) .nil)
def k04_8 : S := .for (.tp [12, 13]) .enu (.cons (.var 4) .nil) k04_8b
def k04_9 : S := .asg 7 (.cal 36 (.cons (.var 9) (.cons (.var 10) (.cons (.var 11) (.cons (.var 3) .nil)))))
def k04_10 : S := .ife (.cmp .ne (.var 7) (.ite (.cmp .nis (.var 6) (.cst .non)) (.var 6) (.tup (.cons (.cst (.str (Str.ofString "raised"))) (.cons (.cst (.int 7)) .nil))))) (.cons (.ret (.cst (.bl false))) .nil) .nil
def k04_11 : S := .ife (.or (.cons (.and (.cons (.cmp .eq (.var 11) (.var 9)) (.cons (.cmp .ne (.var 7) (.cst (.int 0))) .nil))) (.cons (.and (.cons (.cmp .eq (.var 10) (.var 9)) (.cons (.cmp .lt (.var 11) (.var 9)) (.cons (.cmp .ne (.var 7) (.cst (.int 1))) .nil)))) .nil))) (.cons (.ret (.cst (.bl false))) .nil) .nil
def k04_12 : S := .ife (.and (.cons (.cmp .nis (.var 6) (.cst .non)) (.cons (.cmp .gt (.var 6) (.cst (.int 0))) .nil))) (.cons (.asg 14 (.sub (.var 4) (.bin .sub (.var 6) (.cst (.int 1))))) (.cons (.ife (.cmp .ge (.bin .mul (.sub (.var 14) (.cst (.int 0))) (.sub (.var 3) (.cst (.int 1)))) (.bin .mul (.sub (.var 3) (.cst (.int 0))) (.sub (.var 14) (.cst (.int 1))))) (.cons (.ret (.cst (.bl false))) .nil) .nil) .nil)) .nil
def k04_13b : Ss := (.cons (.ife (.cmp .ne (.cal 36 (.cons (.var 9) (.cons (.var 10) (.cons (.var 11) (.cons (.var 8) .nil))))) (.tup (.cons (.cst (.str (Str.ofString "raised"))) (.cons (.cst (.int 3)) .nil)))) (.cons (.ret (.cst (.bl false))) .nil) .nil) .nil)
def k04_13 : S := .for (.nm 8) .val (.cons (.lst (.cons (.cst .non) (.cons (.cst (.int 5)) (.cons (.tup (.cons (.cst (.int 1)) .nil)) (.cons (.lst (.cons (.cst (.int 1)) (.cons (.cst (.int 2)) .nil))) (.cons (.tup (.cons (.cst (.int 0)) (.cons (.cst (.int 1)) .nil))) (.cons (.tup (.cons (.cst (.int 1)) (.cons (.cst (.int 1)) .nil))) (.cons (.tup (.cons (.cst (.int 2)) (.cons (.cst (.int 1)) .nil))) (.cons (.tup (.cons (.cst (.int 2)) (.cons (.cst (.int 4)) .nil))) (.cons (.tup (.cons (.cst (.int 1)) (.cons (.cst (.int 100)) .nil))) (.cons (.tup (.cons (.cst (.bl true)) (.cons (.cst (.int 2)) .nil))) (.cons (.tup (.cons (.cst (.int 1)) (.cons (.cst (.int 2)) (.cons (.cst (.int 3)) .nil)))) .nil)))))))))))) .nil) k04_13b
def k04_14 : S := .ret (.and (.cons (.cmp .eq (.cal 36 (.cons (.var 9) (.cons (.var 10) (.cons (.bin .add (.var 9) (.cst (.int 1))) (.cons (.cst .non) .nil))))) (.tup (.cons (.cst (.str (Str.ofString "raised"))) (.cons (.cst (.int 2)) .nil)))) (.cons (.cmp .eq (.cal 36 (.cons (.cst (.int 8)) (.cons (.cst (.int 1)) (.cons (.cst (.int 0)) (.cons (.tup (.cons (.cst (.int 98)) (.cons (.cst (.int 99)) .nil))) .nil))))) (.tup (.cons (.cst (.str (Str.ofString "raised"))) (.cons (.cst (.int 7)) .nil)))) .nil)))
/-- 37: law -/
def b_law_k04 : Fd := ⟨1, 16, false, (.cons k04_0 (.cons k04_1 (.cons k04_2 (.cons k04_3 (.cons k04_4 (.cons k04_5 (.cons k04_6 (.cons k04_7 (.cons k04_8 (.cons k04_9 (.cons k04_10 (.cons k04_11 (.cons k04_12 (.cons k04_13 (.cons k04_14 .nil)))))))))))))))⟩
/-- 38: raised -/
def b_raised : Fd := ⟨2, 4, true, (.cons (.asg 2 (.tup (.cons (.cst (.int 1)) (.cons (.cst (.int 1)) .nil)))) (.cons (.for (.nm 3) .r1 (.cons (.var 1) .nil) (.cons (.asg 2 (.cal 20 (.cons (.var 2) (.cons (.var 0) .nil)))) .nil)) (.cons (.ret (.var 2)) .nil)))⟩
/-- 39: check_frequencies -/
def b_check_frequencies : Fd := ⟨1, 2, true, (.cons (.ife (.or (.cons (.not (.isi .tuple (.var 0))) (.cons (.not (.chn .le .le (.cst (.int 1)) (.blt .len (.cons (.var 0) .nil)) (.cst (.int 8)))) .nil))) (.cons (.rai 4) .nil) .nil) (.cons (.ife (.not (.blt .all (.cons (.lc [1] (.nm 1) .val (.cons (.var 0) .nil) .none (.cal 0 (.cons (.var 1) (.cons (.cst (.int 1)) (.cons (.cst (.int 99)) .nil))))) .nil))) (.cons (.rai 4) .nil) .nil) .nil))⟩
/-- 40: part_sums -/
def b_part_sums : Fd := ⟨1, 5, true, (.cons (.asg 1 (.lst (.cons (.tup (.cons (.cst (.int 0)) (.cons (.cst (.int 1)) .nil))) .nil))) (.cons (.for (.nm 2) .val (.cons (.var 0) .nil) (.cons (.asg 1 (.bin .add (.var 1) (.lc [3, 4] (.tp [3, 4]) .val (.cons (.var 1) .nil) .none (.tup (.cons (.bin .add (.var 3) (.var 2)) (.cons (.bin .sub (.cst (.int 0)) (.var 4)) .nil)))))) .nil)) (.cons (.ret (.var 1)) .nil)))⟩
/-- 41: mean_of -/
def b_mean_of : Fd := ⟨2, 5, true, (.cons (.asg 2 (.tup (.cons (.cst (.int 0)) (.cons (.cst (.int 1)) .nil)))) (.cons (.for (.tp [3, 4]) .val (.cons (.cal 40 (.cons (.var 1) .nil)) .nil) (.cons (.ife (.cmp .gt (.var 3) (.cst (.int 0))) (.cons (.asg 2 (.cal 19 (.cons (.var 2) (.cons (.cal 2 (.cons (.bin .sub (.cst (.int 0)) (.bin .mul (.var 4) (.var 0))) (.cons (.var 3) .nil))) .nil)))) .nil) .nil) .nil)) (.cons (.ret (.var 2)) .nil)))⟩
/-- 42: mean_single -/
def b_mean_single : Fd := ⟨1, 1, true, (.cons (.exp (.cal 39 (.cons (.var 0) .nil))) (.cons (.ret (.cal 41 (.cons (.blt .sum (.cons (.var 0) .nil)) (.cons (.var 0) .nil)))) .nil))⟩
/-- 43: chance_single -/
def b_chance_single : Fd := ⟨2, 8, true, (.cons (.exp (.cal 39 (.cons (.var 0) .nil))) (.cons (.exp (.cal 6 (.cons (.var 1) (.cons (.glb 0) .nil)))) (.cons (.par [2, 3] (.cons (.blt .sum (.cons (.var 0) .nil)) (.cons (.tup (.cons (.cst (.int 0)) (.cons (.cst (.int 1)) .nil))) .nil))) (.cons (.for (.tp [4, 5]) .val (.cons (.cal 40 (.cons (.var 0) .nil)) .nil) (.cons (.unp [6, 7] (.cal 38 (.cons (.cal 2 (.cons (.bin .sub (.var 2) (.var 4)) (.cons (.var 2) .nil))) (.cons (.var 1) .nil)))) (.cons (.asg 3 (.cal 19 (.cons (.var 3) (.cons (.tup (.cons (.bin .mul (.var 5) (.var 6)) (.cons (.var 7) .nil))) .nil)))) .nil))) (.cons (.ret (.var 3)) .nil)))))⟩
/-- 44: mean_from -/
def b_mean_from : Fd := ⟨2, 6, true, (.cons (.exp (.cal 39 (.cons (.var 0) .nil))) (.cons (.asg 2 (.bin .sub (.blt .len (.cons (.var 0) .nil)) (.cst (.int 1)))) (.cons (.ife (.or (.cons (.not (.isi .tuple (.var 1))) (.cons (.not (.blt .all (.cons (.lc [4] (.nm 4) .val (.cons (.var 1) .nil) .none (.cal 0 (.cons (.var 4) (.cons (.cst (.int 0)) (.cons (.var 2) .nil))))) .nil))) .nil))) (.cons (.rai 2) .nil) .nil) (.cons (.ife (.not (.blt .all (.cons (.lc [4, 5] (.tp [4, 5]) .zip (.cons (.var 1) (.cons (.slc (.var 1) (.some (.cst (.int 1))) .none) .nil)) .none (.cmp .lt (.var 4) (.var 5))) .nil))) (.cons (.rai 2) .nil) .nil) (.cons (.ret (.cal 41 (.cons (.blt .sum (.cons (.var 0) .nil)) (.cons (.lc [3, 4] (.tp [3, 4]) .enu (.cons (.var 0) .nil) (.some (.cmp .nin (.var 3) (.var 1))) (.var 4)) .nil)))) .nil)))))⟩
/-- 45: _law_ask -/
def b_law_ask_5 : Fd := ⟨3, 4, true, (.cons (.tryw 3 (.cons (.ret (.ite (.cmp .eq (.var 0) (.cst (.int 0))) (.cal 42 (.cons (.var 1) .nil)) (.cax (.sub (.lst (.cons (.fnv 43) (.cons (.fnv 44) .nil))) (.bin .sub (.var 0) (.cst (.int 1)))) (.cons (.var 1) (.cons (.var 2) .nil))))) .nil)) .nil)⟩
/-- 46: _law_refused -/
def b_law_refused : Fd := ⟨2, 6, true, (.cons (.for (.nm 2) .val (.cons (.lst (.cons (.cst .non) (.cons (.cst (.int 5)) (.cons (.tup .nil) (.cons (.tup (.cons (.cst (.int 0)) .nil)) (.cons (.tup (.cons (.cst (.int 100)) .nil)) (.cons (.tup (.cons (.cst (.int 1)) (.cons (.cst (.bl true)) .nil))) (.cons (.lst (.cons (.cst (.int 1)) .nil)) (.cons (.tup (.cons (.cst (.str (Str.ofString "1"))) .nil)) (.cons (.bin .mul (.tup (.cons (.cst (.int 1)) .nil)) (.cst (.int 9))) .nil)))))))))) .nil) (.cons (.ife (.cmp .ne (.lc [5] (.nm 5) .r1 (.cons (.cst (.int 3)) .nil) .none (.cal 45 (.cons (.var 5) (.cons (.var 2) (.cons (.cst .non) .nil))))) (.bin .mul (.lst (.cons (.tup (.cons (.cst (.str (Str.ofString "raised"))) (.cons (.cst (.int 4)) .nil))) .nil)) (.cst (.int 3)))) (.cons (.ret (.cst (.bl false))) .nil) .nil) .nil)) (.cons (.asg 3 (.lst (.cons (.cst .non) (.cons (.cst (.int 0)) (.cons (.lst (.cons (.cst (.int 0)) .nil)) (.cons (.tup (.cons (.var 1) .nil)) (.cons (.tup (.cons (.cst (.int 0)) (.cons (.cst (.int 0)) .nil))) (.cons (.tup (.cons (.bin .sub (.cst (.int 0)) (.cst (.int 1))) .nil)) (.cons (.tup (.cons (.cst (.bl true)) .nil)) (.cons (.tup (.cons (.cst (.str (Str.ofString "0"))) .nil)) .nil)))))))))) (.cons (.ife (.cmp .ne (.lc [4] (.nm 4) .val (.cons (.var 3) .nil) .none (.cal 45 (.cons (.cst (.int 2)) (.cons (.var 0) (.cons (.var 4) .nil))))) (.bin .mul (.lst (.cons (.tup (.cons (.cst (.str (Str.ofString "raised"))) (.cons (.cst (.int 2)) .nil))) .nil)) (.blt .len (.cons (.var 3) .nil)))) (.cons (.ret (.cst (.bl false))) .nil) .nil) (.cons (.ret (.cmp .eq (.lc [2] (.nm 2) .val (.cons (.tup (.cons (.cst .non) (.cons (.bin .sub (.cst (.int 0)) (.cst (.int 1))) (.cons (.cst (.int 31)) (.cons (.cst (.str (Str.ofString "1"))) (.cons (.cst (.bl true)) .nil)))))) .nil) .none (.cal 45 (.cons (.cst (.int 1)) (.cons (.var 0) (.cons (.var 2) .nil))))) (.bin .mul (.lst (.cons (.tup (.cons (.cst (.str (Str.ofString "raised"))) (.cons (.cst (.int 2)) .nil))) .nil)) (.cst (.int 5))))) .nil))))⟩
def k05_0 : S := .asg 1 (.lst .nil)
def k05_1 : S := .asg 2 (.bin .add (.cst (.int 1)) (.cal 13 (.cons (.var 0) (.cons (.var 1) (.cons (.cst (.int 4)) .nil)))))
def k05_2 : S := .asg 3 (.sub (.lst (.cons (.cst (.int 3)) (.cons (.cst (.int 99)) .nil))) (.cal 13 (.cons (.var 0) (.cons (.var 1) (.cons (.cst (.int 2)) .nil)))))
def k05_3 : S := .asg 4 (.blt .tuple (.cons (.lc [9] (.nm 9) .r1 (.cons (.var 2) .nil) .none (.bin .add (.cst (.int 1)) (.cal 13 (.cons (.var 0) (.cons (.var 1) (.cons (.var 3) .nil)))))) .nil))
def k05_4 : S := .asg 5 (.blt .sum (.cons (.var 4) .nil))
def k05_5 : S := .asg 6 (.dct)
def k05_6b : Ss := (.cons (.for (.nm 11) .val (.cons (.cal 15 (.cons (.var 2) (.cons (.var 7) .nil))) .nil) (.cons (.asg 15 (.lc [18] (.nm 18) .r1 (.cons (.var 2) .nil) (.some (.cmp .nin (.var 18) (.var 11))) (.var 18))) (.cons (.ife (.cmp .eq (.var 15) (.lst .nil)) (.cons (.dput (.var 6) (.var 11) (.tup (.cons (.cst (.int 0)) (.cons (.cst (.int 1)) .nil)))) .nil) (.cons (.asg 19 (.lst (.cons (.tup (.cons (.var 5) (.cons (.cst (.int 1)) .nil))) .nil))) (.cons (.for (.nm 18) .val (.cons (.var 15) .nil) (.cons (.exp (.mth .append (.var 19) (.cons (.cal 25 (.cons (.tup (.cons (.sub (.var 4) (.var 18)) (.cons (.cst (.int 1)) .nil))) (.cons (.dget (.var 6) (.blt .tuple (.cons (.blt .sorted (.cons (.bin .add (.var 11) (.tup (.cons (.var 18) .nil))) .nil)) .nil))) .nil))) .nil))) .nil)) (.cons (.dput (.var 6) (.var 11) (.cal 25 (.cons (.cal 10 (.cons (.var 19) .nil)) (.cons (.tup (.cons (.cst (.int 1)) (.cons (.blt .sum (.cons (.lc [18] (.nm 18) .val (.cons (.var 15) .nil) .none (.sub (.var 4) (.var 18))) .nil)) .nil))) .nil)))) .nil)))) (.cons (.ife (.cmp .ne (.cal 45 (.cons (.cst (.int 2)) (.cons (.var 4) (.cons (.var 11) .nil)))) (.dget (.var 6) (.var 11))) (.cons (.ret (.cst (.bl false))) .nil) .nil) .nil)))) .nil)
def k05_6 : S := .for (.nm 7) .r3 (.cons (.var 2) (.cons (.neg (.cst (.int 1))) (.cons (.neg (.cst (.int 1))) .nil))) k05_6b
def k05_7 : S := .ife (.cmp .ne (.cal 45 (.cons (.cst (.int 0)) (.cons (.var 4) (.cons (.cst .non) .nil)))) (.dget (.var 6) (.tup .nil))) (.cons (.ret (.cst (.bl false))) .nil) .nil
def k05_8 : S := .asg 8 (.cal 13 (.cons (.var 0) (.cons (.var 1) (.cons (.cst (.int 5)) .nil))))
def k05_9 : S := .par [12, 13, 14] (.cons (.lst (.cons (.tup .nil) .nil)) (.cons (.cst (.int 0)) (.cons (.cst (.int 1)) .nil)))
def k05_10b : Ss := (.cons (.par [16, 14] (.cons (.lst .nil) (.cons (.bin .mul (.var 14) (.var 5)) .nil))) (.cons (.for (.nm 10) .val (.cons (.var 12) .nil) (.cons (.exp (.mth .extend (.var 16) (.cons (.lc [18] (.nm 18) .r1 (.cons (.var 2) .nil) .none (.bin .add (.var 10) (.tup (.cons (.var 18) .nil)))) .nil))) .nil)) (.cons (.asg 12 (.var 16)) .nil)))
def k05_10 : S := .for (.nm 9) .r1 (.cons (.var 8) .nil) k05_10b
def k05_11b : Ss := (.cons (.ife (.cmp .eq (.blt .lenset (.cons (.var 10) .nil)) (.var 2)) (.cons (.asg 17 (.cst (.int 1))) (.cons (.for (.nm 18) .val (.cons (.var 10) .nil) (.cons (.asg 17 (.bin .mul (.var 17) (.sub (.var 4) (.var 18)))) .nil)) (.cons (.aug 13 .add (.var 17)) .nil))) .nil) .nil)
def k05_11 : S := .for (.nm 10) .val (.cons (.var 12) .nil) k05_11b
def k05_12 : S := .ife (.cmp .ne (.cal 45 (.cons (.cst (.int 1)) (.cons (.var 4) (.cons (.var 8) .nil)))) (.cal 9 (.cons (.var 13) (.cons (.var 14) .nil)))) (.cons (.ret (.cst (.bl false))) .nil) .nil
def k05_13 : S := .ret (.cal 46 (.cons (.var 4) (.cons (.var 2) .nil)))
/-- 47: law -/
def b_law_k05 : Fd := ⟨1, 20, false, (.cons k05_0 (.cons k05_1 (.cons k05_2 (.cons k05_3 (.cons k05_4 (.cons k05_5 (.cons k05_6 (.cons k05_7 (.cons k05_8 (.cons k05_9 (.cons k05_10 (.cons k05_11 (.cons k05_12 (.cons k05_13 .nil))))))))))))))⟩
def k06_0 : S := .asg 1 (.lst .nil)
def k06_1 : S := .asg 2 (.bin .add (.cst (.int 1)) (.cal 13 (.cons (.var 0) (.cons (.var 1) (.cons (.cst (.int 6)) .nil)))))
def k06_2 : S := .asg 3 (.blt .tuple (.cons (.lc [14] (.nm 14) .r1 (.cons (.var 2) .nil) .none (.bin .add (.cst (.int 1)) (.cal 13 (.cons (.var 0) (.cons (.var 1) (.cons (.cst (.int 9)) .nil)))))) .nil))
def k06_3 : S := .asg 4 (.cal 13 (.cons (.var 0) (.cons (.var 1) (.cons (.cst (.int 13)) .nil))))
def k06_4 : S := .asg 5 (.bin .mul (.tup (.cons (.bin .add (.cst (.int 1)) (.cal 13 (.cons (.var 0) (.cons (.var 1) (.cons (.cst (.int 9)) .nil))))) .nil)) (.var 2))
def k06_5 : S := .par [10, 11] (.cons (.cal 42 (.cons (.var 3) .nil)) (.cons (.cal 42 (.cons (.var 5) .nil)) .nil))
def k06_6 : S := .ife (.or (.cons (.cmp .ne (.var 11) (.cal 29 (.cons (.var 2) (.cons (.cst (.int 1)) (.cons (.cst (.int 0)) .nil))))) (.cons (.cmp .lt (.bin .mul (.sub (.var 10) (.cst (.int 0))) (.sub (.var 11) (.cst (.int 1)))) (.bin .mul (.sub (.var 11) (.cst (.int 0))) (.sub (.var 10) (.cst (.int 1))))) .nil))) (.cons (.ret (.cst (.bl false))) .nil) .nil
def k06_7 : S := .par [12, 13] (.cons (.cal 43 (.cons (.var 3) (.cons (.var 4) .nil))) (.cons (.cal 43 (.cons (.var 5) (.cons (.var 4) .nil))) .nil))
def k06_8 : S := .ife (.or (.cons (.cmp .ne (.var 13) (.cal 30 (.cons (.var 2) (.cons (.cst (.int 1)) (.cons (.cst (.int 0)) (.cons (.var 4) .nil)))))) (.cons (.cmp .gt (.bin .mul (.sub (.var 12) (.cst (.int 0))) (.sub (.var 13) (.cst (.int 1)))) (.bin .mul (.sub (.var 13) (.cst (.int 0))) (.sub (.var 12) (.cst (.int 1))))) .nil))) (.cons (.ret (.cst (.bl false))) .nil) .nil
def k06_9 : S := .ife (.cmp .ne (.cmp .eq (.var 10) (.var 11)) (.cmp .eq (.blt .lenset (.cons (.var 3) .nil)) (.cst (.int 1)))) (.cons (.ret (.cst (.bl false))) .nil) .nil
def k06_10 : S := .asg 6 (.bin .add (.cst (.int 1)) (.cal 13 (.cons (.var 0) (.cons (.var 1) (.cons (.cst (.int 9)) .nil)))))
def k06_11 : S := .asg 7 (.blt .tuple (.cons (.lc [15] (.nm 15) .val (.cons (.var 3) .nil) .none (.bin .mul (.var 6) (.var 15))) .nil))
def k06_12 : S := .ife (.or (.cons (.cmp .ne (.cal 42 (.cons (.var 7) .nil)) (.var 10)) (.cons (.cmp .ne (.cal 43 (.cons (.var 7) (.cons (.var 4) .nil))) (.var 12)) (.cons (.cmp .ne (.cal 42 (.cons (.rev (.var 3)) .nil)) (.var 10)) .nil)))) (.cons (.ret (.cst (.bl false))) .nil) .nil
def k06_13 : S := .asg 8 (.cal 13 (.cons (.var 0) (.cons (.var 1) (.cons (.bin .add (.var 2) (.cst (.int 1))) .nil))))
def k06_14 : S := .ife (.cmp .ne (.cal 44 (.cons (.var 5) (.cons (.blt .tuprange (.cons (.var 8) .nil)) .nil))) (.cal 29 (.cons (.var 2) (.cons (.cst (.int 1)) (.cons (.var 8) .nil))))) (.cons (.ret (.cst (.bl false))) .nil) .nil
def k06_15 : S := .ife (.or (.cons (.and (.cons (.cmp .lt (.var 4) (.var 2)) (.cons (.cmp .ne (.var 12) (.tup (.cons (.cst (.int 0)) (.cons (.cst (.int 1)) .nil)))) .nil))) (.cons (.cmp .ne (.cal 44 (.cons (.var 3) (.cons (.blt .tuprange (.cons (.var 2) .nil)) .nil))) (.tup (.cons (.cst (.int 0)) (.cons (.cst (.int 1)) .nil)))) .nil))) (.cons (.ret (.cst (.bl false))) .nil) .nil
def k06_16 : S := .asg 9 (.cal 43 (.cons (.var 3) (.cons (.bin .add (.var 4) (.cst (.int 1))) .nil)))
def k06_17 : S := .ret (.and (.cons (.cmp .ge (.bin .mul (.sub (.var 9) (.cst (.int 0))) (.sub (.var 12) (.cst (.int 1)))) (.bin .mul (.sub (.var 12) (.cst (.int 0))) (.sub (.var 9) (.cst (.int 1))))) (.cons (.cmp .eq (.cal 44 (.cons (.var 3) (.cons (.tup .nil) .nil))) (.var 10)) .nil)))
/-- 48: law -/
def b_law_k06 : Fd := ⟨1, 16, false, (.cons k06_0 (.cons k06_1 (.cons k06_2 (.cons k06_3 (.cons k06_4 (.cons k06_5 (.cons k06_6 (.cons k06_7 (.cons k06_8 (.cons k06_9 (.cons k06_10 (.cons k06_11 (.cons k06_12 (.cons k06_13 (.cons k06_14 (.cons k06_15 (.cons k06_16 (.cons k06_17 .nil))))))))))))))))))⟩
/-- 49: is_collection -/
def b_is_collection : Fd := ⟨1, 2, true, (.cons (.ret (.and (.cons (.isi .tuple (.var 0)) (.cons (.chn .le .le (.cst (.int 1)) (.blt .len (.cons (.var 0) .nil)) (.cst (.int 8))) (.cons (.blt .all (.cons (.lc [1] (.nm 1) .val (.cons (.var 0) .nil) .none (.cal 0 (.cons (.var 1) (.cons (.cst (.int 0)) (.cons (.cst (.int 99)) .nil))))) .nil)) .nil))))) .nil)⟩
/-- 50: check_collection -/
def b_check_collection : Fd := ⟨1, 1, true, (.cons (.ife (.not (.cal 49 (.cons (.var 0) .nil))) (.cons (.rai 5) .nil) .nil) .nil)⟩
/-- 51: check_two -/
def b_check_two : Fd := ⟨2, 2, true, (.cons (.exp (.cal 50 (.cons (.var 0) .nil))) (.cons (.exp (.cal 50 (.cons (.var 1) .nil))) (.cons (.ife (.cmp .ne (.blt .len (.cons (.var 0) .nil)) (.blt .len (.cons (.var 1) .nil))) (.cons (.rai 5) .nil) .nil) .nil)))⟩
/-- 52: missing_in -/
def b_missing_in : Fd := ⟨1, 3, true, (.cons (.ret (.lc [1, 2] (.tp [1, 2]) .enu (.cons (.var 0) .nil) (.some (.cmp .eq (.var 2) (.cst (.int 0)))) (.var 1))) .nil)⟩
/-- 53: doubles_in -/
def b_doubles_in : Fd := ⟨1, 3, true, (.cons (.ret (.lc [1, 2] (.tp [1, 2]) .enu (.cons (.var 0) .nil) (.some (.cmp .gt (.var 2) (.cst (.int 1)))) (.var 1))) .nil)⟩
/-- 54: missing -/
def b_missing : Fd := ⟨1, 1, true, (.cons (.exp (.cal 50 (.cons (.var 0) .nil))) (.cons (.ret (.cal 52 (.cons (.var 0) .nil))) .nil))⟩
/-- 55: doubles -/
def b_doubles : Fd := ⟨1, 1, true, (.cons (.exp (.cal 50 (.cons (.var 0) .nil))) (.cons (.ret (.cal 53 (.cons (.var 0) .nil))) .nil))⟩
/-- 56: offers -/
def b_offers : Fd := ⟨2, 3, true, (.cons (.ret (.lc [2] (.nm 2) .val (.cons (.cal 53 (.cons (.var 0) .nil)) .nil) (.some (.cmp .inx (.var 2) (.cal 52 (.cons (.var 1) .nil)))) (.var 2))) .nil)⟩
/-- 57: swaps -/
def b_swaps : Fd := ⟨2, 2, true, (.cons (.exp (.cal 51 (.cons (.var 0) (.cons (.var 1) .nil)))) (.cons (.ret (.blt .min (.cons (.blt .len (.cons (.cal 56 (.cons (.var 0) (.cons (.var 1) .nil))) .nil)) (.cons (.blt .len (.cons (.cal 56 (.cons (.var 1) (.cons (.var 0) .nil))) .nil)) .nil)))) .nil))⟩
/-- 58: moved -/
def b_moved : Fd := ⟨3, 4, true, (.cons (.asg 3 (.blt .list (.cons (.var 0) .nil))) (.cons (.aus (.var 3) (.var 1) .sub (.cst (.int 1))) (.cons (.aus (.var 3) (.var 2) .add (.cst (.int 1))) (.cons (.ret (.blt .tuple (.cons (.var 3) .nil))) .nil))))⟩
/-- 59: after_swaps -/
def b_after_swaps : Fd := ⟨2, 4, true, (.cons (.exp (.cal 51 (.cons (.var 0) (.cons (.var 1) .nil)))) (.cons (.for (.tp [2, 3]) .val (.cons (.blt .listzip (.cons (.cal 56 (.cons (.var 0) (.cons (.var 1) .nil))) (.cons (.cal 56 (.cons (.var 1) (.cons (.var 0) .nil))) .nil))) .nil) (.cons (.par [0, 1] (.cons (.cal 58 (.cons (.var 0) (.cons (.var 2) (.cons (.var 3) .nil)))) (.cons (.cal 58 (.cons (.var 1) (.cons (.var 3) (.cons (.var 2) .nil)))) .nil))) .nil)) (.cons (.ret (.tup (.cons (.var 0) (.cons (.var 1) .nil)))) .nil)))⟩
/-- 60: _law_same_number -/
def b_law_same_number : Fd := ⟨2, 2, true, (.cons (.ret (.and (.cons (.isi .int (.var 0)) (.cons (.not (.isi .bool (.var 0))) (.cons (.cmp .eq (.var 0) (.var 1)) .nil))))) .nil)⟩
/-- 61: _law_ask -/
def b_law_ask_6 : Fd := ⟨3, 4, true, (.cons (.tryw 3 (.cons (.ret (.cax (.sub (.lst (.cons (.fnv 57) (.cons (.fnv 59) .nil))) (.var 0)) (.cons (.var 1) (.cons (.var 2) .nil)))) .nil)) .nil)⟩
/-- 62: _law_one -/
def b_law_one : Fd := ⟨2, 3, true, (.cons (.tryw 2 (.cons (.ret (.cax (.sub (.lst (.cons (.fnv 54) (.cons (.fnv 55) .nil))) (.var 0)) (.cons (.var 1) .nil))) .nil)) .nil)⟩
/-- 63: _law_gives -/
def b_law_gives : Fd := ⟨2, 4, true, (.cons (.ret (.lc [2, 3] (.tp [2, 3]) .enu (.cons (.var 0) .nil) (.some (.and (.cons (.cmp .gt (.var 3) (.cst (.int 1))) (.cons (.cmp .eq (.sub (.var 1) (.var 2)) (.cst (.int 0))) .nil)))) (.var 2))) .nil)⟩
/-- 64: _law_refused -/
def b_law_refused_2 : Fd := ⟨1, 5, true, (.cons (.asg 1 (.lst (.cons (.cst .non) (.cons (.cst (.int 5)) (.cons (.tup .nil) (.cons (.lst (.cons (.cst (.int 1)) .nil)) (.cons (.tup (.cons (.bin .sub (.cst (.int 0)) (.cst (.int 1))) .nil)) (.cons (.tup (.cons (.cst (.int 100)) .nil)) (.cons (.tup (.cons (.cst (.bl true)) .nil)) (.cons (.tup (.cons (.cst (.str (Str.ofString "1"))) .nil)) (.cons (.bin .mul (.tup (.cons (.cst (.int 1)) .nil)) (.cst (.int 9))) (.cons (.tup (.cons (.cst .non) .nil)) .nil)))))))))))) (.cons (.for (.nm 2) .val (.cons (.var 1) .nil) (.cons (.ife (.cmp .ne (.lc [4] (.nm 4) .val (.cons (.tup (.cons (.cst (.int 0)) (.cons (.cst (.int 1)) .nil))) .nil) .none (.cal 62 (.cons (.var 4) (.cons (.var 2) .nil)))) (.bin .mul (.lst (.cons (.tup (.cons (.cst (.str (Str.ofString "raised"))) (.cons (.cst (.int 5)) .nil))) .nil)) (.cst (.int 2)))) (.cons (.ret (.cst (.bl false))) .nil) .nil) (.cons (.ife (.cmp .ne (.lc [4] (.nm 4) .val (.cons (.tup (.cons (.cst (.int 0)) (.cons (.cst (.int 1)) .nil))) .nil) .none (.cal 61 (.cons (.var 4) (.cons (.var 2) (.cons (.cst .non) .nil))))) (.bin .mul (.lst (.cons (.tup (.cons (.cst (.str (Str.ofString "raised"))) (.cons (.cst (.int 5)) .nil))) .nil)) (.cst (.int 2)))) (.cons (.ret (.cst (.bl false))) .nil) .nil) .nil))) (.cons (.for (.nm 3) .val (.cons (.lst (.cons (.bin .add (.var 0) (.tup (.cons (.cst (.int 1)) .nil))) (.cons (.cst .non) (.cons (.tup .nil) (.cons (.slc (.var 0) (.some (.cst (.int 1))) .none) .nil))))) .nil) (.cons (.ife (.cmp .ne (.lc [4] (.nm 4) .val (.cons (.tup (.cons (.cst (.int 0)) (.cons (.cst (.int 1)) .nil))) .nil) .none (.cal 61 (.cons (.var 4) (.cons (.var 0) (.cons (.var 3) .nil))))) (.bin .mul (.lst (.cons (.tup (.cons (.cst (.str (Str.ofString "raised"))) (.cons (.cst (.int 5)) .nil))) .nil)) (.cst (.int 2)))) (.cons (.ret (.cst (.bl false))) .nil) .nil) .nil)) (.cons (.ret (.cst (.bl true))) .nil))))⟩
def k07_0 : S := .asg 1 (.lst .nil)
def k07_1 : S := .asg 2 (.bin .add (.cst (.int 1)) (.cal 13 (.cons (.var 0) (.cons (.var 1) (.cons (.cst (.int 8)) .nil)))))
def k07_2 : S := .asg 3 (.blt .tuple (.cons (.lc [13] (.nm 13) .r1 (.cons (.var 2) .nil) .none (.sub (.lst (.cons (.cst (.int 0)) (.cons (.cst (.int 0)) (.cons (.cst (.int 1)) (.cons (.cst (.int 2)) (.cons (.cst (.int 3)) (.cons (.cst (.int 5)) .nil))))))) (.cal 13 (.cons (.var 0) (.cons (.var 1) (.cons (.cst (.int 6)) .nil)))))) .nil))
def k07_3 : S := .asg 4 (.blt .tuple (.cons (.lc [13] (.nm 13) .r1 (.cons (.var 2) .nil) .none (.sub (.lst (.cons (.cst (.int 0)) (.cons (.cst (.int 0)) (.cons (.cst (.int 1)) (.cons (.cst (.int 2)) (.cons (.cst (.int 3)) (.cons (.cst (.int 99)) .nil))))))) (.cal 13 (.cons (.var 0) (.cons (.var 1) (.cons (.cst (.int 6)) .nil)))))) .nil))
def k07_4 : S := .ife (.cmp .ne (.cal 62 (.cons (.cst (.int 0)) (.cons (.var 3) .nil))) (.lc [14] (.nm 14) .r1 (.cons (.var 2) .nil) (.some (.cmp .eq (.sub (.var 3) (.var 14)) (.cst (.int 0)))) (.var 14))) (.cons (.ret (.cst (.bl false))) .nil) .nil
def k07_5 : S := .ife (.cmp .ne (.cal 62 (.cons (.cst (.int 1)) (.cons (.var 3) .nil))) (.lc [14] (.nm 14) .r1 (.cons (.var 2) .nil) (.some (.cmp .gt (.sub (.var 3) (.var 14)) (.cst (.int 1)))) (.var 14))) (.cons (.ret (.cst (.bl false))) .nil) .nil
def k07_6 : S := .par [5, 6, 7] (.cons (.blt .list (.cons (.var 3) .nil)) (.cons (.blt .list (.cons (.var 4) .nil)) (.cons (.cst (.int 0)) .nil)))
def k07_7b : Ss := (.cons (.asg 8 (.cal 35 (.cons (.var 0) (.cons (.var 1) (.cons (.cal 63 (.cons (.var 5) (.cons (.var 6) .nil))) .nil))))) (.cons (.asg 9 (.cal 35 (.cons (.var 0) (.cons (.var 1) (.cons (.cal 63 (.cons (.var 6) (.cons (.var 5) .nil))) .nil))))) (.cons (.for (.tp [10, 11, 12]) .val (.cons (.lst (.cons (.tup (.cons (.var 5) (.cons (.var 8) (.cons (.var 9) .nil)))) (.cons (.tup (.cons (.var 6) (.cons (.var 9) (.cons (.var 8) .nil)))) .nil))) .nil) (.cons (.aus (.var 10) (.var 11) .sub (.cst (.int 1))) (.cons (.aus (.var 10) (.var 12) .add (.cst (.int 1))) .nil))) (.cons (.aug 7 .add (.cst (.int 1))) .nil))))
def k07_7 : S := .whi (.and (.cons (.cmp .ne (.cal 63 (.cons (.var 5) (.cons (.var 6) .nil))) (.lst .nil)) (.cons (.cmp .ne (.cal 63 (.cons (.var 6) (.cons (.var 5) .nil))) (.lst .nil)) .nil))) k07_7b
def k07_8 : S := .ife (.or (.cons (.not (.cal 60 (.cons (.cal 61 (.cons (.cst (.int 0)) (.cons (.var 3) (.cons (.var 4) .nil)))) (.cons (.var 7) .nil)))) (.cons (.cmp .ne (.cal 61 (.cons (.cst (.int 0)) (.cons (.var 4) (.cons (.var 3) .nil)))) (.var 7)) .nil))) (.cons (.ret (.cst (.bl false))) .nil) .nil
def k07_9 : S := .par [5, 6] (.cons (.blt .list (.cons (.var 3) .nil)) (.cons (.blt .list (.cons (.var 4) .nil)) .nil))
def k07_10b : Ss := (.cons (.for (.tp [10, 11, 12]) .val (.cons (.lst (.cons (.tup (.cons (.var 5) (.cons (.var 8) (.cons (.var 9) .nil)))) (.cons (.tup (.cons (.var 6) (.cons (.var 9) (.cons (.var 8) .nil)))) .nil))) .nil) (.cons (.aus (.var 10) (.var 11) .sub (.cst (.int 1))) (.cons (.aus (.var 10) (.var 12) .add (.cst (.int 1))) .nil))) .nil)
def k07_10 : S := .for (.tp [8, 9]) .zip (.cons (.cal 63 (.cons (.var 3) (.cons (.var 4) .nil))) (.cons (.cal 63 (.cons (.var 4) (.cons (.var 3) .nil))) .nil)) k07_10b
def k07_11 : S := .ife (.or (.cons (.cmp .ne (.cal 61 (.cons (.cst (.int 1)) (.cons (.var 3) (.cons (.var 4) .nil)))) (.tup (.cons (.blt .tuple (.cons (.var 5) .nil)) (.cons (.blt .tuple (.cons (.var 6) .nil)) .nil)))) (.cons (.cmp .ne (.cal 61 (.cons (.cst (.int 0)) (.cons (.blt .tuple (.cons (.var 5) .nil)) (.cons (.blt .tuple (.cons (.var 6) .nil)) .nil)))) (.cst (.int 0))) .nil))) (.cons (.ret (.cst (.bl false))) .nil) .nil
def k07_12 : S := .ife (.or (.cons (.cmp .ne (.cal 61 (.cons (.cst (.int 1)) (.cons (.var 4) (.cons (.var 3) .nil)))) (.tup (.cons (.blt .tuple (.cons (.var 6) .nil)) (.cons (.blt .tuple (.cons (.var 5) .nil)) .nil)))) (.cons (.cmp .ne (.blt .sum (.cons (.var 5) .nil)) (.blt .sum (.cons (.var 3) .nil))) .nil))) (.cons (.ret (.cst (.bl false))) .nil) .nil
def k07_13 : S := .ret (.cal 64 (.cons (.var 3) .nil))
/-- 65: law -/
def b_law_k07 : Fd := ⟨1, 15, false, (.cons k07_0 (.cons k07_1 (.cons k07_2 (.cons k07_3 (.cons k07_4 (.cons k07_5 (.cons k07_6 (.cons k07_7 (.cons k07_8 (.cons k07_9 (.cons k07_10 (.cons k07_11 (.cons k07_12 (.cons k07_13 .nil))))))))))))))⟩
/-- 66: can_both_fill -/
def b_can_both_fill : Fd := ⟨2, 4, true, (.cons (.exp (.cal 51 (.cons (.var 0) (.cons (.var 1) .nil)))) (.cons (.ret (.blt .all (.cons (.lc [2, 3] (.tp [2, 3]) .zip (.cons (.var 0) (.cons (.var 1) .nil)) .none (.cmp .gt (.bin .add (.var 2) (.var 3)) (.cst (.int 1)))) .nil))) .nil))⟩
/-- 67: _law_same_truth -/
def b_law_same_truth : Fd := ⟨2, 2, true, (.cons (.ret (.and (.cons (.isi .bool (.var 0)) (.cons (.cmp .eq (.var 0) (.var 1)) .nil)))) .nil)⟩
def k08_0 : S := .asg 1 (.lst .nil)
def k08_1 : S := .asg 2 (.bin .add (.cst (.int 1)) (.cal 13 (.cons (.var 0) (.cons (.var 1) (.cons (.cst (.int 8)) .nil)))))
def k08_2 : S := .asg 3 (.cal 13 (.cons (.var 0) (.cons (.var 1) (.cons (.cst (.int 2)) .nil))))
def k08_3 : S := .asg 4 (.blt .tuple (.cons (.lc [14] (.nm 14) .r1 (.cons (.var 2) .nil) .none (.sub (.lst (.cons (.cst (.int 0)) (.cons (.cst (.int 1)) (.cons (.cst (.int 2)) (.cons (.cst (.int 3)) (.cons (.cst (.int 4)) .nil)))))) (.cal 13 (.cons (.var 0) (.cons (.var 1) (.cons (.cst (.int 5)) .nil)))))) .nil))
def k08_4 : S := .asg 5 (.lc [9] (.nm 9) .val (.cons (.var 4) .nil) .none (.bin .sub (.bin .add (.blt .max (.cons (.bin .sub (.cst (.int 2)) (.var 9)) (.cons (.cst (.int 0)) .nil))) (.cal 13 (.cons (.var 0) (.cons (.var 1) (.cons (.cst (.int 2)) .nil))))) (.bin .mul (.var 3) (.cal 13 (.cons (.var 0) (.cons (.var 1) (.cons (.cst (.int 2)) .nil)))))))
def k08_5 : S := .asg 6 (.blt .tuple (.cons (.lc [9] (.nm 9) .val (.cons (.var 5) .nil) .none (.blt .max (.cons (.var 9) (.cons (.cst (.int 0)) .nil)))) .nil))
def k08_6 : S := .par [10, 11] (.cons (.blt .list (.cons (.var 4) .nil)) (.cons (.blt .list (.cons (.var 6) .nil)) .nil))
def k08_7b : Ss := (.cons (.whi (.and (.cons (.cmp .gt (.sub (.var 10) (.var 7)) (.cst (.int 1))) (.cons (.cmp .eq (.sub (.var 11) (.var 7)) (.cst (.int 0))) .nil))) (.cons (.aus (.var 10) (.var 7) .sub (.cst (.int 1))) (.cons (.aus (.var 11) (.var 7) .add (.cst (.int 1))) .nil))) (.cons (.whi (.and (.cons (.cmp .gt (.sub (.var 11) (.var 7)) (.cst (.int 1))) (.cons (.cmp .eq (.sub (.var 10) (.var 7)) (.cst (.int 0))) .nil))) (.cons (.aus (.var 11) (.var 7) .sub (.cst (.int 1))) (.cons (.aus (.var 10) (.var 7) .add (.cst (.int 1))) .nil))) .nil))
def k08_7 : S := .for (.nm 7) .r1 (.cons (.var 2) .nil) k08_7b
def k08_8 : S := .asg 8 (.and (.cons (.cmp .gt (.blt .min (.cons (.var 10) .nil)) (.cst (.int 0))) (.cons (.cmp .gt (.blt .min (.cons (.var 11) .nil)) (.cst (.int 0))) .nil)))
def k08_9 : S := .ife (.or (.cons (.not (.cal 67 (.cons (.cal 66 (.cons (.var 4) (.cons (.var 6) .nil))) (.cons (.var 8) .nil)))) (.cons (.cmp .ne (.cal 66 (.cons (.var 6) (.cons (.var 4) .nil))) (.var 8)) .nil))) (.cons (.ret (.cst (.bl false))) .nil) .nil
def k08_10 : S := .unp [12, 13] (.cal 59 (.cons (.var 4) (.cons (.var 6) .nil)))
def k08_11 : S := .ife (.or (.cons (.cmp .ne (.cal 66 (.cons (.var 12) (.cons (.var 13) .nil))) (.var 8)) (.cons (.cmp .ne (.blt .sum (.cons (.var 12) .nil)) (.blt .sum (.cons (.var 4) .nil))) (.cons (.cmp .ne (.blt .sum (.cons (.var 13) .nil)) (.blt .sum (.cons (.var 6) .nil))) .nil)))) (.cons (.ret (.cst (.bl false))) .nil) .nil
def k08_12 : S := .asg 9 (.cal 57 (.cons (.var 4) (.cons (.var 6) .nil)))
def k08_13 : S := .ife (.or (.cons (.cmp .ne (.blt .len (.cons (.cal 54 (.cons (.var 12) .nil)) .nil)) (.bin .sub (.blt .len (.cons (.cal 54 (.cons (.var 4) .nil)) .nil)) (.var 9))) (.cons (.cmp .ne (.blt .len (.cons (.cal 54 (.cons (.var 13) .nil)) .nil)) (.bin .sub (.blt .len (.cons (.cal 54 (.cons (.var 6) .nil)) .nil)) (.var 9))) .nil))) (.cons (.ret (.cst (.bl false))) .nil) .nil
def k08_14 : S := .ife (.and (.cons (.cmp .eq (.cal 54 (.cons (.var 12) .nil)) (.lst .nil)) (.cons (.cmp .eq (.cal 54 (.cons (.var 13) .nil)) (.lst .nil)) (.cons (.not (.var 8)) .nil)))) (.cons (.ret (.cst (.bl false))) .nil) .nil
def k08_15 : S := .ife (.and (.cons (.cmp .ne (.lc [15] (.nm 15) .val (.cons (.cal 54 (.cons (.var 12) .nil)) .nil) (.some (.cmp .gt (.sub (.var 13) (.var 15)) (.cst (.int 1)))) (.var 15)) (.lst .nil)) (.cons (.cmp .ne (.cal 57 (.cons (.var 13) (.cons (.var 12) .nil))) (.cst (.int 0))) .nil))) (.cons (.ret (.cst (.bl false))) .nil) .nil
def k08_16 : S := .ife (.cmp .ne (.lc [15] (.nm 15) .val (.cons (.cal 55 (.cons (.var 12) .nil)) .nil) (.some (.cmp .inx (.var 15) (.cal 54 (.cons (.var 12) .nil)))) (.var 15)) (.lst .nil)) (.cons (.ret (.cst (.bl false))) .nil) .nil
def k08_17 : S := .ret (.or (.cons (.var 8) (.cons (.cmp .ne (.lc [7] (.nm 7) .r1 (.cons (.var 2) .nil) (.some (.cmp .lt (.bin .add (.sub (.var 4) (.var 7)) (.sub (.var 6) (.var 7))) (.cst (.int 2)))) (.var 7)) (.lst .nil)) .nil)))
/-- 68: law -/
def b_law_k08 : Fd := ⟨1, 16, false, (.cons k08_0 (.cons k08_1 (.cons k08_2 (.cons k08_3 (.cons k08_4 (.cons k08_5 (.cons k08_6 (.cons k08_7 (.cons k08_8 (.cons k08_9 (.cons k08_10 (.cons k08_11 (.cons k08_12 (.cons k08_13 (.cons k08_14 (.cons k08_15 (.cons k08_16 (.cons k08_17 .nil))))))))))))))))))⟩
/-- 69: text_of -/
def b_text_of : Fd := ⟨1, 2, true, (.cons (.ret (.mth .join (.cst (.str (Str.ofString ","))) (.cons (.lc [1] (.nm 1) .val (.cons (.var 0) .nil) .none (.blt .str (.cons (.var 1) .nil))) .nil))) .nil)⟩
/-- 70: format_collection -/
def b_format_collection : Fd := ⟨1, 1, true, (.cons (.exp (.cal 50 (.cons (.var 0) .nil))) (.cons (.ret (.cal 69 (.cons (.var 0) .nil))) .nil))⟩
/-- 71: parse_collection -/
def b_parse_collection : Fd := ⟨1, 5, true, (.cons (.ife (.or (.cons (.not (.isi .str (.var 0))) (.cons (.not (.blt .all (.cons (.lc [4] (.nm 4) .val (.cons (.var 0) .nil) .none (.cmp .inx (.var 4) (.bin .add (.glb 1) (.cst (.str (Str.ofString ",")))))) .nil))) .nil))) (.cons (.rai 9) .nil) .nil) (.cons (.asg 1 (.mth .split (.var 0) (.cons (.cst (.str (Str.ofString ","))) .nil))) (.cons (.ife (.not (.blt .all (.cons (.lc [3] (.nm 3) .val (.cons (.var 1) .nil) .none (.chn .le .le (.cst (.int 1)) (.blt .len (.cons (.var 3) .nil)) (.cst (.int 2)))) .nil))) (.cons (.rai 9) .nil) .nil) (.cons (.asg 2 (.blt .tuple (.cons (.lc [3] (.nm 3) .val (.cons (.var 1) .nil) .none (.blt .int (.cons (.var 3) .nil))) .nil))) (.cons (.ife (.or (.cons (.not (.cal 49 (.cons (.var 2) .nil))) (.cons (.cmp .ne (.cal 69 (.cons (.var 2) .nil)) (.var 0)) .nil))) (.cons (.rai 9) .nil) .nil) (.cons (.ret (.var 2)) .nil))))))⟩
/-- 72: _law_read -/
def b_law_read : Fd := ⟨1, 2, true, (.cons (.tryw 1 (.cons (.ret (.cal 71 (.cons (.var 0) .nil))) .nil)) .nil)⟩
def k09_0 : S := .asg 1 (.lst .nil)
def k09_1 : S := .asg 2 (.sub (.lst (.cons (.cst (.int 2)) (.cons (.cst (.int 12)) (.cons (.cst (.int 100)) .nil)))) (.cal 13 (.cons (.var 0) (.cons (.var 1) (.cons (.cst (.int 3)) .nil)))))
def k09_2 : S := .asg 3 (.blt .tuple (.cons (.lc [7] (.nm 7) .r1 (.cons (.bin .add (.cst (.int 1)) (.cal 13 (.cons (.var 0) (.cons (.var 1) (.cons (.cst (.int 8)) .nil))))) .nil) .none (.cal 13 (.cons (.var 0) (.cons (.var 1) (.cons (.var 2) .nil))))) .nil))
def k09_3 : S := .asg 4 (.blt .str (.cons (.sub (.var 3) (.cst (.int 0))) .nil))
def k09_4b : Ss := (.cons (.asg 4 (.bin .add (.bin .add (.var 4) (.cst (.str (Str.ofString ",")))) (.blt .str (.cons (.var 5) .nil)))) .nil)
def k09_4 : S := .for (.nm 5) .val (.cons (.slc (.var 3) (.some (.cst (.int 1))) .none) .nil) k09_4b
def k09_5 : S := .ife (.or (.cons (.cmp .ne (.cal 70 (.cons (.var 3) .nil)) (.var 4)) (.cons (.cmp .ne (.cal 72 (.cons (.var 4) .nil)) (.var 3)) .nil))) (.cons (.ret (.cst (.bl false))) .nil) .nil
def k09_6 : S := .asg 6 (.lst (.cons (.cst .non) (.cons (.cst (.int 5)) (.cons (.cst (.str (Str.ofString ""))) (.cons (.cst (.str (Str.ofString ","))) (.cons (.bin .add (.var 4) (.cst (.str (Str.ofString ",")))) (.cons (.bin .add (.cst (.str (Str.ofString ","))) (.var 4)) (.cons (.bin .add (.var 4) (.cst (.str (Str.ofString " ")))) (.cons (.cst (.str (Str.ofString "100"))) (.cons (.cst (.str (Str.ofString "01"))) .nil))))))))))
def k09_7 : S := .exp (.mth .extend (.var 6) (.cons (.lst (.cons (.cst (.str (Str.ofString "-1"))) (.cons (.cst (.str (Str.ofString "1,,2"))) (.cons (.cst (.str (Str.ofString "x"))) (.cons (.cst (.str (Str.ofString "1;2"))) (.cons (.cst (.str (Str.ofString "1, 2"))) (.cons (.cst (.str (Str.ofString "1.0"))) (.cons (.cst (.str (Str.ofString "+1"))) (.cons (.cst (.str (Str.ofString "1,2,3,4,5,6,7,8,9"))) (.cons (.cst (.str (Str.ofString "00"))) (.cons (.cst (.str (Str.ofString "1,02"))) (.cons (.cst (.str (Str.ofString "none"))) .nil)))))))))))) .nil))
def k09_8 : S := .ret (.and (.cons (.cmp .eq (.lc [8] (.nm 8) .val (.cons (.var 6) .nil) .none (.cal 72 (.cons (.var 8) .nil))) (.bin .mul (.lst (.cons (.tup (.cons (.cst (.str (Str.ofString "raised"))) (.cons (.cst (.int 9)) .nil))) .nil)) (.blt .len (.cons (.var 6) .nil)))) (.cons (.cmp .eq (.cal 72 (.cons (.cst (.str (Str.ofString "99,0"))) .nil)) (.tup (.cons (.cst (.int 99)) (.cons (.cst (.int 0)) .nil)))) .nil)))
/-- 73: law -/
def b_law_k09 : Fd := ⟨1, 9, false, (.cons k09_0 (.cons k09_1 (.cons k09_2 (.cons k09_3 (.cons k09_4 (.cons k09_5 (.cons k09_6 (.cons k09_7 (.cons k09_8 .nil)))))))))⟩
/-- 74: Collector.__init__ -/
def b_C_init : Fd := ⟨2, 2, false, (.cons (.exp (.cal 4 (.cons (.var 1) .nil))) (.cons (.fst (.var 0) 0 (.var 1)) (.cons (.fst (.var 0) 1 (.lst .nil)) (.cons (.fst (.var 0) 2 (.cst (.int 0))) .nil))))⟩
/-- 75: Collector.get -/
def b_C_get : Fd := ⟨2, 3, false, (.cons (.ife (.not (.cal 0 (.cons (.var 1) (.cons (.cst (.int 0)) (.cons (.bin .sub (.fld (.var 0) 0) (.cst (.int 1))) .nil))))) (.cons (.rai 6) .nil) .nil) (.cons (.ife (.cmp .eq (.mth .count (.fld (.var 0) 1) (.cons (.var 1) .nil)) (.cst (.int 99))) (.cons (.rai 7) .nil) .nil) (.cons (.asg 2 (.cmp .nin (.var 1) (.fld (.var 0) 1))) (.cons (.exp (.mth .append (.fld (.var 0) 1) (.cons (.var 1) .nil))) (.cons (.ret (.var 2)) .nil)))))⟩
/-- 76: Collector.collection -/
def b_C_collection : Fd := ⟨1, 2, false, (.cons (.ret (.blt .tuple (.cons (.lc [1] (.nm 1) .r1 (.cons (.fld (.var 0) 0) .nil) .none (.mth .count (.fld (.var 0) 1) (.cons (.var 1) .nil))) .nil))) .nil)⟩
/-- 77: Collector.mean_left -/
def b_C_mean_left : Fd := ⟨1, 1, false, (.cons (.ret (.cal 28 (.cons (.fld (.var 0) 0) (.cons (.cst (.int 1)) (.cons (.blt .lenset (.cons (.fld (.var 0) 1) .nil)) .nil))))) .nil)⟩
/-- 78: Collector.is_full -/
def b_C_is_full : Fd := ⟨1, 1, false, (.cons (.ret (.cmp .eq (.blt .lenset (.cons (.fld (.var 0) 1) .nil)) (.fld (.var 0) 0))) .nil)⟩
/-- 79: Collector.__eq__ -/
def b_C_eq : Fd := ⟨2, 2, false, (.cons (.ret (.and (.cons (.isi .own (.var 1)) (.cons (.cmp .eq (.mcl 76 (.var 0) .nil) (.mcl 76 (.var 1) .nil)) .nil)))) .nil)⟩
/-- 80: Collector.__len__ -/
def b_C_len : Fd := ⟨1, 1, false, (.cons (.ret (.blt .len (.cons (.fld (.var 0) 1) .nil))) .nil)⟩
/-- 81: Collector.__str__ -/
def b_C_str : Fd := ⟨1, 1, false, (.cons (.ret (.blt .str (.cons (.cal 69 (.cons (.mcl 76 (.var 0) .nil) .nil)) .nil))) .nil)⟩
/-- 82: _law_gathered -/
def b_law_gathered : Fd := ⟨5, 7, true, (.cons (.asg 5 (.blt .list (.cons (.var 4) .nil))) (.cons (.for (.nm 6) .r1 (.cons (.cal 13 (.cons (.var 0) (.cons (.var 1) (.cons (.cst (.int 10)) .nil)))) .nil) (.cons (.exp (.mth .append (.var 5) (.cons (.cal 13 (.cons (.var 0) (.cons (.var 1) (.cons (.var 3) .nil)))) .nil))) (.cons (.ife (.cmp .ne (.mcl 75 (.var 2) (.cons (.sub (.var 5) (.neg (.cst (.int 1)))) .nil)) (.cmp .nin (.sub (.var 5) (.neg (.cst (.int 1)))) (.slc (.var 5) .none (.some (.neg (.cst (.int 1))))))) (.cons (.ret (.cst .non)) .nil) .nil) .nil))) (.cons (.ret (.var 5)) .nil)))⟩
/-- 83: _law_take -/
def b_law_take : Fd := ⟨2, 3, true, (.cons (.tryw 2 (.cons (.ret (.mcl 75 (.var 0) (.cons (.var 1) .nil))) .nil)) .nil)⟩
def k10_0 : S := .asg 1 (.lst .nil)
def k10_1 : S := .asg 2 (.bin .add (.cst (.int 1)) (.cal 13 (.cons (.var 0) (.cons (.var 1) (.cons (.cst (.int 8)) .nil)))))
def k10_2 : S := .asg 3 (.mk (.cons (.var 2) .nil))
def k10_3 : S := .ife (.or (.cons (.cmp .ne (.blt .len (.cons (.var 3) .nil)) (.cst (.int 0))) (.cons (.cmp .ne (.mcl 76 (.var 3) .nil) (.bin .mul (.tup (.cons (.cst (.int 0)) .nil)) (.var 2))) (.cons (.cmp .nis (.mcl 78 (.var 3) .nil) (.cst (.bl false))) (.cons (.cmp .ne (.blt .str (.cons (.var 3) .nil)) (.mth .join (.cst (.str (Str.ofString ","))) (.cons (.bin .mul (.lst (.cons (.cst (.str (Str.ofString "0"))) .nil)) (.var 2)) .nil))) .nil))))) (.cons (.ret (.cst (.bl false))) .nil) .nil
def k10_4 : S := .asg 4 (.cal 82 (.cons (.var 0) (.cons (.var 1) (.cons (.var 3) (.cons (.var 2) (.cons (.lst .nil) .nil))))))
def k10_5 : S := .ife (.or (.cons (.cmp .isx (.var 4) (.cst .non)) (.cons (.cmp .ne (.blt .len (.cons (.var 3) .nil)) (.blt .len (.cons (.var 4) .nil))) .nil))) (.cons (.ret (.cst (.bl false))) .nil) .nil
def k10_6 : S := .asg 5 (.blt .tuple (.cons (.lc [8] (.nm 8) .r1 (.cons (.var 2) .nil) .none (.blt .len (.cons (.lc [9] (.nm 9) .val (.cons (.var 4) .nil) (.some (.cmp .eq (.var 9) (.var 8))) (.cst (.int 1))) .nil))) .nil))
def k10_7 : S := .ife (.or (.cons (.cmp .ne (.mcl 76 (.var 3) .nil) (.var 5)) (.cons (.cmp .ne (.blt .str (.cons (.var 3) .nil)) (.mth .join (.cst (.str (Str.ofString ","))) (.cons (.lc [10] (.nm 10) .val (.cons (.var 5) .nil) .none (.blt .str (.cons (.var 10) .nil))) .nil))) .nil))) (.cons (.ret (.cst (.bl false))) .nil) .nil
def k10_8 : S := .ife (.or (.cons (.not (.cal 67 (.cons (.mcl 78 (.var 3) .nil) (.cons (.cmp .gt (.blt .min (.cons (.var 5) .nil)) (.cst (.int 0))) .nil)))) (.cons (.cmp .ne (.mcl 77 (.var 3) .nil) (.cal 29 (.cons (.var 2) (.cons (.cst (.int 1)) (.cons (.blt .lenset (.cons (.var 4) .nil)) .nil))))) .nil))) (.cons (.ret (.cst (.bl false))) .nil) .nil
def k10_9b : Ss := (.cons (.ife (.or (.cons (.cmp .ne (.cal 83 (.cons (.var 3) (.cons (.var 6) .nil))) (.tup (.cons (.cst (.str (Str.ofString "raised"))) (.cons (.cst (.int 6)) .nil)))) (.cons (.cmp .ne (.mcl 76 (.var 3) .nil) (.var 5)) .nil))) (.cons (.ret (.cst (.bl false))) .nil) .nil) .nil)
def k10_9 : S := .for (.nm 6) .val (.cons (.lst (.cons (.cst .non) (.cons (.var 2) (.cons (.bin .sub (.cst (.int 0)) (.cst (.int 1))) (.cons (.cst (.str (Str.ofString "0"))) (.cons (.cst (.bl true)) (.cons (.tup (.cons (.cst (.int 0)) .nil)) .nil))))))) .nil) k10_9b
def k10_10 : S := .asg 7 (.mk (.cons (.var 2) .nil))
def k10_11b : Ss := (.cons (.exp (.mcl 75 (.var 7) (.cons (.var 8) .nil))) .nil)
def k10_11 : S := .for (.nm 8) .val (.cons (.rev (.var 4)) .nil) k10_11b
def k10_12 : S := .ife (.or (.cons (.not (.cmp .eq (.var 7) (.var 3))) (.cons (.cmp .ne (.var 7) (.var 3)) (.cons (.cmp .eq (.var 3) (.var 4)) (.cons (.cmp .eq (.var 3) (.cst .non)) (.cons (.cmp .ne (.cmp .eq (.mk (.cons (.var 2) .nil)) (.var 3)) (.cmp .eq (.var 4) (.lst .nil))) .nil)))))) (.cons (.ret (.cst (.bl false))) .nil) .nil
def k10_13 : S := .exp (.mcl 75 (.var 7) (.cons (.cst (.int 0)) .nil))
def k10_14 : S := .ife (.or (.cons (.cmp .eq (.var 7) (.var 3)) (.cons (.cmp .ne (.blt .len (.cons (.var 7) .nil)) (.bin .add (.blt .len (.cons (.var 4) .nil)) (.cst (.int 1)))) (.cons (.cmp .eq (.mk (.cons (.var 2) .nil)) (.mk (.cons (.bin .add (.bin .mod (.var 2) (.cst (.int 8))) (.cst (.int 1))) .nil))) .nil)))) (.cons (.ret (.cst (.bl false))) .nil) .nil
def k10_15b : Ss := (.cons (.exp (.mcl 75 (.var 7) (.cons (.cst (.int 0)) .nil))) .nil)
def k10_15 : S := .whi (.cmp .lt (.sub (.mcl 76 (.var 7) .nil) (.cst (.int 0))) (.cst (.int 99))) k10_15b
def k10_16 : S := .ife (.or (.cons (.cmp .ne (.cal 83 (.cons (.var 7) (.cons (.cst (.int 0)) .nil))) (.tup (.cons (.cst (.str (Str.ofString "raised"))) (.cons (.cst (.int 7)) .nil)))) (.cons (.cmp .ne (.sub (.mcl 76 (.var 7) .nil) (.cst (.int 0))) (.cst (.int 99))) .nil))) (.cons (.ret (.cst (.bl false))) .nil) .nil
def k10_17 : S := .ret (.or (.cons (.cmp .eq (.var 2) (.cst (.int 1))) (.cons (.cal 67 (.cons (.cal 83 (.cons (.var 7) (.cons (.cst (.int 1)) .nil))) (.cons (.cmp .eq (.sub (.var 5) (.cst (.int 1))) (.cst (.int 0))) .nil))) .nil)))
/-- 84: law -/
def b_law_k10 : Fd := ⟨1, 11, false, (.cons k10_0 (.cons k10_1 (.cons k10_2 (.cons k10_3 (.cons k10_4 (.cons k10_5 (.cons k10_6 (.cons k10_7 (.cons k10_8 (.cons k10_9 (.cons k10_10 (.cons k10_11 (.cons k10_12 (.cons k10_13 (.cons k10_14 (.cons k10_15 (.cons k10_16 (.cons k10_17 .nil))))))))))))))))))⟩
/-- 85: Collector.undo -/
def b_C_undo : Fd := ⟨1, 2, false, (.cons (.ife (.cmp .eq (.blt .len (.cons (.fld (.var 0) 1) .nil)) (.fld (.var 0) 2)) (.cons (.rai 8) .nil) .nil) (.cons (.asg 1 (.sub (.fld (.var 0) 1) (.neg (.cst (.int 1))))) (.cons (.fst (.var 0) 1 (.slc (.fld (.var 0) 1) .none (.some (.neg (.cst (.int 1)))))) (.cons (.ret (.var 1)) .nil))))⟩
/-- 86: Collector.duplicate -/
def b_C_duplicate : Fd := ⟨1, 2, false, (.cons (.asg 1 (.mk (.cons (.fld (.var 0) 0) .nil))) (.cons (.fst (.var 1) 1 (.blt .list (.cons (.fld (.var 0) 1) .nil))) (.cons (.fst (.var 1) 2 (.blt .len (.cons (.fld (.var 0) 1) .nil))) (.cons (.ret (.var 1)) .nil))))⟩
/-- 87: _law_back -/
def b_law_back : Fd := ⟨1, 2, true, (.cons (.tryw 1 (.cons (.ret (.mcl 85 (.var 0) .nil)) .nil)) .nil)⟩
/-- 88: _law_counts -/
def b_law_counts : Fd := ⟨2, 4, true, (.cons (.ret (.blt .tuple (.cons (.lc [2] (.nm 2) .r1 (.cons (.var 0) .nil) .none (.blt .len (.cons (.lc [3] (.nm 3) .val (.cons (.var 1) .nil) (.some (.cmp .eq (.var 3) (.var 2))) (.cst (.int 1))) .nil))) .nil))) .nil)⟩
def k11_0 : S := .asg 1 (.lst .nil)
def k11_1 : S := .asg 2 (.bin .add (.cst (.int 1)) (.cal 13 (.cons (.var 0) (.cons (.var 1) (.cons (.cst (.int 8)) .nil)))))
def k11_2 : S := .asg 3 (.mk (.cons (.var 2) .nil))
def k11_3 : S := .asg 4 (.cal 82 (.cons (.var 0) (.cons (.var 1) (.cons (.var 3) (.cons (.var 2) (.cons (.lst .nil) .nil))))))
def k11_4 : S := .asg 5 (.mcl 86 (.var 3) .nil)
def k11_5 : S := .ife (.or (.cons (.cmp .isx (.var 4) (.cst .non)) (.cons (.not (.cmp .eq (.var 5) (.var 3))) (.cons (.cmp .ne (.mcl 76 (.var 5) .nil) (.mcl 76 (.var 3) .nil)) (.cons (.cmp .ne (.cal 87 (.cons (.var 5) .nil)) (.tup (.cons (.cst (.str (Str.ofString "raised"))) (.cons (.cst (.int 8)) .nil)))) .nil))))) (.cons (.ret (.cst (.bl false))) .nil) .nil
def k11_6 : S := .asg 6 (.cal 82 (.cons (.var 0) (.cons (.var 1) (.cons (.var 5) (.cons (.var 2) (.cons (.var 4) .nil))))))
def k11_7 : S := .ife (.or (.cons (.cmp .isx (.var 6) (.cst .non)) (.cons (.cmp .ne (.mcl 76 (.var 5) .nil) (.cal 88 (.cons (.var 2) (.cons (.var 6) .nil)))) (.cons (.cmp .ne (.mcl 76 (.var 3) .nil) (.cal 88 (.cons (.var 2) (.cons (.var 4) .nil)))) .nil)))) (.cons (.ret (.cst (.bl false))) .nil) .nil
def k11_8b : Ss := (.cons (.ife (.or (.cons (.cmp .ne (.cal 87 (.cons (.var 5) .nil)) (.sub (.var 6) (.var 7))) (.cons (.cmp .ne (.mcl 76 (.var 5) .nil) (.cal 88 (.cons (.var 2) (.cons (.slc (.var 6) .none (.some (.var 7))) .nil)))) .nil))) (.cons (.ret (.cst (.bl false))) .nil) .nil) .nil)
def k11_8 : S := .for (.nm 7) .r3 (.cons (.bin .sub (.blt .len (.cons (.var 6) .nil)) (.cst (.int 1))) (.cons (.bin .sub (.blt .len (.cons (.var 4) .nil)) (.cst (.int 1))) (.cons (.neg (.cst (.int 1))) .nil))) k11_8b
def k11_9 : S := .ife (.or (.cons (.cmp .ne (.cal 87 (.cons (.var 5) .nil)) (.tup (.cons (.cst (.str (Str.ofString "raised"))) (.cons (.cst (.int 8)) .nil)))) (.cons (.cmp .ne (.blt .len (.cons (.var 5) .nil)) (.blt .len (.cons (.var 4) .nil))) .nil))) (.cons (.ret (.cst (.bl false))) .nil) .nil
def k11_10b : Ss := (.cons (.ife (.or (.cons (.cmp .ne (.cal 87 (.cons (.var 3) .nil)) (.sub (.var 4) (.var 7))) (.cons (.cmp .ne (.blt .len (.cons (.var 3) .nil)) (.var 7)) (.cons (.cmp .ne (.mcl 78 (.var 3) .nil) (.cmp .eq (.blt .lenset (.cons (.slc (.var 4) .none (.some (.var 7))) .nil)) (.var 2))) .nil)))) (.cons (.ret (.cst (.bl false))) .nil) .nil) .nil)
def k11_10 : S := .for (.nm 7) .r3 (.cons (.bin .sub (.blt .len (.cons (.var 4) .nil)) (.cst (.int 1))) (.cons (.neg (.cst (.int 1))) (.cons (.neg (.cst (.int 1))) .nil))) k11_10b
def k11_11 : S := .ret (.and (.cons (.cmp .eq (.cal 87 (.cons (.var 3) .nil)) (.tup (.cons (.cst (.str (Str.ofString "raised"))) (.cons (.cst (.int 8)) .nil)))) (.cons (.cmp .eq (.var 3) (.mk (.cons (.var 2) .nil))) (.cons (.cmp .eq (.blt .len (.cons (.var 5) .nil)) (.blt .len (.cons (.var 4) .nil))) .nil))))
/-- 89: law -/
def b_law_k11 : Fd := ⟨1, 8, false, (.cons k11_0 (.cons k11_1 (.cons k11_2 (.cons k11_3 (.cons k11_4 (.cons k11_5 (.cons k11_6 (.cons k11_7 (.cons k11_8 (.cons k11_9 (.cons k11_10 (.cons k11_11 .nil))))))))))))⟩
/-- 90: _law_small_ones -/
def b_law_small_ones : Fd := ⟨0, 0, true, (.cons (.ife (.or (.cons (.cmp .ne (.cal 8 (.cons (.cst (.int 4)) (.cons (.cst (.int 2)) (.cons (.cst (.int 2)) (.cons (.cst (.int 1)) .nil))))) (.tup (.cons (.cst (.int 2)) (.cons (.cst (.int 3)) .nil)))) (.cons (.cmp .ne (.cal 23 (.cons (.cst (.int 2)) (.cons (.cst (.int 1)) (.cons (.cst (.int 0)) (.cons (.cst (.int 2)) .nil))))) (.tup (.cons (.tup (.cons (.cst (.int 0)) (.cons (.cst (.int 1)) .nil))) (.cons (.tup (.cons (.cst (.int 1)) (.cons (.cst (.int 2)) .nil))) (.cons (.tup (.cons (.cst (.int 1)) (.cons (.cst (.int 2)) .nil))) .nil))))) .nil))) (.cons (.ret (.cst (.bl false))) .nil) .nil) (.cons (.ife (.cmp .ne (.cal 24 (.cons (.cst (.int 2)) (.cons (.cst (.int 1)) (.cons (.cst (.int 0)) (.cons (.cst (.int 2)) .nil))))) (.tup (.cons (.cst (.int 3)) (.cons (.cst (.int 2)) .nil)))) (.cons (.ret (.cst (.bl false))) .nil) .nil) (.cons (.ife (.or (.cons (.cmp .ne (.cal 29 (.cons (.cst (.int 2)) (.cons (.cst (.int 1)) (.cons (.cst (.int 0)) .nil)))) (.tup (.cons (.cst (.int 3)) (.cons (.cst (.int 1)) .nil)))) (.cons (.cmp .ne (.cal 30 (.cons (.cst (.int 2)) (.cons (.cst (.int 1)) (.cons (.cst (.int 0)) (.cons (.cst (.int 2)) .nil))))) (.tup (.cons (.cst (.int 1)) (.cons (.cst (.int 2)) .nil)))) (.cons (.cmp .ne (.cal 34 (.cons (.cst (.int 2)) (.cons (.cst (.int 1)) (.cons (.cst (.int 0)) (.cons (.tup (.cons (.cst (.int 2)) (.cons (.cst (.int 3)) .nil))) .nil))))) (.cst (.int 3))) .nil)))) (.cons (.ret (.cst (.bl false))) .nil) .nil) (.cons (.ife (.or (.cons (.cmp .ne (.cal 42 (.cons (.tup (.cons (.cst (.int 1)) (.cons (.cst (.int 1)) .nil))) .nil)) (.tup (.cons (.cst (.int 3)) (.cons (.cst (.int 1)) .nil)))) (.cons (.cmp .ne (.cal 43 (.cons (.tup (.cons (.cst (.int 1)) (.cons (.cst (.int 2)) .nil))) (.cons (.cst (.int 2)) .nil))) (.tup (.cons (.cst (.int 4)) (.cons (.cst (.int 9)) .nil)))) (.cons (.cmp .ne (.cal 44 (.cons (.tup (.cons (.cst (.int 1)) (.cons (.cst (.int 2)) .nil))) (.cons (.tup (.cons (.cst (.int 1)) .nil)) .nil))) (.tup (.cons (.cst (.int 3)) (.cons (.cst (.int 1)) .nil)))) .nil)))) (.cons (.ret (.cst (.bl false))) .nil) .nil) (.cons (.ife (.or (.cons (.cmp .ne (.cal 54 (.cons (.tup (.cons (.cst (.int 0)) (.cons (.cst (.int 2)) (.cons (.cst (.int 1)) .nil)))) .nil)) (.lst (.cons (.cst (.int 0)) .nil))) (.cons (.cmp .ne (.cal 55 (.cons (.tup (.cons (.cst (.int 0)) (.cons (.cst (.int 2)) (.cons (.cst (.int 1)) .nil)))) .nil)) (.lst (.cons (.cst (.int 1)) .nil))) (.cons (.cmp .ne (.cal 57 (.cons (.tup (.cons (.cst (.int 0)) (.cons (.cst (.int 2)) .nil))) (.cons (.tup (.cons (.cst (.int 3)) (.cons (.cst (.int 0)) .nil))) .nil))) (.cst (.int 1))) .nil)))) (.cons (.ret (.cst (.bl false))) .nil) .nil) (.cons (.ife (.or (.cons (.cmp .ne (.cal 59 (.cons (.tup (.cons (.cst (.int 0)) (.cons (.cst (.int 2)) .nil))) (.cons (.tup (.cons (.cst (.int 3)) (.cons (.cst (.int 0)) .nil))) .nil))) (.tup (.cons (.tup (.cons (.cst (.int 1)) (.cons (.cst (.int 1)) .nil))) (.cons (.tup (.cons (.cst (.int 2)) (.cons (.cst (.int 1)) .nil))) .nil)))) (.cons (.cmp .nis (.cal 66 (.cons (.tup (.cons (.cst (.int 0)) (.cons (.cst (.int 2)) .nil))) (.cons (.tup (.cons (.cst (.int 3)) (.cons (.cst (.int 0)) .nil))) .nil))) (.cst (.bl true))) .nil))) (.cons (.ret (.cst (.bl false))) .nil) .nil) (.cons (.ret (.and (.cons (.cmp .eq (.cal 29 (.cons (.cst (.int 8)) (.cons (.cst (.int 1)) (.cons (.cst (.int 0)) .nil)))) (.tup (.cons (.cst (.int 761)) (.cons (.cst (.int 35)) .nil)))) (.cons (.cmp .eq (.cal 29 (.cons (.cst (.int 3)) (.cons (.cst (.int 2)) (.cons (.cst (.int 0)) .nil)))) (.tup (.cons (.cst (.int 5)) (.cons (.cst (.int 2)) .nil)))) (.cons (.cmp .eq (.cal 42 (.cons (.tup (.cons (.cst (.int 1)) (.cons (.cst (.int 2)) (.cons (.cst (.int 3)) .nil)))) .nil)) (.tup (.cons (.cst (.int 73)) (.cons (.cst (.int 10)) .nil)))) .nil))))) .nil)))))))⟩
def k12_0 : S := .asg 1 (.lst .nil)
def k12_1 : S := .asg 2 (.bin .add (.cst (.int 1)) (.cal 13 (.cons (.var 0) (.cons (.var 1) (.cons (.cst (.int 8)) .nil)))))
def k12_2 : S := .asg 3 (.cal 13 (.cons (.var 0) (.cons (.var 1) (.cons (.cst (.int 9)) .nil))))
def k12_3 : S := .ife (.or (.cons (.cmp .ne (.cal 29 (.cons (.var 2) (.cons (.var 2) (.cons (.cst (.int 0)) .nil)))) (.tup (.cons (.cst (.int 1)) (.cons (.cst (.int 1)) .nil)))) (.cons (.cmp .ne (.cal 29 (.cons (.cst (.int 1)) (.cons (.cst (.int 1)) (.cons (.cst (.int 0)) .nil)))) (.tup (.cons (.cst (.int 1)) (.cons (.cst (.int 1)) .nil)))) (.cons (.cmp .ne (.cal 29 (.cons (.var 2) (.cons (.cst (.int 1)) (.cons (.var 2) .nil)))) (.tup (.cons (.cst (.int 0)) (.cons (.cst (.int 1)) .nil)))) .nil)))) (.cons (.ret (.cst (.bl false))) .nil) .nil
def k12_4 : S := .ife (.or (.cons (.cmp .ne (.cal 30 (.cons (.var 2) (.cons (.var 2) (.cons (.cst (.int 0)) (.cons (.var 3) .nil))))) (.ite (.cmp .gt (.var 3) (.cst (.int 0))) (.tup (.cons (.cst (.int 1)) (.cons (.cst (.int 1)) .nil))) (.tup (.cons (.cst (.int 0)) (.cons (.cst (.int 1)) .nil))))) (.cons (.cmp .ne (.cal 34 (.cons (.var 2) (.cons (.var 2) (.cons (.cst (.int 0)) (.cons (.tup (.cons (.cst (.int 1)) (.cons (.cst (.int 2)) .nil))) .nil))))) (.cst (.int 1))) .nil))) (.cons (.ret (.cst (.bl false))) .nil) .nil
def k12_5 : S := .par [10, 11] (.cons (.bin .add (.cst (.int 1)) (.cal 13 (.cons (.var 0) (.cons (.var 1) (.cons (.cst (.int 20)) .nil))))) (.cons (.bin .add (.cst (.int 1)) (.cal 13 (.cons (.var 0) (.cons (.var 1) (.cons (.cst (.int 20)) .nil))))) .nil))
def k12_6 : S := .asg 4 (.bin .add (.var 10) (.var 11))
def k12_7 : S := .asg 5 (.cal 10 (.cons (.lst (.cons (.cal 9 (.cons (.var 4) (.cons (.var 10) .nil))) (.cons (.cal 9 (.cons (.var 4) (.cons (.var 11) .nil))) (.cons (.tup (.cons (.bin .sub (.cst (.int 0)) (.cst (.int 1))) (.cons (.cst (.int 1)) .nil))) .nil)))) .nil))
def k12_8 : S := .ife (.or (.cons (.cmp .ne (.cal 42 (.cons (.tup (.cons (.var 10) (.cons (.var 11) .nil))) .nil)) (.var 5)) (.cons (.cmp .ne (.cal 44 (.cons (.tup (.cons (.var 10) (.cons (.var 11) .nil))) (.cons (.tup (.cons (.cst (.int 0)) .nil)) .nil))) (.cal 9 (.cons (.var 4) (.cons (.var 11) .nil)))) .nil))) (.cons (.ret (.cst (.bl false))) .nil) .nil
def k12_9 : S := .par [12, 13] (.cons (.tup (.cons (.cst (.int 1)) (.cons (.cst (.int 1)) .nil))) (.cons (.tup (.cons (.cst (.int 1)) (.cons (.cst (.int 1)) .nil))) .nil))
def k12_10b : Ss := (.cons (.par [12, 13] (.cons (.cal 25 (.cons (.var 12) (.cons (.cal 9 (.cons (.var 10) (.cons (.var 4) .nil))) .nil))) (.cons (.cal 25 (.cons (.var 13) (.cons (.cal 9 (.cons (.var 11) (.cons (.var 4) .nil))) .nil))) .nil))) .nil)
def k12_10 : S := .for (.nm 6) .r1 (.cons (.var 3) .nil) k12_10b
def k12_11 : S := .asg 7 (.ite (.cmp .gt (.var 3) (.cst (.int 0))) (.cal 10 (.cons (.lst (.cons (.tup (.cons (.cst (.int 1)) (.cons (.cst (.int 1)) .nil))) (.cons (.tup (.cons (.bin .sub (.cst (.int 0)) (.sub (.var 12) (.cst (.int 0)))) (.cons (.sub (.var 12) (.cst (.int 1))) .nil))) (.cons (.tup (.cons (.bin .sub (.cst (.int 0)) (.sub (.var 13) (.cst (.int 0)))) (.cons (.sub (.var 13) (.cst (.int 1))) .nil))) .nil)))) .nil)) (.tup (.cons (.cst (.int 0)) (.cons (.cst (.int 1)) .nil))))
def k12_12 : S := .ife (.or (.cons (.cmp .ne (.cal 43 (.cons (.tup (.cons (.var 10) (.cons (.var 11) .nil))) (.cons (.var 3) .nil))) (.var 7)) (.cons (.cmp .ne (.cal 42 (.cons (.tup (.cons (.var 10) .nil)) .nil)) (.tup (.cons (.cst (.int 1)) (.cons (.cst (.int 1)) .nil)))) .nil))) (.cons (.ret (.cst (.bl false))) .nil) .nil
def k12_13 : S := .asg 8 (.bin .add (.bin .mul (.tup (.cons (.cst (.int 0)) .nil)) (.var 2)) (.bin .mul (.tup (.cons (.cst (.int 2)) .nil)) (.bin .sub (.cst (.int 8)) (.var 2))))
def k12_14 : S := .asg 9 (.bin .add (.bin .mul (.tup (.cons (.cst (.int 2)) .nil)) (.var 2)) (.bin .mul (.tup (.cons (.cst (.int 0)) .nil)) (.bin .sub (.cst (.int 8)) (.var 2))))
def k12_15 : S := .ife (.or (.cons (.cmp .ne (.cal 57 (.cons (.var 8) (.cons (.var 9) .nil))) (.blt .min (.cons (.var 2) (.cons (.bin .sub (.cst (.int 8)) (.var 2)) .nil)))) (.cons (.cmp .ne (.cal 54 (.cons (.var 8) .nil)) (.blt .listrange (.cons (.var 2) .nil))) (.cons (.cmp .nis (.cal 66 (.cons (.var 8) (.cons (.var 9) .nil))) (.cst (.bl true))) .nil)))) (.cons (.ret (.cst (.bl false))) .nil) .nil
def k12_16 : S := .ife (.or (.cons (.cmp .ne (.cal 59 (.cons (.var 8) (.cons (.var 8) .nil))) (.tup (.cons (.var 8) (.cons (.var 8) .nil)))) (.cons (.cmp .nis (.cal 66 (.cons (.var 8) (.cons (.var 8) .nil))) (.cst (.bl false))) .nil))) (.cons (.ret (.cst (.bl false))) .nil) .nil
def k12_17 : S := .ret (.cal 90 .nil)
/-- 91: law -/
def b_law_k12 : Fd := ⟨1, 14, false, (.cons k12_0 (.cons k12_1 (.cons k12_2 (.cons k12_3 (.cons k12_4 (.cons k12_5 (.cons k12_6 (.cons k12_7 (.cons k12_8 (.cons k12_9 (.cons k12_10 (.cons k12_11 (.cons k12_12 (.cons k12_13 (.cons k12_14 (.cons k12_15 (.cons k12_16 (.cons k12_17 .nil))))))))))))))))))⟩
def k13_0 : S := .asg 1 (.lst .nil)
def k13_1 : S := .asg 2 (.bin .add (.cst (.int 1)) (.cal 13 (.cons (.var 0) (.cons (.var 1) (.cons (.cst (.int 8)) .nil)))))
def k13_2 : S := .asg 3 (.lst .nil)
def k13_3b : Ss := (.cons (.asg 6 (.blt .tuple (.cons (.lc [14] (.nm 14) .r1 (.cons (.var 2) .nil) .none (.sub (.lst (.cons (.cst (.int 0)) (.cons (.cst (.int 0)) (.cons (.cst (.int 1)) (.cons (.cst (.int 2)) (.cons (.cst (.int 4)) .nil)))))) (.cal 13 (.cons (.var 0) (.cons (.var 1) (.cons (.cst (.int 5)) .nil)))))) .nil))) (.cons (.ife (.cmp .ne (.cal 71 (.cons (.cal 70 (.cons (.var 6) .nil)) .nil)) (.var 6)) (.cons (.ret (.cst (.bl false))) .nil) .nil) (.cons (.exp (.mth .append (.var 3) (.cons (.var 6) .nil))) .nil)))
def k13_3 : S := .for (.nm 4) .r1 (.cons (.cst (.int 2)) .nil) k13_3b
def k13_4 : S := .asg 5 (.lst .nil)
def k13_5b : Ss := (.cons (.asg 8 (.mk (.cons (.var 2) .nil))) (.cons (.for (.nm 9) .r1 (.cons (.var 2) .nil) (.cons (.for (.nm 7) .r1 (.cons (.sub (.var 6) (.var 9)) .nil) (.cons (.ife (.cmp .ne (.mcl 75 (.var 8) (.cons (.var 9) .nil)) (.cmp .eq (.var 7) (.cst (.int 0)))) (.cons (.ret (.cst (.bl false))) .nil) .nil) .nil)) .nil)) (.cons (.ife (.or (.cons (.cmp .ne (.cal 71 (.cons (.blt .str (.cons (.var 8) .nil)) .nil)) (.var 6)) (.cons (.cmp .ne (.blt .len (.cons (.var 8) .nil)) (.blt .sum (.cons (.var 6) .nil))) (.cons (.cmp .ne (.mcl 78 (.var 8) .nil) (.cmp .eq (.cal 54 (.cons (.var 6) .nil)) (.lst .nil))) .nil)))) (.cons (.ret (.cst (.bl false))) .nil) .nil) (.cons (.exp (.mth .append (.var 5) (.cons (.var 8) .nil))) .nil))))
def k13_5 : S := .for (.nm 6) .val (.cons (.var 3) .nil) k13_5b
def k13_6 : S := .unp [10, 11] (.cal 59 (.cons (.sub (.var 3) (.cst (.int 0))) (.cons (.sub (.var 3) (.cst (.int 1))) .nil)))
def k13_7 : S := .asg 7 (.cal 57 (.cons (.sub (.var 3) (.cst (.int 0))) (.cons (.sub (.var 3) (.cst (.int 1))) .nil)))
def k13_8b : Ss := (.cons (.ife (.or (.cons (.cmp .ne (.blt .len (.cons (.cal 54 (.cons (.var 12) .nil)) .nil)) (.bin .sub (.blt .len (.cons (.cal 54 (.cons (.var 6) .nil)) .nil)) (.var 7))) (.cons (.cmp .gt (.blt .len (.cons (.cal 55 (.cons (.var 12) .nil)) .nil)) (.blt .len (.cons (.cal 55 (.cons (.var 6) .nil)) .nil))) .nil))) (.cons (.ret (.cst (.bl false))) .nil) .nil) (.cons (.ife (.cmp .ne (.mcl 77 (.var 8) .nil) (.cal 29 (.cons (.var 2) (.cons (.cst (.int 1)) (.cons (.bin .sub (.var 2) (.blt .len (.cons (.cal 54 (.cons (.var 6) .nil)) .nil))) .nil))))) (.cons (.ret (.cst (.bl false))) .nil) .nil) (.cons (.asg 13 (.lc [9] (.nm 9) .r1 (.cons (.var 2) .nil) (.some (.cmp .gt (.sub (.var 12) (.var 9)) (.sub (.var 6) (.var 9)))) (.var 9))) (.cons (.ife (.or (.cons (.cmp .ne (.blt .len (.cons (.var 13) .nil)) (.var 7)) (.cons (.cmp .ne (.lc [9] (.nm 9) .val (.cons (.var 13) .nil) (.some (.cmp .nin (.var 9) (.cal 54 (.cons (.var 6) .nil)))) (.var 9)) (.lst .nil)) .nil))) (.cons (.ret (.cst (.bl false))) .nil) .nil) (.cons (.for (.nm 9) .val (.cons (.var 13) .nil) (.cons (.exp (.mcl 75 (.var 8) (.cons (.var 9) .nil))) .nil)) (.cons (.ife (.cmp .ne (.mcl 77 (.var 8) .nil) (.cal 29 (.cons (.var 2) (.cons (.cst (.int 1)) (.cons (.bin .sub (.var 2) (.blt .len (.cons (.cal 54 (.cons (.var 12) .nil)) .nil))) .nil))))) (.cons (.ret (.cst (.bl false))) .nil) .nil) .nil))))))
def k13_8 : S := .for (.tp [6, 12, 8]) .val (.cons (.lst (.cons (.tup (.cons (.sub (.var 3) (.cst (.int 0))) (.cons (.var 10) (.cons (.sub (.var 5) (.cst (.int 0))) .nil)))) (.cons (.tup (.cons (.sub (.var 3) (.cst (.int 1))) (.cons (.var 11) (.cons (.sub (.var 5) (.cst (.int 1))) .nil)))) .nil))) .nil) k13_8b
def k13_9 : S := .ret (.and (.cons (.cmp .eq (.cal 57 (.cons (.var 10) (.cons (.var 11) .nil))) (.cst (.int 0))) (.cons (.cmp .eq (.blt .sum (.cons (.var 10) .nil)) (.blt .sum (.cons (.sub (.var 3) (.cst (.int 0))) .nil))) .nil)))
/-- 92: law -/
def b_law_k13 : Fd := ⟨1, 15, false, (.cons k13_0 (.cons k13_1 (.cons k13_2 (.cons k13_3 (.cons k13_4 (.cons k13_5 (.cons k13_6 (.cons k13_7 (.cons k13_8 (.cons k13_9 .nil))))))))))⟩
/-- 93: _law_told -/
def b_law_told : Fd := ⟨3, 7, true, (.cons (.unp [4, 5, 6] (.var 2)) (.cons (.asg 3 (.lst (.cons (.cal 23 (.cons (.var 4) (.cons (.var 5) (.cons (.var 6) (.cons (.cst (.int 3)) .nil))))) (.cons (.cal 29 (.cons (.var 4) (.cons (.var 5) (.cons (.var 6) .nil)))) (.cons (.cal 42 (.cons (.tup (.cons (.cst (.int 1)) (.cons (.var 4) .nil))) .nil)) (.cons (.cal 59 (.cons (.var 0) (.cons (.var 1) .nil))) .nil)))))) (.cons (.ret (.lst (.cons (.cal 54 (.cons (.var 0) .nil)) (.cons (.cal 55 (.cons (.var 0) .nil)) (.cons (.var 3) .nil))))) .nil)))⟩
def k14_0 : S := .asg 1 (.lst .nil)
def k14_1 : S := .par [10, 11] (.cons (.cal 14 (.cons (.var 0) (.cons (.var 1) (.cons (.cst (.int 6)) .nil)))) (.cons (.cal 14 (.cons (.var 0) (.cons (.var 1) (.cons (.cst (.int 6)) .nil)))) .nil))
def k14_2 : S := .asg 2 (.bin .add (.cst (.int 1)) (.cal 13 (.cons (.var 0) (.cons (.var 1) (.cons (.cst (.int 8)) .nil)))))
def k14_3 : S := .asg 3 (.blt .tuple (.cons (.lc [8] (.nm 8) .r1 (.cons (.var 2) .nil) .none (.cal 13 (.cons (.var 0) (.cons (.var 1) (.cons (.cst (.int 4)) .nil))))) .nil))
def k14_4 : S := .asg 4 (.blt .tuple (.cons (.lc [8] (.nm 8) .r1 (.cons (.var 2) .nil) .none (.cal 13 (.cons (.var 0) (.cons (.var 1) (.cons (.cst (.int 4)) .nil))))) .nil))
def k14_5 : S := .asg 5 (.cal 93 (.cons (.var 3) (.cons (.var 4) (.cons (.var 10) .nil))))
def k14_6 : S := .asg 6 (.cal 93 (.cons (.var 4) (.cons (.var 3) (.cons (.var 11) .nil))))
def k14_7 : S := .asg 7 (.mk (.cons (.cst (.int 3)) .nil))
def k14_8 : S := .exp (.mcl 75 (.var 7) (.cons (.cst (.int 1)) .nil))
def k14_9b : Ss := (.cons (.ife (.or (.cons (.cmp .ne (.mcl 76 (.var 7) .nil) (.tup (.cons (.cst (.int 0)) (.cons (.cst (.int 1)) (.cons (.cst (.int 0)) .nil))))) (.cons (.cmp .ne (.mcl 77 (.var 7) .nil) (.tup (.cons (.cst (.int 9)) (.cons (.cst (.int 2)) .nil)))) (.cons (.cmp .ne (.blt .len (.cons (.var 7) .nil)) (.cst (.int 1))) .nil)))) (.cons (.ret (.cst (.bl false))) .nil) .nil) (.cons (.ife (.or (.cons (.cmp .ne (.blt .str (.cons (.var 7) .nil)) (.cst (.str (Str.ofString "0,1,0")))) (.cons (.cmp .nis (.mcl 78 (.var 7) .nil) (.cst (.bl false))) .nil))) (.cons (.ret (.cst (.bl false))) .nil) .nil) .nil))
def k14_9 : S := .for (.nm 8) .r1 (.cons (.cst (.int 3)) .nil) k14_9b
def k14_10b : Ss := (.cons (.exp (.mth .append (.var 9) (.cons (.cst .non) .nil))) .nil)
def k14_10 : S := .for (.nm 9) .val (.cons (.cal 93 (.cons (.var 3) (.cons (.var 4) (.cons (.var 10) .nil)))) .nil) k14_10b
def k14_11 : S := .ret (.and (.cons (.cmp .eq (.cal 93 (.cons (.var 3) (.cons (.var 4) (.cons (.var 10) .nil)))) (.var 5)) (.cons (.cmp .eq (.cal 93 (.cons (.var 4) (.cons (.var 3) (.cons (.var 11) .nil)))) (.var 6)) .nil)))
/-- 94: law -/
def b_law_k14 : Fd := ⟨1, 12, false, (.cons k14_0 (.cons k14_1 (.cons k14_2 (.cons k14_3 (.cons k14_4 (.cons k14_5 (.cons k14_6 (.cons k14_7 (.cons k14_8 (.cons k14_9 (.cons k14_10 (.cons k14_11 .nil))))))))))))⟩
/-- 95: _law_four -/
def b_law_four : Fd := ⟨5, 6, true, (.cons (.tryw 5 (.cons (.ife (.cmp .lt (.var 0) (.cst (.int 4))) (.cons (.ret (.cax (.sub (.lst (.cons (.fnv 8) (.cons (.fnv 23) (.cons (.fnv 24) (.cons (.fnv 30) .nil))))) (.var 0)) (.cons (.var 1) (.cons (.var 2) (.cons (.var 3) (.cons (.var 4) .nil)))))) .nil) .nil) (.cons (.ret (.ite (.cmp .eq (.var 0) (.cst (.int 4))) (.cal 34 (.cons (.var 1) (.cons (.var 2) (.cons (.var 3) (.cons (.var 4) .nil))))) (.cal 29 (.cons (.var 1) (.cons (.var 2) (.cons (.var 3) .nil)))))) .nil))) .nil)⟩
/-- 96: _law_rates -/
def b_law_rates : Fd := ⟨2, 3, true, (.cons (.tryw 2 (.cons (.ret (.ite (.cmp .eq (.var 0) (.cst (.int 0))) (.cal 42 (.cons (.var 1) .nil)) (.cax (.sub (.lst (.cons (.fnv 43) (.cons (.fnv 44) .nil))) (.bin .sub (.var 0) (.cst (.int 1)))) (.cons (.var 1) (.cons (.cst .non) .nil))))) .nil)) .nil)⟩
/-- 97: _law_two -/
def b_law_two : Fd := ⟨3, 4, true, (.cons (.tryw 3 (.cons (.ret (.cax (.sub (.lst (.cons (.fnv 57) (.cons (.fnv 59) (.cons (.fnv 66) .nil)))) (.var 0)) (.cons (.var 1) (.cons (.var 2) .nil)))) .nil)) .nil)⟩
/-- 98: _law_one -/
def b_law_one_2 : Fd := ⟨2, 3, true, (.cons (.tryw 2 (.cons (.ret (.ite (.cmp .lt (.var 0) (.cst (.int 3))) (.cax (.sub (.lst (.cons (.fnv 54) (.cons (.fnv 55) (.cons (.fnv 70) .nil)))) (.var 0)) (.cons (.var 1) .nil)) (.mk (.cons (.var 1) .nil)))) .nil)) .nil)⟩
def k15_0 : S := .asg 1 (.lst .nil)
def k15_1 : S := .unp [4, 5, 6] (.cal 14 (.cons (.var 0) (.cons (.var 1) (.cons (.cst (.int 7)) .nil))))
def k15_2b : Ss := (.cons (.ife (.cmp .ne (.lc [7] (.nm 7) .r1 (.cons (.cst (.int 6)) .nil) .none (.cal 95 (.cons (.var 7) (.cons (.var 2) (.cons (.cst .non) (.cons (.cst .non) (.cons (.cst .non) .nil))))))) (.bin .mul (.lst (.cons (.tup (.cons (.cst (.str (Str.ofString "raised"))) (.cons (.cst (.int 0)) .nil))) .nil)) (.cst (.int 6)))) (.cons (.ret (.cst (.bl false))) .nil) .nil) (.cons (.ife (.cmp .ne (.cal 98 (.cons (.cst (.int 3)) (.cons (.var 2) .nil))) (.tup (.cons (.cst (.str (Str.ofString "raised"))) (.cons (.cst (.int 0)) .nil)))) (.cons (.ret (.cst (.bl false))) .nil) .nil) .nil))
def k15_2 : S := .for (.nm 2) .val (.cons (.lst (.cons (.cst .non) (.cons (.cst (.int 0)) (.cons (.cst (.int 9)) (.cons (.cst (.str (Str.ofString "3"))) (.cons (.cst (.bl true)) (.cons (.tup (.cons (.cst (.int 3)) .nil)) .nil))))))) .nil) k15_2b
def k15_3b : Ss := (.cons (.ife (.cmp .ne (.lc [7] (.nm 7) .r1 (.cons (.cst (.int 6)) .nil) .none (.cal 95 (.cons (.var 7) (.cons (.var 4) (.cons (.var 2) (.cons (.cst .non) (.cons (.cst .non) .nil))))))) (.bin .mul (.lst (.cons (.tup (.cons (.cst (.str (Str.ofString "raised"))) (.cons (.cst (.int 1)) .nil))) .nil)) (.cst (.int 6)))) (.cons (.ret (.cst (.bl false))) .nil) .nil) .nil)
def k15_3 : S := .for (.nm 2) .val (.cons (.lst (.cons (.cst .non) (.cons (.cst (.int 0)) (.cons (.bin .add (.var 4) (.cst (.int 1))) (.cons (.cst (.int 9)) (.cons (.cst (.str (Str.ofString "1"))) (.cons (.cst (.bl true)) .nil))))))) .nil) k15_3b
def k15_4b : Ss := (.cons (.ife (.cmp .ne (.lc [7] (.nm 7) .r1 (.cons (.cst (.int 6)) .nil) .none (.cal 95 (.cons (.var 7) (.cons (.var 4) (.cons (.var 5) (.cons (.var 2) (.cons (.cst .non) .nil))))))) (.bin .mul (.lst (.cons (.tup (.cons (.cst (.str (Str.ofString "raised"))) (.cons (.cst (.int 2)) .nil))) .nil)) (.cst (.int 6)))) (.cons (.ret (.cst (.bl false))) .nil) .nil) .nil)
def k15_4 : S := .for (.nm 2) .val (.cons (.lst (.cons (.cst .non) (.cons (.bin .sub (.cst (.int 0)) (.cst (.int 1))) (.cons (.bin .add (.var 4) (.cst (.int 1))) (.cons (.cst (.str (Str.ofString "0"))) (.cons (.cst (.bl true)) .nil)))))) .nil) k15_4b
def k15_5 : S := .ife (.cmp .ne (.lc [7] (.nm 7) .r1 (.cons (.cst (.int 5)) .nil) .none (.cal 95 (.cons (.var 7) (.cons (.var 4) (.cons (.var 5) (.cons (.var 6) (.cons (.cst .non) .nil))))))) (.bin .add (.bin .mul (.lst (.cons (.tup (.cons (.cst (.str (Str.ofString "raised"))) (.cons (.cst (.int 2)) .nil))) .nil)) (.cst (.int 4))) (.lst (.cons (.tup (.cons (.cst (.str (Str.ofString "raised"))) (.cons (.cst (.int 3)) .nil))) .nil)))) (.cons (.ret (.cst (.bl false))) .nil) .nil
def k15_6 : S := .ife (.cmp .ne (.lc [7] (.nm 7) .val (.cons (.tup (.cons (.cst (.int 1)) (.cons (.cst (.int 2)) (.cons (.cst (.int 3)) .nil)))) .nil) .none (.cal 95 (.cons (.var 7) (.cons (.var 4) (.cons (.var 5) (.cons (.var 6) (.cons (.cst (.int 31)) .nil))))))) (.bin .mul (.lst (.cons (.tup (.cons (.cst (.str (Str.ofString "raised"))) (.cons (.cst (.int 2)) .nil))) .nil)) (.cst (.int 3)))) (.cons (.ret (.cst (.bl false))) .nil) .nil
def k15_7b : Ss := (.cons (.ife (.cmp .ne (.lc [7] (.nm 7) .r1 (.cons (.cst (.int 3)) .nil) .none (.cal 96 (.cons (.var 7) (.cons (.var 2) .nil)))) (.bin .mul (.lst (.cons (.tup (.cons (.cst (.str (Str.ofString "raised"))) (.cons (.cst (.int 4)) .nil))) .nil)) (.cst (.int 3)))) (.cons (.ret (.cst (.bl false))) .nil) .nil) .nil)
def k15_7 : S := .for (.nm 2) .val (.cons (.lst (.cons (.cst .non) (.cons (.cst (.int 5)) (.cons (.tup .nil) (.cons (.tup (.cons (.cst (.int 0)) .nil)) (.cons (.tup (.cons (.cst (.int 100)) .nil)) (.cons (.tup (.cons (.cst (.bl true)) .nil)) (.cons (.lst (.cons (.cst (.int 1)) .nil)) (.cons (.tup (.cons (.cst (.str (Str.ofString "1"))) .nil)) (.cons (.bin .mul (.tup (.cons (.cst (.int 1)) .nil)) (.cst (.int 9))) (.cons (.tup (.cons (.cst (.int 1)) (.cons (.cst .non) .nil))) .nil))))))))))) .nil) k15_7b
def k15_8 : S := .ife (.cmp .ne (.lc [7] (.nm 7) .val (.cons (.tup (.cons (.cst (.int 1)) (.cons (.cst (.int 2)) .nil))) .nil) .none (.cal 96 (.cons (.var 7) (.cons (.tup (.cons (.cst (.int 1)) (.cons (.cst (.int 99)) .nil))) .nil)))) (.bin .mul (.lst (.cons (.tup (.cons (.cst (.str (Str.ofString "raised"))) (.cons (.cst (.int 2)) .nil))) .nil)) (.cst (.int 2)))) (.cons (.ret (.cst (.bl false))) .nil) .nil
def k15_9 : S := .asg 3 (.blt .tuple (.cons (.lc [8] (.nm 8) .r1 (.cons (.var 4) .nil) .none (.cal 13 (.cons (.var 0) (.cons (.var 1) (.cons (.cst (.int 100)) .nil))))) .nil))
def k15_10b : Ss := (.cons (.ife (.cmp .ne (.lc [7] (.nm 7) .r1 (.cons (.cst (.int 3)) .nil) .none (.cal 98 (.cons (.var 7) (.cons (.var 2) .nil)))) (.bin .mul (.lst (.cons (.tup (.cons (.cst (.str (Str.ofString "raised"))) (.cons (.cst (.int 5)) .nil))) .nil)) (.cst (.int 3)))) (.cons (.ret (.cst (.bl false))) .nil) .nil) (.cons (.ife (.cmp .ne (.lc [7] (.nm 7) .r1 (.cons (.cst (.int 3)) .nil) .none (.cal 97 (.cons (.var 7) (.cons (.var 2) (.cons (.cst .non) .nil))))) (.bin .mul (.lst (.cons (.tup (.cons (.cst (.str (Str.ofString "raised"))) (.cons (.cst (.int 5)) .nil))) .nil)) (.cst (.int 3)))) (.cons (.ret (.cst (.bl false))) .nil) .nil) (.cons (.ife (.cmp .ne (.lc [7] (.nm 7) .r1 (.cons (.cst (.int 3)) .nil) .none (.cal 97 (.cons (.var 7) (.cons (.var 3) (.cons (.var 2) .nil))))) (.bin .mul (.lst (.cons (.tup (.cons (.cst (.str (Str.ofString "raised"))) (.cons (.cst (.int 5)) .nil))) .nil)) (.cst (.int 3)))) (.cons (.ret (.cst (.bl false))) .nil) .nil) .nil)))
def k15_10 : S := .for (.nm 2) .val (.cons (.lst (.cons (.cst .non) (.cons (.cst (.int 5)) (.cons (.tup .nil) (.cons (.bin .mul (.lst (.cons (.cst (.int 1)) .nil)) (.var 4)) (.cons (.bin .mul (.tup (.cons (.bin .sub (.cst (.int 0)) (.cst (.int 1))) .nil)) (.var 4)) (.cons (.bin .mul (.tup (.cons (.cst (.int 100)) .nil)) (.var 4)) (.cons (.bin .mul (.tup (.cons (.cst (.bl true)) .nil)) (.var 4)) (.cons (.bin .mul (.tup (.cons (.cst (.str (Str.ofString "1"))) .nil)) (.var 4)) (.cons (.bin .mul (.tup (.cons (.cst (.int 1)) .nil)) (.cst (.int 9))) .nil)))))))))) .nil) k15_10b
def k15_11 : S := .ret (.cmp .eq (.lc [7] (.nm 7) .r1 (.cons (.cst (.int 3)) .nil) .none (.cal 97 (.cons (.var 7) (.cons (.var 3) (.cons (.bin .add (.var 3) (.tup (.cons (.cst (.int 1)) .nil))) .nil))))) (.bin .mul (.lst (.cons (.tup (.cons (.cst (.str (Str.ofString "raised"))) (.cons (.cst (.int 5)) .nil))) .nil)) (.cst (.int 3))))
/-- 99: law -/
def b_law_k15 : Fd := ⟨1, 9, false, (.cons k15_0 (.cons k15_1 (.cons k15_2 (.cons k15_3 (.cons k15_4 (.cons k15_5 (.cons k15_6 (.cons k15_7 (.cons k15_8 (.cons k15_9 (.cons k15_10 (.cons k15_11 .nil))))))))))))⟩
/-- 100: _law_ways -/
def b_law_ways : Fd := ⟨2, 4, true, (.cons (.asg 2 (.cst (.int 1))) (.cons (.for (.nm 3) .r1 (.cons (.var 1) .nil) (.cons (.asg 2 (.bin .fdiv (.bin .mul (.var 2) (.bin .sub (.var 0) (.var 3))) (.bin .add (.var 3) (.cst (.int 1))))) .nil)) (.cons (.ret (.ite (.cmp .le (.var 1) (.var 0)) (.var 2) (.cst (.int 0)))) .nil)))⟩
/-- 101: law -/
def b_law_k16 : Fd := ⟨1, 15, false, (.cons (.asg 1 (.lst .nil)) (.cons (.unp [6, 7, 8] (.cal 14 (.cons (.var 0) (.cons (.var 1) (.cons (.cst (.int 8)) .nil))))) (.cons (.asg 2 (.cal 13 (.cons (.var 0) (.cons (.var 1) (.cons (.cst (.int 12)) .nil))))) (.cons (.par [9, 10] (.cons (.lst .nil) (.cons (.bin .sub (.var 6) (.var 8)) .nil))) (.cons (.for (.nm 3) .r1 (.cons (.bin .add (.var 10) (.cst (.int 1))) .nil) (.cons (.par [13, 14] (.cons (.cal 9 (.cons (.cal 100 (.cons (.bin .sub (.var 6) (.var 3)) (.cons (.var 7) .nil))) (.cons (.cal 100 (.cons (.var 6) (.cons (.var 7) .nil))) .nil))) (.cons (.cal 100 (.cons (.var 10) (.cons (.var 3) .nil))) .nil))) (.cons (.asg 11 (.tup (.cons (.ite (.cmp .eq (.bin .mod (.var 3) (.cst (.int 2))) (.cst (.int 0))) (.var 14) (.bin .sub (.cst (.int 0)) (.var 14))) (.cons (.cst (.int 1)) .nil)))) (.cons (.for (.nm 12) .r1 (.cons (.var 2) .nil) (.cons (.asg 11 (.cal 25 (.cons (.var 11) (.cons (.var 13) .nil)))) .nil)) (.cons (.exp (.mth .append (.var 9) (.cons (.var 11) .nil))) .nil))))) (.cons (.ife (.cmp .ne (.cal 30 (.cons (.var 6) (.cons (.var 7) (.cons (.var 8) (.cons (.var 2) .nil))))) (.cal 10 (.cons (.var 9) .nil))) (.cons (.ret (.cst (.bl false))) .nil) .nil) (.cons (.asg 4 (.lst .nil)) (.cons (.for (.nm 3) .r2 (.cons (.cst (.int 1)) (.cons (.bin .add (.var 10) (.cst (.int 1))) .nil)) (.cons (.par [13, 14] (.cons (.cal 9 (.cons (.cal 100 (.cons (.bin .sub (.var 6) (.var 3)) (.cons (.var 7) .nil))) (.cons (.cal 100 (.cons (.var 6) (.cons (.var 7) .nil))) .nil))) (.cons (.cal 100 (.cons (.var 10) (.cons (.var 3) .nil))) .nil))) (.cons (.exp (.mth .append (.var 4) (.cons (.cal 9 (.cons (.bin .mul (.ite (.cmp .eq (.bin .mod (.var 3) (.cst (.int 2))) (.cst (.int 1))) (.var 14) (.bin .sub (.cst (.int 0)) (.var 14))) (.sub (.var 13) (.cst (.int 1)))) (.cons (.bin .sub (.sub (.var 13) (.cst (.int 1))) (.sub (.var 13) (.cst (.int 0)))) .nil))) .nil))) .nil))) (.cons (.ife (.cmp .ne (.cal 29 (.cons (.var 6) (.cons (.var 7) (.cons (.var 8) .nil)))) (.cal 10 (.cons (.var 4) .nil))) (.cons (.ret (.cst (.bl false))) .nil) .nil) (.cons (.asg 5 (.cal 23 (.cons (.var 6) (.cons (.var 7) (.cons (.var 8) (.cons (.var 2) .nil)))))) (.cons (.ret (.and (.cons (.cmp .eq (.slc (.var 5) .none (.some (.var 8))) (.bin .mul (.tup (.cons (.tup (.cons (.cst (.int 0)) (.cons (.cst (.int 1)) .nil))) .nil)) (.var 8))) (.cons (.cmp .eq (.cal 10 (.cons (.var 5) .nil)) (.tup (.cons (.cst (.int 1)) (.cons (.cst (.int 1)) .nil)))) .nil)))) .nil)))))))))))⟩
def k17_0 : S := .asg 1 (.lst .nil)
def k17_1 : S := .unp [8, 9, 10] (.cal 14 (.cons (.var 0) (.cons (.var 1) (.cons (.cst (.int 8)) .nil))))
def k17_2 : S := .asg 2 (.cal 13 (.cons (.var 0) (.cons (.var 1) (.cons (.cst (.int 8)) .nil))))
def k17_3 : S := .par [11, 12] (.cons (.cal 29 (.cons (.var 8) (.cons (.var 9) (.cons (.var 10) .nil)))) (.cons (.cal 30 (.cons (.var 8) (.cons (.var 9) (.cons (.var 10) (.cons (.var 2) .nil))))) .nil))
def k17_4 : S := .ife (.cmp .lt (.var 9) (.var 8)) (.cons (.par [14, 15] (.cons (.cal 29 (.cons (.var 8) (.cons (.bin .add (.var 9) (.cst (.int 1))) (.cons (.var 10) .nil)))) (.cons (.cal 30 (.cons (.var 8) (.cons (.bin .add (.var 9) (.cst (.int 1))) (.cons (.var 10) (.cons (.var 2) .nil))))) .nil))) (.cons (.ife (.or (.cons (.cmp .gt (.bin .mul (.sub (.var 14) (.cst (.int 0))) (.sub (.var 11) (.cst (.int 1)))) (.bin .mul (.sub (.var 11) (.cst (.int 0))) (.sub (.var 14) (.cst (.int 1))))) (.cons (.cmp .lt (.bin .mul (.sub (.var 15) (.cst (.int 0))) (.sub (.var 12) (.cst (.int 1)))) (.bin .mul (.sub (.var 12) (.cst (.int 0))) (.sub (.var 15) (.cst (.int 1))))) .nil))) (.cons (.ret (.cst (.bl false))) .nil) .nil) (.cons (.ife (.cmp .gt (.cal 34 (.cons (.var 8) (.cons (.var 8) (.cons (.var 10) (.cons (.tup (.cons (.cst (.int 98)) (.cons (.cst (.int 99)) .nil))) .nil))))) (.cst (.int 1))) (.cons (.ret (.cst (.bl false))) .nil) .nil) .nil))) .nil
def k17_5 : S := .ife (.cmp .lt (.var 10) (.var 8)) (.cons (.par [14, 15] (.cons (.cal 29 (.cons (.var 8) (.cons (.var 9) (.cons (.bin .add (.var 10) (.cst (.int 1))) .nil)))) (.cons (.cal 30 (.cons (.var 8) (.cons (.var 9) (.cons (.bin .add (.var 10) (.cst (.int 1))) (.cons (.var 2) .nil))))) .nil))) (.cons (.ife (.or (.cons (.cmp .gt (.bin .mul (.sub (.var 14) (.cst (.int 0))) (.sub (.var 11) (.cst (.int 1)))) (.bin .mul (.sub (.var 11) (.cst (.int 0))) (.sub (.var 14) (.cst (.int 1))))) (.cons (.cmp .lt (.bin .mul (.sub (.var 15) (.cst (.int 0))) (.sub (.var 12) (.cst (.int 1)))) (.bin .mul (.sub (.var 12) (.cst (.int 0))) (.sub (.var 15) (.cst (.int 1))))) .nil))) (.cons (.ret (.cst (.bl false))) .nil) .nil) .nil)) .nil
def k17_6 : S := .asg 3 (.lc [13] (.nm 13) .r1 (.cons (.bin .add (.var 8) (.cst (.int 1))) .nil) .none (.cal 25 (.cons (.tup (.cons (.var 13) (.cons (.cst (.int 1)) .nil))) (.cons (.cal 8 (.cons (.var 8) (.cons (.var 9) (.cons (.var 10) (.cons (.var 13) .nil))))) .nil))))
def k17_7 : S := .asg 4 (.cal 10 (.cons (.var 3) .nil))
def k17_8 : S := .ife (.or (.cons (.cmp .ne (.var 4) (.cal 9 (.cons (.bin .mul (.var 9) (.bin .sub (.var 8) (.var 10))) (.cons (.var 8) .nil)))) (.cons (.cmp .ne (.cal 24 (.cons (.var 8) (.cons (.var 9) (.cons (.var 10) (.cons (.cst (.int 1)) .nil))))) (.cal 10 (.cons (.lst (.cons (.tup (.cons (.var 10) (.cons (.cst (.int 1)) .nil))) (.cons (.var 4) .nil))) .nil))) .nil))) (.cons (.ret (.cst (.bl false))) .nil) .nil
def k17_9 : S := .asg 5 (.bin .sub (.var 8) (.var 10))
def k17_10 : S := .ife (.cmp .gt (.var 5) (.cst (.int 0))) (.cons (.for (.nm 13) .r1 (.cons (.bin .add (.blt .min (.cons (.var 5) (.cons (.var 9) .nil))) (.cst (.int 1))) .nil) (.cons (.ife (.cmp .ne (.cal 8 (.cons (.var 8) (.cons (.var 9) (.cons (.var 10) (.cons (.var 13) .nil))))) (.cal 8 (.cons (.var 8) (.cons (.var 5) (.cons (.bin .sub (.var 8) (.var 9)) (.cons (.var 13) .nil)))))) (.cons (.ret (.cst (.bl false))) .nil) .nil) .nil)) .nil) .nil
def k17_11 : S := .asg 6 (.cal 24 (.cons (.var 8) (.cons (.var 9) (.cons (.var 10) (.cons (.var 2) .nil)))))
def k17_12 : S := .asg 7 (.cal 24 (.cons (.var 8) (.cons (.var 9) (.cons (.var 10) (.cons (.bin .add (.var 2) (.cst (.int 1))) .nil)))))
def k17_13 : S := .ret (.cmp .eq (.var 7) (.cal 10 (.cons (.lst (.cons (.var 6) (.cons (.cal 25 (.cons (.cal 9 (.cons (.var 9) (.cons (.var 8) .nil))) (.cons (.cal 10 (.cons (.lst (.cons (.tup (.cons (.var 8) (.cons (.cst (.int 1)) .nil))) (.cons (.tup (.cons (.bin .sub (.cst (.int 0)) (.sub (.var 6) (.cst (.int 0)))) (.cons (.sub (.var 6) (.cst (.int 1))) .nil))) .nil))) .nil)) .nil))) .nil))) .nil)))
/-- 102: law -/
def b_law_k17 : Fd := ⟨1, 16, false, (.cons k17_0 (.cons k17_1 (.cons k17_2 (.cons k17_3 (.cons k17_4 (.cons k17_5 (.cons k17_6 (.cons k17_7 (.cons k17_8 (.cons k17_9 (.cons k17_10 (.cons k17_11 (.cons k17_12 (.cons k17_13 .nil))))))))))))))⟩
def k18_0 : S := .asg 1 (.lst .nil)
def k18_1 : S := .unp [8, 9, 10] (.cal 14 (.cons (.var 0) (.cons (.var 1) (.cons (.cst (.int 7)) .nil))))
def k18_2 : S := .par [11, 12] (.cons (.cal 13 (.cons (.var 0) (.cons (.var 1) (.cons (.cst (.int 8)) .nil)))) (.cons (.cal 13 (.cons (.var 0) (.cons (.var 1) (.cons (.cst (.int 8)) .nil)))) .nil))
def k18_3 : S := .asg 2 (.cal 23 (.cons (.var 8) (.cons (.var 9) (.cons (.var 10) (.cons (.bin .add (.var 11) (.var 12)) .nil)))))
def k18_4 : S := .asg 3 (.cal 23 (.cons (.var 8) (.cons (.var 9) (.cons (.var 10) (.cons (.var 11) .nil)))))
def k18_5 : S := .asg 4 (.lc [14] (.nm 14) .r1 (.cons (.bin .add (.var 8) (.cst (.int 1))) .nil) .none (.cal 23 (.cons (.var 8) (.cons (.var 9) (.cons (.var 14) (.cons (.var 12) .nil))))))
def k18_6b : Ss := (.cons (.asg 13 (.lc [14, 15] (.tp [14, 15]) .enu (.cons (.var 3) .nil) .none (.cal 25 (.cons (.var 15) (.cons (.sub (.sub (.var 4) (.var 14)) (.var 5)) .nil))))) (.cons (.ife (.cmp .ne (.cal 10 (.cons (.var 13) .nil)) (.sub (.var 2) (.var 5))) (.cons (.ret (.cst (.bl false))) .nil) .nil) .nil))
def k18_6 : S := .for (.nm 5) .r1 (.cons (.bin .add (.var 8) (.cst (.int 1))) .nil) k18_6b
def k18_7 : S := .asg 6 (.lc [14, 15] (.tp [14, 15]) .enu (.cons (.var 3) .nil) .none (.cal 25 (.cons (.var 15) (.cons (.cal 24 (.cons (.var 8) (.cons (.var 9) (.cons (.var 14) (.cons (.var 12) .nil))))) .nil))))
def k18_8 : S := .ife (.cmp .ne (.cal 10 (.cons (.var 6) .nil)) (.cal 24 (.cons (.var 8) (.cons (.var 9) (.cons (.var 10) (.cons (.bin .add (.var 11) (.var 12)) .nil)))))) (.cons (.ret (.cst (.bl false))) .nil) .nil
def k18_9 : S := .asg 7 (.lc [14, 15] (.tp [14, 15]) .enu (.cons (.var 3) .nil) .none (.cal 25 (.cons (.var 15) (.cons (.cal 30 (.cons (.var 8) (.cons (.var 9) (.cons (.var 14) (.cons (.var 12) .nil))))) .nil))))
def k18_10 : S := .ife (.cmp .ne (.cal 10 (.cons (.var 7) .nil)) (.cal 30 (.cons (.var 8) (.cons (.var 9) (.cons (.var 10) (.cons (.bin .add (.var 11) (.var 12)) .nil)))))) (.cons (.ret (.cst (.bl false))) .nil) .nil
def k18_11 : S := .ife (.or (.cons (.cmp .ne (.cal 23 (.cons (.var 8) (.cons (.var 9) (.cons (.var 8) (.cons (.var 12) .nil))))) (.bin .add (.bin .mul (.tup (.cons (.tup (.cons (.cst (.int 0)) (.cons (.cst (.int 1)) .nil))) .nil)) (.var 8)) (.tup (.cons (.tup (.cons (.cst (.int 1)) (.cons (.cst (.int 1)) .nil))) .nil)))) (.cons (.cmp .ne (.sub (.cal 23 (.cons (.var 8) (.cons (.var 9) (.cons (.var 10) (.cons (.cst (.int 0)) .nil))))) (.var 10)) (.tup (.cons (.cst (.int 1)) (.cons (.cst (.int 1)) .nil)))) .nil))) (.cons (.ret (.cst (.bl false))) .nil) .nil
def k18_12 : S := .ret (.cmp .eq (.lc [15] (.nm 15) .val (.cons (.var 2) .nil) (.some (.or (.cons (.cmp .lt (.sub (.var 15) (.cst (.int 0))) (.cst (.int 0))) (.cons (.cmp .gt (.sub (.var 15) (.cst (.int 0))) (.sub (.var 15) (.cst (.int 1)))) .nil)))) (.var 15)) (.lst .nil))
/-- 103: law -/
def b_law_k18 : Fd := ⟨1, 16, false, (.cons k18_0 (.cons k18_1 (.cons k18_2 (.cons k18_3 (.cons k18_4 (.cons k18_5 (.cons k18_6 (.cons k18_7 (.cons k18_8 (.cons k18_9 (.cons k18_10 (.cons k18_11 (.cons k18_12 .nil)))))))))))))⟩
def k19_0 : S := .asg 1 (.lst .nil)
def k19_1 : S := .asg 2 (.bin .add (.cst (.int 1)) (.cal 13 (.cons (.var 0) (.cons (.var 1) (.cons (.cst (.int 6)) .nil)))))
def k19_2 : S := .asg 3 (.blt .tuple (.cons (.lc [17] (.nm 17) .r1 (.cons (.var 2) .nil) .none (.bin .add (.cst (.int 1)) (.cal 13 (.cons (.var 0) (.cons (.var 1) (.cons (.cst (.int 9)) .nil)))))) .nil))
def k19_3 : S := .asg 4 (.cal 42 (.cons (.var 3) .nil))
def k19_4 : S := .asg 5 (.cal 13 (.cons (.var 0) (.cons (.var 1) (.cons (.var 2) .nil))))
def k19_5 : S := .asg 6 (.blt .tuple (.cons (.lc [18] (.nm 18) .r1 (.cons (.var 2) .nil) (.some (.cmp .eq (.cal 13 (.cons (.var 0) (.cons (.var 1) (.cons (.cst (.int 2)) .nil)))) (.cst (.int 0)))) (.var 18)) .nil))
def k19_6 : S := .asg 7 (.cal 44 (.cons (.var 3) (.cons (.var 6) .nil)))
def k19_7 : S := .ife (.cmp .gt (.bin .mul (.sub (.var 7) (.cst (.int 0))) (.sub (.var 4) (.cst (.int 1)))) (.bin .mul (.sub (.var 4) (.cst (.int 0))) (.sub (.var 7) (.cst (.int 1))))) (.cons (.ret (.cst (.bl false))) .nil) .nil
def k19_8 : S := .ife (.cmp .nin (.var 5) (.var 6)) (.cons (.asg 13 (.blt .tuple (.cons (.blt .sorted (.cons (.bin .add (.var 6) (.tup (.cons (.var 5) .nil))) .nil)) .nil))) (.cons (.asg 14 (.cal 44 (.cons (.var 3) (.cons (.var 13) .nil)))) (.cons (.ife (.cmp .ge (.bin .mul (.sub (.var 14) (.cst (.int 0))) (.sub (.var 7) (.cst (.int 1)))) (.bin .mul (.sub (.var 7) (.cst (.int 0))) (.sub (.var 14) (.cst (.int 1))))) (.cons (.ret (.cst (.bl false))) .nil) .nil) .nil))) .nil
def k19_9 : S := .asg 8 (.bin .add (.var 3) (.tup (.cons (.bin .add (.cst (.int 1)) (.cal 13 (.cons (.var 0) (.cons (.var 1) (.cons (.cst (.int 9)) .nil))))) .nil)))
def k19_10 : S := .asg 9 (.cal 42 (.cons (.var 8) .nil))
def k19_11 : S := .ife (.cmp .le (.bin .mul (.sub (.var 9) (.cst (.int 0))) (.sub (.var 4) (.cst (.int 1)))) (.bin .mul (.sub (.var 4) (.cst (.int 0))) (.sub (.var 9) (.cst (.int 1))))) (.cons (.ret (.cst (.bl false))) .nil) .nil
def k19_12 : S := .asg 10 (.cal 13 (.cons (.var 0) (.cons (.var 1) (.cons (.cst (.int 12)) .nil))))
def k19_13 : S := .par [15, 16] (.cons (.cal 43 (.cons (.var 8) (.cons (.var 10) .nil))) (.cons (.cal 43 (.cons (.var 3) (.cons (.var 10) .nil))) .nil))
def k19_14 : S := .ife (.cmp .gt (.bin .mul (.sub (.var 15) (.cst (.int 0))) (.sub (.var 16) (.cst (.int 1)))) (.bin .mul (.sub (.var 16) (.cst (.int 0))) (.sub (.var 15) (.cst (.int 1))))) (.cons (.ret (.cst (.bl false))) .nil) .nil
def k19_15 : S := .asg 11 (.blt .tuple (.cons (.lc [18] (.nm 18) .r1 (.cons (.var 2) .nil) (.some (.cmp .ne (.var 18) (.var 5))) (.var 18)) .nil))
def k19_16 : S := .ife (.cmp .ne (.cal 44 (.cons (.var 3) (.cons (.var 11) .nil))) (.cal 9 (.cons (.blt .sum (.cons (.var 3) .nil)) (.cons (.sub (.var 3) (.var 5)) .nil)))) (.cons (.ret (.cst (.bl false))) .nil) .nil
def k19_17 : S := .asg 12 (.blt .sorted (.cons (.var 3) .nil))
def k19_18 : S := .ret (.and (.cons (.cmp .eq (.cal 42 (.cons (.blt .tuple (.cons (.var 12) .nil)) .nil)) (.var 4)) (.cons (.cmp .eq (.cal 43 (.cons (.blt .tuple (.cons (.var 12) .nil)) (.cons (.var 10) .nil))) (.var 16)) .nil)))
/-- 104: law -/
def b_law_k19 : Fd := ⟨1, 19, false, (.cons k19_0 (.cons k19_1 (.cons k19_2 (.cons k19_3 (.cons k19_4 (.cons k19_5 (.cons k19_6 (.cons k19_7 (.cons k19_8 (.cons k19_9 (.cons k19_10 (.cons k19_11 (.cons k19_12 (.cons k19_13 (.cons k19_14 (.cons k19_15 (.cons k19_16 (.cons k19_17 (.cons k19_18 .nil)))))))))))))))))))⟩
def k20_0 : S := .asg 1 (.lst .nil)
def k20_1 : S := .asg 2 (.bin .add (.cst (.int 1)) (.cal 13 (.cons (.var 0) (.cons (.var 1) (.cons (.cst (.int 8)) .nil)))))
def k20_2 : S := .asg 3 (.lst .nil)
def k20_3b : Ss := (.cons (.exp (.mth .append (.var 3) (.cons (.blt .tuple (.cons (.lc [20] (.nm 20) .r1 (.cons (.var 2) .nil) .none (.sub (.lst (.cons (.cst (.int 0)) (.cons (.cst (.int 0)) (.cons (.cst (.int 1)) (.cons (.cst (.int 2)) (.cons (.cst (.int 3)) .nil)))))) (.cal 13 (.cons (.var 0) (.cons (.var 1) (.cons (.cst (.int 5)) .nil)))))) .nil)) .nil))) .nil)
def k20_3 : S := .for (.nm 4) .r1 (.cons (.cst (.int 3)) .nil) k20_3b
def k20_4 : S := .par [7, 8] (.cons (.blt .list (.cons (.var 3) .nil)) (.cons (.cst (.int 0)) .nil))
def k20_5b : Ss := (.cons (.asg 11 (.cal 57 (.cons (.sub (.var 7) (.var 9)) (.cons (.sub (.var 7) (.var 10)) .nil)))) (.cons (.unp [15, 16] (.cal 59 (.cons (.sub (.var 7) (.var 9)) (.cons (.sub (.var 7) (.var 10)) .nil)))) (.cons (.asg 12 (.lc [17, 18] (.tp [17, 18]) .zip (.cons (.sub (.var 7) (.var 9)) (.cons (.sub (.var 7) (.var 10)) .nil)) .none (.bin .add (.var 17) (.var 18)))) (.cons (.ife (.or (.cons (.cmp .ne (.cal 57 (.cons (.var 15) (.cons (.var 16) .nil))) (.cst (.int 0))) (.cons (.cmp .ne (.lc [17, 18] (.tp [17, 18]) .zip (.cons (.var 15) (.cons (.var 16) .nil)) .none (.bin .add (.var 17) (.var 18))) (.var 12)) .nil))) (.cons (.ret (.cst (.bl false))) .nil) .nil) (.cons (.ife (.cmp .ne (.blt .len (.cons (.cal 54 (.cons (.var 15) .nil)) .nil)) (.bin .sub (.blt .len (.cons (.cal 54 (.cons (.sub (.var 7) (.var 9)) .nil)) .nil)) (.var 11))) (.cons (.ret (.cst (.bl false))) .nil) .nil) (.cons (.sto2 (.var 7) (.var 9) (.var 7) (.var 10) (.var 15) (.var 16)) (.cons (.aug 8 .add (.bin .mul (.cst (.int 2)) (.var 11))) .nil)))))))
def k20_5 : S := .for (.tp [9, 10]) .val (.cons (.lst (.cons (.tup (.cons (.cst (.int 0)) (.cons (.cst (.int 1)) .nil))) (.cons (.tup (.cons (.cst (.int 1)) (.cons (.cst (.int 2)) .nil))) (.cons (.tup (.cons (.cst (.int 0)) (.cons (.cst (.int 2)) .nil))) (.cons (.tup (.cons (.cst (.int 0)) (.cons (.cst (.int 1)) .nil))) .nil))))) .nil) k20_5b
def k20_6 : S := .asg 5 (.bin .sub (.blt .sum (.cons (.lc [13] (.nm 13) .val (.cons (.var 3) .nil) .none (.blt .len (.cons (.cal 54 (.cons (.var 13) .nil)) .nil))) .nil)) (.blt .sum (.cons (.lc [13] (.nm 13) .val (.cons (.var 7) .nil) .none (.blt .len (.cons (.cal 54 (.cons (.var 13) .nil)) .nil))) .nil)))
def k20_7 : S := .ife (.or (.cons (.cmp .ne (.var 5) (.var 8)) (.cons (.cmp .ne (.lc [13] (.nm 13) .val (.cons (.var 7) .nil) .none (.blt .sum (.cons (.var 13) .nil))) (.lc [13] (.nm 13) .val (.cons (.var 3) .nil) .none (.blt .sum (.cons (.var 13) .nil)))) .nil))) (.cons (.ret (.cst (.bl false))) .nil) .nil
def k20_8b : Ss := (.cons (.ife (.cmp .ne (.lc [19] (.nm 19) .r1 (.cons (.var 2) .nil) (.some (.and (.cons (.cmp .gt (.sub (.var 13) (.var 19)) (.cst (.int 0))) (.cons (.cmp .eq (.sub (.var 14) (.var 19)) (.cst (.int 0))) .nil)))) (.var 19)) (.lst .nil)) (.cons (.ret (.cst (.bl false))) .nil) .nil) (.cons (.ife (.cmp .ne (.lc [19] (.nm 19) .val (.cons (.cal 55 (.cons (.var 14) .nil)) .nil) (.some (.cmp .nin (.var 19) (.cal 55 (.cons (.var 13) .nil)))) (.var 19)) (.lst .nil)) (.cons (.ret (.cst (.bl false))) .nil) .nil) .nil))
def k20_8 : S := .for (.tp [13, 14]) .zip (.cons (.var 3) (.cons (.var 7) .nil)) k20_8b
def k20_9 : S := .asg 6 (.bin .mul (.tup (.cons (.cst (.int 2)) .nil)) (.var 2))
def k20_10 : S := .ife (.or (.cons (.cmp .nis (.cal 66 (.cons (.var 6) (.cons (.bin .mul (.tup (.cons (.cst (.int 0)) .nil)) (.var 2)) .nil))) (.cst (.bl true))) (.cons (.cmp .ne (.cal 57 (.cons (.var 6) (.cons (.sub (.var 3) (.cst (.int 0))) .nil))) (.cst (.int 0))) .nil))) (.cons (.ret (.cst (.bl false))) .nil) .nil
def k20_11 : S := .ret (.cmp .eq (.cal 59 (.cons (.var 6) (.cons (.sub (.var 3) (.cst (.int 0))) .nil))) (.tup (.cons (.var 6) (.cons (.sub (.var 3) (.cst (.int 0))) .nil))))
/-- 105: law -/
def b_law_k20 : Fd := ⟨1, 21, false, (.cons k20_0 (.cons k20_1 (.cons k20_2 (.cons k20_3 (.cons k20_4 (.cons k20_5 (.cons k20_6 (.cons k20_7 (.cons k20_8 (.cons k20_9 (.cons k20_10 (.cons k20_11 .nil))))))))))))⟩
def fdL : List (Option Fd) := [some b_is_integer, some b_divisor_of, some b_lowest, some b_ways, some b_check_album, some b_check_size, some b_check_number, some b_fresh_chance, some b_pack_chance, some b_law_part, some b_law_joined, some b_law_cell_at, some b_law_mixed, some b_law_draw, some b_law_some_album, some b_law_sets_of, some b_law_next_chances, some b_law_ask, some b_law_k01, some b_plus, some b_times, some b_step, some b_spread_after, some b_spread, some b_mean_different, some b_law_by, some b_law_ask_2, some b_law_k02, some b_mean_from_here, some b_mean_packs, some b_chance_full, some b_law_ask_3, some b_law_k03, some b_check_chance, some b_packs_for, some b_law_pick, some b_law_ask_4, some b_law_k04, some b_raised, some b_check_frequencies, some b_part_sums, some b_mean_of, some b_mean_single, some b_chance_single, some b_mean_from, some b_law_ask_5, some b_law_refused, some b_law_k05, some b_law_k06, some b_is_collection, some b_check_collection, some b_check_two, some b_missing_in, some b_doubles_in, some b_missing, some b_doubles, some b_offers, some b_swaps, some b_moved, some b_after_swaps, some b_law_same_number, some b_law_ask_6, some b_law_one, some b_law_gives, some b_law_refused_2, some b_law_k07, some b_can_both_fill, some b_law_same_truth, some b_law_k08, some b_text_of, some b_format_collection, some b_parse_collection, some b_law_read, some b_law_k09, some b_C_init, some b_C_get, some b_C_collection, some b_C_mean_left, some b_C_is_full, some b_C_eq, some b_C_len, some b_C_str, some b_law_gathered, some b_law_take, some b_law_k10, some b_C_undo, some b_C_duplicate, some b_law_back, some b_law_counts, some b_law_k11, some b_law_small_ones, some b_law_k12, some b_law_k13, some b_law_told, some b_law_k14, some b_law_four, some b_law_rates, some b_law_two, some b_law_one_2, some b_law_k15, some b_law_ways, some b_law_k16, some b_law_k17, some b_law_k18, some b_law_k19, some b_law_k20]
def TT : Tab := ⟨fun f => (fdL[f]?).join, fun g => match g with | 0 => some (.int 30) | 1 => some (.str (Str.ofString "0123456789")) | _ => none, 74, 79, 80, 81⟩
end Alb
set_option Elab.async false
set_option linter.all false
set_option maxRecDepth 100000
set_option maxHeartbeats 4000000
/-! The evaluator's steps as rewriting rules. -/
namespace Alb.Rn
open PySem Alb
section
variable {cl : Cl} {r : Env} {h : Hh}
theorem s_nil : exs cl .nil r h = .nx r h := rfl
theorem s_cons {s : S} {ss : Ss} : exs cl (.cons s ss) r h = (ex cl s r h).thn (exs cl ss) := rfl
theorem s_asg {i : Nat} {e : E} : ex cl (.asg i e) r h = (ev cl e r h).thn fun x h => if i < r.length then .nx (r.set i (some x)) h else .bad := rfl
theorem s_unp {is : List Nat} {e : E} : ex cl (.unp is e) r h = (ev cl e r h).thn fun x h => (match asgT (.tp is) x r with
    | some r1 => .nx r1 h
    | none => .bad) := rfl
theorem s_par {is : List Nat} {es : Es} : ex cl (.par is es) r h = (evs cl es r h).thn fun xs h => (match asgL is xs r with
    | some r1 => .nx r1 h
    | none => .bad) := rfl
theorem s_sto {o i e : E} : ex cl (.sto o i e) r h = (ev cl e r h).thn fun x h => (ev cl o r h).thn fun a h => (ev cl i r h).thn fun k h => (match stoD a k x h with
    | some h1 => .nx r h1
    | none => .bad) := rfl
theorem s_aug {i : Nat} {o : BOp} {e : E} : ex cl (.aug i o e) r h = (match r[i]? with
    | some (some x) => (ev cl e r h).thn fun y h => (match augD o x y with
      | some z => .nx (r.set i (some z)) h
      | none => .bad)
    | _ => .bad) := rfl
theorem s_aus {a i : E} {o : BOp} {e : E} : ex cl (.aus a i o e) r h = (ev cl a r h).thn fun p h => (ev cl i r h).thn fun k h => (match lgetD p k h with
    | some x => (ev cl e r h).thn fun y h => (match augD o x y with
      | some z => (match stoD p k z h with
        | some h2 => .nx r h2
        | none => .bad)
      | none => .bad)
    | none => .bad) := rfl
theorem s_exp {e : E} : ex cl (.exp e) r h = (ev cl e r h).thn fun _ h => .nx r h := rfl
theorem s_ret {e : E} : ex cl (.ret e) r h = (ev cl e r h).thn fun x h => .rt x h := rfl
/-- an if -/
def ifS (x : D) (a b : SR) : SR := match x with
  | .bl true => a
  | .bl false => b
  | _ => .bad
theorem s_ife {c : E} {a b : Ss} : ex cl (.ife c a b) r h = (ev cl c r h).thn fun x h => (match x with
    | .bl true => exs cl a r h
    | .bl false => exs cl b r h
    | _ => .bad) := rfl
/-- what a for does behind its iterable -/
def forF (cl : Cl) (t : Tg) (b : Ss) : D → Env → Hh → SR := fun x r h => match asgT t x r with
  | some r1 => exs cl b r1 h
  | none => .bad
def forK (cl : Cl) (t : Tg) (b : Ss) (r : Env) (p : Option (List D × List (Nat × List D))) (h : Hh) : SR := match p with
  | some (items, lk) => (match forGo (forF cl t b) items r (lockH lk h) with
      | .nx r1 h1 => .nx r1 (unlockH lk h1)
      | .rt d h1 => .rt d (unlockH lk h1)
      | .ex c h1 => .ex c (unlockH lk h1)
      | .bad => .bad)
  | none => .bad
theorem s_for {t : Tg} {k : Ik} {es : Es} {b : Ss} : ex cl (.for t k es b) r h = (evs cl es r h).thn fun ds h => forK cl t b r (iterD k ds h) h := rfl
theorem s_whi {c : E} {b : Ss} : ex cl (.whi c b) r h = whileGo (ev cl c) (exs cl b) wfuel r h := rfl
theorem s_rai {c : Nat} : ex cl (.rai c) r h = .ex c h := rfl
theorem s_tryw {i : Nat} {b : Ss} : ex cl (.tryw i b) r h = (match exs cl b r h with
    | .ex c h1 => if c < 10 ∧ i < r.length then .rt (.tup [.str raised, .int c]) h1 else .bad
    | s => s) := rfl
theorem e_cst {d : D} : ev cl (.cst d) r h = .ok d h := rfl
theorem e_var {i : Nat} : ev cl (.var i) r h = (match r[i]? with
    | some (some d) => .ok d h
    | _ => .bad) := rfl
theorem e_fnv {f : Nat} : ev cl (.fnv f) r h = .ok (.fn f) h := rfl
theorem e_glb {g : Nat} : ev cl (.glb g) r h = ofV h (cl.g g) := rfl
theorem e_bin {o : BOp} {a b : E} : ev cl (.bin o a b) r h = (ev cl a r h).bind fun x h => (ev cl b r h).bind fun y h => ofO (binD o x y h) := rfl
theorem e_neg {a : E} : ev cl (.neg a) r h = (ev cl a r h).bind fun x h => ofV h (negD x) := rfl
theorem e_cmp {o : COp} {a b : E} : ev cl (.cmp o a b) r h = (ev cl a r h).bind fun x h => (ev cl b r h).bind fun y h => ofV h ((cmpD o x y h).map D.bl) := rfl
theorem e_chn {o p : COp} {a b c : E} : ev cl (.chn o p a b c) r h = (ev cl a r h).bind fun x h => (ev cl b r h).bind fun y h => (match cmpD o x y h with
    | some true => (ev cl c r h).bind fun z h => ofV h ((cmpD p y z h).map D.bl)
    | some false => .ok (.bl false) h
    | none => .bad) := rfl
theorem e_and {es : Es} : ev cl (.and es) r h = evAnd cl es r h := rfl
theorem e_or {es : Es} : ev cl (.or es) r h = evOr cl es r h := rfl
theorem e_not {a : E} : ev cl (.not a) r h = (ev cl a r h).bind fun x h => (match x with
    | .bl k => .ok (.bl (!k)) h
    | _ => .bad) := rfl
theorem e_ite {c a b : E} : ev cl (.ite c a b) r h = (ev cl c r h).bind fun x h => (match x with
    | .bl true => ev cl a r h
    | .bl false => ev cl b r h
    | _ => .bad) := rfl
theorem e_cal {f : Nat} {es : Es} : ev cl (.cal f es) r h = (evs cl es r h).bind fun ds h => cl.f f ds h := rfl
theorem e_cax {fe : E} {es : Es} : ev cl (.cax fe es) r h = (ev cl fe r h).bind fun x h => (match x with
    | .fn f => (evs cl es r h).bind fun ds h => cl.f f ds h
    | _ => .bad) := rfl
theorem e_blt {b : Blt} {es : Es} : ev cl (.blt b es) r h = (evs cl es r h).bind fun ds h => ofO (bltD b ds h) := rfl
theorem e_isi {t : Ty} {a : E} : ev cl (.isi t a) r h = (ev cl a r h).bind fun x h => ofV h ((isiD t x h).map D.bl) := rfl
theorem e_mth {m : Mth} {a : E} {es : Es} : ev cl (.mth m a es) r h = (ev cl a r h).bind fun x h => if recvD m x h then (evs cl es r h).bind fun ds h => ofO (mthD m x ds h) else .bad := rfl
theorem e_tup {es : Es} : ev cl (.tup es) r h = (evs cl es r h).bind fun ds h => .ok (.tup ds) h := rfl
theorem e_lst {es : Es} : ev cl (.lst es) r h = (evs cl es r h).bind fun ds h => .ok (.loc h.nx) (h.new (.lst ds)) := rfl
theorem e_sub {a i : E} : ev cl (.sub a i) r h = (ev cl a r h).bind fun x h => (ev cl i r h).bind fun y h => ofV h (subD x y h) := rfl
theorem e_slc {a : E} {lo hi : Oe} : ev cl (.slc a lo hi) r h = (ev cl a r h).bind fun x h => (evo cl lo r h).bind fun l h => (evo cl hi r h).bind fun u h => ofO (slcD x l u h) := rfl
/-- what a comprehension does behind its iterable -/
def lcF (cl : Cl) (own : List Nat) (t : Tg) (c : Oe) (e : E) (r : Env) : D → Hh → R (Option D) := fun x h => match asgT t x (wipeD r own) with
  | some r1 => (evc cl c r1 h).bind fun b h => if b then (ev cl e r1 h).bind fun y h => .ok (some y) h else .ok none h
  | none => .bad
def lcK (cl : Cl) (own : List Nat) (t : Tg) (c : Oe) (e : E) (r : Env) (p : Option (List D × List (Nat × List D))) (h : Hh) : R D := match p with
  | some (items, lk) => (compGo (lcF cl own t c e r) items [] (lockH lk h)).bind fun acc h => .ok (.loc (unlockH lk h).nx) ((unlockH lk h).new (.lst acc))
  | none => .bad
theorem e_lc {own : List Nat} {t : Tg} {k : Ik} {es : Es} {c : Oe} {e : E} : ev cl (.lc own t k es c e) r h = (evs cl es r h).bind fun ds h => lcK cl own t c e r (iterD k ds h) h := rfl
theorem es_nil : evs cl .nil r h = .ok [] h := rfl
theorem es_cons {e : E} {es : Es} : evs cl (.cons e es) r h = (ev cl e r h).bind fun x h => (evs cl es r h).bind fun xs h => .ok (x :: xs) h := rfl
theorem ea_nil : evAnd cl .nil r h = .ok (.bl true) h := rfl
theorem ea_cons {e : E} {es : Es} : evAnd cl (.cons e es) r h = (ev cl e r h).bind fun x h => (match x with
    | .bl true => evAnd cl es r h
    | .bl false => .ok (.bl false) h
    | _ => .bad) := rfl
theorem eo_nil : evOr cl .nil r h = .ok (.bl false) h := rfl
theorem eo_cons {e : E} {es : Es} : evOr cl (.cons e es) r h = (ev cl e r h).bind fun x h => (match x with
    | .bl false => evOr cl es r h
    | .bl true => .ok (.bl true) h
    | _ => .bad) := rfl
theorem eb_none : evo cl .none r h = .ok none h := rfl
theorem eb_some {e : E} : evo cl (.some e) r h = (ev cl e r h).bind fun x h => (match x with
    | .int i => .ok (some i) h
    | _ => .bad) := rfl
theorem ec_none : evc cl .none r h = .ok true h := rfl
theorem ec_some {e : E} : evc cl (.some e) r h = (ev cl e r h).bind fun x h => (match x with
    | .bl b => .ok b h
    | _ => .bad) := rfl
end
theorem b_ok {α β : Type} {a : α} {h : Hh} {f : α → Hh → R β} : (R.ok a h).bind f = f a h := rfl
theorem b_ex {α β : Type} {c : Nat} {h : Hh} {f : α → Hh → R β} : (R.ex c h : R α).bind f = .ex c h := rfl
theorem t_ok {α : Type} {a : α} {h : Hh} {f : α → Hh → SR} : (R.ok a h).thn f = f a h := rfl
theorem t_ex {α : Type} {c : Nat} {h : Hh} {f : α → Hh → SR} : (R.ex c h : R α).thn f = .ex c h := rfl
theorem st_nx {r : Env} {h : Hh} {f : Env → Hh → SR} : (SR.nx r h).thn f = f r h := rfl
theorem st_rt {d : D} {h : Hh} {f : Env → Hh → SR} : (SR.rt d h).thn f = .rt d h := rfl
theorem st_ex {c : Nat} {h : Hh} {f : Env → Hh → SR} : (SR.ex c h).thn f = .ex c h := rfl
theorem o_some {α : Type} {d : α} {h : Hh} : ofO (some (d, h)) = .ok d h := rfl
theorem v_some {α : Type} {d : α} {h : Hh} : ofV h (some d) = .ok d h := rfl
/-! ### operations -/
section
variable {h : Hh} {i j : Int}
theorem o_add : binD .add (.int i) (.int j) h = some (.int (i + j), h) := rfl
theorem o_sub : binD .sub (.int i) (.int j) h = some (.int (i - j), h) := rfl
theorem o_mul : binD .mul (.int i) (.int j) h = if mulOk i j then some (.int (i * j), h) else none := rfl
theorem o_fdiv : binD .fdiv (.int i) (.int j) h = if divOk j then some (.int (i / j), h) else none := rfl
theorem o_mod : binD .mod (.int i) (.int j) h = if 0 < j then some (.int (i % j), h) else none := rfl
theorem o_pow : binD .pow (.int i) (.int j) h = if 0 ≤ j ∧ j ≤ 1000 ∧ i.natAbs < big64 then some (.int (i ^ j.toNat), h) else none := rfl
theorem c_lt : cmpD .lt (.int i) (.int j) h = some (decide (i < j)) := rfl
theorem c_le : cmpD .le (.int i) (.int j) h = some (decide (i ≤ j)) := rfl
theorem c_gt : cmpD .gt (.int i) (.int j) h = some (decide (j < i)) := rfl
theorem c_ge : cmpD .ge (.int i) (.int j) h = some (decide (j ≤ i)) := rfl
theorem l_max : bltD .max [.int i, .int j] h = some (.int (if j > i then j else i), h) := rfl
theorem l_min : bltD .min [.int i, .int j] h = some (.int (if j < i then j else i), h) := rfl
end
end Alb.Rn
set_option Elab.async false
set_option linter.all false
set_option maxRecDepth 100000
set_option maxHeartbeats 4000000
/-! What the defs answer: the small ones. -/
namespace Alb.Rn
open PySem Alb

/-! ### calls of defs with their own store -/
theorem clf' (n f : Nat) (ds : List D) (h : Hh) : (clOf TT (n + 1)).f f ds h = (match TT.fd f with
      | some fd => if fd.own then (match impD ds h with
          | some ps => (runP (clOf TT n) fd ps).r h
          | none => .bad) else runG (clOf TT n) fd ds h
      | none => .bad) := rfl
theorem imp_pure : ∀ (ds : List D) (h : Hh), pureL ds = true → impD ds h = some (ds.map .val)
  | [], _, _ => rfl
  | d :: ds, h, hp => by
    simp only [pureL, Bool.and_eq_true] at hp
    have ih := imp_pure ds h hp.2
    cases d <;> simp_all [impD, D.pure]
theorem lay_vals : ∀ (ds : List D) (n : Nat), layA (ds.map .val) n = (ds, [])
  | [], _ => rfl
  | d :: ds, n => by simp [layA, lay_vals ds n]
theorem cnt_vals : ∀ (ds : List D), cntA (ds.map .val) = 0
  | [] => rfl
  | d :: ds => by simp [cntA, cnt_vals ds]
/-- a def of its own store, its arguments without places -/
theorem call_own {m f : Nat} {fd : Fd} {ds : List D} {h : Hh} (hf : TT.fd f = some fd) (ho : fd.own = true) (hp : pureL ds = true) (hn : ds.length = fd.np) :
    (clOf TT (m + 1)).f f ds h = (expD (exs (clOf TT m) fd.body (stEnv fd.ns ds) ⟨0, []⟩)).r h := by
  rw [clf', hf]
  simp only [ho, if_true, imp_pure ds h hp, runP, List.length_map, hn, lay_vals, cnt_vals]
theorem call_val {m f : Nat} {fd : Fd} {ds : List D} {h : Hh} {d : D} {h' : Hh} (hf : TT.fd f = some fd) (ho : fd.own = true) (hp : pureL ds = true) (hn : ds.length = fd.np) (hd : d.pure = true)
    (hr : exs (clOf TT m) fd.body (stEnv fd.ns ds) ⟨0, []⟩ = .rt d h') : (clOf TT (m + 1)).f f ds h = .ok d h := by
  rw [call_own hf ho hp hn, hr]
  cases d <;> simp_all [expD, ResP.r, D.pure]
theorem call_lst {m f : Nat} {fd : Fd} {ds : List D} {h : Hh} {a : Nat} {h' : Hh} {xs : List D} (hf : TT.fd f = some fd) (ho : fd.own = true) (hp : pureL ds = true) (hn : ds.length = fd.np)
    (hr : exs (clOf TT m) fd.body (stEnv fd.ns ds) ⟨0, []⟩ = .rt (.loc a) h') (ha : h'.get a = some (.lst xs)) (hx : pureL xs = true) : (clOf TT (m + 1)).f f ds h = .ok (.loc h.nx) (h.new (.lst xs)) := by
  rw [call_own hf ho hp hn, hr]
  simp [expD, ResP.r, ha, hx]
theorem call_exc {m f : Nat} {fd : Fd} {ds : List D} {h : Hh} {c : Nat} {h' : Hh} (hf : TT.fd f = some fd) (ho : fd.own = true) (hp : pureL ds = true) (hn : ds.length = fd.np)
    (hr : exs (clOf TT m) fd.body (stEnv fd.ns ds) ⟨0, []⟩ = .ex c h') : (clOf TT (m + 1)).f f ds h = .ex c h := by
  rw [call_own hf ho hp hn, hr]
  rfl
theorem call_non {m f : Nat} {fd : Fd} {ds : List D} {h : Hh} {r : Env} {h' : Hh} (hf : TT.fd f = some fd) (ho : fd.own = true) (hp : pureL ds = true) (hn : ds.length = fd.np)
    (hr : exs (clOf TT m) fd.body (stEnv fd.ns ds) ⟨0, []⟩ = .nx r h') : (clOf TT (m + 1)).f f ds h = .ok .non h := by
  rw [call_own hf ho hp hn, hr]
  rfl

/-! ### divisor_of -/
/-- how often -/
theorem log_half {a b : Nat} (hb : 0 < b) (h : b ≤ a) : 2 * (a % b) < a := by
  have h1 := Nat.mod_lt a hb
  have h2 := Nat.div_add_mod a b
  have h3 : 1 ≤ a / b := Nat.div_pos h hb
  have h4 : b * 1 ≤ b * (a / b) := Nat.mul_le_mul_left _ h3
  omega
/-- the loop of divisor_of: at places i, j of the slots -/
theorem while_gcd {cl : Cl} {h : Hh} {c : Env → Hh → R D} {b : Env → Hh → SR} (mk : Int → Int → Env)
    (hc : ∀ x y : Int, c (mk x y) h = .ok (.bl (decide (0 < y))) h) (hb : ∀ x y : Int, 0 < y → b (mk x y) h = .nx (mk y (x % y)) h) :
    ∀ (k : Nat) (y x fuel : Nat), y < 2 ^ k → 2 * k + 2 ≤ fuel → whileGo c b fuel (mk x y) h = .nx (mk (Nat.gcd x y : Nat) 0) h := by
  intro k
  induction k with
  | zero =>
    intro y x fuel hy hf
    have : y = 0 := by omega
    subst this
    obtain ⟨f, rfl⟩ : ∃ f, fuel = f + 1 := ⟨fuel - 1, by omega⟩
    simp [whileGo, hc]
  | succ k ih =>
    intro y x fuel hy hf
    by_cases y0 : y = 0
    · subst y0
      obtain ⟨f, rfl⟩ : ∃ f, fuel = f + 1 := ⟨fuel - 1, by omega⟩
      simp [whileGo, hc]
    · obtain ⟨f, rfl⟩ : ∃ f, fuel = f + 2 := ⟨fuel - 2, by omega⟩
      have yp : (0 : Int) < (y : Int) := by omega
      have e1 : ((x : Int) % (y : Int)) = ((x % y : Nat) : Int) := (Int.natCast_emod x y).symm
      simp only [whileGo, hc, hb _ _ yp, yp, decide_true, e1]
      by_cases z0 : x % y = 0
      · rw [z0]
        simp only [Int.natCast_zero, Int.lt_irrefl, decide_false]
        have : Nat.gcd x y = y := Nat.gcd_eq_right (Nat.dvd_of_mod_eq_zero z0)
        rw [this]
      · have zp : (0 : Int) < ((x % y : Nat) : Int) := by omega
        have e2 : ((y : Int) % ((x % y : Nat) : Int)) = ((y % (x % y) : Nat) : Int) := (Int.natCast_emod y (x % y)).symm
        simp only [zp, decide_true, hb _ _ zp, e2]
        have lt := Nat.mod_lt x (Nat.pos_of_ne_zero y0)
        have hh := log_half (a := y) (b := x % y) (by omega) (by omega)
        rw [ih (y % (x % y)) (x % y) f (by rw [Nat.pow_succ] at hy; omega) (by omega)]
        congr 2
        rw [Nat.gcd_comm (x % y) (y % (x % y))]
        have g1 : Nat.gcd (y % (x % y)) (x % y) = Nat.gcd (x % y) y := by rw [← Nat.gcd_rec]
        have g2 : Nat.gcd (x % y) y = Nat.gcd y x := by rw [← Nat.gcd_rec]
        rw [g1, g2, Nat.gcd_comm]
theorem wf_ok {y : Nat} (hy : y.log2 < 9000) : y < 2 ^ 9000 := by
  by_cases h : y = 0
  · subst h
    exact Nat.two_pow_pos 9000
  · exact (Nat.log2_lt h).mp hy
theorem r_divisor {m : Nat} {h : Hh} (x y : Nat) (hy : y.log2 < 9000) : (clOf TT (m + 1)).f 1 [.int x, .int y] h = .ok (.int (Nat.gcd x y : Nat)) h := by
  refine call_val (fd := b_divisor_of) (h' := ⟨0, []⟩) rfl rfl rfl rfl rfl ?_
  have w := while_gcd (cl := clOf TT m) (h := ⟨0, []⟩) (c := ev (clOf TT m) (.cmp .gt (.var 1) (.cst (.int 0)))) (b := exs (clOf TT m) (.cons (.par [0, 1] (.cons (.var 1) (.cons (.bin .mod (.var 0) (.var 1)) .nil))) .nil)) (fun x y => [some (.int x), some (.int y)])
    (fun x y => by simp only [s_nil, s_cons, s_asg, s_unp, s_par, s_sto, s_aug, s_aus, s_exp, s_ret, s_ife, s_for, s_whi, s_rai, s_tryw, e_cst, e_var, e_fnv, e_glb, e_bin, e_neg, e_cmp, e_chn, e_and, e_or, e_not, e_ite, e_cal, e_cax, e_blt, e_isi, e_mth, e_tup, e_lst, e_sub, e_slc, e_lc, es_nil, es_cons, ea_nil, ea_cons, eo_nil, eo_cons, eb_none, eb_some, ec_none, ec_some, b_ok, b_ex, t_ok, t_ex, st_nx, st_rt, st_ex, o_some, v_some, o_add, o_sub, o_mul, o_fdiv, o_mod, o_pow, c_lt, c_le, c_gt, c_ge, l_max, l_min, asgL, asgT, List.length_cons, List.length_nil, List.length_set, List.getElem?_cons_zero, List.getElem?_cons_succ, List.set_cons_zero, List.set_cons_succ, Option.map_some, if_true, if_false, decide_true, decide_false, Bool.not_true, Bool.not_false, Nat.zero_add, Nat.reduceAdd, Nat.reduceLT, Nat.zero_lt_succ, Bool.false_eq_true, reduceIte, reduceCtorEq]) (fun x y hy => by simp only [s_nil, s_cons, s_asg, s_unp, s_par, s_sto, s_aug, s_aus, s_exp, s_ret, s_ife, s_for, s_whi, s_rai, s_tryw, e_cst, e_var, e_fnv, e_glb, e_bin, e_neg, e_cmp, e_chn, e_and, e_or, e_not, e_ite, e_cal, e_cax, e_blt, e_isi, e_mth, e_tup, e_lst, e_sub, e_slc, e_lc, es_nil, es_cons, ea_nil, ea_cons, eo_nil, eo_cons, eb_none, eb_some, ec_none, ec_some, b_ok, b_ex, t_ok, t_ex, st_nx, st_rt, st_ex, o_some, v_some, o_add, o_sub, o_mul, o_fdiv, o_mod, o_pow, c_lt, c_le, c_gt, c_ge, l_max, l_min, asgL, asgT, List.length_cons, List.length_nil, List.length_set, List.getElem?_cons_zero, List.getElem?_cons_succ, List.set_cons_zero, List.set_cons_succ, Option.map_some, if_true, if_false, decide_true, decide_false, Bool.not_true, Bool.not_false, Nat.zero_add, Nat.reduceAdd, Nat.reduceLT, Nat.zero_lt_succ, Bool.false_eq_true, reduceIte, reduceCtorEq, hy]) 9000 y x wfuel (wf_ok hy) (by decide)
  show exs (clOf TT m) (.cons (.whi _ _) _) [some (.int x), some (.int y)] ⟨0, []⟩ = _
  simp only [s_nil, s_cons, s_asg, s_unp, s_par, s_sto, s_aug, s_aus, s_exp, s_ret, s_ife, s_for, s_whi, s_rai, s_tryw, e_cst, e_var, e_fnv, e_glb, e_bin, e_neg, e_cmp, e_chn, e_and, e_or, e_not, e_ite, e_cal, e_cax, e_blt, e_isi, e_mth, e_tup, e_lst, e_sub, e_slc, e_lc, es_nil, es_cons, ea_nil, ea_cons, eo_nil, eo_cons, eb_none, eb_some, ec_none, ec_some, b_ok, b_ex, t_ok, t_ex, st_nx, st_rt, st_ex, o_some, v_some, o_add, o_sub, o_mul, o_fdiv, o_mod, o_pow, c_lt, c_le, c_gt, c_ge, l_max, l_min, asgL, asgT, List.length_cons, List.length_nil, List.length_set, List.getElem?_cons_zero, List.getElem?_cons_succ, List.set_cons_zero, List.set_cons_succ, Option.map_some, if_true, if_false, decide_true, decide_false, Bool.not_true, Bool.not_false, Nat.zero_add, Nat.reduceAdd, Nat.reduceLT, Nat.zero_lt_succ, Bool.false_eq_true, reduceIte, reduceCtorEq, w]
/-! ### fractions -/
abbrev Q := Int × Int
def qd (q : Q) : D := .tup [.int q.1, .int q.2]
def mulM (i j : Int) : Option Int := if mulOk i j then some (i * j) else none
def lowM (a b : Int) : Option Q := match b with
  | .ofNat b => if 0 < b ∧ b.log2 < 9000 then some (a / (Nat.gcd a.natAbs b : Nat), (b / Nat.gcd a.natAbs b : Nat)) else none
  | _ => none
theorem max_abs (a : Int) : (if 0 - a > a then 0 - a else a) = (a.natAbs : Int) := by
  split <;> omega
theorem div_gcd {a : Int} {b : Nat} (hb : 0 < b) (hl : b.log2 < 9000) : divOk ((Nat.gcd a.natAbs b : Nat) : Int) = true := by
  have h1 := Nat.gcd_pos_of_pos_right a.natAbs hb
  have h2 := Nat.le_of_dvd hb (Nat.gcd_dvd_right a.natAbs b)
  have h3 : (Nat.gcd a.natAbs b).log2 < 9000 := by
    rw [Nat.log2_lt (by omega)]
    exact Nat.lt_of_le_of_lt h2 (wf_ok hl)
  simp only [divOk, Bool.and_eq_true, decide_eq_true_eq, Int.natAbs_natCast]
  exact ⟨by omega, h3⟩
theorem r_lowest {m : Nat} {h : Hh} {a b : Int} {q : Q} (e : lowM a b = some q) : (clOf TT (m + 2)).f 2 [.int a, .int b] h = .ok (qd q) h := by
  unfold lowM at e
  split at e
  · rename_i b
    split at e
    · rename_i hb
      cases e
      refine call_val (fd := b_lowest) (h' := ⟨0, []⟩) rfl rfl rfl rfl rfl ?_
      show exs (clOf TT (m + 1)) b_lowest.body [some (.int a), some (.int (b : Nat)), none] ⟨0, []⟩ = _
      unfold b_lowest
      simp only [s_nil, s_cons, s_asg, s_unp, s_par, s_sto, s_aug, s_aus, s_exp, s_ret, s_ife, s_for, s_whi, s_rai, s_tryw, e_cst, e_var, e_fnv, e_glb, e_bin, e_neg, e_cmp, e_chn, e_and, e_or, e_not, e_ite, e_cal, e_cax, e_blt, e_isi, e_mth, e_tup, e_lst, e_sub, e_slc, e_lc, es_nil, es_cons, ea_nil, ea_cons, eo_nil, eo_cons, eb_none, eb_some, ec_none, ec_some, b_ok, b_ex, t_ok, t_ex, st_nx, st_rt, st_ex, o_some, v_some, o_add, o_sub, o_mul, o_fdiv, o_mod, o_pow, c_lt, c_le, c_gt, c_ge, l_max, l_min, asgL, asgT, List.length_cons, List.length_nil, List.length_set, List.getElem?_cons_zero, List.getElem?_cons_succ, List.set_cons_zero, List.set_cons_succ, Option.map_some, if_true, if_false, decide_true, decide_false, Bool.not_true, Bool.not_false, Nat.zero_add, Nat.reduceAdd, Nat.reduceLT, Nat.zero_lt_succ, Bool.false_eq_true, reduceIte, reduceCtorEq, max_abs, r_divisor _ _ hb.2, div_gcd hb.1 hb.2]
      rfl
    · cases e
  · cases e
theorem r_part {m : Nat} {h : Hh} {a b : Int} {q : Q} (e : lowM a b = some q) : (clOf TT (m + 1)).f 9 [.int a, .int b] h = .ok (qd q) h := by
  unfold lowM at e
  split at e
  · rename_i b
    split at e
    · rename_i hb
      cases e
      refine call_val (fd := b_law_part) (h' := ⟨0, []⟩) rfl rfl rfl rfl rfl ?_
      show exs (clOf TT m) b_law_part.body [some (.int a), some (.int (b : Nat)), none, none] ⟨0, []⟩ = _
      unfold b_law_part
      have w := while_gcd (cl := clOf TT m) (h := ⟨0, []⟩) (c := ev (clOf TT m) (.cmp .gt (.var 3) (.cst (.int 0)))) (b := exs (clOf TT m) (.cons (.par [2, 3] (.cons (.var 3) (.cons (.bin .mod (.var 2) (.var 3)) .nil))) .nil)) (fun x y => [some (.int a), some (.int (b : Nat)), some (.int x), some (.int y)])
        (fun x y => by simp only [s_nil, s_cons, s_asg, s_unp, s_par, s_sto, s_aug, s_aus, s_exp, s_ret, s_ife, s_for, s_whi, s_rai, s_tryw, e_cst, e_var, e_fnv, e_glb, e_bin, e_neg, e_cmp, e_chn, e_and, e_or, e_not, e_ite, e_cal, e_cax, e_blt, e_isi, e_mth, e_tup, e_lst, e_sub, e_slc, e_lc, es_nil, es_cons, ea_nil, ea_cons, eo_nil, eo_cons, eb_none, eb_some, ec_none, ec_some, b_ok, b_ex, t_ok, t_ex, st_nx, st_rt, st_ex, o_some, v_some, o_add, o_sub, o_mul, o_fdiv, o_mod, o_pow, c_lt, c_le, c_gt, c_ge, l_max, l_min, asgL, asgT, List.length_cons, List.length_nil, List.length_set, List.getElem?_cons_zero, List.getElem?_cons_succ, List.set_cons_zero, List.set_cons_succ, Option.map_some, if_true, if_false, decide_true, decide_false, Bool.not_true, Bool.not_false, Nat.zero_add, Nat.reduceAdd, Nat.reduceLT, Nat.zero_lt_succ, Bool.false_eq_true, reduceIte, reduceCtorEq]) (fun x y hy => by simp only [s_nil, s_cons, s_asg, s_unp, s_par, s_sto, s_aug, s_aus, s_exp, s_ret, s_ife, s_for, s_whi, s_rai, s_tryw, e_cst, e_var, e_fnv, e_glb, e_bin, e_neg, e_cmp, e_chn, e_and, e_or, e_not, e_ite, e_cal, e_cax, e_blt, e_isi, e_mth, e_tup, e_lst, e_sub, e_slc, e_lc, es_nil, es_cons, ea_nil, ea_cons, eo_nil, eo_cons, eb_none, eb_some, ec_none, ec_some, b_ok, b_ex, t_ok, t_ex, st_nx, st_rt, st_ex, o_some, v_some, o_add, o_sub, o_mul, o_fdiv, o_mod, o_pow, c_lt, c_le, c_gt, c_ge, l_max, l_min, asgL, asgT, List.length_cons, List.length_nil, List.length_set, List.getElem?_cons_zero, List.getElem?_cons_succ, List.set_cons_zero, List.set_cons_succ, Option.map_some, if_true, if_false, decide_true, decide_false, Bool.not_true, Bool.not_false, Nat.zero_add, Nat.reduceAdd, Nat.reduceLT, Nat.zero_lt_succ, Bool.false_eq_true, reduceIte, reduceCtorEq, hy]) 9000 b a.natAbs wfuel (wf_ok hb.2) (by decide)
      simp only [s_nil, s_cons, s_asg, s_unp, s_par, s_sto, s_aug, s_aus, s_exp, s_ret, s_ife, s_for, s_whi, s_rai, s_tryw, e_cst, e_var, e_fnv, e_glb, e_bin, e_neg, e_cmp, e_chn, e_and, e_or, e_not, e_ite, e_cal, e_cax, e_blt, e_isi, e_mth, e_tup, e_lst, e_sub, e_slc, e_lc, es_nil, es_cons, ea_nil, ea_cons, eo_nil, eo_cons, eb_none, eb_some, ec_none, ec_some, b_ok, b_ex, t_ok, t_ex, st_nx, st_rt, st_ex, o_some, v_some, o_add, o_sub, o_mul, o_fdiv, o_mod, o_pow, c_lt, c_le, c_gt, c_ge, l_max, l_min, asgL, asgT, List.length_cons, List.length_nil, List.length_set, List.getElem?_cons_zero, List.getElem?_cons_succ, List.set_cons_zero, List.set_cons_succ, Option.map_some, if_true, if_false, decide_true, decide_false, Bool.not_true, Bool.not_false, Nat.zero_add, Nat.reduceAdd, Nat.reduceLT, Nat.zero_lt_succ, Bool.false_eq_true, reduceIte, reduceCtorEq, max_abs, w, div_gcd hb.1 hb.2]
      rfl
    · cases e
  · cases e
theorem sub_q0 {q : Q} {h : Hh} : subD (qd q) (.int 0) h = some (.int q.1) := rfl
theorem sub_q1 {q : Q} {h : Hh} : subD (qd q) (.int 1) h = some (.int q.2) := rfl
theorem mul_of {i j k : Int} {h : Hh} (e : mulM i j = some k) : (if mulOk i j = true then some (D.int (i * j), h) else none) = some (D.int k, h) := by
  unfold mulM at e
  split at e
  · rename_i z
    cases e
    rw [if_pos z]
  · cases e
def plusM (p q : Q) : Option Q := match mulM p.1 q.2, mulM q.1 p.2, mulM p.2 q.2 with
  | some x, some y, some z => lowM (x + y) z
  | _, _, _ => none
def timesM (p q : Q) : Option Q := match mulM p.1 q.1, mulM p.2 q.2 with
  | some x, some z => lowM x z
  | _, _ => none
theorem r_plus {m : Nat} {h : Hh} {p q s : Q} (e : plusM p q = some s) : (clOf TT (m + 3)).f 19 [qd p, qd q] h = .ok (qd s) h := by
  unfold plusM at e
  split at e
  · rename_i x y z e1 e2 e3
    refine call_val (fd := b_plus) (h' := ⟨0, []⟩) rfl rfl rfl rfl rfl ?_
    show exs (clOf TT (m + 2)) b_plus.body [some (qd p), some (qd q)] ⟨0, []⟩ = _
    unfold b_plus
    simp only [s_nil, s_cons, s_asg, s_unp, s_par, s_sto, s_aug, s_aus, s_exp, s_ret, s_ife, s_for, s_whi, s_rai, s_tryw, e_cst, e_var, e_fnv, e_glb, e_bin, e_neg, e_cmp, e_chn, e_and, e_or, e_not, e_ite, e_cal, e_cax, e_blt, e_isi, e_mth, e_tup, e_lst, e_sub, e_slc, e_lc, es_nil, es_cons, ea_nil, ea_cons, eo_nil, eo_cons, eb_none, eb_some, ec_none, ec_some, b_ok, b_ex, t_ok, t_ex, st_nx, st_rt, st_ex, o_some, v_some, o_add, o_sub, o_mul, o_fdiv, o_mod, o_pow, c_lt, c_le, c_gt, c_ge, l_max, l_min, asgL, asgT, List.length_cons, List.length_nil, List.length_set, List.getElem?_cons_zero, List.getElem?_cons_succ, List.set_cons_zero, List.set_cons_succ, Option.map_some, if_true, if_false, decide_true, decide_false, Bool.not_true, Bool.not_false, Nat.zero_add, Nat.reduceAdd, Nat.reduceLT, Nat.zero_lt_succ, Bool.false_eq_true, reduceIte, reduceCtorEq, sub_q0, sub_q1, mul_of e1, mul_of e2, mul_of e3, r_lowest e]
  · cases e
theorem r_times {m : Nat} {h : Hh} {p q s : Q} (e : timesM p q = some s) : (clOf TT (m + 3)).f 20 [qd p, qd q] h = .ok (qd s) h := by
  unfold timesM at e
  split at e
  · rename_i x z e1 e3
    refine call_val (fd := b_times) (h' := ⟨0, []⟩) rfl rfl rfl rfl rfl ?_
    show exs (clOf TT (m + 2)) b_times.body [some (qd p), some (qd q)] ⟨0, []⟩ = _
    unfold b_times
    simp only [s_nil, s_cons, s_asg, s_unp, s_par, s_sto, s_aug, s_aus, s_exp, s_ret, s_ife, s_for, s_whi, s_rai, s_tryw, e_cst, e_var, e_fnv, e_glb, e_bin, e_neg, e_cmp, e_chn, e_and, e_or, e_not, e_ite, e_cal, e_cax, e_blt, e_isi, e_mth, e_tup, e_lst, e_sub, e_slc, e_lc, es_nil, es_cons, ea_nil, ea_cons, eo_nil, eo_cons, eb_none, eb_some, ec_none, ec_some, b_ok, b_ex, t_ok, t_ex, st_nx, st_rt, st_ex, o_some, v_some, o_add, o_sub, o_mul, o_fdiv, o_mod, o_pow, c_lt, c_le, c_gt, c_ge, l_max, l_min, asgL, asgT, List.length_cons, List.length_nil, List.length_set, List.getElem?_cons_zero, List.getElem?_cons_succ, List.set_cons_zero, List.set_cons_succ, Option.map_some, if_true, if_false, decide_true, decide_false, Bool.not_true, Bool.not_false, Nat.zero_add, Nat.reduceAdd, Nat.reduceLT, Nat.zero_lt_succ, Bool.false_eq_true, reduceIte, reduceCtorEq, sub_q0, sub_q1, mul_of e1, mul_of e3, r_lowest e]
  · cases e
end Alb.Rn
set_option Elab.async false
set_option linter.all false
set_option maxRecDepth 100000
set_option maxHeartbeats 4000000
/-! What the defs answer: checks, loops, ways, chances. -/
namespace Alb.Rn
open PySem Alb

/-! ### folds -/
def foldO {α σ : Type} (g : α → σ → Option σ) : List α → σ → Option σ
  | [], s => some s
  | x :: xs, s => match g x s with
    | some s1 => foldO g xs s1
    | none => none
def intsFrom (lo : Int) : Nat → List Int
  | 0 => []
  | n + 1 => lo :: intsFrom (lo + 1) n
theorem rangeD_map : ∀ (lo : Int) (n : Nat), rangeD lo n = (intsFrom lo n).map D.int
  | _, 0 => rfl
  | lo, n + 1 => by simp [rangeD, intsFrom, rangeD_map (lo + 1) n]
def enumI {α : Type} (n : Nat) : List α → List (Int × α)
  | [] => []
  | x :: xs => ((n : Int), x) :: enumI (n + 1) xs
theorem enumD_map {α : Type} (enc : α → D) : ∀ (n : Nat) (xs : List α), enumD n (xs.map enc) = (enumI n xs).map fun p => .tup [.int p.1, enc p.2]
  | _, [] => rfl
  | n, x :: xs => by simp [enumD, enumI, enumD_map enc (n + 1) xs]
section
variable {α σ ν : Type} {cl : Cl} {t : Tg} {b : Ss}
/-- a for without return: the state goes as the fold says -/
theorem for_map (enc : α → D) (mk : ν → σ → Env) (hh : σ → Hh) (g : α → σ → Option σ) {f : D → Env → Hh → SR}
    (hf : ∀ x v s s', g x s = some s' → ∃ v', f (enc x) (mk v s) (hh s) = .nx (mk v' s') (hh s')) : ∀ (xs : List α) (v : ν) (s s' : σ), foldO g xs s = some s' → ∃ v', forGo f (xs.map enc) (mk v s) (hh s) = .nx (mk v' s') (hh s')
  | [], v, s, s', e => by
    cases e
    exact ⟨v, rfl⟩
  | x :: xs, v, s, s', e => by
    simp only [foldO] at e
    split at e
    · rename_i s1 e1
      obtain ⟨v1, h1⟩ := hf x v s s1 e1
      obtain ⟨v2, h2⟩ := for_map enc mk hh g hf xs v1 s1 s' e
      refine ⟨v2, ?_⟩
      simp only [List.map_cons, forGo, h1, h2]
    · cases e
theorem fork_map (enc : α → D) (mk : ν → σ → Env) (hh : σ → Hh) (g : α → σ → Option σ)
    (hf : ∀ x v s s', g x s = some s' → ∃ v', forF cl t b (enc x) (mk v s) (hh s) = .nx (mk v' s') (hh s')) {xs : List α} {v : ν} {s s' : σ} (e : foldO g xs s = some s') : ∃ v', forK cl t b (mk v s) (some (xs.map enc, [])) (hh s) = .nx (mk v' s') (hh s') := by
  obtain ⟨v', h⟩ := for_map enc mk hh g hf xs v s s' e
  refine ⟨v', ?_⟩
  simp only [forK, lockH, unlockH, h]
end
/-! ### checks -/
def plainV : D → Bool
  | .non => true
  | .bl _ => true
  | .int _ => true
  | .str _ => true
  | .tup xs => pureL xs
  | _ => false
theorem plain_pure {d : D} (h : plainV d = true) : d.pure = true := by
  cases d <;> simp_all [plainV, D.pure]
def isIntM (v : D) (lo hi : Int) : Bool := match v with
  | .int i => decide (lo ≤ i) && decide (i ≤ hi)
  | _ => false
theorem r_isint {m : Nat} {h : Hh} {v : D} {lo hi : Int} (hv : plainV v = true) : (clOf TT (m + 1)).f 0 [v, .int lo, .int hi] h = .ok (.bl (isIntM v lo hi)) h := by
  refine call_val (fd := b_is_integer) (h' := ⟨0, []⟩) rfl rfl (by simp [pureL, plain_pure hv, D.pure]) rfl rfl ?_
  show exs (clOf TT m) b_is_integer.body [some v, some (.int lo), some (.int hi)] ⟨0, []⟩ = _
  unfold b_is_integer
  cases v with
  | int i =>
    by_cases h1 : lo ≤ i
    · by_cases h2 : i ≤ hi
      · simp only [s_nil, s_cons, s_asg, s_unp, s_par, s_sto, s_aug, s_aus, s_exp, s_ret, s_ife, s_for, s_whi, s_rai, s_tryw, e_cst, e_var, e_fnv, e_glb, e_bin, e_neg, e_cmp, e_chn, e_and, e_or, e_not, e_ite, e_cal, e_cax, e_blt, e_isi, e_mth, e_tup, e_lst, e_sub, e_slc, e_lc, es_nil, es_cons, ea_nil, ea_cons, eo_nil, eo_cons, eb_none, eb_some, ec_none, ec_some, b_ok, b_ex, t_ok, t_ex, st_nx, st_rt, st_ex, o_some, v_some, o_add, o_sub, o_mul, o_fdiv, o_mod, o_pow, c_lt, c_le, c_gt, c_ge, l_max, l_min, asgL, asgT, List.length_cons, List.length_nil, List.length_set, List.getElem?_cons_zero, List.getElem?_cons_succ, List.set_cons_zero, List.set_cons_succ, Option.map_some, if_true, if_false, decide_true, decide_false, Bool.not_true, Bool.not_false, Nat.zero_add, Nat.reduceAdd, Nat.reduceLT, Nat.zero_lt_succ, Bool.false_eq_true, reduceIte, reduceCtorEq, isiD, h1, h2]
        simp [isIntM, h1, h2]
      · simp only [s_nil, s_cons, s_asg, s_unp, s_par, s_sto, s_aug, s_aus, s_exp, s_ret, s_ife, s_for, s_whi, s_rai, s_tryw, e_cst, e_var, e_fnv, e_glb, e_bin, e_neg, e_cmp, e_chn, e_and, e_or, e_not, e_ite, e_cal, e_cax, e_blt, e_isi, e_mth, e_tup, e_lst, e_sub, e_slc, e_lc, es_nil, es_cons, ea_nil, ea_cons, eo_nil, eo_cons, eb_none, eb_some, ec_none, ec_some, b_ok, b_ex, t_ok, t_ex, st_nx, st_rt, st_ex, o_some, v_some, o_add, o_sub, o_mul, o_fdiv, o_mod, o_pow, c_lt, c_le, c_gt, c_ge, l_max, l_min, asgL, asgT, List.length_cons, List.length_nil, List.length_set, List.getElem?_cons_zero, List.getElem?_cons_succ, List.set_cons_zero, List.set_cons_succ, Option.map_some, if_true, if_false, decide_true, decide_false, Bool.not_true, Bool.not_false, Nat.zero_add, Nat.reduceAdd, Nat.reduceLT, Nat.zero_lt_succ, Bool.false_eq_true, reduceIte, reduceCtorEq, isiD, h1, h2]
        simp [isIntM, h1, h2]
    · simp only [s_nil, s_cons, s_asg, s_unp, s_par, s_sto, s_aug, s_aus, s_exp, s_ret, s_ife, s_for, s_whi, s_rai, s_tryw, e_cst, e_var, e_fnv, e_glb, e_bin, e_neg, e_cmp, e_chn, e_and, e_or, e_not, e_ite, e_cal, e_cax, e_blt, e_isi, e_mth, e_tup, e_lst, e_sub, e_slc, e_lc, es_nil, es_cons, ea_nil, ea_cons, eo_nil, eo_cons, eb_none, eb_some, ec_none, ec_some, b_ok, b_ex, t_ok, t_ex, st_nx, st_rt, st_ex, o_some, v_some, o_add, o_sub, o_mul, o_fdiv, o_mod, o_pow, c_lt, c_le, c_gt, c_ge, l_max, l_min, asgL, asgT, List.length_cons, List.length_nil, List.length_set, List.getElem?_cons_zero, List.getElem?_cons_succ, List.set_cons_zero, List.set_cons_succ, Option.map_some, if_true, if_false, decide_true, decide_false, Bool.not_true, Bool.not_false, Nat.zero_add, Nat.reduceAdd, Nat.reduceLT, Nat.zero_lt_succ, Bool.false_eq_true, reduceIte, reduceCtorEq, isiD, h1]
      simp [isIntM, h1]
  | non => simp only [s_nil, s_cons, s_asg, s_unp, s_par, s_sto, s_aug, s_aus, s_exp, s_ret, s_ife, s_for, s_whi, s_rai, s_tryw, e_cst, e_var, e_fnv, e_glb, e_bin, e_neg, e_cmp, e_chn, e_and, e_or, e_not, e_ite, e_cal, e_cax, e_blt, e_isi, e_mth, e_tup, e_lst, e_sub, e_slc, e_lc, es_nil, es_cons, ea_nil, ea_cons, eo_nil, eo_cons, eb_none, eb_some, ec_none, ec_some, b_ok, b_ex, t_ok, t_ex, st_nx, st_rt, st_ex, o_some, v_some, o_add, o_sub, o_mul, o_fdiv, o_mod, o_pow, c_lt, c_le, c_gt, c_ge, l_max, l_min, asgL, asgT, List.length_cons, List.length_nil, List.length_set, List.getElem?_cons_zero, List.getElem?_cons_succ, List.set_cons_zero, List.set_cons_succ, Option.map_some, if_true, if_false, decide_true, decide_false, Bool.not_true, Bool.not_false, Nat.zero_add, Nat.reduceAdd, Nat.reduceLT, Nat.zero_lt_succ, Bool.false_eq_true, reduceIte, reduceCtorEq, isiD]; rfl
  | bl b => simp only [s_nil, s_cons, s_asg, s_unp, s_par, s_sto, s_aug, s_aus, s_exp, s_ret, s_ife, s_for, s_whi, s_rai, s_tryw, e_cst, e_var, e_fnv, e_glb, e_bin, e_neg, e_cmp, e_chn, e_and, e_or, e_not, e_ite, e_cal, e_cax, e_blt, e_isi, e_mth, e_tup, e_lst, e_sub, e_slc, e_lc, es_nil, es_cons, ea_nil, ea_cons, eo_nil, eo_cons, eb_none, eb_some, ec_none, ec_some, b_ok, b_ex, t_ok, t_ex, st_nx, st_rt, st_ex, o_some, v_some, o_add, o_sub, o_mul, o_fdiv, o_mod, o_pow, c_lt, c_le, c_gt, c_ge, l_max, l_min, asgL, asgT, List.length_cons, List.length_nil, List.length_set, List.getElem?_cons_zero, List.getElem?_cons_succ, List.set_cons_zero, List.set_cons_succ, Option.map_some, if_true, if_false, decide_true, decide_false, Bool.not_true, Bool.not_false, Nat.zero_add, Nat.reduceAdd, Nat.reduceLT, Nat.zero_lt_succ, Bool.false_eq_true, reduceIte, reduceCtorEq, isiD]; rfl
  | str x => simp only [s_nil, s_cons, s_asg, s_unp, s_par, s_sto, s_aug, s_aus, s_exp, s_ret, s_ife, s_for, s_whi, s_rai, s_tryw, e_cst, e_var, e_fnv, e_glb, e_bin, e_neg, e_cmp, e_chn, e_and, e_or, e_not, e_ite, e_cal, e_cax, e_blt, e_isi, e_mth, e_tup, e_lst, e_sub, e_slc, e_lc, es_nil, es_cons, ea_nil, ea_cons, eo_nil, eo_cons, eb_none, eb_some, ec_none, ec_some, b_ok, b_ex, t_ok, t_ex, st_nx, st_rt, st_ex, o_some, v_some, o_add, o_sub, o_mul, o_fdiv, o_mod, o_pow, c_lt, c_le, c_gt, c_ge, l_max, l_min, asgL, asgT, List.length_cons, List.length_nil, List.length_set, List.getElem?_cons_zero, List.getElem?_cons_succ, List.set_cons_zero, List.set_cons_succ, Option.map_some, if_true, if_false, decide_true, decide_false, Bool.not_true, Bool.not_false, Nat.zero_add, Nat.reduceAdd, Nat.reduceLT, Nat.zero_lt_succ, Bool.false_eq_true, reduceIte, reduceCtorEq, isiD]; rfl
  | tup xs => simp only [s_nil, s_cons, s_asg, s_unp, s_par, s_sto, s_aug, s_aus, s_exp, s_ret, s_ife, s_for, s_whi, s_rai, s_tryw, e_cst, e_var, e_fnv, e_glb, e_bin, e_neg, e_cmp, e_chn, e_and, e_or, e_not, e_ite, e_cal, e_cax, e_blt, e_isi, e_mth, e_tup, e_lst, e_sub, e_slc, e_lc, es_nil, es_cons, ea_nil, ea_cons, eo_nil, eo_cons, eb_none, eb_some, ec_none, ec_some, b_ok, b_ex, t_ok, t_ex, st_nx, st_rt, st_ex, o_some, v_some, o_add, o_sub, o_mul, o_fdiv, o_mod, o_pow, c_lt, c_le, c_gt, c_ge, l_max, l_min, asgL, asgT, List.length_cons, List.length_nil, List.length_set, List.getElem?_cons_zero, List.getElem?_cons_succ, List.set_cons_zero, List.set_cons_succ, Option.map_some, if_true, if_false, decide_true, decide_false, Bool.not_true, Bool.not_false, Nat.zero_add, Nat.reduceAdd, Nat.reduceLT, Nat.zero_lt_succ, Bool.false_eq_true, reduceIte, reduceCtorEq, isiD]; rfl
  | _ => simp [plainV] at hv
theorem r_album {m : Nat} {h : Hh} {v : D} (hv : plainV v = true) : (clOf TT (m + 2)).f 4 [v] h = if isIntM v 1 8 then .ok .non h else .ex 0 h := by
  by_cases e : isIntM v 1 8 = true
  · rw [if_pos e]
    refine call_non (fd := b_check_album) (r := [some v]) (h' := ⟨0, []⟩) rfl rfl (by simp [pureL, plain_pure hv]) rfl ?_
    show exs (clOf TT (m + 1)) b_check_album.body [some v] ⟨0, []⟩ = _
    unfold b_check_album
    simp only [s_nil, s_cons, s_asg, s_unp, s_par, s_sto, s_aug, s_aus, s_exp, s_ret, s_ife, s_for, s_whi, s_rai, s_tryw, e_cst, e_var, e_fnv, e_glb, e_bin, e_neg, e_cmp, e_chn, e_and, e_or, e_not, e_ite, e_cal, e_cax, e_blt, e_isi, e_mth, e_tup, e_lst, e_sub, e_slc, e_lc, es_nil, es_cons, ea_nil, ea_cons, eo_nil, eo_cons, eb_none, eb_some, ec_none, ec_some, b_ok, b_ex, t_ok, t_ex, st_nx, st_rt, st_ex, o_some, v_some, o_add, o_sub, o_mul, o_fdiv, o_mod, o_pow, c_lt, c_le, c_gt, c_ge, l_max, l_min, asgL, asgT, List.length_cons, List.length_nil, List.length_set, List.getElem?_cons_zero, List.getElem?_cons_succ, List.set_cons_zero, List.set_cons_succ, Option.map_some, if_true, if_false, decide_true, decide_false, Bool.not_true, Bool.not_false, Nat.zero_add, Nat.reduceAdd, Nat.reduceLT, Nat.zero_lt_succ, Bool.false_eq_true, reduceIte, reduceCtorEq, r_isint hv, e]
  · rw [if_neg e]
    refine call_exc (fd := b_check_album) (h' := ⟨0, []⟩) rfl rfl (by simp [pureL, plain_pure hv]) rfl ?_
    show exs (clOf TT (m + 1)) b_check_album.body [some v] ⟨0, []⟩ = _
    unfold b_check_album
    simp only [s_nil, s_cons, s_asg, s_unp, s_par, s_sto, s_aug, s_aus, s_exp, s_ret, s_ife, s_for, s_whi, s_rai, s_tryw, e_cst, e_var, e_fnv, e_glb, e_bin, e_neg, e_cmp, e_chn, e_and, e_or, e_not, e_ite, e_cal, e_cax, e_blt, e_isi, e_mth, e_tup, e_lst, e_sub, e_slc, e_lc, es_nil, es_cons, ea_nil, ea_cons, eo_nil, eo_cons, eb_none, eb_some, ec_none, ec_some, b_ok, b_ex, t_ok, t_ex, st_nx, st_rt, st_ex, o_some, v_some, o_add, o_sub, o_mul, o_fdiv, o_mod, o_pow, c_lt, c_le, c_gt, c_ge, l_max, l_min, asgL, asgT, List.length_cons, List.length_nil, List.length_set, List.getElem?_cons_zero, List.getElem?_cons_succ, List.set_cons_zero, List.set_cons_succ, Option.map_some, if_true, if_false, decide_true, decide_false, Bool.not_true, Bool.not_false, Nat.zero_add, Nat.reduceAdd, Nat.reduceLT, Nat.zero_lt_succ, Bool.false_eq_true, reduceIte, reduceCtorEq, r_isint hv, e]
theorem r_number {m : Nat} {h : Hh} {v : D} {k : Int} (hv : plainV v = true) : (clOf TT (m + 2)).f 6 [v, .int k] h = if isIntM v 0 k then .ok .non h else .ex 2 h := by
  by_cases e : isIntM v 0 k = true
  · rw [if_pos e]
    refine call_non (fd := b_check_number) (r := [some v, some (.int k)]) (h' := ⟨0, []⟩) rfl rfl (by simp [pureL, plain_pure hv, D.pure]) rfl ?_
    show exs (clOf TT (m + 1)) b_check_number.body [some v, some (.int k)] ⟨0, []⟩ = _
    unfold b_check_number
    simp only [s_nil, s_cons, s_asg, s_unp, s_par, s_sto, s_aug, s_aus, s_exp, s_ret, s_ife, s_for, s_whi, s_rai, s_tryw, e_cst, e_var, e_fnv, e_glb, e_bin, e_neg, e_cmp, e_chn, e_and, e_or, e_not, e_ite, e_cal, e_cax, e_blt, e_isi, e_mth, e_tup, e_lst, e_sub, e_slc, e_lc, es_nil, es_cons, ea_nil, ea_cons, eo_nil, eo_cons, eb_none, eb_some, ec_none, ec_some, b_ok, b_ex, t_ok, t_ex, st_nx, st_rt, st_ex, o_some, v_some, o_add, o_sub, o_mul, o_fdiv, o_mod, o_pow, c_lt, c_le, c_gt, c_ge, l_max, l_min, asgL, asgT, List.length_cons, List.length_nil, List.length_set, List.getElem?_cons_zero, List.getElem?_cons_succ, List.set_cons_zero, List.set_cons_succ, Option.map_some, if_true, if_false, decide_true, decide_false, Bool.not_true, Bool.not_false, Nat.zero_add, Nat.reduceAdd, Nat.reduceLT, Nat.zero_lt_succ, Bool.false_eq_true, reduceIte, reduceCtorEq, r_isint hv, e]
  · rw [if_neg e]
    refine call_exc (fd := b_check_number) (h' := ⟨0, []⟩) rfl rfl (by simp [pureL, plain_pure hv, D.pure]) rfl ?_
    show exs (clOf TT (m + 1)) b_check_number.body [some v, some (.int k)] ⟨0, []⟩ = _
    unfold b_check_number
    simp only [s_nil, s_cons, s_asg, s_unp, s_par, s_sto, s_aug, s_aus, s_exp, s_ret, s_ife, s_for, s_whi, s_rai, s_tryw, e_cst, e_var, e_fnv, e_glb, e_bin, e_neg, e_cmp, e_chn, e_and, e_or, e_not, e_ite, e_cal, e_cax, e_blt, e_isi, e_mth, e_tup, e_lst, e_sub, e_slc, e_lc, es_nil, es_cons, ea_nil, ea_cons, eo_nil, eo_cons, eb_none, eb_some, ec_none, ec_some, b_ok, b_ex, t_ok, t_ex, st_nx, st_rt, st_ex, o_some, v_some, o_add, o_sub, o_mul, o_fdiv, o_mod, o_pow, c_lt, c_le, c_gt, c_ge, l_max, l_min, asgL, asgT, List.length_cons, List.length_nil, List.length_set, List.getElem?_cons_zero, List.getElem?_cons_succ, List.set_cons_zero, List.set_cons_succ, Option.map_some, if_true, if_false, decide_true, decide_false, Bool.not_true, Bool.not_false, Nat.zero_add, Nat.reduceAdd, Nat.reduceLT, Nat.zero_lt_succ, Bool.false_eq_true, reduceIte, reduceCtorEq, r_isint hv, e]
def sizeM (n s : D) : Option Nat := if isIntM n 1 8 then (match n with
  | .int k => if isIntM s 1 k then none else some 1
  | _ => some 0) else some 0
theorem r_size {m : Nat} {h : Hh} {n s : D} (hn : plainV n = true) (hs : plainV s = true) : (clOf TT (m + 3)).f 5 [n, s] h = (match sizeM n s with
    | none => .ok .non h
    | some c => .ex c h) := by
  have hp : pureL [n, s] = true := by simp [pureL, plain_pure hn, plain_pure hs]
  unfold sizeM
  by_cases e : isIntM n 1 8 = true
  · rw [if_pos e]
    cases n with
    | int k =>
      by_cases e2 : isIntM s 1 k = true
      · simp only [e2, if_true]
        refine call_non (fd := b_check_size) (r := [some (.int k), some s]) (h' := ⟨0, []⟩) rfl rfl hp rfl ?_
        show exs (clOf TT (m + 2)) b_check_size.body [some (.int k), some s] ⟨0, []⟩ = _
        unfold b_check_size
        simp only [s_nil, s_cons, s_asg, s_unp, s_par, s_sto, s_aug, s_aus, s_exp, s_ret, s_ife, s_for, s_whi, s_rai, s_tryw, e_cst, e_var, e_fnv, e_glb, e_bin, e_neg, e_cmp, e_chn, e_and, e_or, e_not, e_ite, e_cal, e_cax, e_blt, e_isi, e_mth, e_tup, e_lst, e_sub, e_slc, e_lc, es_nil, es_cons, ea_nil, ea_cons, eo_nil, eo_cons, eb_none, eb_some, ec_none, ec_some, b_ok, b_ex, t_ok, t_ex, st_nx, st_rt, st_ex, o_some, v_some, o_add, o_sub, o_mul, o_fdiv, o_mod, o_pow, c_lt, c_le, c_gt, c_ge, l_max, l_min, asgL, asgT, List.length_cons, List.length_nil, List.length_set, List.getElem?_cons_zero, List.getElem?_cons_succ, List.set_cons_zero, List.set_cons_succ, Option.map_some, if_true, if_false, decide_true, decide_false, Bool.not_true, Bool.not_false, Nat.zero_add, Nat.reduceAdd, Nat.reduceLT, Nat.zero_lt_succ, Bool.false_eq_true, reduceIte, reduceCtorEq, r_album hn, r_isint hs, e, e2]
      · simp only [e2]
        refine call_exc (fd := b_check_size) (h' := ⟨0, []⟩) rfl rfl hp rfl ?_
        show exs (clOf TT (m + 2)) b_check_size.body [some (.int k), some s] ⟨0, []⟩ = _
        unfold b_check_size
        simp only [s_nil, s_cons, s_asg, s_unp, s_par, s_sto, s_aug, s_aus, s_exp, s_ret, s_ife, s_for, s_whi, s_rai, s_tryw, e_cst, e_var, e_fnv, e_glb, e_bin, e_neg, e_cmp, e_chn, e_and, e_or, e_not, e_ite, e_cal, e_cax, e_blt, e_isi, e_mth, e_tup, e_lst, e_sub, e_slc, e_lc, es_nil, es_cons, ea_nil, ea_cons, eo_nil, eo_cons, eb_none, eb_some, ec_none, ec_some, b_ok, b_ex, t_ok, t_ex, st_nx, st_rt, st_ex, o_some, v_some, o_add, o_sub, o_mul, o_fdiv, o_mod, o_pow, c_lt, c_le, c_gt, c_ge, l_max, l_min, asgL, asgT, List.length_cons, List.length_nil, List.length_set, List.getElem?_cons_zero, List.getElem?_cons_succ, List.set_cons_zero, List.set_cons_succ, Option.map_some, if_true, if_false, decide_true, decide_false, Bool.not_true, Bool.not_false, Nat.zero_add, Nat.reduceAdd, Nat.reduceLT, Nat.zero_lt_succ, Bool.false_eq_true, reduceIte, reduceCtorEq, r_album hn, r_isint hs, e, e2]
    | _ => simp [isIntM] at e
  · rw [if_neg e]
    refine call_exc (fd := b_check_size) (h' := ⟨0, []⟩) rfl rfl hp rfl ?_
    show exs (clOf TT (m + 2)) b_check_size.body [some n, some s] ⟨0, []⟩ = _
    unfold b_check_size
    simp only [s_nil, s_cons, s_asg, s_unp, s_par, s_sto, s_aug, s_aus, s_exp, s_ret, s_ife, s_for, s_whi, s_rai, s_tryw, e_cst, e_var, e_fnv, e_glb, e_bin, e_neg, e_cmp, e_chn, e_and, e_or, e_not, e_ite, e_cal, e_cax, e_blt, e_isi, e_mth, e_tup, e_lst, e_sub, e_slc, e_lc, es_nil, es_cons, ea_nil, ea_cons, eo_nil, eo_cons, eb_none, eb_some, ec_none, ec_some, b_ok, b_ex, t_ok, t_ex, st_nx, st_rt, st_ex, o_some, v_some, o_add, o_sub, o_mul, o_fdiv, o_mod, o_pow, c_lt, c_le, c_gt, c_ge, l_max, l_min, asgL, asgT, List.length_cons, List.length_nil, List.length_set, List.getElem?_cons_zero, List.getElem?_cons_succ, List.set_cons_zero, List.set_cons_succ, Option.map_some, if_true, if_false, decide_true, decide_false, Bool.not_true, Bool.not_false, Nat.zero_add, Nat.reduceAdd, Nat.reduceLT, Nat.zero_lt_succ, Bool.false_eq_true, reduceIte, reduceCtorEq, r_album hn, e]
/-! ### ways -/
def wayG (many i r : Int) : Option Int := match mulM r (many - i) with
  | some x => if divOk (i + 1) then some (x / (i + 1)) else none
  | none => none
def waysM (many k : Int) : Option Int := if k < 0 ∨ k > many then some 0 else if rOk k then foldO (wayG many) (intsFrom 0 k.toNat) 1 else none
theorem iter_r1 {n : Int} {h : Hh} (hr : rOk n = true) : iterD .r1 [.int n] h = some ((intsFrom 0 n.toNat).map D.int, []) := by
  simp only [iterD, hr, if_true, rangeD_map]
theorem iter_r2 {a b : Int} {h : Hh} (ha : rOk a = true) (hb : rOk b = true) : iterD .r2 [.int a, .int b] h = some ((intsFrom a (b - a).toNat).map D.int, []) := by
  simp only [iterD, ha, hb, Bool.and_self, if_true, rangeD_map]
theorem r_ways {m : Nat} {h : Hh} {many k w : Int} (e : waysM many k = some w) : (clOf TT (m + 1)).f 3 [.int many, .int k] h = .ok (.int w) h := by
  refine call_val (fd := b_ways) (h' := ⟨0, []⟩) rfl rfl rfl rfl rfl ?_
  show exs (clOf TT m) b_ways.body [some (.int many), some (.int k), none, none] ⟨0, []⟩ = _
  unfold b_ways
  unfold waysM at e
  by_cases h1 : k < 0
  · rw [if_pos (.inl h1)] at e
    cases e
    simp only [s_nil, s_cons, s_asg, s_unp, s_par, s_sto, s_aug, s_aus, s_exp, s_ret, s_ife, s_for, s_whi, s_rai, s_tryw, e_cst, e_var, e_fnv, e_glb, e_bin, e_neg, e_cmp, e_chn, e_and, e_or, e_not, e_ite, e_cal, e_cax, e_blt, e_isi, e_mth, e_tup, e_lst, e_sub, e_slc, e_lc, es_nil, es_cons, ea_nil, ea_cons, eo_nil, eo_cons, eb_none, eb_some, ec_none, ec_some, b_ok, b_ex, t_ok, t_ex, st_nx, st_rt, st_ex, o_some, v_some, o_add, o_sub, o_mul, o_fdiv, o_mod, o_pow, c_lt, c_le, c_gt, c_ge, l_max, l_min, asgL, asgT, List.length_cons, List.length_nil, List.length_set, List.getElem?_cons_zero, List.getElem?_cons_succ, List.set_cons_zero, List.set_cons_succ, Option.map_some, if_true, if_false, decide_true, decide_false, Bool.not_true, Bool.not_false, Nat.zero_add, Nat.reduceAdd, Nat.reduceLT, Nat.zero_lt_succ, Bool.false_eq_true, reduceIte, reduceCtorEq, h1]
  · by_cases h2 : many < k
    · rw [if_pos (.inr h2)] at e
      cases e
      simp only [s_nil, s_cons, s_asg, s_unp, s_par, s_sto, s_aug, s_aus, s_exp, s_ret, s_ife, s_for, s_whi, s_rai, s_tryw, e_cst, e_var, e_fnv, e_glb, e_bin, e_neg, e_cmp, e_chn, e_and, e_or, e_not, e_ite, e_cal, e_cax, e_blt, e_isi, e_mth, e_tup, e_lst, e_sub, e_slc, e_lc, es_nil, es_cons, ea_nil, ea_cons, eo_nil, eo_cons, eb_none, eb_some, ec_none, ec_some, b_ok, b_ex, t_ok, t_ex, st_nx, st_rt, st_ex, o_some, v_some, o_add, o_sub, o_mul, o_fdiv, o_mod, o_pow, c_lt, c_le, c_gt, c_ge, l_max, l_min, asgL, asgT, List.length_cons, List.length_nil, List.length_set, List.getElem?_cons_zero, List.getElem?_cons_succ, List.set_cons_zero, List.set_cons_succ, Option.map_some, if_true, if_false, decide_true, decide_false, Bool.not_true, Bool.not_false, Nat.zero_add, Nat.reduceAdd, Nat.reduceLT, Nat.zero_lt_succ, Bool.false_eq_true, reduceIte, reduceCtorEq, h1, h2]
    · rw [if_neg (by omega)] at e
      split at e
      · rename_i hr
        obtain ⟨v', hl⟩ := fork_map (cl := clOf TT m) (t := .nm 3) (b := .cons (.asg 2 (.bin .fdiv (.bin .mul (.var 2) (.bin .sub (.var 0) (.var 3))) (.bin .add (.var 3) (.cst (.int 1))))) .nil) D.int
          (fun (v : Option D) (s : Int) => [some (.int many), some (.int k), some (.int s), v]) (fun _ => ⟨0, []⟩) (wayG many) (fun i v s s' hg => by
            unfold wayG at hg
            split at hg
            · rename_i x hx
              split at hg
              · rename_i hd
                cases hg
                exact ⟨some (.int i), by simp only [s_nil, s_cons, s_asg, s_unp, s_par, s_sto, s_aug, s_aus, s_exp, s_ret, s_ife, s_for, s_whi, s_rai, s_tryw, e_cst, e_var, e_fnv, e_glb, e_bin, e_neg, e_cmp, e_chn, e_and, e_or, e_not, e_ite, e_cal, e_cax, e_blt, e_isi, e_mth, e_tup, e_lst, e_sub, e_slc, e_lc, es_nil, es_cons, ea_nil, ea_cons, eo_nil, eo_cons, eb_none, eb_some, ec_none, ec_some, b_ok, b_ex, t_ok, t_ex, st_nx, st_rt, st_ex, o_some, v_some, o_add, o_sub, o_mul, o_fdiv, o_mod, o_pow, c_lt, c_le, c_gt, c_ge, l_max, l_min, asgL, asgT, List.length_cons, List.length_nil, List.length_set, List.getElem?_cons_zero, List.getElem?_cons_succ, List.set_cons_zero, List.set_cons_succ, Option.map_some, if_true, if_false, decide_true, decide_false, Bool.not_true, Bool.not_false, Nat.zero_add, Nat.reduceAdd, Nat.reduceLT, Nat.zero_lt_succ, Bool.false_eq_true, reduceIte, reduceCtorEq, forF, mul_of hx, hd]⟩
              · cases hg
            · cases hg) (v := none) e
        simp only [s_nil, s_cons, s_asg, s_unp, s_par, s_sto, s_aug, s_aus, s_exp, s_ret, s_ife, s_for, s_whi, s_rai, s_tryw, e_cst, e_var, e_fnv, e_glb, e_bin, e_neg, e_cmp, e_chn, e_and, e_or, e_not, e_ite, e_cal, e_cax, e_blt, e_isi, e_mth, e_tup, e_lst, e_sub, e_slc, e_lc, es_nil, es_cons, ea_nil, ea_cons, eo_nil, eo_cons, eb_none, eb_some, ec_none, ec_some, b_ok, b_ex, t_ok, t_ex, st_nx, st_rt, st_ex, o_some, v_some, o_add, o_sub, o_mul, o_fdiv, o_mod, o_pow, c_lt, c_le, c_gt, c_ge, l_max, l_min, asgL, asgT, List.length_cons, List.length_nil, List.length_set, List.getElem?_cons_zero, List.getElem?_cons_succ, List.set_cons_zero, List.set_cons_succ, Option.map_some, if_true, if_false, decide_true, decide_false, Bool.not_true, Bool.not_false, Nat.zero_add, Nat.reduceAdd, Nat.reduceLT, Nat.zero_lt_succ, Bool.false_eq_true, reduceIte, reduceCtorEq, h1, h2, iter_r1 hr, hl]
      · cases e
/-! ### chances in a pack -/
def freshM (n s had f : Int) : Option Q := match waysM (n - had) f, waysM had (s - f), waysM n s with
  | some x, some y, some z => (match mulM x y with
    | some g => lowM g z
    | none => none)
  | _, _, _ => none
theorem r_fresh {m : Nat} {h : Hh} {n s had f : Int} {q : Q} (e : freshM n s had f = some q) : (clOf TT (m + 3)).f 7 [.int n, .int s, .int had, .int f] h = .ok (qd q) h := by
  unfold freshM at e
  split at e
  · rename_i x y z e1 e2 e3
    split at e
    · rename_i g e4
      refine call_val (fd := b_fresh_chance) (h' := ⟨0, []⟩) rfl rfl rfl rfl rfl ?_
      show exs (clOf TT (m + 2)) b_fresh_chance.body [some (.int n), some (.int s), some (.int had), some (.int f), none] ⟨0, []⟩ = _
      unfold b_fresh_chance
      simp only [s_nil, s_cons, s_asg, s_unp, s_par, s_sto, s_aug, s_aus, s_exp, s_ret, s_ife, s_for, s_whi, s_rai, s_tryw, e_cst, e_var, e_fnv, e_glb, e_bin, e_neg, e_cmp, e_chn, e_and, e_or, e_not, e_ite, e_cal, e_cax, e_blt, e_isi, e_mth, e_tup, e_lst, e_sub, e_slc, e_lc, es_nil, es_cons, ea_nil, ea_cons, eo_nil, eo_cons, eb_none, eb_some, ec_none, ec_some, b_ok, b_ex, t_ok, t_ex, st_nx, st_rt, st_ex, o_some, v_some, o_add, o_sub, o_mul, o_fdiv, o_mod, o_pow, c_lt, c_le, c_gt, c_ge, l_max, l_min, asgL, asgT, List.length_cons, List.length_nil, List.length_set, List.getElem?_cons_zero, List.getElem?_cons_succ, List.set_cons_zero, List.set_cons_succ, Option.map_some, if_true, if_false, decide_true, decide_false, Bool.not_true, Bool.not_false, Nat.zero_add, Nat.reduceAdd, Nat.reduceLT, Nat.zero_lt_succ, Bool.false_eq_true, reduceIte, reduceCtorEq, r_ways e1, r_ways e2, r_ways e3, mul_of e4, r_lowest e]
    · cases e
  · cases e
end Alb.Rn
set_option Elab.async false
set_option linter.all false
set_option maxRecDepth 100000
set_option maxHeartbeats 4000000
/-! What the defs answer: spreads and means. -/
namespace Alb.Rn
open PySem Alb

theorem c_eqI {i j : Int} {h : Hh} : cmpD .eq (.int i) (.int j) h = some (i == j) := rfl
theorem g_most {m : Nat} : (clOf TT m).g 0 = some (.int 30) := by cases m <;> rfl
/-! ### comprehensions -/
def compM {α β : Type} (g : α → Option (Option β)) : List α → Option (List β)
  | [] => some []
  | x :: xs => match g x, compM g xs with
    | some (some y), some ys => some (y :: ys)
    | some none, some ys => some ys
    | _, _ => none
section
variable {α β : Type}
theorem comp_go (enc : α → D) (dec : β → D) (g : α → Option (Option β)) {f : D → Hh → R (Option D)} {h : Hh} (hf : ∀ x y, g x = some y → f (enc x) h = .ok (y.map dec) h) :
    ∀ (xs : List α) (ys : List β) (acc : List D), compM g xs = some ys → acc.length + xs.length ≤ lim → compGo f (xs.map enc) acc h = .ok (acc ++ ys.map dec) h
  | [], ys, acc, e, hl => by
    cases e
    simp [compGo]
  | x :: xs, ys, acc, e, hl => by
    simp only [compM] at e
    simp only [List.length_cons] at hl
    split at e
    · rename_i y zs e1 e2
      cases e
      have := hf x _ e1
      simp only [List.map_cons, compGo, this, Option.map_some]
      rw [if_pos (by omega), comp_go enc dec g hf xs zs (acc ++ [dec y]) e2 (by simp; omega)]
      simp
    · rename_i zs e1 e2
      cases e
      have := hf x _ e1
      simp only [List.map_cons, compGo, this, Option.map_none]
      rw [comp_go enc dec g hf xs _ acc e2 (by omega)]
    · cases e
theorem lck_map {cl : Cl} {own : List Nat} {t : Tg} {c : Oe} {e : E} {r : Env} {h : Hh} (enc : α → D) (dec : β → D) (g : α → Option (Option β)) (hf : ∀ x y, g x = some y → lcF cl own t c e r (enc x) h = .ok (y.map dec) h) {xs : List α} {ys : List β}
    (q : compM g xs = some ys) (hl : xs.length ≤ lim) : lcK cl own t c e r (some (xs.map enc, [])) h = .ok (.loc h.nx) (h.new (.lst (ys.map dec))) := by
  simp only [lcK, lockH, unlockH, comp_go enc dec g hf xs ys [] q (by simpa using hl), b_ok, List.nil_append]
theorem intsFrom_length : ∀ (lo : Int) (n : Nat), (intsFrom lo n).length = n
  | _, 0 => rfl
  | lo, n + 1 => by simp [intsFrom, intsFrom_length (lo + 1) n]
theorem enumI_length : ∀ (n : Nat) (xs : List α), (enumI n xs).length = xs.length
  | _, [] => rfl
  | n, x :: xs => by simp [enumI, enumI_length (n + 1) xs]
end
/-! ### one pack more -/
def stepG (n s had : Int) (ch : Q) (f : Int) (l : List Q) : Option (List Q) := match freshM n s had f with
  | some c => (match timesM ch c with
    | some more => (match ixN l.length (had + f) with
      | some j => (match l[j]? with
        | some old => (match plusM old more with
          | some new => some (l.set j new)
          | none => none)
        | none => none)
      | none => none)
    | none => none)
  | none => none
def stepR (n s : Int) (p : Int × Q) (l : List Q) : Option (List Q) := if rOk (n - p.1 + 1) then foldO (stepG n s p.1 p.2) (intsFrom 0 (n - p.1 + 1).toNat) l else none
def stepM (n s : Int) (l : List Q) : Option (List Q) := if -1000 ≤ n + 1 ∧ n + 1 ≤ 1000 then foldO (stepR n s) (enumI 0 l) (List.replicate (n + 1).toNat (0, 1)) else none
def stH (l : List Q) : Hh := ⟨2, [(1, .lst (l.map qd)), (0, .lst [qd (0, 1)])]⟩
theorem sub_loc {h : Hh} {a : Nat} {l : List Q} {k : Int} {j : Nat} {q : Q} (hg : h.get a = some (.lst (l.map qd))) (hj : ixN l.length k = some j) (hq : l[j]? = some q) : subD (.loc a) (.int k) h = some (qd q) := by
  simp [subD, itemsD, hg, hj, hq]
theorem sto_loc {h : Hh} {a : Nat} {l : List Q} {k : Int} {j : Nat} {q : Q} (hg : h.get a = some (.lst (l.map qd))) (hj : ixN l.length k = some j) : stoD (.loc a) (.int k) (qd q) h = some (h.set a (.lst ((l.set j q).map qd))) := by
  simp [stoD, hg, hj, List.map_set]
theorem r_step {m : Nat} {h : Hh} {n s : Int} {l l' : List Q} (e : stepM n s l = some l') : (clOf TT (m + 4)).f 21 [.int n, .int s, .tup (l.map qd)] h = .ok (.tup (l'.map qd)) h := by
  have pl : ∀ l : List Q, pureL (l.map qd) = true := by
    intro l
    induction l with
    | nil => rfl
    | cons q l ih => simp [pureL, qd, D.pure, ih]
  refine call_val (fd := b_step) (h' := stH l') rfl rfl (by simp [pureL, D.pure, pl]) rfl (by simp [D.pure, pl]) ?_
  show exs (clOf TT (m + 3)) b_step.body [some (.int n), some (.int s), some (.tup (l.map qd)), none, none, none, none, none] ⟨0, []⟩ = _
  unfold b_step
  unfold stepM at e
  split at e
  · rename_i hn
    have hx : ∀ (p : Int × Q) (v : Option D × Option D × Option D × Option D) (a b : List Q), stepR n s p a = some b → ∃ v' : Option D × Option D × Option D × Option D, forF (clOf TT (m + 3)) (.tp [4, 5]) (.cons (.for (.nm 6) .r1 (.cons (.bin .add (.bin .sub (.var 0) (.var 4)) (.cst (.int 1))) .nil) (.cons (.asg 7 (.cal 20 (.cons (.var 5) (.cons (.cal 7 (.cons (.var 0) (.cons (.var 1) (.cons (.var 4) (.cons (.var 6) .nil))))) .nil)))) (.cons (.sto (.var 3) (.bin .add (.var 4) (.var 6)) (.cal 19 (.cons (.sub (.var 3) (.bin .add (.var 4) (.var 6))) (.cons (.var 7) .nil)))) .nil))) .nil) (.tup [.int p.1, qd p.2])
        [some (.int n), some (.int s), some (.tup (l.map qd)), some (.loc 1), v.1, v.2.1, v.2.2.1, v.2.2.2] (stH a) = .nx [some (.int n), some (.int s), some (.tup (l.map qd)), some (.loc 1), v'.1, v'.2.1, v'.2.2.1, v'.2.2.2] (stH b) := by
      intro p v a b hp
      unfold stepR at hp
      split at hp
      · rename_i hr
        obtain ⟨v', hl⟩ := fork_map (cl := clOf TT (m + 3)) (t := .nm 6) (b := .cons (.asg 7 (.cal 20 (.cons (.var 5) (.cons (.cal 7 (.cons (.var 0) (.cons (.var 1) (.cons (.var 4) (.cons (.var 6) .nil))))) .nil)))) (.cons (.sto (.var 3) (.bin .add (.var 4) (.var 6)) (.cal 19 (.cons (.sub (.var 3) (.bin .add (.var 4) (.var 6))) (.cons (.var 7) .nil)))) .nil)) D.int
          (fun (v : Option D × Option D) (s' : List Q) => [some (.int n), some (.int s), some (.tup (l.map qd)), some (.loc 1), some (.int p.1), some (qd p.2), v.1, v.2]) stH (stepG n s p.1 p.2) (fun i v a b hg => by
            unfold stepG at hg
            split at hg
            · rename_i c e1
              split at hg
              · rename_i more e2
                split at hg
                · rename_i j e3
                  split at hg
                  · rename_i old e4
                    split at hg
                    · rename_i new e5
                      cases hg
                      have g1 : (stH a).get 1 = some (.lst (a.map qd)) := rfl
                      refine ⟨(some (.int i), some (qd more)), ?_⟩
                      simp only [s_nil, s_cons, s_asg, s_unp, s_par, s_sto, s_aug, s_aus, s_exp, s_ret, s_ife, s_for, s_whi, s_rai, s_tryw, e_cst, e_var, e_fnv, e_glb, e_bin, e_neg, e_cmp, e_chn, e_and, e_or, e_not, e_ite, e_cal, e_cax, e_blt, e_isi, e_mth, e_tup, e_lst, e_sub, e_slc, e_lc, es_nil, es_cons, ea_nil, ea_cons, eo_nil, eo_cons, eb_none, eb_some, ec_none, ec_some, b_ok, b_ex, t_ok, t_ex, st_nx, st_rt, st_ex, o_some, v_some, o_add, o_sub, o_mul, o_fdiv, o_mod, o_pow, c_lt, c_le, c_gt, c_ge, l_max, l_min, asgL, asgT, List.length_cons, List.length_nil, List.length_set, List.getElem?_cons_zero, List.getElem?_cons_succ, List.set_cons_zero, List.set_cons_succ, Option.map_some, if_true, if_false, decide_true, decide_false, Bool.not_true, Bool.not_false, Nat.zero_add, Nat.reduceAdd, Nat.reduceLT, Nat.zero_lt_succ, Bool.false_eq_true, reduceIte, reduceCtorEq, forF, r_fresh e1, r_times e2, sub_loc g1 e3 e4, r_plus e5, sto_loc g1 e3]
                      rfl
                    · cases hg
                  · cases hg
                · cases hg
              · cases hg
            · cases hg) (v := (v.2.2.1, v.2.2.2)) hp
        refine ⟨(some (.int p.1), some (qd p.2), v'.1, v'.2), ?_⟩
        simp only [s_nil, s_cons, s_asg, s_unp, s_par, s_sto, s_aug, s_aus, s_exp, s_ret, s_ife, s_for, s_whi, s_rai, s_tryw, e_cst, e_var, e_fnv, e_glb, e_bin, e_neg, e_cmp, e_chn, e_and, e_or, e_not, e_ite, e_cal, e_cax, e_blt, e_isi, e_mth, e_tup, e_lst, e_sub, e_slc, e_lc, es_nil, es_cons, ea_nil, ea_cons, eo_nil, eo_cons, eb_none, eb_some, ec_none, ec_some, b_ok, b_ex, t_ok, t_ex, st_nx, st_rt, st_ex, o_some, v_some, o_add, o_sub, o_mul, o_fdiv, o_mod, o_pow, c_lt, c_le, c_gt, c_ge, l_max, l_min, asgL, asgT, List.length_cons, List.length_nil, List.length_set, List.getElem?_cons_zero, List.getElem?_cons_succ, List.set_cons_zero, List.set_cons_succ, Option.map_some, if_true, if_false, decide_true, decide_false, Bool.not_true, Bool.not_false, Nat.zero_add, Nat.reduceAdd, Nat.reduceLT, Nat.zero_lt_succ, Bool.false_eq_true, reduceIte, reduceCtorEq, forF, iter_r1 hr, hl]
      · cases hp
    obtain ⟨v', hl⟩ := fork_map (cl := clOf TT (m + 3)) (t := .tp [4, 5]) (fun p : Int × Q => .tup [.int p.1, qd p.2]) (fun (v : Option D × Option D × Option D × Option D) (s' : List Q) => [some (.int n), some (.int s), some (.tup (l.map qd)), some (.loc 1), v.1, v.2.1, v.2.2.1, v.2.2.2]) stH (stepR n s) hx (v := (none, none, none, none)) e
    have hen : iterD .enu [.tup (l.map qd)] (stH (List.replicate (n + 1).toNat (0, 1))) = some ((enumI 0 l).map (fun p => .tup [.int p.1, qd p.2]), []) := by
      simp only [iterD, enumD_map qd]
    have hm : binD .mul (.loc 0) (.int (n + 1)) ⟨1, [(0, .lst [qd (0, 1)])]⟩ = some (.loc 1, stH (List.replicate (n + 1).toNat (0, 1))) := by
      simp only [binD, Hh.get, getL, if_true]
      rw [if_pos ⟨hn.1, hn.2, by decide⟩]
      simp [stH, Hh.new]
    have e0 : (Hh.mk 0 []).new (.lst [.tup [.int 0, .int 1]]) = ⟨1, [(0, .lst [qd (0, 1)])]⟩ := rfl
    have et : bltD .tuple [.loc 1] (stH l') = some (.tup (l'.map qd), stH l') := rfl
    simp only [s_nil, s_cons, s_asg, s_unp, s_par, s_sto, s_aug, s_aus, s_exp, s_ret, s_ife, s_for, s_whi, s_rai, s_tryw, e_cst, e_var, e_fnv, e_glb, e_bin, e_neg, e_cmp, e_chn, e_and, e_or, e_not, e_ite, e_cal, e_cax, e_blt, e_isi, e_mth, e_tup, e_lst, e_sub, e_slc, e_lc, es_nil, es_cons, ea_nil, ea_cons, eo_nil, eo_cons, eb_none, eb_some, ec_none, ec_some, b_ok, b_ex, t_ok, t_ex, st_nx, st_rt, st_ex, o_some, v_some, o_add, o_sub, o_mul, o_fdiv, o_mod, o_pow, c_lt, c_le, c_gt, c_ge, l_max, l_min, asgL, asgT, List.length_cons, List.length_nil, List.length_set, List.getElem?_cons_zero, List.getElem?_cons_succ, List.set_cons_zero, List.set_cons_succ, Option.map_some, if_true, if_false, decide_true, decide_false, Bool.not_true, Bool.not_false, Nat.zero_add, Nat.reduceAdd, Nat.reduceLT, Nat.zero_lt_succ, Bool.false_eq_true, reduceIte, reduceCtorEq, e0, hm, hen, hl, et]
  · cases e
end Alb.Rn
set_option Elab.async false
set_option linter.all false
set_option maxRecDepth 100000
set_option maxHeartbeats 4000000
/-! What the defs answer: spreads and means, the laws' own fractions. -/
namespace Alb.Rn
open PySem Alb

theorem pure_qs : ∀ l : List Q, pureL (l.map qd) = true
  | [] => rfl
  | q :: l => by simp [pureL, qd, D.pure, pure_qs l]
/-! ### spread_after -/
def startM (n had : Int) : List Q := (intsFrom 0 (n + 1).toNat).map fun i => if i == had then (1, 1) else (0, 1)
def iterM (f : List Q → Option (List Q)) : Nat → List Q → Option (List Q)
  | 0, l => some l
  | k + 1, l => match iterM f k l with
    | some l1 => f l1
    | none => none
theorem iter_fold {f : List Q → Option (List Q)} : ∀ (k : Nat) (lo : Int) (l l' : List Q), iterM f k l = some l' → foldO (fun _ => f) (intsFrom lo k) l = some l' := by
  have app : ∀ (xs : List Int) (y : Int) (l l1 l' : List Q), foldO (fun _ => f) xs l = some l1 → f l1 = some l' → foldO (fun _ => f) (xs ++ [y]) l = some l' := by
    intro xs
    induction xs with
    | nil =>
      intro y l l1 l' e1 e2
      cases e1
      simp [foldO, e2]
    | cons x xs ih =>
      intro y l l1 l' e1 e2
      simp only [List.cons_append, foldO] at e1 ⊢
      split at e1
      · exact ih y _ l1 l' e1 e2
      · cases e1
  have snoc : ∀ (k : Nat) (lo : Int), intsFrom lo (k + 1) = intsFrom lo k ++ [lo + k] := by
    intro k
    induction k with
    | zero =>
      intro lo
      simp [intsFrom]
    | succ k ih =>
      intro lo
      rw [intsFrom, ih (lo + 1), intsFrom]
      simp
      omega
  intro k
  induction k with
  | zero =>
    intro lo l l' e
    exact e
  | succ k ih =>
    intro lo l l' e
    simp only [iterM] at e
    split at e
    · rename_i l1 e1
      rw [snoc]
      exact app _ _ l l1 l' (ih lo l l1 e1) e
    · cases e
def afterM (n s had packs : Int) : Option (List Q) := if rOk (n + 1) ∧ rOk packs ∧ (n + 1).toNat ≤ 1000 then iterM (stepM n s) packs.toNat (startM n had) else none
theorem r_after {m : Nat} {h : Hh} {n s had packs : Int} {l : List Q} (e : afterM n s had packs = some l) : (clOf TT (m + 5)).f 22 [.int n, .int s, .int had, .int packs] h = .ok (.tup (l.map qd)) h := by
  refine call_val (fd := b_spread_after) (h' := ⟨1, [(0, .lst ((startM n had).map qd))]⟩) rfl rfl rfl rfl (by simp [D.pure, pure_qs]) ?_
  show exs (clOf TT (m + 4)) b_spread_after.body [some (.int n), some (.int s), some (.int had), some (.int packs), none, none, none] ⟨0, []⟩ = _
  unfold b_spread_after
  unfold afterM at e
  split at e
  · rename_i hr
    have hc : compM (fun i : Int => some (some (if i == had then ((1, 1) : Q) else (0, 1)))) (intsFrom 0 (n + 1).toNat) = some (startM n had) := by
      unfold startM
      generalize intsFrom 0 (n + 1).toNat = xs
      induction xs with
      | nil => rfl
      | cons x xs ih => simp only [compM, ih, List.map_cons]
    have h1 := lck_map (cl := clOf TT (m + 4)) (own := [6]) (t := .nm 6) (c := .none) (e := .ite (.cmp .eq (.var 6) (.var 2)) (.tup (.cons (.cst (.int 1)) (.cons (.cst (.int 1)) .nil))) (.tup (.cons (.cst (.int 0)) (.cons (.cst (.int 1)) .nil))))
      (r := [some (.int n), some (.int s), some (.int had), some (.int packs), none, none, none]) (h := ⟨0, []⟩) D.int qd (fun i : Int => some (some (if i == had then ((1, 1) : Q) else (0, 1)))) (fun i y hy => by
        cases hy
        by_cases z : i = had
        · subst z
          simp only [s_nil, s_cons, s_asg, s_unp, s_par, s_sto, s_aug, s_aus, s_exp, s_ret, s_ife, s_for, s_whi, s_rai, s_tryw, e_cst, e_var, e_fnv, e_glb, e_bin, e_neg, e_cmp, e_chn, e_and, e_or, e_not, e_ite, e_cal, e_cax, e_blt, e_isi, e_mth, e_tup, e_lst, e_sub, e_slc, e_lc, es_nil, es_cons, ea_nil, ea_cons, eo_nil, eo_cons, eb_none, eb_some, ec_none, ec_some, b_ok, b_ex, t_ok, t_ex, st_nx, st_rt, st_ex, o_some, v_some, o_add, o_sub, o_mul, o_fdiv, o_mod, o_pow, c_lt, c_le, c_gt, c_ge, l_max, l_min, asgL, asgT, List.length_cons, List.length_nil, List.length_set, List.getElem?_cons_zero, List.getElem?_cons_succ, List.set_cons_zero, List.set_cons_succ, Option.map_some, if_true, if_false, decide_true, decide_false, Bool.not_true, Bool.not_false, Nat.zero_add, Nat.reduceAdd, Nat.reduceLT, Nat.zero_lt_succ, Bool.false_eq_true, reduceIte, reduceCtorEq, lcF, wipeD, c_eqI, BEq.rfl]
          simp [qd]
        · have z' : (i == had) = false := by simpa using z
          simp only [s_nil, s_cons, s_asg, s_unp, s_par, s_sto, s_aug, s_aus, s_exp, s_ret, s_ife, s_for, s_whi, s_rai, s_tryw, e_cst, e_var, e_fnv, e_glb, e_bin, e_neg, e_cmp, e_chn, e_and, e_or, e_not, e_ite, e_cal, e_cax, e_blt, e_isi, e_mth, e_tup, e_lst, e_sub, e_slc, e_lc, es_nil, es_cons, ea_nil, ea_cons, eo_nil, eo_cons, eb_none, eb_some, ec_none, ec_some, b_ok, b_ex, t_ok, t_ex, st_nx, st_rt, st_ex, o_some, v_some, o_add, o_sub, o_mul, o_fdiv, o_mod, o_pow, c_lt, c_le, c_gt, c_ge, l_max, l_min, asgL, asgT, List.length_cons, List.length_nil, List.length_set, List.getElem?_cons_zero, List.getElem?_cons_succ, List.set_cons_zero, List.set_cons_succ, Option.map_some, if_true, if_false, decide_true, decide_false, Bool.not_true, Bool.not_false, Nat.zero_add, Nat.reduceAdd, Nat.reduceLT, Nat.zero_lt_succ, Bool.false_eq_true, reduceIte, reduceCtorEq, lcF, wipeD, c_eqI, z']
          simp [qd]) hc (by rw [intsFrom_length]; exact Nat.le_trans hr.2.2 (by decide))
    obtain ⟨v', hl⟩ := fork_map (cl := clOf TT (m + 4)) (t := .nm 5) (b := .cons (.asg 4 (.cal 21 (.cons (.var 0) (.cons (.var 1) (.cons (.var 4) .nil))))) .nil) D.int
      (fun (v : Option D) (s' : List Q) => [some (.int n), some (.int s), some (.int had), some (.int packs), some (.tup (s'.map qd)), v, none]) (fun _ => ⟨1, [(0, .lst ((startM n had).map qd))]⟩) (fun _ => stepM n s) (fun i v a b hg => by
        refine ⟨some (.int i), ?_⟩
        simp only [s_nil, s_cons, s_asg, s_unp, s_par, s_sto, s_aug, s_aus, s_exp, s_ret, s_ife, s_for, s_whi, s_rai, s_tryw, e_cst, e_var, e_fnv, e_glb, e_bin, e_neg, e_cmp, e_chn, e_and, e_or, e_not, e_ite, e_cal, e_cax, e_blt, e_isi, e_mth, e_tup, e_lst, e_sub, e_slc, e_lc, es_nil, es_cons, ea_nil, ea_cons, eo_nil, eo_cons, eb_none, eb_some, ec_none, ec_some, b_ok, b_ex, t_ok, t_ex, st_nx, st_rt, st_ex, o_some, v_some, o_add, o_sub, o_mul, o_fdiv, o_mod, o_pow, c_lt, c_le, c_gt, c_ge, l_max, l_min, asgL, asgT, List.length_cons, List.length_nil, List.length_set, List.getElem?_cons_zero, List.getElem?_cons_succ, List.set_cons_zero, List.set_cons_succ, Option.map_some, if_true, if_false, decide_true, decide_false, Bool.not_true, Bool.not_false, Nat.zero_add, Nat.reduceAdd, Nat.reduceLT, Nat.zero_lt_succ, Bool.false_eq_true, reduceIte, reduceCtorEq, forF, r_step hg]) (v := none) (iter_fold packs.toNat 0 _ _ e)
    have e0 : (Hh.mk 0 []).new (.lst ((startM n had).map qd)) = ⟨1, [(0, .lst ((startM n had).map qd))]⟩ := rfl
    have et : bltD .tuple [.loc 0] ⟨1, [(0, .lst ((startM n had).map qd))]⟩ = some (.tup ((startM n had).map qd), ⟨1, [(0, .lst ((startM n had).map qd))]⟩) := rfl
    simp only [s_nil, s_cons, s_asg, s_unp, s_par, s_sto, s_aug, s_aus, s_exp, s_ret, s_ife, s_for, s_whi, s_rai, s_tryw, e_cst, e_var, e_fnv, e_glb, e_bin, e_neg, e_cmp, e_chn, e_and, e_or, e_not, e_ite, e_cal, e_cax, e_blt, e_isi, e_mth, e_tup, e_lst, e_sub, e_slc, e_lc, es_nil, es_cons, ea_nil, ea_cons, eo_nil, eo_cons, eb_none, eb_some, ec_none, ec_some, b_ok, b_ex, t_ok, t_ex, st_nx, st_rt, st_ex, o_some, v_some, o_add, o_sub, o_mul, o_fdiv, o_mod, o_pow, c_lt, c_le, c_gt, c_ge, l_max, l_min, asgL, asgT, List.length_cons, List.length_nil, List.length_set, List.getElem?_cons_zero, List.getElem?_cons_succ, List.set_cons_zero, List.set_cons_succ, Option.map_some, if_true, if_false, decide_true, decide_false, Bool.not_true, Bool.not_false, Nat.zero_add, Nat.reduceAdd, Nat.reduceLT, Nat.zero_lt_succ, Bool.false_eq_true, reduceIte, reduceCtorEq, iter_r1 hr.1, h1, e0, et, iter_r1 hr.2.1, hl]
  · cases e
/-! ### with the checks ahead -/
def ok3 (n s had : Int) : Bool := decide (1 ≤ n) && decide (n ≤ 8) && decide (1 ≤ s) && decide (s ≤ n) && decide (0 ≤ had) && decide (had ≤ n)
theorem ok3_size {n s had : Int} (h : ok3 n s had = true) : sizeM (.int n) (.int s) = none := by
  simp only [ok3, Bool.and_eq_true, decide_eq_true_eq] at h
  simp [sizeM, isIntM, h]
theorem ok3_had {n s had : Int} (h : ok3 n s had = true) : isIntM (.int had) 0 n = true := by
  simp only [ok3, Bool.and_eq_true, decide_eq_true_eq] at h
  simp [isIntM, h]
theorem num_ok {k hi : Int} (h0 : 0 ≤ k) (h1 : k ≤ hi) : isIntM (.int k) 0 hi = true := by simp [isIntM, h0, h1]
theorem r_size_ok {m : Nat} {h : Hh} {n s had : Int} (o : ok3 n s had = true) : (clOf TT (m + 3)).f 5 [.int n, .int s] h = .ok .non h := by
  rw [r_size rfl rfl, ok3_size o]
theorem r_num_ok {m : Nat} {h : Hh} {k hi : Int} (o : isIntM (.int k) 0 hi = true) : (clOf TT (m + 2)).f 6 [.int k, .int hi] h = .ok .non h := by
  rw [r_number rfl, if_pos o]
theorem r_pack {m : Nat} {h : Hh} {n s had f : Int} {q : Q} (o : ok3 n s had = true) (hf : isIntM (.int f) 0 n = true) (e : freshM n s had f = some q) : (clOf TT (m + 4)).f 8 [.int n, .int s, .int had, .int f] h = .ok (qd q) h := by
  refine call_val (fd := b_pack_chance) (h' := ⟨0, []⟩) rfl rfl rfl rfl rfl ?_
  show exs (clOf TT (m + 3)) b_pack_chance.body [some (.int n), some (.int s), some (.int had), some (.int f)] ⟨0, []⟩ = _
  unfold b_pack_chance
  simp only [s_nil, s_cons, s_asg, s_unp, s_par, s_sto, s_aug, s_aus, s_exp, s_ret, s_ife, s_for, s_whi, s_rai, s_tryw, e_cst, e_var, e_fnv, e_glb, e_bin, e_neg, e_cmp, e_chn, e_and, e_or, e_not, e_ite, e_cal, e_cax, e_blt, e_isi, e_mth, e_tup, e_lst, e_sub, e_slc, e_lc, es_nil, es_cons, ea_nil, ea_cons, eo_nil, eo_cons, eb_none, eb_some, ec_none, ec_some, b_ok, b_ex, t_ok, t_ex, st_nx, st_rt, st_ex, o_some, v_some, o_add, o_sub, o_mul, o_fdiv, o_mod, o_pow, c_lt, c_le, c_gt, c_ge, l_max, l_min, asgL, asgT, List.length_cons, List.length_nil, List.length_set, List.getElem?_cons_zero, List.getElem?_cons_succ, List.set_cons_zero, List.set_cons_succ, Option.map_some, if_true, if_false, decide_true, decide_false, Bool.not_true, Bool.not_false, Nat.zero_add, Nat.reduceAdd, Nat.reduceLT, Nat.zero_lt_succ, Bool.false_eq_true, reduceIte, reduceCtorEq, r_size_ok o, r_num_ok (ok3_had o), r_num_ok hf, r_fresh e]
theorem r_spread {m : Nat} {h : Hh} {n s had p : Int} {l : List Q} (o : ok3 n s had = true) (hp : isIntM (.int p) 0 30 = true) (e : afterM n s had p = some l) : (clOf TT (m + 6)).f 23 [.int n, .int s, .int had, .int p] h = .ok (.tup (l.map qd)) h := by
  refine call_val (fd := b_spread) (h' := ⟨0, []⟩) rfl rfl rfl rfl (by simp [D.pure, pure_qs]) ?_
  show exs (clOf TT (m + 5)) b_spread.body [some (.int n), some (.int s), some (.int had), some (.int p)] ⟨0, []⟩ = _
  unfold b_spread
  simp only [s_nil, s_cons, s_asg, s_unp, s_par, s_sto, s_aug, s_aus, s_exp, s_ret, s_ife, s_for, s_whi, s_rai, s_tryw, e_cst, e_var, e_fnv, e_glb, e_bin, e_neg, e_cmp, e_chn, e_and, e_or, e_not, e_ite, e_cal, e_cax, e_blt, e_isi, e_mth, e_tup, e_lst, e_sub, e_slc, e_lc, es_nil, es_cons, ea_nil, ea_cons, eo_nil, eo_cons, eb_none, eb_some, ec_none, ec_some, b_ok, b_ex, t_ok, t_ex, st_nx, st_rt, st_ex, o_some, v_some, o_add, o_sub, o_mul, o_fdiv, o_mod, o_pow, c_lt, c_le, c_gt, c_ge, l_max, l_min, asgL, asgT, List.length_cons, List.length_nil, List.length_set, List.getElem?_cons_zero, List.getElem?_cons_succ, List.set_cons_zero, List.set_cons_succ, Option.map_some, if_true, if_false, decide_true, decide_false, Bool.not_true, Bool.not_false, Nat.zero_add, Nat.reduceAdd, Nat.reduceLT, Nat.zero_lt_succ, Bool.false_eq_true, reduceIte, reduceCtorEq, r_size_ok o, r_num_ok (ok3_had o), g_most, r_num_ok hp, r_after e]
theorem sub_last {l : List Q} {q : Q} {h : Hh} (e : l.getLast? = some q) : subD (.tup (l.map qd)) (.int (-1)) h = some (qd q) := by
  have hl : 0 < l.length := by
    cases l with
    | nil => simp at e
    | cons _ _ => simp
  rw [List.getLast?_eq_getElem?] at e
  have ix : ixN (l.map qd).length (-1) = some (l.length - 1) := by
    unfold ixN
    rw [if_neg (by omega), if_pos (by simp; omega)]
    simp
    omega
  simp only [subD, itemsD, ix, List.getElem?_map, e]
  rfl
theorem r_full {m : Nat} {h : Hh} {n s had p : Int} {l : List Q} {q : Q} (o : ok3 n s had = true) (hp : isIntM (.int p) 0 30 = true) (e : afterM n s had p = some l) (eq : l.getLast? = some q) : (clOf TT (m + 6)).f 30 [.int n, .int s, .int had, .int p] h = .ok (qd q) h := by
  refine call_val (fd := b_chance_full) (h' := ⟨0, []⟩) rfl rfl rfl rfl rfl ?_
  show exs (clOf TT (m + 5)) b_chance_full.body [some (.int n), some (.int s), some (.int had), some (.int p)] ⟨0, []⟩ = _
  unfold b_chance_full
  simp only [s_nil, s_cons, s_asg, s_unp, s_par, s_sto, s_aug, s_aus, s_exp, s_ret, s_ife, s_for, s_whi, s_rai, s_tryw, e_cst, e_var, e_fnv, e_glb, e_bin, e_neg, e_cmp, e_chn, e_and, e_or, e_not, e_ite, e_cal, e_cax, e_blt, e_isi, e_mth, e_tup, e_lst, e_sub, e_slc, e_lc, es_nil, es_cons, ea_nil, ea_cons, eo_nil, eo_cons, eb_none, eb_some, ec_none, ec_some, b_ok, b_ex, t_ok, t_ex, st_nx, st_rt, st_ex, o_some, v_some, o_add, o_sub, o_mul, o_fdiv, o_mod, o_pow, c_lt, c_le, c_gt, c_ge, l_max, l_min, asgL, asgT, List.length_cons, List.length_nil, List.length_set, List.getElem?_cons_zero, List.getElem?_cons_succ, List.set_cons_zero, List.set_cons_succ, Option.map_some, if_true, if_false, decide_true, decide_false, Bool.not_true, Bool.not_false, Nat.zero_add, Nat.reduceAdd, Nat.reduceLT, Nat.zero_lt_succ, Bool.false_eq_true, reduceIte, reduceCtorEq, r_size_ok o, r_num_ok (ok3_had o), g_most, r_num_ok hp, r_after e, negD, sub_last eq]
/-! ### means -/
def diffG (p : Int × Q) (r : Q) : Option Q := match timesM (p.1, 1) p.2 with
  | some t => plusM r t
  | none => none
def diffM (n s had p : Int) : Option Q := match afterM n s had p with
  | some l => foldO diffG (enumI 0 l) (0, 1)
  | none => none
theorem r_diff {m : Nat} {h : Hh} {n s had p : Int} {q : Q} (o : ok3 n s had = true) (hp : isIntM (.int p) 0 30 = true) (e : diffM n s had p = some q) : (clOf TT (m + 6)).f 24 [.int n, .int s, .int had, .int p] h = .ok (qd q) h := by
  refine call_val (fd := b_mean_different) (h' := ⟨0, []⟩) rfl rfl rfl rfl rfl ?_
  show exs (clOf TT (m + 5)) b_mean_different.body [some (.int n), some (.int s), some (.int had), some (.int p), none, none, none] ⟨0, []⟩ = _
  unfold b_mean_different
  unfold diffM at e
  split at e
  · rename_i l el
    obtain ⟨v', hl⟩ := fork_map (cl := clOf TT (m + 5)) (t := .tp [5, 6]) (b := .cons (.asg 4 (.cal 19 (.cons (.var 4) (.cons (.cal 20 (.cons (.tup (.cons (.var 5) (.cons (.cst (.int 1)) .nil))) (.cons (.var 6) .nil))) .nil)))) .nil) (fun p : Int × Q => .tup [.int p.1, qd p.2])
      (fun (v : Option D × Option D) (a : Q) => [some (.int n), some (.int s), some (.int had), some (.int p), some (qd a), v.1, v.2]) (fun _ => ⟨0, []⟩) diffG (fun i v a b hg => by
        unfold diffG at hg
        split at hg
        · rename_i t et
          have zt : D.tup [.int i.1, .int 1] = qd (i.1, 1) := rfl
          refine ⟨(some (.int i.1), some (qd i.2)), ?_⟩
          simp only [s_nil, s_cons, s_asg, s_unp, s_par, s_sto, s_aug, s_aus, s_exp, s_ret, s_ife, s_for, s_whi, s_rai, s_tryw, e_cst, e_var, e_fnv, e_glb, e_bin, e_neg, e_cmp, e_chn, e_and, e_or, e_not, e_ite, e_cal, e_cax, e_blt, e_isi, e_mth, e_tup, e_lst, e_sub, e_slc, e_lc, es_nil, es_cons, ea_nil, ea_cons, eo_nil, eo_cons, eb_none, eb_some, ec_none, ec_some, b_ok, b_ex, t_ok, t_ex, st_nx, st_rt, st_ex, o_some, v_some, o_add, o_sub, o_mul, o_fdiv, o_mod, o_pow, c_lt, c_le, c_gt, c_ge, l_max, l_min, asgL, asgT, List.length_cons, List.length_nil, List.length_set, List.getElem?_cons_zero, List.getElem?_cons_succ, List.set_cons_zero, List.set_cons_succ, Option.map_some, if_true, if_false, decide_true, decide_false, Bool.not_true, Bool.not_false, Nat.zero_add, Nat.reduceAdd, Nat.reduceLT, Nat.zero_lt_succ, Bool.false_eq_true, reduceIte, reduceCtorEq, forF, zt, r_times et, r_plus hg]
        · cases hg) (v := (none, none)) e
    have hen : iterD .enu [.tup (l.map qd)] ⟨0, []⟩ = some ((enumI 0 l).map (fun p => .tup [.int p.1, qd p.2]), []) := by
      simp only [iterD, enumD_map qd]
    have z : D.tup [.int 0, .int 1] = qd (0, 1) := rfl
    simp only [s_nil, s_cons, s_asg, s_unp, s_par, s_sto, s_aug, s_aus, s_exp, s_ret, s_ife, s_for, s_whi, s_rai, s_tryw, e_cst, e_var, e_fnv, e_glb, e_bin, e_neg, e_cmp, e_chn, e_and, e_or, e_not, e_ite, e_cal, e_cax, e_blt, e_isi, e_mth, e_tup, e_lst, e_sub, e_slc, e_lc, es_nil, es_cons, ea_nil, ea_cons, eo_nil, eo_cons, eb_none, eb_some, ec_none, ec_some, b_ok, b_ex, t_ok, t_ex, st_nx, st_rt, st_ex, o_some, v_some, o_add, o_sub, o_mul, o_fdiv, o_mod, o_pow, c_lt, c_le, c_gt, c_ge, l_max, l_min, asgL, asgT, List.length_cons, List.length_nil, List.length_set, List.getElem?_cons_zero, List.getElem?_cons_succ, List.set_cons_zero, List.set_cons_succ, Option.map_some, if_true, if_false, decide_true, decide_false, Bool.not_true, Bool.not_false, Nat.zero_add, Nat.reduceAdd, Nat.reduceLT, Nat.zero_lt_succ, Bool.false_eq_true, reduceIte, reduceCtorEq, r_size_ok o, r_num_ok (ok3_had o), g_most, r_num_ok hp, r_after el, hen, z, hl]
  · cases e
def hereG (n s miss : Int) (means : List Q) (f : Int) (t : Q) : Option Q := match freshM n s (n - miss) f with
  | some c => (match ixN means.length (miss - f) with
    | some j => (match means[j]? with
      | some q => (match timesM c q with
        | some x => plusM t x
        | none => none)
      | none => none)
    | none => none)
  | none => none
def hereR (n s miss : Int) (means : List Q) : Option (List Q) := match freshM n s (n - miss) 0 with
  | some stay => if rOk (miss + 1) ∧ means.length < lim then (match foldO (hereG n s miss means) (intsFrom 1 (miss + 1 - 1).toNat) (1, 1) with
    | some t => (match lowM stay.2 (stay.2 - stay.1) with
      | some x => (match timesM t x with
        | some y => some (means ++ [y])
        | none => none)
      | none => none)
    | none => none) else none
  | none => none
def hereM (n s had : Int) : Option (List Q) := if rOk (n - had + 1) then foldO (hereR n s) (intsFrom 1 (n - had + 1 - 1).toNat) [(0, 1)] else none
def meH (l : List Q) : Hh := ⟨1, [(0, .lst (l.map qd))]⟩
theorem sub_lastL {l : List Q} {q : Q} {h : Hh} {a : Nat} (hg : h.get a = some (.lst (l.map qd))) (e : l.getLast? = some q) : subD (.loc a) (.int (-1)) h = some (qd q) := by
  have := sub_last (h := h) e
  simp only [subD, itemsD, hg] at this ⊢
  exact this
theorem r_here {m : Nat} {h : Hh} {n s had : Int} {l : List Q} {q : Q} (e : hereM n s had = some l) (eq : l.getLast? = some q) : (clOf TT (m + 4)).f 28 [.int n, .int s, .int had] h = .ok (qd q) h := by
  refine call_val (fd := b_mean_from_here) (h' := meH l) rfl rfl rfl rfl rfl ?_
  show exs (clOf TT (m + 3)) b_mean_from_here.body [some (.int n), some (.int s), some (.int had), none, none, none, none, none, none] ⟨0, []⟩ = _
  unfold b_mean_from_here
  unfold hereM at e
  split at e
  · rename_i hr
    obtain ⟨v', hl⟩ := fork_map (cl := clOf TT (m + 3)) (t := .nm 4) (b := .cons (.asg 5 (.bin .sub (.var 0) (.var 4))) (.cons (.asg 6 (.cal 7 (.cons (.var 0) (.cons (.var 1) (.cons (.var 5) (.cons (.cst (.int 0)) .nil)))))) (.cons (.asg 7 (.tup (.cons (.cst (.int 1)) (.cons (.cst (.int 1)) .nil)))) (.cons (.for (.nm 8) .r2 (.cons (.cst (.int 1)) (.cons (.bin .add (.var 4) (.cst (.int 1))) .nil)) (.cons (.asg 7 (.cal 19 (.cons (.var 7) (.cons (.cal 20 (.cons (.cal 7 (.cons (.var 0) (.cons (.var 1) (.cons (.var 5) (.cons (.var 8) .nil))))) (.cons (.sub (.var 3) (.bin .sub (.var 4) (.var 8))) .nil))) .nil)))) .nil)) (.cons (.exp (.mth .append (.var 3) (.cons (.cal 20 (.cons (.var 7) (.cons (.cal 2 (.cons (.sub (.var 6) (.cst (.int 1))) (.cons (.bin .sub (.sub (.var 6) (.cst (.int 1))) (.sub (.var 6) (.cst (.int 0)))) .nil))) .nil))) .nil))) .nil)))))
      D.int (fun (v : Option D × Option D × Option D × Option D × Option D) (a : List Q) => [some (.int n), some (.int s), some (.int had), some (.loc 0), v.1, v.2.1, v.2.2.1, v.2.2.2.1, v.2.2.2.2]) meH (hereR n s) (fun miss v a b hg => by
        unfold hereR at hg
        split at hg
        · rename_i stay e1
          split at hg
          · rename_i hr2
            split at hg
            · rename_i t e2
              split at hg
              · rename_i x e3
                split at hg
                · rename_i y e4
                  cases hg
                  have g0 : (meH a).get 0 = some (.lst (a.map qd)) := rfl
                  obtain ⟨w', hl2⟩ := fork_map (cl := clOf TT (m + 3)) (t := .nm 8) (b := .cons (.asg 7 (.cal 19 (.cons (.var 7) (.cons (.cal 20 (.cons (.cal 7 (.cons (.var 0) (.cons (.var 1) (.cons (.var 5) (.cons (.var 8) .nil))))) (.cons (.sub (.var 3) (.bin .sub (.var 4) (.var 8))) .nil))) .nil)))) .nil)
                    D.int (fun (v : Option D) (c : Q) => [some (.int n), some (.int s), some (.int had), some (.loc 0), some (.int miss), some (.int (n - miss)), some (qd stay), some (qd c), v]) (fun _ => meH a) (hereG n s miss a) (fun f v c c' hg => by
                      unfold hereG at hg
                      split at hg
                      · rename_i c1 k1
                        split at hg
                        · rename_i j k2
                          split at hg
                          · rename_i q1 k3
                            split at hg
                            · rename_i x1 k4
                              refine ⟨some (.int f), ?_⟩
                              simp only [s_nil, s_cons, s_asg, s_unp, s_par, s_sto, s_aug, s_aus, s_exp, s_ret, s_ife, s_for, s_whi, s_rai, s_tryw, e_cst, e_var, e_fnv, e_glb, e_bin, e_neg, e_cmp, e_chn, e_and, e_or, e_not, e_ite, e_cal, e_cax, e_blt, e_isi, e_mth, e_tup, e_lst, e_sub, e_slc, e_lc, es_nil, es_cons, ea_nil, ea_cons, eo_nil, eo_cons, eb_none, eb_some, ec_none, ec_some, b_ok, b_ex, t_ok, t_ex, st_nx, st_rt, st_ex, o_some, v_some, o_add, o_sub, o_mul, o_fdiv, o_mod, o_pow, c_lt, c_le, c_gt, c_ge, l_max, l_min, asgL, asgT, List.length_cons, List.length_nil, List.length_set, List.getElem?_cons_zero, List.getElem?_cons_succ, List.set_cons_zero, List.set_cons_succ, Option.map_some, if_true, if_false, decide_true, decide_false, Bool.not_true, Bool.not_false, Nat.zero_add, Nat.reduceAdd, Nat.reduceLT, Nat.zero_lt_succ, Bool.false_eq_true, reduceIte, reduceCtorEq, forF, r_fresh k1, sub_loc g0 k2 k3, r_times k4, r_plus hg]
                            · cases hg
                          · cases hg
                        · cases hg
                      · cases hg) (v := v.2.2.2.2) e2
                  have z : D.tup [.int 1, .int 1] = qd (1, 1) := rfl
                  have ap : mthD .append (.loc 0) [qd y] (meH a) = some (.non, meH (a ++ [y])) := by
                    simp only [mthD, g0]
                    rw [if_pos (by simpa using hr2.2)]
                    simp [meH, Hh.set, setL]
                  have rc : recvD .append (.loc 0) (meH a) = true := rfl
                  refine ⟨(some (.int miss), some (.int (n - miss)), some (qd stay), some (qd t), w'), ?_⟩
                  simp only [s_nil, s_cons, s_asg, s_unp, s_par, s_sto, s_aug, s_aus, s_exp, s_ret, s_ife, s_for, s_whi, s_rai, s_tryw, e_cst, e_var, e_fnv, e_glb, e_bin, e_neg, e_cmp, e_chn, e_and, e_or, e_not, e_ite, e_cal, e_cax, e_blt, e_isi, e_mth, e_tup, e_lst, e_sub, e_slc, e_lc, es_nil, es_cons, ea_nil, ea_cons, eo_nil, eo_cons, eb_none, eb_some, ec_none, ec_some, b_ok, b_ex, t_ok, t_ex, st_nx, st_rt, st_ex, o_some, v_some, o_add, o_sub, o_mul, o_fdiv, o_mod, o_pow, c_lt, c_le, c_gt, c_ge, l_max, l_min, asgL, asgT, List.length_cons, List.length_nil, List.length_set, List.getElem?_cons_zero, List.getElem?_cons_succ, List.set_cons_zero, List.set_cons_succ, Option.map_some, if_true, if_false, decide_true, decide_false, Bool.not_true, Bool.not_false, Nat.zero_add, Nat.reduceAdd, Nat.reduceLT, Nat.zero_lt_succ, Bool.false_eq_true, reduceIte, reduceCtorEq, forF, r_fresh e1, z, iter_r2 (a := 1) rfl hr2.1, hl2, rc, sub_q0, sub_q1, r_lowest e3, r_times e4, ap]
                · cases hg
              · cases hg
            · cases hg
          · cases hg
        · cases hg) (v := (none, none, none, none, none)) e
    have e0 : (Hh.mk 0 []).new (.lst [.tup [.int 0, .int 1]]) = meH [(0, 1)] := rfl
    simp only [s_nil, s_cons, s_asg, s_unp, s_par, s_sto, s_aug, s_aus, s_exp, s_ret, s_ife, s_for, s_whi, s_rai, s_tryw, e_cst, e_var, e_fnv, e_glb, e_bin, e_neg, e_cmp, e_chn, e_and, e_or, e_not, e_ite, e_cal, e_cax, e_blt, e_isi, e_mth, e_tup, e_lst, e_sub, e_slc, e_lc, es_nil, es_cons, ea_nil, ea_cons, eo_nil, eo_cons, eb_none, eb_some, ec_none, ec_some, b_ok, b_ex, t_ok, t_ex, st_nx, st_rt, st_ex, o_some, v_some, o_add, o_sub, o_mul, o_fdiv, o_mod, o_pow, c_lt, c_le, c_gt, c_ge, l_max, l_min, asgL, asgT, List.length_cons, List.length_nil, List.length_set, List.getElem?_cons_zero, List.getElem?_cons_succ, List.set_cons_zero, List.set_cons_succ, Option.map_some, if_true, if_false, decide_true, decide_false, Bool.not_true, Bool.not_false, Nat.zero_add, Nat.reduceAdd, Nat.reduceLT, Nat.zero_lt_succ, Bool.false_eq_true, reduceIte, reduceCtorEq, e0, iter_r2 (a := 1) rfl hr, hl, negD, sub_lastL (h := meH l) (a := 0) rfl eq]
  · cases e
theorem r_mean {m : Nat} {h : Hh} {n s had : Int} {l : List Q} {q : Q} (o : ok3 n s had = true) (e : hereM n s had = some l) (eq : l.getLast? = some q) : (clOf TT (m + 5)).f 29 [.int n, .int s, .int had] h = .ok (qd q) h := by
  refine call_val (fd := b_mean_packs) (h' := ⟨0, []⟩) rfl rfl rfl rfl rfl ?_
  show exs (clOf TT (m + 4)) b_mean_packs.body [some (.int n), some (.int s), some (.int had)] ⟨0, []⟩ = _
  unfold b_mean_packs
  simp only [s_nil, s_cons, s_asg, s_unp, s_par, s_sto, s_aug, s_aus, s_exp, s_ret, s_ife, s_for, s_whi, s_rai, s_tryw, e_cst, e_var, e_fnv, e_glb, e_bin, e_neg, e_cmp, e_chn, e_and, e_or, e_not, e_ite, e_cal, e_cax, e_blt, e_isi, e_mth, e_tup, e_lst, e_sub, e_slc, e_lc, es_nil, es_cons, ea_nil, ea_cons, eo_nil, eo_cons, eb_none, eb_some, ec_none, ec_some, b_ok, b_ex, t_ok, t_ex, st_nx, st_rt, st_ex, o_some, v_some, o_add, o_sub, o_mul, o_fdiv, o_mod, o_pow, c_lt, c_le, c_gt, c_ge, l_max, l_min, asgL, asgT, List.length_cons, List.length_nil, List.length_set, List.getElem?_cons_zero, List.getElem?_cons_succ, List.set_cons_zero, List.set_cons_succ, Option.map_some, if_true, if_false, decide_true, decide_false, Bool.not_true, Bool.not_false, Nat.zero_add, Nat.reduceAdd, Nat.reduceLT, Nat.zero_lt_succ, Bool.false_eq_true, reduceIte, reduceCtorEq, r_size_ok o, r_num_ok (ok3_had o), r_here e eq]
end Alb.Rn
set_option Elab.async false
set_option linter.all false
set_option maxRecDepth 100000
set_option maxHeartbeats 4000000
/-! What the laws' own defs answer: fractions, draws. -/
namespace Alb.Rn
open PySem Alb

theorem r_by {m : Nat} {h : Hh} {p q s : Q} (e : timesM p q = some s) : (clOf TT (m + 2)).f 25 [qd p, qd q] h = .ok (qd s) h := by
  unfold timesM at e
  split at e
  · rename_i x z e1 e3
    refine call_val (fd := b_law_by) (h' := ⟨0, []⟩) rfl rfl rfl rfl rfl ?_
    show exs (clOf TT (m + 1)) b_law_by.body [some (qd p), some (qd q)] ⟨0, []⟩ = _
    unfold b_law_by
    simp only [s_nil, s_cons, s_asg, s_unp, s_par, s_sto, s_aug, s_aus, s_exp, s_ret, s_ife, s_for, s_whi, s_rai, s_tryw, e_cst, e_var, e_fnv, e_glb, e_bin, e_neg, e_cmp, e_chn, e_and, e_or, e_not, e_ite, e_cal, e_cax, e_blt, e_isi, e_mth, e_tup, e_lst, e_sub, e_slc, e_lc, es_nil, es_cons, ea_nil, ea_cons, eo_nil, eo_cons, eb_none, eb_some, ec_none, ec_some, b_ok, b_ex, t_ok, t_ex, st_nx, st_rt, st_ex, o_some, v_some, o_add, o_sub, o_mul, o_fdiv, o_mod, o_pow, c_lt, c_le, c_gt, c_ge, l_max, l_min, asgL, asgT, List.length_cons, List.length_nil, List.length_set, List.getElem?_cons_zero, List.getElem?_cons_succ, List.set_cons_zero, List.set_cons_succ, Option.map_some, if_true, if_false, decide_true, decide_false, Bool.not_true, Bool.not_false, Nat.zero_add, Nat.reduceAdd, Nat.reduceLT, Nat.zero_lt_succ, Bool.false_eq_true, reduceIte, reduceCtorEq, sub_q0, sub_q1, mul_of e1, mul_of e3, r_part e]
  · cases e
/-! ### joined -/
def joinG (q : Q) (r : Q) : Option Q := match mulM r.1 q.2, mulM q.1 r.2, mulM r.2 q.2 with
  | some x, some y, some z => lowM (x + y) z
  | _, _, _ => none
def joinM (l : List Q) : Option Q := foldO joinG l (0, 1)
theorem join_body {m : Nat} {l : List Q} {q : Q} {h : Hh} {d : D} (hi : iterD .val [d] h = some (l.map qd, [])) (e : joinM l = some q) : exs (clOf TT (m + 1)) b_law_joined.body [some d, none, none, none] h = .rt (qd q) h := by
  unfold b_law_joined
  obtain ⟨v', hl⟩ := fork_map (cl := clOf TT (m + 1)) (t := .nm 1) (b := .cons (.unp [2, 3] (.cal 9 (.cons (.bin .add (.bin .mul (.var 2) (.sub (.var 1) (.cst (.int 1)))) (.bin .mul (.sub (.var 1) (.cst (.int 0))) (.var 3))) (.cons (.bin .mul (.var 3) (.sub (.var 1) (.cst (.int 1)))) .nil)))) .nil) qd
    (fun (v : Option D) (a : Q) => [some d, v, some (.int a.1), some (.int a.2)]) (fun _ => h) joinG (fun x v a b hg => by
      unfold joinG at hg
      split at hg
      · rename_i x1 y1 z1 e1 e2 e3
        refine ⟨some (qd x), ?_⟩
        have : asgT (.tp [2, 3]) (qd b) [some d, some (qd x), some (.int a.1), some (.int a.2)] = some [some d, some (qd x), some (.int b.1), some (.int b.2)] := rfl
        simp only [forF]
        simp only [s_nil, s_cons, s_asg, s_unp, s_par, s_sto, s_aug, s_aus, s_exp, s_ret, s_ife, s_for, s_whi, s_rai, s_tryw, e_cst, e_var, e_fnv, e_glb, e_bin, e_neg, e_cmp, e_chn, e_and, e_or, e_not, e_ite, e_cal, e_cax, e_blt, e_isi, e_mth, e_tup, e_lst, e_sub, e_slc, e_lc, es_nil, es_cons, ea_nil, ea_cons, eo_nil, eo_cons, eb_none, eb_some, ec_none, ec_some, b_ok, b_ex, t_ok, t_ex, st_nx, st_rt, st_ex, o_some, v_some, o_add, o_sub, o_mul, o_fdiv, o_mod, o_pow, c_lt, c_le, c_gt, c_ge, l_max, l_min, asgL, asgT, List.length_cons, List.length_nil, List.length_set, List.getElem?_cons_zero, List.getElem?_cons_succ, List.set_cons_zero, List.set_cons_succ, Option.map_some, if_true, if_false, decide_true, decide_false, Bool.not_true, Bool.not_false, Nat.zero_add, Nat.reduceAdd, Nat.reduceLT, Nat.zero_lt_succ, Bool.false_eq_true, reduceIte, reduceCtorEq, sub_q0, sub_q1, mul_of e1, mul_of e2, mul_of e3, r_part hg]
        rfl
      · cases hg) (v := none) e
  simp only [s_nil, s_cons, s_asg, s_unp, s_par, s_sto, s_aug, s_aus, s_exp, s_ret, s_ife, s_for, s_whi, s_rai, s_tryw, e_cst, e_var, e_fnv, e_glb, e_bin, e_neg, e_cmp, e_chn, e_and, e_or, e_not, e_ite, e_cal, e_cax, e_blt, e_isi, e_mth, e_tup, e_lst, e_sub, e_slc, e_lc, es_nil, es_cons, ea_nil, ea_cons, eo_nil, eo_cons, eb_none, eb_some, ec_none, ec_some, b_ok, b_ex, t_ok, t_ex, st_nx, st_rt, st_ex, o_some, v_some, o_add, o_sub, o_mul, o_fdiv, o_mod, o_pow, c_lt, c_le, c_gt, c_ge, l_max, l_min, asgL, asgT, List.length_cons, List.length_nil, List.length_set, List.getElem?_cons_zero, List.getElem?_cons_succ, List.set_cons_zero, List.set_cons_succ, Option.map_some, if_true, if_false, decide_true, decide_false, Bool.not_true, Bool.not_false, Nat.zero_add, Nat.reduceAdd, Nat.reduceLT, Nat.zero_lt_succ, Bool.false_eq_true, reduceIte, reduceCtorEq, hi, hl]
  rfl
theorem r_joinT {m : Nat} {h : Hh} {l : List Q} {q : Q} (e : joinM l = some q) : (clOf TT (m + 2)).f 10 [.tup (l.map qd)] h = .ok (qd q) h :=
  call_val (fd := b_law_joined) (h' := ⟨0, []⟩) rfl rfl (by simp [pureL, D.pure, pure_qs]) rfl rfl (join_body (h := ⟨0, []⟩) (d := .tup (l.map qd)) rfl e)
theorem imp_one {a : Nat} {xs : List D} {h : Hh} (hg : h.get a = some (.lst xs)) (hp : pureL xs = true) : impD [.loc a] h = some [.lst xs] := by
  simp [impD, locsOf, hg, hp]
theorem r_joinL {m : Nat} {h : Hh} {a : Nat} {l : List Q} {q : Q} (hg : h.get a = some (.lst (l.map qd))) (e : joinM l = some q) : (clOf TT (m + 2)).f 10 [.loc a] h = .ok (qd q) h := by
  rw [clf']
  show (match impD [.loc a] h with
    | some ps => (runP (clOf TT (m + 1)) b_law_joined ps).r h
    | none => .bad) = _
  rw [imp_one hg (pure_qs l)]
  have := join_body (m := m) (d := .loc 0) (h := ⟨1, [(0, .ro (l.map qd))]⟩) (l := l) (q := q) rfl e
  show (expD (exs (clOf TT (m + 1)) b_law_joined.body [some (.loc 0), none, none, none] ⟨1, [(0, .ro (l.map qd))]⟩)).r h = _
  rw [this]
  rfl
/-! ### the law's ways -/
def lwaysM (many k : Int) : Option Int := if rOk k then (match foldO (wayG many) (intsFrom 0 k.toNat) 1 with
  | some x => some (if k ≤ many then x else 0)
  | none => none) else none
theorem r_lways {m : Nat} {h : Hh} {many k w : Int} (e : lwaysM many k = some w) : (clOf TT (m + 1)).f 100 [.int many, .int k] h = .ok (.int w) h := by
  refine call_val (fd := b_law_ways) (h' := ⟨0, []⟩) rfl rfl rfl rfl rfl ?_
  show exs (clOf TT m) b_law_ways.body [some (.int many), some (.int k), none, none] ⟨0, []⟩ = _
  unfold b_law_ways
  unfold lwaysM at e
  split at e
  · rename_i hr
    split at e
    · rename_i x ex
      obtain ⟨v', hl⟩ := fork_map (cl := clOf TT m) (t := .nm 3) (b := .cons (.asg 2 (.bin .fdiv (.bin .mul (.var 2) (.bin .sub (.var 0) (.var 3))) (.bin .add (.var 3) (.cst (.int 1))))) .nil) D.int
        (fun (v : Option D) (s : Int) => [some (.int many), some (.int k), some (.int s), v]) (fun _ => ⟨0, []⟩) (wayG many) (fun i v s s' hg => by
          unfold wayG at hg
          split at hg
          · rename_i x hx
            split at hg
            · rename_i hd
              cases hg
              exact ⟨some (.int i), by simp only [s_nil, s_cons, s_asg, s_unp, s_par, s_sto, s_aug, s_aus, s_exp, s_ret, s_ife, s_for, s_whi, s_rai, s_tryw, e_cst, e_var, e_fnv, e_glb, e_bin, e_neg, e_cmp, e_chn, e_and, e_or, e_not, e_ite, e_cal, e_cax, e_blt, e_isi, e_mth, e_tup, e_lst, e_sub, e_slc, e_lc, es_nil, es_cons, ea_nil, ea_cons, eo_nil, eo_cons, eb_none, eb_some, ec_none, ec_some, b_ok, b_ex, t_ok, t_ex, st_nx, st_rt, st_ex, o_some, v_some, o_add, o_sub, o_mul, o_fdiv, o_mod, o_pow, c_lt, c_le, c_gt, c_ge, l_max, l_min, asgL, asgT, List.length_cons, List.length_nil, List.length_set, List.getElem?_cons_zero, List.getElem?_cons_succ, List.set_cons_zero, List.set_cons_succ, Option.map_some, if_true, if_false, decide_true, decide_false, Bool.not_true, Bool.not_false, Nat.zero_add, Nat.reduceAdd, Nat.reduceLT, Nat.zero_lt_succ, Bool.false_eq_true, reduceIte, reduceCtorEq, forF, mul_of hx, hd]⟩
            · cases hg
          · cases hg) (v := none) ex
      cases e
      by_cases z : k ≤ many
      · simp only [s_nil, s_cons, s_asg, s_unp, s_par, s_sto, s_aug, s_aus, s_exp, s_ret, s_ife, s_for, s_whi, s_rai, s_tryw, e_cst, e_var, e_fnv, e_glb, e_bin, e_neg, e_cmp, e_chn, e_and, e_or, e_not, e_ite, e_cal, e_cax, e_blt, e_isi, e_mth, e_tup, e_lst, e_sub, e_slc, e_lc, es_nil, es_cons, ea_nil, ea_cons, eo_nil, eo_cons, eb_none, eb_some, ec_none, ec_some, b_ok, b_ex, t_ok, t_ex, st_nx, st_rt, st_ex, o_some, v_some, o_add, o_sub, o_mul, o_fdiv, o_mod, o_pow, c_lt, c_le, c_gt, c_ge, l_max, l_min, asgL, asgT, List.length_cons, List.length_nil, List.length_set, List.getElem?_cons_zero, List.getElem?_cons_succ, List.set_cons_zero, List.set_cons_succ, Option.map_some, if_true, if_false, decide_true, decide_false, Bool.not_true, Bool.not_false, Nat.zero_add, Nat.reduceAdd, Nat.reduceLT, Nat.zero_lt_succ, Bool.false_eq_true, reduceIte, reduceCtorEq, iter_r1 hr, hl, z]
      · simp only [s_nil, s_cons, s_asg, s_unp, s_par, s_sto, s_aug, s_aus, s_exp, s_ret, s_ife, s_for, s_whi, s_rai, s_tryw, e_cst, e_var, e_fnv, e_glb, e_bin, e_neg, e_cmp, e_chn, e_and, e_or, e_not, e_ite, e_cal, e_cax, e_blt, e_isi, e_mth, e_tup, e_lst, e_sub, e_slc, e_lc, es_nil, es_cons, ea_nil, ea_cons, eo_nil, eo_cons, eb_none, eb_some, ec_none, ec_some, b_ok, b_ex, t_ok, t_ex, st_nx, st_rt, st_ex, o_some, v_some, o_add, o_sub, o_mul, o_fdiv, o_mod, o_pow, c_lt, c_le, c_gt, c_ge, l_max, l_min, asgL, asgT, List.length_cons, List.length_nil, List.length_set, List.getElem?_cons_zero, List.getElem?_cons_succ, List.set_cons_zero, List.set_cons_succ, Option.map_some, if_true, if_false, decide_true, decide_false, Bool.not_true, Bool.not_false, Nat.zero_add, Nat.reduceAdd, Nat.reduceLT, Nat.zero_lt_succ, Bool.false_eq_true, reduceIte, reduceCtorEq, iter_r1 hr, hl, z]
    · cases e
  · cases e
/-! ### draws -/
theorem len_scr {ns : List Int} {h : Hh} : bltD .len [.scr ns] h = some (.int ns.length, h) := by
  simp [bltD, itemsD]
theorem sub_scr {ns : List Int} {h : Hh} {i : Int} (h0 : 0 ≤ i) (h1 : i < ns.length) : ∃ v, subD (.scr ns) (.int i) h = some (.int v) := by
  have hlt : i.toNat < ns.length := by omega
  refine ⟨ns[i.toNat], ?_⟩
  simp only [subD, itemsD, ixN, List.length_map]
  rw [if_pos h0, if_pos h1]
  simp [List.getElem?_map, List.getElem?_eq_getElem hlt]
theorem mul_small {i j : Int} (h : j.natAbs < big64) : mulOk i j = true := by
  simp [mulOk, h]
theorem mul_small' {i j : Int} (h : i.natAbs < big64) : mulOk i j = true := by
  simp [mulOk, h]
theorem div_fold {l : List Int} : ∀ s : Int, ∃ s', foldO (fun (_ : Int) (s : Int) => some (s / 1000003)) l s = some s' := by
  induction l with
  | nil => exact fun s => ⟨s, rfl⟩
  | cons x l ih => exact fun s => ih (s / 1000003)
theorem r_cell {m : Nat} {h : Hh} (ns : List Int) (k : Int) (hk : 0 ≤ k) (hk2 : k ≤ 100000) : ∃ v, (clOf TT (m + 1)).f 11 [.scr ns, .int k] h = .ok (.int v) h := by
  have go : ∀ v h', exs (clOf TT m) b_law_cell_at.body [some (.scr ns), some (.int k), none, none] ⟨0, []⟩ = .rt (.int v) h' → (clOf TT (m + 1)).f 11 [.scr ns, .int k] h = .ok (.int v) h :=
    fun v h' e => call_val (fd := b_law_cell_at) (h' := h') rfl rfl rfl rfl rfl e
  by_cases h1 : k < ns.length
  · obtain ⟨v, hv⟩ := sub_scr (h := ⟨0, []⟩) (ns := ns) hk h1
    refine ⟨v, go v ⟨0, []⟩ ?_⟩
    unfold b_law_cell_at
    simp only [s_nil, s_cons, s_asg, s_unp, s_par, s_sto, s_aug, s_aus, s_exp, s_ret, s_ife, s_for, s_whi, s_rai, s_tryw, e_cst, e_var, e_fnv, e_glb, e_bin, e_neg, e_cmp, e_chn, e_and, e_or, e_not, e_ite, e_cal, e_cax, e_blt, e_isi, e_mth, e_tup, e_lst, e_sub, e_slc, e_lc, es_nil, es_cons, ea_nil, ea_cons, eo_nil, eo_cons, eb_none, eb_some, ec_none, ec_some, b_ok, b_ex, t_ok, t_ex, st_nx, st_rt, st_ex, o_some, v_some, o_add, o_sub, o_mul, o_fdiv, o_mod, o_pow, c_lt, c_le, c_gt, c_ge, l_max, l_min, asgL, asgT, List.length_cons, List.length_nil, List.length_set, List.getElem?_cons_zero, List.getElem?_cons_succ, List.set_cons_zero, List.set_cons_succ, Option.map_some, if_true, if_false, decide_true, decide_false, Bool.not_true, Bool.not_false, Nat.zero_add, Nat.reduceAdd, Nat.reduceLT, Nat.zero_lt_succ, Bool.false_eq_true, reduceIte, reduceCtorEq, len_scr, h1, hv]
  · have heq : ∀ b, (decide (ns = []) = b) → cmpD .eq (.scr ns) (.loc 0) ⟨1, [(0, .lst [])]⟩ = some b := by
      intro b hb
      subst hb
      have e1 : viewP vfuel ⟨1, [(0, .lst [])]⟩ (.scr ns) = some (.list (ns.map .int)) := rfl
      have e2 : viewP vfuel ⟨1, [(0, .lst [])]⟩ (.loc 0) = some (.list []) := rfl
      simp only [cmpD, eqD, e1, e2]
      cases ns <;> simp [eqP, eqPL]
    have e0 : (Hh.mk 0 []).new (.lst []) = ⟨1, [(0, .lst [])]⟩ := rfl
    by_cases h2 : ns = []
    · refine ⟨0, go 0 ⟨1, [(0, .lst [])]⟩ ?_⟩
      unfold b_law_cell_at
      simp only [s_nil, s_cons, s_asg, s_unp, s_par, s_sto, s_aug, s_aus, s_exp, s_ret, s_ife, s_for, s_whi, s_rai, s_tryw, e_cst, e_var, e_fnv, e_glb, e_bin, e_neg, e_cmp, e_chn, e_and, e_or, e_not, e_ite, e_cal, e_cax, e_blt, e_isi, e_mth, e_tup, e_lst, e_sub, e_slc, e_lc, es_nil, es_cons, ea_nil, ea_cons, eo_nil, eo_cons, eb_none, eb_some, ec_none, ec_some, b_ok, b_ex, t_ok, t_ex, st_nx, st_rt, st_ex, o_some, v_some, o_add, o_sub, o_mul, o_fdiv, o_mod, o_pow, c_lt, c_le, c_gt, c_ge, l_max, l_min, asgL, asgT, List.length_cons, List.length_nil, List.length_set, List.getElem?_cons_zero, List.getElem?_cons_succ, List.set_cons_zero, List.set_cons_succ, Option.map_some, if_true, if_false, decide_true, decide_false, Bool.not_true, Bool.not_false, Nat.zero_add, Nat.reduceAdd, Nat.reduceLT, Nat.zero_lt_succ, Bool.false_eq_true, reduceIte, reduceCtorEq, len_scr, h1, e0, heq true (by simp [h2])]
    · have hpos : (0 : Int) < ns.length := by
        have := List.length_pos_iff.mpr h2
        omega
      have hm1 : 0 ≤ k % ns.length := Int.emod_nonneg _ (by omega)
      have hm2 : k % ns.length < ns.length := Int.emod_lt_of_pos _ hpos
      obtain ⟨v, hv⟩ := sub_scr (h := ⟨1, [(0, .lst [])]⟩) (ns := ns) hm1 hm2
      have hd : divOk (ns.length : Int) = true := by
        simp only [divOk, Bool.and_eq_true, decide_eq_true_eq]
        refine ⟨hpos, ?_⟩
        have hle : ns.length ≤ 100000 := by omega
        have : (ns.length : Int).natAbs = ns.length := by simp
        rw [this]
        rw [Nat.log2_lt (by omega)]
        exact Nat.lt_of_le_of_lt hle (Nat.lt_of_lt_of_le (by decide : 100000 < 2 ^ 17) (Nat.pow_le_pow_right (by decide) (by decide)))
      have hq : rOk (if (60 : Int) < k / ns.length then 60 else k / ns.length) = true := by
        have : 0 ≤ k / ns.length := Int.ediv_nonneg hk (by omega)
        simp only [rOk, Bool.and_eq_true, decide_eq_true_eq]
        split <;> omega
      have hd2 : divOk 1000003 = true := by decide
      obtain ⟨s', hs'⟩ := div_fold (l := intsFrom 0 (if (60 : Int) < k / ns.length then 60 else k / ns.length).toNat) v
      obtain ⟨v', hl⟩ := fork_map (cl := clOf TT m) (t := .nm 3) (b := .cons (.asg 2 (.bin .fdiv (.var 2) (.cst (.int 1000003)))) .nil) D.int
        (fun (w : Option D) (s : Int) => [some (.scr ns), some (.int k), some (.int s), w]) (fun _ => ⟨1, [(0, .lst [])]⟩) (fun _ s => some (s / 1000003)) (fun i w s s2 hg => by
          cases hg
          exact ⟨some (.int i), by simp only [s_nil, s_cons, s_asg, s_unp, s_par, s_sto, s_aug, s_aus, s_exp, s_ret, s_ife, s_for, s_whi, s_rai, s_tryw, e_cst, e_var, e_fnv, e_glb, e_bin, e_neg, e_cmp, e_chn, e_and, e_or, e_not, e_ite, e_cal, e_cax, e_blt, e_isi, e_mth, e_tup, e_lst, e_sub, e_slc, e_lc, es_nil, es_cons, ea_nil, ea_cons, eo_nil, eo_cons, eb_none, eb_some, ec_none, ec_some, b_ok, b_ex, t_ok, t_ex, st_nx, st_rt, st_ex, o_some, v_some, o_add, o_sub, o_mul, o_fdiv, o_mod, o_pow, c_lt, c_le, c_gt, c_ge, l_max, l_min, asgL, asgT, List.length_cons, List.length_nil, List.length_set, List.getElem?_cons_zero, List.getElem?_cons_succ, List.set_cons_zero, List.set_cons_succ, Option.map_some, if_true, if_false, decide_true, decide_false, Bool.not_true, Bool.not_false, Nat.zero_add, Nat.reduceAdd, Nat.reduceLT, Nat.zero_lt_succ, Bool.false_eq_true, reduceIte, reduceCtorEq, forF, hd2]⟩) (v := none) hs'
      refine ⟨v * 31 + k + s' * 101, go _ ⟨1, [(0, .lst [])]⟩ ?_⟩
      unfold b_law_cell_at
      have mn : (if (60 : Int) < k / ns.length then (60 : Int) else k / ns.length) = (if (60 : Int) < k / ns.length then (60 : Int) else k / ns.length) := rfl
      simp only [s_nil, s_cons, s_asg, s_unp, s_par, s_sto, s_aug, s_aus, s_exp, s_ret, s_ife, s_for, s_whi, s_rai, s_tryw, e_cst, e_var, e_fnv, e_glb, e_bin, e_neg, e_cmp, e_chn, e_and, e_or, e_not, e_ite, e_cal, e_cax, e_blt, e_isi, e_mth, e_tup, e_lst, e_sub, e_slc, e_lc, es_nil, es_cons, ea_nil, ea_cons, eo_nil, eo_cons, eb_none, eb_some, ec_none, ec_some, b_ok, b_ex, t_ok, t_ex, st_nx, st_rt, st_ex, o_some, v_some, o_add, o_sub, o_mul, o_fdiv, o_mod, o_pow, c_lt, c_le, c_gt, c_ge, l_max, l_min, asgL, asgT, List.length_cons, List.length_nil, List.length_set, List.getElem?_cons_zero, List.getElem?_cons_succ, List.set_cons_zero, List.set_cons_succ, Option.map_some, if_true, if_false, decide_true, decide_false, Bool.not_true, Bool.not_false, Nat.zero_add, Nat.reduceAdd, Nat.reduceLT, Nat.zero_lt_succ, Bool.false_eq_true, reduceIte, reduceCtorEq, len_scr, h1, e0, heq false (by simp [h2]), hpos, hv, hd, iter_r1 hq, hl, mul_small (i := v) (j := 31) (by decide), mul_small (i := s') (j := 101) (by decide)]
theorem getL_set (i j : Nat) (o : O) : ∀ l : List (Nat × O), getL j (setL i o l) = if j = i then (getL i l).map (fun _ => o) else getL j l
  | [] => by simp [getL, setL]
  | (k, p) :: r => by
    have ih := getL_set i j o r
    by_cases e : i = k
    · subst e
      by_cases e2 : j = i
      · subst e2
        simp [setL, getL]
      · simp [setL, getL, e2]
    · by_cases e2 : j = k
      · subst e2
        have : ¬ j = i := fun z => e z.symm
        simp [setL, getL, e, this]
      · simp [setL, getL, e, e2, ih]
theorem get_set (h : Hh) (i : Nat) (o : O) (j : Nat) : (h.set i o).get j = if j = i then (h.get i).map (fun _ => o) else h.get j := getL_set i j o h.ob
theorem setL_set (i : Nat) (o o' : O) : ∀ l : List (Nat × O), setL i o' (setL i o l) = setL i o' l
  | [] => rfl
  | (k, p) :: r => by
    by_cases e : i = k
    · subst e
      simp [setL]
    · simp [setL, e, setL_set i o o' r]
theorem set_set (h : Hh) (i : Nat) (o o' : O) : (h.set i o).set i o' = h.set i o' := by
  simp [Hh.set, setL_set]
theorem r_mixed {m : Nat} {h : Hh} (ns : List Int) (k many : Int) (hk : 0 ≤ k) (hk2 : k ≤ 100000) (hm : 0 < many) : ∃ v, 0 ≤ v ∧ v < many ∧ (clOf TT (m + 2)).f 12 [.scr ns, .int k, .int many] h = .ok (.int v) h := by
  obtain ⟨c, hc⟩ := r_cell (m := m) (h := ⟨0, []⟩) ns k hk hk2
  let sp : Int := (c * 1103515245 + 7919 * k + 12345) % 2147483647
  have s0 : 0 ≤ sp := Int.emod_nonneg _ (by decide)
  have s1 : sp < 2147483647 := Int.emod_lt_of_pos _ (by decide)
  have hp : 0 ≤ (5 : Int) ∧ (5 : Int) ≤ 1000 ∧ sp.natAbs < big64 := ⟨by decide, by decide, by
    have : sp.natAbs < 2147483647 := by omega
    exact Nat.lt_trans this (by decide)⟩
  refine ⟨sp ^ (5 : Int).toNat % 2147483647 % 999983 % many, Int.emod_nonneg _ (by omega), Int.emod_lt_of_pos _ hm, ?_⟩
  refine call_val (fd := b_law_mixed) (h' := ⟨0, []⟩) rfl rfl rfl rfl rfl ?_
  show exs (clOf TT (m + 1)) b_law_mixed.body [some (.scr ns), some (.int k), some (.int many), none] ⟨0, []⟩ = _
  unfold b_law_mixed
  have e1 : ((c * 1103515245 + 7919 * k + 12345) % 2147483647) = sp := rfl
  have p1 : (0 : Int) < 2147483647 := by decide
  have p2 : (0 : Int) < 999983 := by decide
  simp only [s_nil, s_cons, s_asg, s_unp, s_par, s_sto, s_aug, s_aus, s_exp, s_ret, s_ife, s_for, s_whi, s_rai, s_tryw, e_cst, e_var, e_fnv, e_glb, e_bin, e_neg, e_cmp, e_chn, e_and, e_or, e_not, e_ite, e_cal, e_cax, e_blt, e_isi, e_mth, e_tup, e_lst, e_sub, e_slc, e_lc, es_nil, es_cons, ea_nil, ea_cons, eo_nil, eo_cons, eb_none, eb_some, ec_none, ec_some, b_ok, b_ex, t_ok, t_ex, st_nx, st_rt, st_ex, o_some, v_some, o_add, o_sub, o_mul, o_fdiv, o_mod, o_pow, c_lt, c_le, c_gt, c_ge, l_max, l_min, asgL, asgT, List.length_cons, List.length_nil, List.length_set, List.getElem?_cons_zero, List.getElem?_cons_succ, List.set_cons_zero, List.set_cons_succ, Option.map_some, if_true, if_false, decide_true, decide_false, Bool.not_true, Bool.not_false, Nat.zero_add, Nat.reduceAdd, Nat.reduceLT, Nat.zero_lt_succ, Bool.false_eq_true, reduceIte, reduceCtorEq, hc, mul_small (i := c) (j := 1103515245) (by decide), mul_small' (i := 7919) (j := k) (by decide), p1, e1, if_pos hp, p2, hm]
theorem r_draw {m : Nat} {h : Hh} {ns : List Int} {a : Nat} {xs : List D} {many : Int} (hg : h.get a = some (.lst xs)) (hl : xs.length < 99999) (hm : 0 < many) :
    ∃ v, 0 ≤ v ∧ v < many ∧ (clOf TT (m + 3)).f 13 [.scr ns, .loc a, .int many] h = .ok (.int v) (h.set a (.lst (xs ++ [.int 0]))) := by
  have g2 : (h.set a (.lst (xs ++ [.int 0]))).get a = some (.lst (xs ++ [.int 0])) := by simp [get_set, hg]
  obtain ⟨v, v0, v1, hv⟩ := r_mixed (m := m) (h := h.set a (.lst (xs ++ [.int 0]))) ns ((xs ++ [D.int 0]).length : Nat) many (by omega) (by simp; omega) hm
  refine ⟨v, v0, v1, ?_⟩
  rw [clf']
  show runG (clOf TT (m + 2)) b_law_draw [.scr ns, .loc a, .int many] h = _
  have e : exs (clOf TT (m + 2)) b_law_draw.body [some (.scr ns), some (.loc a), some (.int many)] h = .rt (.int v) (h.set a (.lst (xs ++ [.int 0]))) := by
    unfold b_law_draw
    have rc : recvD .append (.loc a) h = true := by simp [recvD, hg]
    have ap : mthD .append (.loc a) [.int 0] h = some (.non, h.set a (.lst (xs ++ [.int 0]))) := by
      simp only [mthD, hg]
      rw [if_pos (Nat.lt_trans hl (by decide))]
    have ln : bltD .len [.loc a] (h.set a (.lst (xs ++ [.int 0]))) = some (.int ((xs ++ [D.int 0]).length : Nat), h.set a (.lst (xs ++ [.int 0]))) := by
      simp only [bltD, itemsD, g2]
    simp only [s_nil, s_cons, s_asg, s_unp, s_par, s_sto, s_aug, s_aus, s_exp, s_ret, s_ife, s_for, s_whi, s_rai, s_tryw, e_cst, e_var, e_fnv, e_glb, e_bin, e_neg, e_cmp, e_chn, e_and, e_or, e_not, e_ite, e_cal, e_cax, e_blt, e_isi, e_mth, e_tup, e_lst, e_sub, e_slc, e_lc, es_nil, es_cons, ea_nil, ea_cons, eo_nil, eo_cons, eb_none, eb_some, ec_none, ec_some, b_ok, b_ex, t_ok, t_ex, st_nx, st_rt, st_ex, o_some, v_some, o_add, o_sub, o_mul, o_fdiv, o_mod, o_pow, c_lt, c_le, c_gt, c_ge, l_max, l_min, asgL, asgT, List.length_cons, List.length_nil, List.length_set, List.getElem?_cons_zero, List.getElem?_cons_succ, List.set_cons_zero, List.set_cons_succ, Option.map_some, if_true, if_false, decide_true, decide_false, Bool.not_true, Bool.not_false, Nat.zero_add, Nat.reduceAdd, Nat.reduceLT, Nat.zero_lt_succ, Bool.false_eq_true, reduceIte, reduceCtorEq, rc, ap, ln, hv]
  show (exs (clOf TT (m + 2)) b_law_draw.body [some (.scr ns), some (.loc a), some (.int many)] h).r = _
  rw [e]
  rfl
theorem r_some {m : Nat} {h : Hh} {ns : List Int} {a : Nat} {xs : List D} {most : Int} (hg : h.get a = some (.lst xs)) (hl : xs.length < 99990) (hm : 0 < most) (hm8 : most ≤ 8) :
    ∃ n s had, ok3 n s had = true ∧ n ≤ most ∧ (clOf TT (m + 4)).f 14 [.scr ns, .loc a, .int most] h = .ok (.tup [.int n, .int s, .int had]) (h.set a (.lst (xs ++ [.int 0, .int 0, .int 0]))) := by
  obtain ⟨v, v0, v1, hv⟩ := r_draw (m := m) (ns := ns) hg (by omega) hm
  have g2 : (h.set a (.lst (xs ++ [.int 0]))).get a = some (.lst (xs ++ [.int 0])) := by simp [get_set, hg]
  obtain ⟨w, w0, w1, hw⟩ := r_draw (m := m) (ns := ns) (many := 1 + v) g2 (by simp; omega) (by omega)
  rw [set_set] at hw
  have g3 : (h.set a (.lst (xs ++ [.int 0] ++ [.int 0]))).get a = some (.lst (xs ++ [.int 0] ++ [.int 0])) := by simp [get_set, hg]
  obtain ⟨u, u0, u1, hu⟩ := r_draw (m := m) (ns := ns) (many := 1 + v + 1) g3 (by simp; omega) (by omega)
  rw [set_set] at hu
  refine ⟨1 + v, 1 + w, u, ?_, by omega, ?_⟩
  · simp only [ok3, Bool.and_eq_true, decide_eq_true_eq]
    omega
  · rw [clf']
    show (exs (clOf TT (m + 3)) b_law_some_album.body [some (.scr ns), some (.loc a), some (.int most), none] h).r = _
    have e : exs (clOf TT (m + 3)) b_law_some_album.body [some (.scr ns), some (.loc a), some (.int most), none] h = .rt (.tup [.int (1 + v), .int (1 + w), .int u]) (h.set a (.lst (xs ++ [.int 0] ++ [.int 0] ++ [.int 0]))) := by
      unfold b_law_some_album
      simp only [s_nil, s_cons, s_asg, s_unp, s_par, s_sto, s_aug, s_aus, s_exp, s_ret, s_ife, s_for, s_whi, s_rai, s_tryw, e_cst, e_var, e_fnv, e_glb, e_bin, e_neg, e_cmp, e_chn, e_and, e_or, e_not, e_ite, e_cal, e_cax, e_blt, e_isi, e_mth, e_tup, e_lst, e_sub, e_slc, e_lc, es_nil, es_cons, ea_nil, ea_cons, eo_nil, eo_cons, eb_none, eb_some, ec_none, ec_some, b_ok, b_ex, t_ok, t_ex, st_nx, st_rt, st_ex, o_some, v_some, o_add, o_sub, o_mul, o_fdiv, o_mod, o_pow, c_lt, c_le, c_gt, c_ge, l_max, l_min, asgL, asgT, List.length_cons, List.length_nil, List.length_set, List.getElem?_cons_zero, List.getElem?_cons_succ, List.set_cons_zero, List.set_cons_succ, Option.map_some, if_true, if_false, decide_true, decide_false, Bool.not_true, Bool.not_false, Nat.zero_add, Nat.reduceAdd, Nat.reduceLT, Nat.zero_lt_succ, Bool.false_eq_true, reduceIte, reduceCtorEq, hv, hw, hu]
    rw [e]
    simp [SR.r]
end Alb.Rn
set_option Elab.async false
set_option linter.all false
set_option maxRecDepth 100000
set_option maxHeartbeats 4000000
/-! Comparisons of fractions; the finite albums. -/
namespace Alb.Rn
open PySem Alb
def qp (q : Q) : PyData := .tuple [.int q.1, .int q.2]
theorem view_q {n : Nat} {h : Hh} {q : Q} : viewP (n + 2) h (qd q) = some (qp q) := rfl
theorem eq_q (p q : Q) : eqP (qp p) (qp q) = decide (p = q) := by
  obtain ⟨a, b⟩ := p
  obtain ⟨c, d⟩ := q
  by_cases h1 : a = c <;> by_cases h2 : b = d <;> simp [qp, eqP, eqPL, h1, h2]
theorem view_qs {n : Nat} {h : Hh} : ∀ l : List Q, mapO (viewP (n + 2) h) (l.map qd) = some (l.map qp)
  | [] => rfl
  | q :: l => by simp [mapO, view_q, view_qs l]
theorem eq_qs : ∀ l l' : List Q, eqPL (l.map qp) (l'.map qp) = decide (l = l')
  | [], [] => rfl
  | [], _ :: _ => rfl
  | _ :: _, [] => rfl
  | p :: l, q :: l' => by
    simp only [List.map_cons, eqPL, eq_q, eq_qs l l']
    by_cases h1 : p = q <;> by_cases h2 : l = l' <;> simp [h1, h2]
theorem c_eqQ {p q : Q} {h : Hh} : cmpD .eq (qd p) (qd q) h = some (decide (p = q)) := by
  have e1 : viewP vfuel h (qd p) = some (qp p) := rfl
  have e2 : viewP vfuel h (qd q) = some (qp q) := rfl
  simp only [cmpD, eqD, e1, e2, eq_q]
theorem c_neQ {p q : Q} {h : Hh} : cmpD .ne (qd p) (qd q) h = some (!decide (p = q)) := by
  have e1 : viewP vfuel h (qd p) = some (qp p) := rfl
  have e2 : viewP vfuel h (qd q) = some (qp q) := rfl
  simp only [cmpD, eqD, e1, e2, eq_q]
theorem view_tup {h : Hh} {l : List Q} : viewP vfuel h (.tup (l.map qd)) = some (.tuple (l.map qp)) := by
  show (match mapO (viewP 9 h) (l.map qd) with
    | some ys => some (PyData.tuple ys)
    | none => none) = _
  rw [view_qs (n := 7)]
theorem c_eqT {l l' : List Q} {h : Hh} : cmpD .eq (.tup (l.map qd)) (.tup (l'.map qd)) h = some (decide (l = l')) := by
  simp only [cmpD, eqD, view_tup, eqP, eq_qs]
theorem c_neT {l l' : List Q} {h : Hh} : cmpD .ne (.tup (l.map qd)) (.tup (l'.map qd)) h = some (!decide (l = l')) := by
  simp only [cmpD, eqD, view_tup, eqP, eq_qs]
theorem cut_map {l : List Q} {lo hi : Option Int} : cut (l.map qd) lo hi = (cut l lo hi).map qd := by
  simp [cut, List.map_take, List.map_drop]
theorem slc_tup {l : List Q} {lo hi : Option Int} {h : Hh} : slcD (.tup (l.map qd)) lo hi h = some (.tup ((cut l lo hi).map qd), h) := by
  simp only [slcD, cut_map]
theorem flat_rep (q : Q) : ∀ k : Nat, (List.replicate k [qd q]).flatten = (List.replicate k q).map qd
  | 0 => rfl
  | k + 1 => by simp [List.replicate_succ, flat_rep q k]
theorem mul_tup {q : Q} {k : Int} {h : Hh} (h0 : -1000 ≤ k) (h1 : k ≤ 1000) : binD .mul (.tup [qd q]) (.int k) h = some (.tup ((List.replicate k.toNat q).map qd), h) := by
  show (if 0 < [qd q].length ∧ k ≤ 1000 ∧ [qd q].length ≤ 1000 ∧ -1000 ≤ k then some (D.tup (List.replicate k.toNat [qd q]).flatten, h) else none) = _
  rw [if_pos ⟨by simp, h1, by simp, h0⟩, flat_rep]
/-! ### the albums -/
def albs (n : Nat) : List (Nat × Nat) := (List.range n).flatMap fun s => (List.range (n + 1)).map fun h => (s + 1, h)
theorem mem_albs {n s had : Nat} (h1 : 1 ≤ s) (h2 : s ≤ n) (h3 : had ≤ n) : (s, had) ∈ albs n := by
  simp only [albs, List.mem_flatMap, List.mem_map, List.mem_range]
  exact ⟨s - 1, by omega, had, by omega, by simp; omega⟩
/-- what holds of all albums up to most -/
theorem all_albs {most : Nat} {f : Int → Int → Int → Bool} (h : ∀ n, 1 ≤ n → n ≤ most → (albs n).all (fun x => f n x.1 x.2) = true) {n s had : Int} (o : ok3 n s had = true) (hm : n ≤ most) : f n s had = true := by
  simp only [ok3, Bool.and_eq_true, decide_eq_true_eq] at o
  have hh := h n.toNat (by omega) (by omega)
  rw [List.all_eq_true] at hh
  have := hh (s.toNat, had.toNat) (mem_albs (by omega) (by omega) (by omega))
  have e1 : ((n.toNat : Nat) : Int) = n := by omega
  have e2 : ((s.toNat : Nat) : Int) = s := by omega
  have e3 : ((had.toNat : Nat) : Int) = had := by omega
  simp only [e1, e2, e3] at this
  exact this
theorem all_lt {k : Nat} {f : Int → Bool} (h : (List.range k).all (fun i => f i) = true) {i : Int} (h0 : 0 ≤ i) (h1 : i < k) : f i = true := by
  rw [List.all_eq_true] at h
  have := h i.toNat (List.mem_range.mpr (by omega))
  have e1 : ((i.toNat : Nat) : Int) = i := by omega
  rw [e1] at this
  exact this
end Alb.Rn
set_option Elab.async false
set_option linter.all false
set_option maxRecDepth 100000
set_option maxHeartbeats 4000000
/-! Fractions in lowest terms: what they stand for. -/
namespace Alb.Rn
open PySem Alb
/-- a / b in lowest terms -/
def red (a : Int) (b : Nat) : Q := (a / (Nat.gcd a.natAbs b : Nat), (b / Nat.gcd a.natAbs b : Nat))
theorem red_mul (a : Int) (b k : Nat) (hb : 0 < b) (hk : 0 < k) : red (a * k) (b * k) = red a b := by
  have hg : 0 < Nat.gcd a.natAbs b := Nat.gcd_pos_of_pos_right _ hb
  have e1 : Nat.gcd (a * k).natAbs (b * k) = Nat.gcd a.natAbs b * k := by
    rw [Int.natAbs_mul, Int.natAbs_natCast, Nat.gcd_mul_right]
  unfold red
  rw [e1]
  refine Prod.ext ?_ ?_
  · show a * k / ((Nat.gcd a.natAbs b * k : Nat) : Int) = _
    rw [Int.natCast_mul]
    exact Int.mul_ediv_mul_of_pos_left _ _ (by omega)
  · show ((b * k / (Nat.gcd a.natAbs b * k) : Nat) : Int) = _
    rw [Nat.mul_div_mul_right _ _ hk]
/-- the same value, the same lowest terms -/
theorem red_eq {a c : Int} {b d : Nat} (hb : 0 < b) (hd : 0 < d) (h : a * d = c * b) : red a b = red c d := by
  rw [← red_mul a b d hb hd, ← red_mul c d b hd hb, h, Nat.mul_comm d b]
theorem red_parts (a : Int) (b : Nat) (hb : 0 < b) : ∃ (x : Int) (y g : Nat), red a b = (x, (y : Int)) ∧ 0 < g ∧ 0 < y ∧ a = x * g ∧ b = y * g := by
  have hg : 0 < Nat.gcd a.natAbs b := Nat.gcd_pos_of_pos_right _ hb
  have d1 : ((Nat.gcd a.natAbs b : Nat) : Int) ∣ a := Int.ofNat_dvd_left.mpr (Nat.gcd_dvd_left _ _)
  have d2 : Nat.gcd a.natAbs b ∣ b := Nat.gcd_dvd_right _ _
  refine ⟨_, _, Nat.gcd a.natAbs b, rfl, hg, Nat.div_pos (Nat.le_of_dvd hb d2) hg, ?_, ?_⟩
  · exact (Int.ediv_mul_cancel d1).symm
  · exact (Nat.div_mul_cancel d2).symm
theorem red_inj {a c : Int} {b d : Nat} (hb : 0 < b) (hd : 0 < d) (h : red a b = red c d) : a * d = c * b := by
  obtain ⟨x, y, g, e1, hg, hy, rfl, rfl⟩ := red_parts a b hb
  obtain ⟨x', y', g', e2, hg', hy', rfl, rfl⟩ := red_parts c d hd
  rw [e1, e2] at h
  have hx : x = x' := congrArg Prod.fst h
  have hyy : (y : Int) = (y' : Int) := congrArg Prod.snd h
  have : y = y' := by omega
  subst hx this
  simp only [Int.natCast_mul]
  rw [Int.mul_assoc, Int.mul_assoc]
  congr 1
  rw [Int.mul_left_comm (g : Int), Int.mul_left_comm (g' : Int), Int.mul_comm (g' : Int)]
/-- not too long -/
def Sm (a : Int) : Prop := a.natAbs < 2 ^ 4000
theorem low_red {a : Int} {b : Nat} (hb : 0 < b) (hl : b < 2 ^ 9000) : lowM a b = some (red a b) := by
  show (if 0 < b ∧ b.log2 < 9000 then _ else none) = _
  rw [if_pos ⟨hb, (Nat.log2_lt (by omega)).mpr hl⟩]
  rfl
theorem mul_sm {a b : Int} (ha : Sm a) (hb : Sm b) : mulM a b = some (a * b) := by
  unfold mulM
  have lg : ∀ {x : Int}, Sm x → x.natAbs.log2 < 4001 := fun {x} h => by
    by_cases z : x.natAbs = 0
    · rw [z]
      decide
    · exact Nat.lt_trans ((Nat.log2_lt z).mpr h) (by decide)
  rw [if_pos]
  simp only [mulOk, Bool.or_eq_true, decide_eq_true_eq]
  right
  have := lg ha
  have := lg hb
  omega
theorem sm_red {a : Int} {b : Nat} (hb : 0 < b) (ha : Sm a) (hs : Sm b) : Sm (red a b).1 ∧ Sm (red a b).2 := by
  obtain ⟨x, y, g, e, hg, hy, rfl, rfl⟩ := red_parts a b hb
  rw [e]
  constructor
  · refine Nat.lt_of_le_of_lt ?_ ha
    show x.natAbs ≤ (x * g).natAbs
    rw [Int.natAbs_mul, Int.natAbs_natCast]
    exact Nat.le_mul_of_pos_right _ hg
  · refine Nat.lt_of_le_of_lt ?_ hs
    show ((y : Int)).natAbs ≤ ((y * g : Nat) : Int).natAbs
    rw [Int.natAbs_natCast, Int.natAbs_natCast]
    exact Nat.le_mul_of_pos_right _ hg
theorem pow_9000 {x y : Nat} (hx : x < 2 ^ 4000) (hy : y < 2 ^ 4000) : x * y < 2 ^ 9000 := by
  have : x * y < 2 ^ 4000 * 2 ^ 4000 := Nat.mul_lt_mul'' hx hy
  rw [← Nat.pow_add] at this
  exact Nat.lt_of_lt_of_le this (Nat.pow_le_pow_right (by decide) (by decide))
theorem times_red {a c : Int} {b d : Nat} (hb : 0 < b) (hd : 0 < d) (ha : Sm a) (hsb : Sm b) (hc : Sm c) (hsd : Sm d) : timesM (red a b) (red c d) = some (red (a * c) (b * d)) := by
  have s1 := sm_red hb ha hsb
  have s2 := sm_red hd hc hsd
  obtain ⟨x, y, g, e1, hg, hy, r1, r2⟩ := red_parts a b hb
  obtain ⟨x', y', g', e2, hg', hy', r3, r4⟩ := red_parts c d hd
  rw [e1] at s1
  rw [e2] at s2
  unfold timesM
  rw [e1, e2]
  simp only [mul_sm s1.1 s2.1, mul_sm s1.2 s2.2]
  have : ((y : Int) * (y' : Int)) = ((y * y' : Nat) : Int) := (Int.natCast_mul y y').symm
  have b1 : y < 2 ^ 4000 := by
    have := s1.2
    simpa [Sm] using this
  have b2 : y' < 2 ^ 4000 := by
    have := s2.2
    simpa [Sm] using this
  rw [this, low_red (Nat.mul_pos hy hy') (pow_9000 b1 b2)]
  congr 1
  rw [← red_mul (x * x') (y * y') (g * g') (Nat.mul_pos hy hy') (Nat.mul_pos hg hg'), r1, r2, r3, r4]
  congr 1
  · simp only [Int.natCast_mul]
    rw [Int.mul_assoc, Int.mul_assoc, Int.mul_left_comm x' (g : Int)]
  · rw [Nat.mul_assoc, Nat.mul_assoc, Nat.mul_left_comm y' g]
theorem plus_red {a c : Int} {b d : Nat} (hb : 0 < b) (hd : 0 < d) (ha : Sm a) (hsb : Sm b) (hc : Sm c) (hsd : Sm d) : plusM (red a b) (red c d) = some (red (a * d + c * b) (b * d)) := by
  have s1 := sm_red hb ha hsb
  have s2 := sm_red hd hc hsd
  obtain ⟨x, y, g, e1, hg, hy, r1, r2⟩ := red_parts a b hb
  obtain ⟨x', y', g', e2, hg', hy', r3, r4⟩ := red_parts c d hd
  rw [e1] at s1
  rw [e2] at s2
  unfold plusM
  rw [e1, e2]
  simp only [mul_sm s1.1 s2.2, mul_sm s2.1 s1.2, mul_sm s1.2 s2.2]
  have : ((y : Int) * (y' : Int)) = ((y * y' : Nat) : Int) := (Int.natCast_mul y y').symm
  have b1 : y < 2 ^ 4000 := by
    have := s1.2
    simpa [Sm] using this
  have b2 : y' < 2 ^ 4000 := by
    have := s2.2
    simpa [Sm] using this
  rw [this, low_red (Nat.mul_pos hy hy') (pow_9000 b1 b2)]
  congr 1
  rw [← red_mul (x * y' + x' * y) (y * y') (g * g') (Nat.mul_pos hy hy') (Nat.mul_pos hg hg'), r1, r2, r3, r4]
  congr 1
  · simp only [Int.natCast_mul, Int.add_mul]
    congr 1
    · rw [Int.mul_assoc, Int.mul_assoc, Int.mul_left_comm (y' : Int) (g : Int)]
    · rw [Int.mul_assoc, Int.mul_assoc, Int.mul_left_comm (g' : Int) (y : Int), Int.mul_comm (g : Int) (g' : Int)]
  · rw [Nat.mul_assoc, Nat.mul_assoc, Nat.mul_left_comm y' g]
/-- over one denominator -/
theorem plus_com {a c : Int} {b : Nat} (hb : 0 < b) (ha : Sm a) (hsb : Sm b) (hc : Sm c) : plusM (red a b) (red c b) = some (red (a + c) b) := by
  rw [plus_red hb hb ha hsb hc hsb, ← Int.add_mul, red_mul _ _ _ hb hb]
theorem join_plus (p q : Q) : joinG q p = plusM p q := rfl
end Alb.Rn
set_option Elab.async false
set_option linter.all false
set_option maxRecDepth 100000
set_option maxHeartbeats 4000000
set_option exponentiation.threshold 100000
/-! Spreads as whole numbers over one denominator. -/
namespace Alb.Rn
open PySem Alb
def wv (a b : Int) : Int := (waysM a b).getD 0
theorem ways_chk : ((List.range 9).all fun a => (List.range 17).all fun b => match waysM a ((b : Int) - 8) with
    | some w => decide (0 ≤ w) && decide (w ≤ 70)
    | none => false) = true := by decide +kernel
theorem ways_tab {a b : Int} (h1 : 0 ≤ a) (h2 : a ≤ 8) (h3 : -8 ≤ b) (h4 : b ≤ 8) : waysM a b = some (wv a b) ∧ 0 ≤ wv a b ∧ wv a b ≤ 70 := by
  have := ways_chk
  rw [List.all_eq_true] at this
  have := this a.toNat (List.mem_range.mpr (by omega))
  rw [List.all_eq_true] at this
  have := this (b + 8).toNat (List.mem_range.mpr (by omega))
  have e1 : ((a.toNat : Nat) : Int) = a := by omega
  have e2 : (((b + 8).toNat : Nat) : Int) - 8 = b := by omega
  rw [e1, e2] at this
  unfold wv
  cases q : waysM a b with
  | none =>
    rw [q] at this
    cases this
  | some w =>
    rw [q] at this
    simp only [Bool.and_eq_true, decide_eq_true_eq] at this
    exact ⟨rfl, this.1, this.2⟩
theorem pos_chk : ((List.range 9).all fun n => (List.range 9).all fun s => !(decide (1 ≤ s) && decide (s ≤ n)) || decide (0 < wv n s)) = true := by decide +kernel
theorem ways_pos {n s : Int} (h1 : 1 ≤ s) (h2 : s ≤ n) (h3 : n ≤ 8) : 0 < wv n s := by
  have := pos_chk
  rw [List.all_eq_true] at this
  have := this n.toNat (List.mem_range.mpr (by omega))
  rw [List.all_eq_true] at this
  have := this s.toNat (List.mem_range.mpr (by omega))
  have e1 : ((n.toNat : Nat) : Int) = n := by omega
  have e2 : ((s.toNat : Nat) : Int) = s := by omega
  rw [e1, e2] at this
  simp only [Bool.or_eq_true, Bool.not_eq_true', Bool.and_eq_false_iff, decide_eq_false_iff_not, decide_eq_true_eq] at this
  omega
/-- how many packs bring f new ones; how many packs -/
def wN (n s had f : Int) : Int := wv (n - had) f * wv had (s - f)
def WN (n s : Int) : Nat := (wv n s).toNat
theorem sm_of {a : Int} {k : Nat} (h : a.natAbs ≤ k) (hk : k < 2 ^ 4000) : Sm a := Nat.lt_of_le_of_lt h hk
structure Alm (n s : Int) : Prop where
  n1 : 1 ≤ n
  n8 : n ≤ 8
  s1 : 1 ≤ s
  sn : s ≤ n
theorem Alm.of {n s had : Int} (o : ok3 n s had = true) : Alm n s := by
  simp only [ok3, Bool.and_eq_true, decide_eq_true_eq] at o
  exact ⟨by omega, by omega, by omega, by omega⟩
theorem WN_pos {n s : Int} (a : Alm n s) : 0 < WN n s ∧ WN n s ≤ 70 ∧ ((WN n s : Nat) : Int) = wv n s := by
  have h := ways_pos a.s1 a.sn a.n8
  have t := ways_tab (a := n) (b := s) (by have := a.n1; omega) a.n8 (by have := a.s1; omega) (by have := a.sn; have := a.n8; omega)
  unfold WN
  omega
theorem wN_bd {n s had f : Int} (a : Alm n s) (h0 : 0 ≤ had) (f0 : 0 ≤ f) (hf : had + f ≤ n) : freshM n s had f = some (red (wN n s had f) (WN n s)) ∧ 0 ≤ wN n s had f ∧ wN n s had f ≤ 4900 := by
  obtain ⟨n1, n8, s1, sn⟩ := a
  have t1 := ways_tab (a := n - had) (b := f) (by omega) (by omega) (by omega) (by omega)
  have t2 := ways_tab (a := had) (b := s - f) (by omega) (by omega) (by omega) (by omega)
  have t3 := ways_tab (a := n) (b := s) (by omega) (by omega) (by omega) (by omega)
  obtain ⟨w1, w2, w3⟩ := WN_pos ⟨n1, n8, s1, sn⟩
  have b1 : wv (n - had) f * wv had (s - f) ≤ 70 * 70 := Int.mul_le_mul t1.2.2 t2.2.2 t2.2.1 (by decide)
  have b0 : 0 ≤ wv (n - had) f * wv had (s - f) := Int.mul_nonneg t1.2.1 t2.2.1
  refine ⟨?_, b0, b1⟩
  unfold freshM
  rw [t1.1, t2.1, t3.1]
  simp only
  rw [mul_sm (sm_of (k := 70) (by omega) (by decide)) (sm_of (k := 70) (by omega) (by decide))]
  simp only
  rw [← w3, low_red w1 (Nat.lt_of_le_of_lt w2 (by decide))]
  rfl
/-! ### one pack more -/
def Bd (T : Nat) (l : List Int) : Prop := ∀ x ∈ l, x.natAbs ≤ T
def innI (w : Int → Int) (had ch : Int) : Nat → Int → List Int → List Int
  | 0, _, l => l
  | k + 1, f, l => innI w had ch k (f + 1) (l.set (had + f).toNat (l.getD (had + f).toNat 0 + ch * w f))
def outI (n : Int) (w : Int → Int → Int) : Nat → List Int → List Int → List Int
  | _, [], l => l
  | i, ch :: cs, l => outI n w (i + 1) cs (innI (w i) i ch (n - i + 1).toNat 0 l)
def stepI (n s : Int) (c : List Int) : List Int := outI n (wN n s) 0 c (List.replicate (n + 1).toNat 0)
def rd (B : Nat) (c : List Int) : List Q := c.map fun x => red x B
theorem inn_len {w : Int → Int} {had ch : Int} : ∀ (k : Nat) (f : Int) (l : List Int), (innI w had ch k f l).length = l.length
  | 0, _, _ => rfl
  | k + 1, f, l => by rw [innI, inn_len k, List.length_set]
theorem out_len {n : Int} {w : Int → Int → Int} : ∀ (i : Nat) (c l : List Int), (outI n w i c l).length = l.length
  | _, [], _ => rfl
  | i, ch :: cs, l => by rw [outI, out_len (i + 1) cs, inn_len]
theorem inn_ok {n s : Int} (a : Alm n s) {had ch : Int} {B M : Nat} (hB : 0 < B) (hBs : B * 70 < 2 ^ 4000) (h0 : 0 ≤ had) (hM : ch.natAbs ≤ M) : ∀ (k : Nat) (f : Int) (l : List Int) (T : Nat), 0 ≤ f → had + f + k ≤ n + 1 → l.length = (n + 1).toNat → Bd T l → T + k * (M * 4900) < 2 ^ 4000 → M * 4900 < 2 ^ 4000 →
    foldO (stepG n s had (red ch B)) (intsFrom f k) (rd (B * WN n s) l) = some (rd (B * WN n s) (innI (wN n s had) had ch k f l)) ∧ Bd (T + k * (M * 4900)) (innI (wN n s had) had ch k f l)
  | 0, f, l, T, _, _, _, hb, _, _ => ⟨rfl, fun x hx => by simpa using hb x hx⟩
  | k + 1, f, l, T, f0, hf, hl, hb, ht, hm => by
    obtain ⟨w1, w2, w3⟩ := WN_pos a
    obtain ⟨e1, e2, e3⟩ := wN_bd a (had := had) (f := f) h0 f0 (by omega)
    have hBW : 0 < B * WN n s := Nat.mul_pos hB w1
    have hBWs : B * WN n s < 2 ^ 4000 := Nat.lt_of_le_of_lt (Nat.mul_le_mul_left B w2) hBs
    have hBl : B < 2 ^ 4000 := Nat.lt_of_le_of_lt (Nat.le_mul_of_pos_right B (by decide)) hBs
    have hj : (had + f).toNat < l.length := by omega
    have cw : (ch * wN n s had f).natAbs ≤ M * 4900 := by
      rw [Int.natAbs_mul]
      exact Nat.mul_le_mul hM (by omega)
    have hMl : M < 2 ^ 4000 := Nat.lt_of_le_of_lt (Nat.le_mul_of_pos_right M (by decide)) hm
    have hx : (l[(had + f).toNat]).natAbs ≤ T := hb _ (List.getElem_mem hj)
    have gd : l.getD (had + f).toNat 0 = l[(had + f).toNat] := by simp [List.getD, hj]
    have tm : timesM (red ch B) (red (wN n s had f) (WN n s)) = some (red (ch * wN n s had f) (B * WN n s)) :=
      times_red hB w1 (sm_of hM hMl) (sm_of (k := B) (Nat.le_of_eq (Int.natAbs_natCast _)) hBl) (sm_of (k := 4900) (by omega) (by decide)) (sm_of (k := 70) (by simpa using w2) (by decide))
    have hT : T < 2 ^ 4000 := by omega
    have pc : plusM (red l[(had + f).toNat] (B * WN n s)) (red (ch * wN n s had f) (B * WN n s)) = some (red (l[(had + f).toNat] + ch * wN n s had f) (B * WN n s)) :=
      plus_com hBW (sm_of hx hT) (sm_of (k := B * WN n s) (Nat.le_of_eq (Int.natAbs_natCast _)) hBWs) (sm_of cw hm)
    have ix : ixN (rd (B * WN n s) l).length (had + f) = some (had + f).toNat := by
      unfold ixN
      rw [if_pos (by omega), if_pos]
      unfold rd
      rw [List.length_map]
      omega
    have gj : (rd (B * WN n s) l)[(had + f).toNat]? = some (red l[(had + f).toNat] (B * WN n s)) := by
      unfold rd
      rw [List.getElem?_map, List.getElem?_eq_getElem hj]
      rfl
    have st : stepG n s had (red ch B) f (rd (B * WN n s) l) = some (rd (B * WN n s) (l.set (had + f).toNat (l.getD (had + f).toNat 0 + ch * wN n s had f))) := by
      unfold stepG
      simp only [e1, tm, ix, gj, pc, gd]
      unfold rd
      rw [List.map_set]
    have bd : Bd (T + M * 4900) (l.set (had + f).toNat (l.getD (had + f).toNat 0 + ch * wN n s had f)) := by
      intro x hxm
      rcases List.mem_or_eq_of_mem_set hxm with h | h
      · have := hb x h
        omega
      · subst h
        rw [gd]
        have := Int.natAbs_add_le l[(had + f).toNat] (ch * wN n s had f)
        omega
    have e5 : T + M * 4900 + k * (M * 4900) = T + (k + 1) * (M * 4900) := by
      rw [Nat.add_mul]
      omega
    obtain ⟨r1, r2⟩ := inn_ok a hB hBs h0 hM k (f + 1) (l.set (had + f).toNat (l.getD (had + f).toNat 0 + ch * wN n s had f)) (T + M * 4900) (by omega) (by omega) (by rw [List.length_set]; exact hl) bd (by rw [e5]; exact ht) hm
    refine ⟨?_, ?_⟩
    · simp only [intsFrom, foldO, st]
      exact r1
    · rw [← e5]
      exact r2
theorem rd_enum {B : Nat} : ∀ (i : Nat) (c : List Int), enumI i (rd B c) = (enumI i c).map fun p => (p.1, red p.2 B)
  | _, [] => rfl
  | i, x :: c => by
    show enumI i (red x B :: rd B c) = _
    simp only [enumI, rd_enum (i + 1) c, List.map_cons]
theorem out_ok {n s : Int} (a : Alm n s) {B M : Nat} (hB : 0 < B) (hBs : B * 70 < 2 ^ 4000) (hm : M * 4900 < 2 ^ 4000) : ∀ (c : List Int) (i : Nat) (l : List Int) (T : Nat), (i : Int) + c.length ≤ n + 1 → Bd M c → l.length = (n + 1).toNat → Bd T l → T + c.length * (9 * (M * 4900)) < 2 ^ 4000 →
    foldO (stepR n s) (enumI i (rd B c)) (rd (B * WN n s) l) = some (rd (B * WN n s) (outI n (wN n s) i c l)) ∧ Bd (T + c.length * (9 * (M * 4900))) (outI n (wN n s) i c l)
  | [], i, l, T, _, _, _, hb, _ => ⟨rfl, fun x hx => by simpa using hb x hx⟩
  | ch :: c, i, l, T, hi, hM, hl, hb, ht => by
    have n8 := a.n8
    have n1 := a.n1
    simp only [List.length_cons] at hi ht
    have hk : (n - i + 1).toNat ≤ 9 := by omega
    have e9 : T + (n - i + 1).toNat * (M * 4900) ≤ T + 9 * (M * 4900) := Nat.add_le_add_left (Nat.mul_le_mul_right _ hk) _
    have e5 : T + 9 * (M * 4900) + c.length * (9 * (M * 4900)) = T + (c.length + 1) * (9 * (M * 4900)) := by
      rw [Nat.add_mul]
      omega
    obtain ⟨q1, q2⟩ := inn_ok a (had := i) (ch := ch) hB hBs (by omega) (hM ch List.mem_cons_self) (n - i + 1).toNat 0 l T (Int.le_refl 0) (by omega) hl hb (by omega) hm
    obtain ⟨r1, r2⟩ := out_ok a hB hBs hm c (i + 1) (innI (wN n s i) i ch (n - i + 1).toNat 0 l) (T + 9 * (M * 4900)) (by omega) (fun x hx => hM x (List.mem_cons_of_mem _ hx)) (by rw [inn_len]; exact hl) (fun x hx => Nat.le_trans (q2 x hx) e9) (by omega)
    refine ⟨?_, ?_⟩
    · show foldO (stepR n s) ((((i : Nat) : Int), red ch B) :: enumI (i + 1) (rd B c)) _ = _
      have hr : rOk (n - (i : Int) + 1) = true := by
        simp only [rOk, Bool.and_eq_true, decide_eq_true_eq]
        omega
      have st : stepR n s ((i : Nat), red ch B) (rd (B * WN n s) l) = some (rd (B * WN n s) (innI (wN n s i) i ch (n - i + 1).toNat 0 l)) := by
        unfold stepR
        simp only [hr, if_true]
        exact q1
      simp only [foldO, st]
      exact r1
    · rw [List.length_cons, ← e5]
      exact r2
/-- one pack more, in whole numbers -/
theorem step_ok {n s : Int} (a : Alm n s) {B M : Nat} (hB : 0 < B) (hBs : B * 70 < 2 ^ 4000) (hm : 81 * (M * 4900) < 2 ^ 4000) {c : List Int} (hc : c.length = (n + 1).toNat) (hM : Bd M c) : stepM n s (rd B c) = some (rd (B * WN n s) (stepI n s c)) ∧ Bd (81 * (M * 4900)) (stepI n s c) ∧ (stepI n s c).length = (n + 1).toNat := by
  have n8 := a.n8
  have n1 := a.n1
  have hl : c.length * (9 * (M * 4900)) ≤ 81 * (M * 4900) := by
    have : c.length ≤ 9 := by omega
    have := Nat.mul_le_mul_right (9 * (M * 4900)) this
    omega
  obtain ⟨r1, r2⟩ := out_ok a hB hBs (M := M) (by omega) c 0 (List.replicate (n + 1).toNat 0) 0 (by omega) hM (by simp) (fun x hx => by
    rw [List.eq_of_mem_replicate hx]
    exact Nat.le_refl _) (by omega)
  obtain ⟨w1, w2, w3⟩ := WN_pos a
  refine ⟨?_, fun x hx => Nat.le_trans (r2 x hx) (by omega), by unfold stepI; rw [out_len]; simp⟩
  unfold stepM
  rw [if_pos (by omega)]
  have e0 : (List.replicate (n + 1).toNat ((0, 1) : Q)) = rd (B * WN n s) (List.replicate (n + 1).toNat 0) := by
    unfold rd
    rw [List.map_replicate]
    congr 1
    unfold red
    have : 0 < B * WN n s := Nat.mul_pos hB w1
    simp [Nat.div_self this]
  rw [e0]
  exact r1
def itI (n s : Int) : Nat → List Int → List Int
  | 0, c => c
  | k + 1, c => stepI n s (itI n s k c)
def stI (n had : Int) : List Int := (intsFrom 0 (n + 1).toNat).map fun i => if i == had then 1 else 0
theorem it_ok {n s : Int} (a : Alm n s) {had : Int} : ∀ p : Nat, p ≤ 31 → iterM (stepM n s) p (startM n had) = some (rd (WN n s ^ p) (itI n s p (stI n had))) ∧ Bd (2 ^ (19 * p)) (itI n s p (stI n had)) ∧ (itI n s p (stI n had)).length = (n + 1).toNat
  | 0, _ => by
    refine ⟨?_, ?_, by simp [itI, stI, intsFrom_length]⟩
    · show some (startM n had) = some (rd (WN n s ^ 0) (stI n had))
      congr 1
      unfold startM rd stI
      rw [List.map_map]
      refine List.map_congr_left fun i _ => ?_
      by_cases z : i = had
      · subst z
        simp [red]
      · simp [z, red]
    · intro x hx
      obtain ⟨i, _, rfl⟩ := List.mem_map.mp hx
      split <;> decide
  | p + 1, hp => by
    obtain ⟨h1, h2, h3⟩ := it_ok a p (by omega)
    obtain ⟨w1, w2, w3⟩ := WN_pos a
    have hB : 0 < WN n s ^ p := Nat.pow_pos w1
    have hW : WN n s ^ p ≤ 2 ^ (7 * p) := by
      rw [Nat.pow_mul]
      exact Nat.pow_le_pow_left (by omega) p
    have hBs : WN n s ^ p * 70 < 2 ^ 4000 := by
      have : WN n s ^ p * 70 ≤ 2 ^ (7 * p) * 2 ^ 7 := Nat.mul_le_mul hW (by decide)
      rw [← Nat.pow_add] at this
      exact Nat.lt_of_le_of_lt this (Nat.pow_lt_pow_right (by decide) (by omega))
    have e19 : 81 * (2 ^ (19 * p) * 4900) ≤ 2 ^ (19 * (p + 1)) := by
      have : 2 ^ (19 * (p + 1)) = 2 ^ (19 * p) * 2 ^ 19 := by rw [← Nat.pow_add]; rfl
      rw [this]
      have : 81 * (2 ^ (19 * p) * 4900) = 2 ^ (19 * p) * 396900 := by omega
      rw [this]
      exact Nat.mul_le_mul_left _ (by decide)
    obtain ⟨s1, s2, s3⟩ := step_ok a (B := WN n s ^ p) (M := 2 ^ (19 * p)) hB hBs (Nat.lt_of_le_of_lt e19 (Nat.pow_lt_pow_right (by decide) (by omega))) h3 h2
    refine ⟨?_, fun x hx => Nat.le_trans (s2 x hx) e19, s3⟩
    simp only [iterM, h1]
    exact s1
theorem after_ok {n s had p : Int} (a : Alm n s) (h0 : 0 ≤ p) (h1 : p ≤ 31) : afterM n s had p = some (rd (WN n s ^ p.toNat) (itI n s p.toNat (stI n had))) := by
  have n8 := a.n8
  have n1 := a.n1
  unfold afterM
  rw [if_pos]
  · exact (it_ok a p.toNat (by omega)).1
  · simp only [rOk, Bool.and_eq_true, decide_eq_true_eq]
    omega
end Alb.Rn
set_option Elab.async false
set_option linter.all false
set_option maxRecDepth 100000
set_option maxHeartbeats 4000000
/-! How a run must end: rules to walk through a body. -/
namespace Alb.Rn
open PySem Alb
/-- what must hold where a run goes on, and where it returns -/
def Sat (s : SR) (N : Env → Hh → Prop) (P : D → Hh → Prop) : Prop := match s with
  | .nx r h => N r h
  | .rt d h => P d h
  | .ex _ _ => False
  | .bad => False
section
variable {N : Env → Hh → Prop} {P : D → Hh → Prop}
theorem sat_nx {r : Env} {h : Hh} : Sat (.nx r h) N P = N r h := rfl
theorem sat_rt {d : D} {h : Hh} : Sat (.rt d h) N P = P d h := rfl
theorem sat_thn {s : SR} {k : Env → Hh → SR} (hs : Sat s (fun r h => Sat (k r h) N P) P) : Sat (s.thn k) N P := by
  cases s <;> exact hs
theorem sat_mono {s : SR} {N' : Env → Hh → Prop} {P' : D → Hh → Prop} (hs : Sat s N P) (hN : ∀ r h, N r h → N' r h) (hP : ∀ d h, P d h → P' d h) : Sat s N' P' := by
  cases s with
  | nx r h => exact hN _ _ hs
  | rt d h => exact hP _ _ hs
  | ex _ _ => exact hs
  | bad => exact hs
theorem thn_bind {α β : Type} {x : R α} {f : α → Hh → R β} {g : β → Hh → SR} : (x.bind f).thn g = x.thn fun a h => (f a h).thn g := by
  cases x <;> rfl
theorem bind_bind {α β γ : Type} {x : R α} {f : α → Hh → R β} {g : β → Hh → R γ} : (x.bind f).bind g = x.bind fun a h => (f a h).bind g := by
  cases x <;> rfl
theorem thn_thn {s : SR} {f g : Env → Hh → SR} : (s.thn f).thn g = s.thn fun r h => (f r h).thn g := by
  cases s <;> rfl
theorem rthn_thn {α : Type} {x : R α} {f : α → Hh → SR} {g : Env → Hh → SR} : (x.thn f).thn g = x.thn fun a h => (f a h).thn g := by
  cases x <;> rfl
/-- a for -/
theorem sat_for {cl : Cl} {t : Tg} {b : Ss} {r : Env} {items : List D} {lk : List (Nat × List D)} {h : Hh} {k : Env → Hh → SR} (Inv : Nat → Env → Hh → Prop)
    (h0 : Inv 0 r (lockH lk h))
    (hs : ∀ i x r h, items[i]? = some x → Inv i r h → Sat (forF cl t b x r h) (Inv (i + 1)) (fun d h => P d (unlockH lk h)))
    (hk : ∀ r h, Inv items.length r h → Sat (k r (unlockH lk h)) N P) : Sat ((forK cl t b r (some (items, lk)) h).thn k) N P := by
  have go : ∀ (xs : List D) (j : Nat) (r : Env) (h : Hh), (∀ i, xs[i]? = items[j + i]?) → xs.length + j = items.length → Inv j r h → Sat (forGo (forF cl t b) xs r h) (Inv items.length) (fun d h => P d (unlockH lk h)) := by
    intro xs
    induction xs with
    | nil =>
      intro j r h _ hl hi
      simp only [List.length_nil, Nat.zero_add] at hl
      subst hl
      exact hi
    | cons x xs ih =>
      intro j r h hx hl hi
      have h1 := hs j x r h (by have := hx 0; simpa using this.symm) hi
      simp only [forGo]
      cases q : forF cl t b x r h with
      | nx r1 h1' =>
        rw [q] at h1
        refine ih (j + 1) r1 h1' (fun i => ?_) (by simp only [List.length_cons] at hl; omega) h1
        have := hx (i + 1)
        simp only [List.getElem?_cons_succ] at this
        rw [this]
        congr 1
        omega
      | rt d h1' =>
        rw [q] at h1
        exact h1
      | ex _ _ =>
        rw [q] at h1
        exact h1.elim
      | bad =>
        rw [q] at h1
        exact h1.elim
  have := go items 0 r (lockH lk h) (fun i => by rw [Nat.zero_add]) rfl h0
  simp only [forK]
  cases q : forGo (forF cl t b) items r (lockH lk h) with
  | nx r1 h1 =>
    rw [q] at this
    exact hk _ _ this
  | rt d h1 =>
    rw [q] at this
    exact this
  | ex _ _ =>
    rw [q] at this
    exact this.elim
  | bad =>
    rw [q] at this
    exact this.elim
/-- a for over given items -/
theorem sat_forM {α : Type} {cl : Cl} {t : Tg} {b : Ss} {r : Env} {xs : List α} {enc : α → D} {lk : List (Nat × List D)} {h : Hh} {k : Env → Hh → SR} (Inv : Nat → Env → Hh → Prop)
    (h0 : Inv 0 r (lockH lk h))
    (hs : ∀ i x r h, xs[i]? = some x → Inv i r h → Sat (forF cl t b (enc x) r h) (Inv (i + 1)) (fun d h => P d (unlockH lk h)))
    (hk : ∀ r h, Inv xs.length r h → Sat (k r (unlockH lk h)) N P) : Sat ((forK cl t b r (some (xs.map enc, lk)) h).thn k) N P := by
  refine sat_for Inv h0 (fun i x r h hx hi => ?_) (fun r h hi => hk r h (by simpa using hi))
  rw [List.getElem?_map] at hx
  cases q : xs[i]? with
  | none => rw [q] at hx; cases hx
  | some y =>
    rw [q] at hx
    cases hx
    exact hs i y r h q hi
/-- how an expression must end -/
def RSat {α : Type} (x : R α) (Q : α → Hh → Prop) : Prop := match x with
  | .ok a h => Q a h
  | .ex _ _ => False
  | .bad => False
theorem rsat_ok {α : Type} {a : α} {h : Hh} {Q : α → Hh → Prop} : RSat (.ok a h) Q = Q a h := rfl
theorem rsat_bind {α β : Type} {x : R α} {f : α → Hh → R β} {Q : β → Hh → Prop} (hx : RSat x (fun a h => RSat (f a h) Q)) : RSat (x.bind f) Q := by
  cases x <;> exact hx
theorem sat_rthn {α : Type} {x : R α} {k : α → Hh → SR} (hx : RSat x (fun a h => Sat (k a h) N P)) : Sat (x.thn k) N P := by
  cases x <;> exact hx
/-- a comprehension -/
theorem rsat_lc {cl : Cl} {own : List Nat} {t : Tg} {c : Oe} {e : E} {r : Env} {items : List D} {lk : List (Nat × List D)} {h : Hh} {Q : D → Hh → Prop} (Inv : Nat → List D → Hh → Prop)
    (h0 : Inv 0 [] (lockH lk h))
    (hs : ∀ i x acc h, items[i]? = some x → Inv i acc h → RSat (lcF cl own t c e r x h) (fun o h => match o with
      | some y => acc.length < lim ∧ Inv (i + 1) (acc ++ [y]) h
      | none => Inv (i + 1) acc h))
    (hk : ∀ acc h, Inv items.length acc h → Q (.loc (unlockH lk h).nx) ((unlockH lk h).new (.lst acc))) : RSat (lcK cl own t c e r (some (items, lk)) h) Q := by
  have go : ∀ (xs : List D) (j : Nat) (acc : List D) (h : Hh), (∀ i, xs[i]? = items[j + i]?) → xs.length + j = items.length → Inv j acc h → RSat (compGo (lcF cl own t c e r) xs acc h) (Inv items.length) := by
    intro xs
    induction xs with
    | nil =>
      intro j acc h _ hl hi
      simp only [List.length_nil, Nat.zero_add] at hl
      subst hl
      exact hi
    | cons x xs ih =>
      intro j acc h hx hl hi
      have h1 := hs j x acc h (by have := hx 0; simpa using this.symm) hi
      simp only [compGo]
      have nx : ∀ i, xs[i]? = items[j + 1 + i]? := fun i => by
        have := hx (i + 1)
        simp only [List.getElem?_cons_succ] at this
        rw [this]
        congr 1
        omega
      cases q : lcF cl own t c e r x h with
      | ok o h1' =>
        rw [q] at h1
        cases o with
        | some y =>
          obtain ⟨ha, hb⟩ := h1
          simp only [ha, if_true]
          exact ih (j + 1) _ _ nx (by simp only [List.length_cons] at hl; omega) hb
        | none => exact ih (j + 1) _ _ nx (by simp only [List.length_cons] at hl; omega) h1
      | ex _ _ =>
        rw [q] at h1
        exact h1.elim
      | bad =>
        rw [q] at h1
        exact h1.elim
  have := go items 0 [] (lockH lk h) (fun i => by rw [Nat.zero_add]) rfl h0
  simp only [lcK]
  cases q : compGo (lcF cl own t c e r) items [] (lockH lk h) with
  | ok acc h1 =>
    rw [q] at this
    exact hk _ _ this
  | ex _ _ =>
    rw [q] at this
    exact this.elim
  | bad =>
    rw [q] at this
    exact this.elim
theorem sat_lc {cl : Cl} {own : List Nat} {t : Tg} {c : Oe} {e : E} {r : Env} {items : List D} {lk : List (Nat × List D)} {h : Hh} {k : D → Hh → SR} (Inv : Nat → List D → Hh → Prop)
    (h0 : Inv 0 [] (lockH lk h))
    (hs : ∀ i x acc h, items[i]? = some x → Inv i acc h → RSat (lcF cl own t c e r x h) (fun o h => match o with
      | some y => acc.length < lim ∧ Inv (i + 1) (acc ++ [y]) h
      | none => Inv (i + 1) acc h))
    (hk : ∀ acc h, Inv items.length acc h → Sat (k (.loc (unlockH lk h).nx) ((unlockH lk h).new (.lst acc))) N P) : Sat ((lcK cl own t c e r (some (items, lk)) h).thn k) N P :=
  sat_rthn (rsat_lc Inv h0 hs hk)
/-- a while -/
theorem sat_while {c : Env → Hh → R D} {b : Env → Hh → SR} {r : Env} {h : Hh} {k : Env → Hh → SR} (Inv : Nat → Env → Hh → Prop) (j : Nat) (hj : j < wfuel) (h0 : Inv j r h)
    (hs : ∀ i r h, Inv i r h → (∃ h1, c r h = .ok (.bl false) h1 ∧ Sat (k r h1) N P) ∨ ∃ h1 i', c r h = .ok (.bl true) h1 ∧ i = i' + 1 ∧ Sat (b r h1) (Inv i') P) : Sat ((whileGo c b wfuel r h).thn k) N P := by
  have go : ∀ (f i : Nat) (r : Env) (h : Hh), i < f → Inv i r h → Sat ((whileGo c b f r h).thn k) N P := by
    intro f
    induction f with
    | zero => intro i r h hi; omega
    | succ f ih =>
      intro i r h hi hv
      rcases hs i r h hv with ⟨h1, e1, h2⟩ | ⟨h1, i', e1, rfl, h2⟩
      · simp only [whileGo, e1]
        exact h2
      · simp only [whileGo, e1]
        cases q : b r h1 with
        | nx r1 h1' =>
          rw [q] at h2
          exact ih i' r1 h1' (by omega) h2
        | rt d h1' =>
          rw [q] at h2
          exact h2
        | ex _ _ =>
          rw [q] at h2
          exact h2.elim
        | bad =>
          rw [q] at h2
          exact h2.elim
  exact go wfuel j r h hj h0
end
/-! ### the store -/
section
variable {h : Hh} {o : O} {a b : Nat}
theorem get_new_ne (e : a ≠ h.nx) : (h.new o).get a = h.get a := by
  simp [Hh.new, Hh.get, getL, e]
theorem get_new_eq (e : a = h.nx) : (h.new o).get a = some o := by
  simp [Hh.new, Hh.get, getL, e]
theorem nx_new : (h.new o).nx = h.nx + 1 := rfl
theorem nx_set : (h.set a o).nx = h.nx := rfl
theorem get_set_ne (e : b ≠ a) : (h.set a o).get b = h.get b := by
  simp [get_set, e]
theorem get_set_eq {o' : O} (e : h.get a = some o') : (h.set a o).get a = some o := by
  simp [get_set, e]
theorem mk_new {n : Nat} {ob : List (Nat × O)} : (Hh.mk n ob).new o = ⟨n + 1, (n, o) :: ob⟩ := rfl
theorem mk_get {n : Nat} {ob : List (Nat × O)} : (Hh.mk n ((b, o) :: ob)).get a = if a = b then some o else (Hh.mk n ob).get a := rfl
theorem mk_set {n : Nat} {ob : List (Nat × O)} : (Hh.mk n ob).set a o = ⟨n, setL a o ob⟩ := rfl
theorem mk_nx {n : Nat} {ob : List (Nat × O)} : (Hh.mk n ob).nx = n := rfl
theorem setL_cons {p : O} {r : List (Nat × O)} : setL a o ((b, p) :: r) = if a = b then (b, o) :: r else (b, p) :: setL a o r := rfl
end
/-! ### operations -/
section
variable {h : Hh} {a b : Nat} {d x y : D} {i j : Int} {xs ys : List D}
theorem mth_append : mthD .append (.loc a) [d] h = (match h.get a with
    | some (.lst xs) => if xs.length < lim then some (.non, h.set a (.lst (xs ++ [d]))) else none
    | _ => none) := rfl
theorem mth_extend : mthD .extend (.loc a) [.loc b] h = (match h.get a, h.get b with
    | some (.lst xs), some (.lst ys) => if xs.length + ys.length ≤ lim then some (.non, h.set a (.lst (xs ++ ys))) else none
    | _, _ => none) := rfl
theorem rcv_append : recvD .append (.loc a) h = (match h.get a with
    | some (.lst _) => true
    | some (.ro _) => true
    | _ => false) := rfl
theorem rcv_extend : recvD .extend (.loc a) h = (match h.get a with
    | some (.lst _) => true
    | some (.ro _) => true
    | _ => false) := rfl
theorem rcv_count : recvD .count (.loc a) h = (match h.get a with
    | some (.lst _) => true
    | some (.ro _) => true
    | _ => false) := rfl
theorem it_tup : itemsD (.tup xs) h = some xs := rfl
theorem it_loc : itemsD (.loc a) h = (match h.get a with
    | some (.lst xs) => some xs
    | some (.ro xs) => some xs
    | _ => none) := rfl
theorem len_tup : bltD .len [.tup xs] h = some (.int xs.length, h) := rfl
theorem len_loc : bltD .len [.loc a] h = (match itemsD (.loc a) h with
    | some xs => some (.int xs.length, h)
    | none => none) := rfl
theorem tup_loc : bltD .tuple [.loc a] h = (match itemsD (.loc a) h with
    | some xs => some (.tup xs, h)
    | none => none) := rfl
theorem list_tup : bltD .list [.tup xs] h = some (.loc h.nx, h.new (.lst xs)) := rfl
theorem sub_tup : subD (.tup xs) (.int i) h = (match ixN xs.length i with
      | some j => xs[j]?
      | none => none) := rfl
theorem sub_at : subD (.loc a) (.int i) h = (match itemsD (.loc a) h with
    | some xs => (match ixN xs.length i with
      | some j => xs[j]?
      | none => none)
    | none => none) := rfl
theorem lget_at : lgetD (.loc a) (.int i) h = subD (.loc a) (.int i) h := rfl
theorem sto_at : stoD (.loc a) (.int i) d h = (match h.get a with
    | some (.lst xs) => (match ixN xs.length i with
      | some j => some (h.set a (.lst (xs.set j d)))
      | none => none)
    | _ => none) := rfl
theorem aug_add : augD .add (.int i) (.int j) = some (.int (i + j)) := rfl
theorem aug_sub : augD .sub (.int i) (.int j) = some (.int (i - j)) := rfl
theorem neg_int : negD (.int i) = some (.int (-i)) := rfl
theorem itr_tup : iterD .val [.tup xs] h = some (xs, []) := rfl
theorem itr_loc : iterD .val [.loc a] h = (match h.get a with
    | some (.lst xs) => some (xs, [(a, xs)])
    | some (.ro xs) => some (xs, [])
    | _ => none) := rfl
theorem itr_enuT : iterD .enu [.tup xs] h = some (enumD 0 xs, []) := rfl
theorem itr_enuL : iterD .enu [.loc a] h = (match h.get a with
    | some (.lst xs) => some (enumD 0 xs, [(a, xs)])
    | some (.ro xs) => some (enumD 0 xs, [])
    | _ => none) := rfl
theorem itr_zipT : iterD .zip [.tup xs, .tup ys] h = some (pairs xs ys, []) := rfl
theorem itr_r1 (h0 : -1000000 ≤ i) (h1 : i ≤ 1000000) : iterD .r1 [.int i] h = some ((intsFrom 0 i.toNat).map D.int, []) := by
  refine iter_r1 ?_
  simp [rOk, h0, h1]
theorem itr_r2 (h0 : -1000000 ≤ i) (h1 : i ≤ 1000000) (h2 : -1000000 ≤ j) (h3 : j ≤ 1000000) : iterD .r2 [.int i, .int j] h = some ((intsFrom i (j - i).toNat).map D.int, []) := by
  refine iter_r2 ?_ ?_ <;> simp [rOk, *]
theorem ix_ok {n : Nat} (h0 : 0 ≤ i) (h1 : i < n) : ixN n i = some i.toNat := by
  simp [ixN, h0, h1]
theorem ix_neg {n : Nat} (h0 : i < 0) (h1 : -(n : Int) ≤ i) : ixN n i = some (i + n).toNat := by
  unfold ixN
  rw [if_neg (by omega), if_pos h1]
theorem lock_nil : lockH [] h = h := rfl
theorem lock_one : lockH [(a, xs)] h = h.set a (.ro xs) := rfl
theorem unlock_nil : unlockH [] h = h := rfl
theorem unlock_one : unlockH [(a, xs)] h = h.set a (.lst xs) := rfl
theorem add_tup (hl : xs.length + ys.length ≤ 100000) : binD .add (.tup xs) (.tup ys) h = some (.tup (xs ++ ys), h) := by
  exact if_pos hl
theorem c_neI : cmpD .ne (.int i) (.int j) h = some (!(i == j)) := rfl
end
theorem lim_eq : lim = 100000 := rfl
theorem mul_i {i j : Int} {h : Hh} (hi : i.natAbs < 18446744073709551616) : binD .mul (.int i) (.int j) h = some (.int (i * j), h) := by
  rw [o_mul, if_pos (mul_small' hi)]
theorem mul_j {i j : Int} {h : Hh} (hi : j.natAbs < 18446744073709551616) : binD .mul (.int i) (.int j) h = some (.int (i * j), h) := by
  rw [o_mul, if_pos (mul_small hi)]
/-! ### draws -/
theorem sat_draw {m : Nat} {N : Env → Hh → Prop} {P : D → Hh → Prop} {ns : List Int} {a : Nat} {xs : List D} {many : Int} {h : Hh} {k : D → Hh → SR} (hg : h.get a = some (.lst xs)) (hl : xs.length < 99999) (hm : 0 < many)
    (hk : ∀ v, 0 ≤ v → v < many → Sat (k (.int v) (h.set a (.lst (xs ++ [.int 0])))) N P) : Sat (((clOf TT (m + 3)).f 13 [.scr ns, .loc a, .int many] h).thn k) N P := by
  obtain ⟨v, v0, v1, e⟩ := r_draw (m := m) (ns := ns) hg hl hm
  rw [e]
  exact hk v v0 v1
theorem sat_some {m : Nat} {N : Env → Hh → Prop} {P : D → Hh → Prop} {ns : List Int} {a : Nat} {xs : List D} {most : Int} {h : Hh} {k : D → Hh → SR} (hg : h.get a = some (.lst xs)) (hl : xs.length < 99990) (hm : 0 < most) (hm8 : most ≤ 8)
    (hk : ∀ n s had, 1 ≤ n → n ≤ most → 1 ≤ s → s ≤ n → 0 ≤ had → had ≤ n → Sat (k (.tup [.int n, .int s, .int had]) (h.set a (.lst (xs ++ [.int 0, .int 0, .int 0])))) N P) : Sat (((clOf TT (m + 4)).f 14 [.scr ns, .loc a, .int most] h).thn k) N P := by
  obtain ⟨n, s, had, o, hn, e⟩ := r_some (m := m) (ns := ns) hg hl hm hm8
  rw [e]
  simp only [ok3, Bool.and_eq_true, decide_eq_true_eq] at o
  exact hk n s had (by omega) hn (by omega) (by omega) (by omega) (by omega)
/-- how a law's run must end -/
theorem law_of {f : Nat} {fd : Fd} {ns : List Int} (hf : TT.fd f = some fd) (ho : fd.own = false) (hn : fd.np = 1) (hs : Sat (exs (clOf TT 11) fd.body (stEnv fd.ns [.scr ns]) ⟨0, []⟩) (fun _ _ => False) (fun d _ => d = .bl true)) : ∃ h', callF TT 12 f [.scr ns] ⟨0, []⟩ = .ok (.bl true) h' := by
  unfold callF
  rw [clf', hf]
  simp only [ho, Bool.false_eq_true, if_false, runG]
  rw [if_pos (by simp [hn])]
  revert hs
  cases exs (clOf TT 11) fd.body (stEnv fd.ns [.scr ns]) ⟨0, []⟩ with
  | nx _ _ => exact fun h => h.elim
  | rt d h =>
    intro e
    cases e
    exact ⟨h, rfl⟩
  | ex _ _ => exact fun h => h.elim
  | bad => exact fun h => h.elim
/-- a def of its own store, its arguments without places -/
theorem own_val {m f : Nat} {fd : Fd} {ds : List D} {h : Hh} {v : D} (hf : TT.fd f = some fd) (ho : fd.own = true) (hp : pureL ds = true) (hn : ds.length = fd.np) (hd : v.pure = true)
    (hs : Sat (exs (clOf TT m) fd.body (stEnv fd.ns ds) ⟨0, []⟩) (fun _ _ => False) (fun d _ => d = v)) : (clOf TT (m + 1)).f f ds h = .ok v h := by
  revert hs
  cases q : exs (clOf TT m) fd.body (stEnv fd.ns ds) ⟨0, []⟩ with
  | nx _ _ => exact fun h => h.elim
  | rt d h =>
    intro e
    cases e
    exact call_val hf ho hp hn hd q
  | ex _ _ => exact fun h => h.elim
  | bad => exact fun h => h.elim
theorem own_lst {m f : Nat} {fd : Fd} {ds : List D} {h : Hh} {xs : List D} (hf : TT.fd f = some fd) (ho : fd.own = true) (hp : pureL ds = true) (hn : ds.length = fd.np) (hx : pureL xs = true)
    (hs : Sat (exs (clOf TT m) fd.body (stEnv fd.ns ds) ⟨0, []⟩) (fun _ _ => False) (fun d h => ∃ a, d = .loc a ∧ h.get a = some (.lst xs))) : (clOf TT (m + 1)).f f ds h = .ok (.loc h.nx) (h.new (.lst xs)) := by
  revert hs
  cases q : exs (clOf TT m) fd.body (stEnv fd.ns ds) ⟨0, []⟩ with
  | nx _ _ => exact fun h => h.elim
  | rt d h =>
    rintro ⟨a, rfl, hg⟩
    exact call_lst hf ho hp hn q hg hx
  | ex _ _ => exact fun h => h.elim
  | bad => exact fun h => h.elim
end Alb.Rn
set_option Elab.async false
set_option linter.all false
set_option maxRecDepth 100000
set_option maxHeartbeats 4000000
/-! Fractions as Lean's own rationals. -/
namespace Alb.Rn
open PySem Alb
def qr (r : Rat) : Q := (r.num, r.den)
def fq (r : Rat) : D := .tup [.int r.num, .int r.den]
theorem qd_qr (r : Rat) : qd (qr r) = fq r := rfl
theorem red_rat {a : Int} {b : Nat} (hb : 0 < b) : red a b = qr (mkRat a b) := by
  unfold mkRat
  rw [dif_neg (by omega), Rat.normalize_eq]
  rfl
/-- not too long -/
structure Sk (k : Nat) (r : Rat) : Prop where
  num : r.num.natAbs < 2 ^ k
  den : r.den < 2 ^ k
theorem Sk.mono {k l : Nat} {r : Rat} (h : Sk k r) (hl : k ≤ l) : Sk l r :=
  ⟨Nat.lt_of_lt_of_le h.num (Nat.pow_le_pow_right (by decide) hl), Nat.lt_of_lt_of_le h.den (Nat.pow_le_pow_right (by decide) hl)⟩
theorem sk_mk {k : Nat} {a : Int} {b : Nat} (hb : 0 < b) (ha : a.natAbs < 2 ^ k) (hl : b < 2 ^ k) : Sk k (mkRat a b) := by
  obtain ⟨x, y, g, e, hg, hy, rfl, rfl⟩ := red_parts a b hb
  rw [red_rat hb] at e
  have e1 : (mkRat (x * g) (y * g)).num = x := congrArg Prod.fst e
  have e2 : (((mkRat (x * g) (y * g)).den : Nat) : Int) = y := congrArg Prod.snd e
  have e3 : (mkRat (x * g) (y * g)).den = y := by omega
  constructor
  · rw [e1]
    refine Nat.lt_of_le_of_lt ?_ ha
    rw [Int.natAbs_mul, Int.natAbs_natCast]
    exact Nat.le_mul_of_pos_right _ hg
  · rw [e3]
    exact Nat.lt_of_le_of_lt (Nat.le_mul_of_pos_right _ hg) hl
theorem sk_add {k l : Nat} {r s : Rat} (hr : Sk k r) (hs : Sk l s) : Sk (k + l + 1) (r + s) := by
  rw [Rat.add_def']
  have p1 := r.den_pos
  have p2 := s.den_pos
  have b1 : (r.num * s.den).natAbs < 2 ^ (k + l) := by
    rw [Int.natAbs_mul, Int.natAbs_natCast, Nat.pow_add]
    exact Nat.mul_lt_mul'' hr.num hs.den
  have b2 : (s.num * r.den).natAbs < 2 ^ (k + l) := by
    rw [Int.natAbs_mul, Int.natAbs_natCast, Nat.pow_add, Nat.mul_comm]
    exact Nat.mul_lt_mul'' hr.den hs.num
  have b3 : r.den * s.den < 2 ^ (k + l) := by
    rw [Nat.pow_add]
    exact Nat.mul_lt_mul'' hr.den hs.den
  have e : 2 ^ (k + l + 1) = 2 ^ (k + l) * 2 := Nat.pow_succ ..
  have := Int.natAbs_add_le (r.num * s.den) (s.num * r.den)
  exact sk_mk (Nat.mul_pos p1 p2) (by omega) (by omega)
theorem sk_mul {k l : Nat} {r s : Rat} (hr : Sk k r) (hs : Sk l s) : Sk (k + l) (r * s) := by
  rw [Rat.mul_def']
  have p1 := r.den_pos
  have p2 := s.den_pos
  refine sk_mk (Nat.mul_pos p1 p2) ?_ ?_
  · rw [Int.natAbs_mul, Nat.pow_add]
    exact Nat.mul_lt_mul'' hr.num hs.num
  · rw [Nat.pow_add]
    exact Nat.mul_lt_mul'' hr.den hs.den
theorem sk_int {k : Nat} {a : Int} (ha : a.natAbs < 2 ^ k) (hk : 0 < k) : Sk k (a : Rat) := by
  constructor
  · simpa using ha
  · simp
    omega
theorem sk_neg {k : Nat} {r : Rat} (h : Sk k r) : Sk k (-r) := by
  constructor
  · simpa using h.num
  · simpa using h.den
theorem Sk.sm {r : Rat} (h : Sk 4000 r) : Sm r.num ∧ Sm (r.den : Int) := by
  unfold Sm
  rw [Int.natAbs_natCast]
  exact And.intro h.num h.den
theorem low_rat {a : Int} {b : Nat} (hb : 0 < b) (hl : b < 2 ^ 9000) : lowM a b = some (qr (mkRat a b)) := by
  rw [low_red hb hl, red_rat hb]
theorem plus_rat {r s : Rat} (hr : Sk 4000 r) (hs : Sk 4000 s) : plusM (qr r) (qr s) = some (qr (r + s)) := by
  unfold plusM qr
  simp only [mul_sm hr.sm.1 hs.sm.2, mul_sm hs.sm.1 hr.sm.2, mul_sm hr.sm.2 hs.sm.2]
  have : ((r.den : Int) * (s.den : Int)) = ((r.den * s.den : Nat) : Int) := (Int.natCast_mul _ _).symm
  rw [this, low_rat (Nat.mul_pos r.den_pos s.den_pos) (pow_9000 hr.den hs.den), ← Rat.add_def']
  rfl
theorem times_rat {r s : Rat} (hr : Sk 4000 r) (hs : Sk 4000 s) : timesM (qr r) (qr s) = some (qr (r * s)) := by
  unfold timesM qr
  simp only [mul_sm hr.sm.1 hs.sm.1, mul_sm hr.sm.2 hs.sm.2]
  have : ((r.den : Int) * (s.den : Int)) = ((r.den * s.den : Nat) : Int) := (Int.natCast_mul _ _).symm
  rw [this, low_rat (Nat.mul_pos r.den_pos s.den_pos) (pow_9000 hr.den hs.den), ← Rat.mul_def']
  rfl
section
variable {m : Nat} {h : Hh} {r s : Rat}
theorem rr_plus (hr : Sk 4000 r) (hs : Sk 4000 s) : (clOf TT (m + 3)).f 19 [fq r, fq s] h = .ok (fq (r + s)) h := by
  have := r_plus (m := m) (h := h) (plus_rat hr hs)
  simp only [qd_qr] at this
  exact this
theorem rr_times (hr : Sk 4000 r) (hs : Sk 4000 s) : (clOf TT (m + 3)).f 20 [fq r, fq s] h = .ok (fq (r * s)) h := by
  have := r_times (m := m) (h := h) (times_rat hr hs)
  simp only [qd_qr] at this
  exact this
theorem rr_by (hr : Sk 4000 r) (hs : Sk 4000 s) : (clOf TT (m + 2)).f 25 [fq r, fq s] h = .ok (fq (r * s)) h := by
  have := r_by (m := m) (h := h) (times_rat hr hs)
  simp only [qd_qr] at this
  exact this
theorem rr_lowest {a b : Int} (hb : 0 < b) (hl : b.toNat < 2 ^ 9000) : (clOf TT (m + 2)).f 2 [.int a, .int b] h = .ok (fq (mkRat a b.toNat)) h := by
  have e : ((b.toNat : Nat) : Int) = b := by omega
  have := low_rat (a := a) (b := b.toNat) (by omega) hl
  rw [e] at this
  have := r_lowest (m := m) (h := h) this
  simp only [qd_qr] at this
  exact this
theorem rr_part {a b : Int} (hb : 0 < b) (hl : b.toNat < 2 ^ 9000) : (clOf TT (m + 1)).f 9 [.int a, .int b] h = .ok (fq (mkRat a b.toNat)) h := by
  have e : ((b.toNat : Nat) : Int) = b := by omega
  have := low_rat (a := a) (b := b.toNat) (by omega) hl
  rw [e] at this
  have := r_part (m := m) (h := h) this
  simp only [qd_qr] at this
  exact this
end
/-! ### sums -/
def JOk : Rat → List Rat → Prop
  | _, [] => True
  | a, x :: l => Sk 4000 a ∧ Sk 4000 x ∧ JOk (a + x) l
theorem join_fold : ∀ (l : List Rat) (a : Rat), JOk a l → foldO joinG (l.map qr) (qr a) = some (qr (a + l.sum))
  | [], a, _ => by simp [foldO, Rat.add_zero]
  | x :: l, a, ⟨h1, h2, h3⟩ => by
    have ih := join_fold l (a + x) h3
    simp only [List.map_cons, foldO, join_plus, plus_rat h1 h2, ih, List.sum_cons, Rat.add_assoc]
theorem join_rat {l : List Rat} (hl : JOk 0 l) : joinM (l.map qr) = some (qr l.sum) := by
  have := join_fold l 0 hl
  rw [Rat.zero_add] at this
  exact this
theorem map_fq (l : List Rat) : (l.map qr).map qd = l.map fq := by
  rw [List.map_map]
  rfl
theorem pure_fq (l : List Rat) : pureL (l.map fq) = true := by
  rw [← map_fq]
  exact pure_qs _
theorem rr_joinT {m : Nat} {h : Hh} {l : List Rat} (hl : JOk 0 l) : (clOf TT (m + 2)).f 10 [.tup (l.map fq)] h = .ok (fq l.sum) h := by
  have := r_joinT (m := m) (h := h) (join_rat hl)
  simp only [map_fq, qd_qr] at this
  exact this
theorem rr_joinL {m : Nat} {h : Hh} {a : Nat} {l : List Rat} (hg : h.get a = some (.lst (l.map fq))) (hl : JOk 0 l) : (clOf TT (m + 2)).f 10 [.loc a] h = .ok (fq l.sum) h := by
  rw [← map_fq] at hg
  have := r_joinL (m := m) hg (join_rat hl)
  simp only [qd_qr] at this
  exact this
/-- few short ones -/
theorem jok_few {j : Nat} : ∀ (l : List Rat) (k : Nat) (a : Rat), Sk k a → (∀ x ∈ l, Sk j x) → k + l.length * (j + 1) ≤ 4000 → JOk a l
  | [], _, _, _, _, _ => trivial
  | x :: l, k, a, ha, hx, hk => by
    have e : (x :: l).length * (j + 1) = l.length * (j + 1) + (j + 1) := by rw [List.length_cons, Nat.add_mul, Nat.one_mul]
    rw [e] at hk
    have h1 := hx x List.mem_cons_self
    exact ⟨ha.mono (by omega), h1.mono (by omega), jok_few l (k + j + 1) (a + x) (sk_add ha h1) (fun y hy => hx y (List.mem_cons_of_mem _ hy)) (by omega)⟩
theorem sk_zero {k : Nat} (hk : 0 < k) : Sk k 0 := sk_int (a := 0) (Nat.two_pow_pos k) hk
/-- over one denominator -/
theorem jok_com {B : Nat} (hB : 0 < B) (hBs : B < 2 ^ 4000) {M : Nat} : ∀ (c : List Int) (a : Int), (∀ x ∈ c, x.natAbs ≤ M) → a.natAbs + (c.length + 1) * M < 2 ^ 4000 → JOk (mkRat a B) (c.map fun x => mkRat x B)
  | [], _, _, _ => trivial
  | x :: c, a, hx, ha => by
    have e : ((x :: c).length + 1) * M = (c.length + 1) * M + M := by rw [List.length_cons, Nat.add_mul _ 1, Nat.one_mul]
    rw [e] at ha
    have h1 := hx x List.mem_cons_self
    refine ⟨sk_mk hB (by omega) hBs, sk_mk hB (by omega) hBs, ?_⟩
    have e2 : mkRat a B + mkRat x B = mkRat (a + x) B := by
      rw [Rat.mkRat_add_mkRat _ _ (by omega) (by omega), ← Int.add_mul, Rat.mkRat_mul_right (by omega)]
    rw [e2]
    have := Int.natAbs_add_le a x
    exact jok_com hB hBs c (a + x) (fun y hy => hx y (List.mem_cons_of_mem _ hy)) (by omega)
theorem mkRat_zero' {B : Nat} : mkRat 0 B = 0 := Rat.zero_mkRat B
theorem sum_com {B : Nat} (hB : 0 < B) : ∀ c : List Int, (c.map fun x => mkRat x B).sum = mkRat c.sum B
  | [] => by simp [mkRat_zero']
  | x :: c => by
    simp only [List.map_cons, List.sum_cons, sum_com hB c]
    rw [Rat.mkRat_add_mkRat _ _ (by omega) (by omega), ← Int.add_mul, Rat.mkRat_mul_right (by omega)]
/-! ### equality -/
theorem view_fq {n : Nat} {h : Hh} {r : Rat} : viewP (n + 2) h (fq r) = some (qp (qr r)) := rfl
theorem eq_fq (r s : Rat) : eqP (qp (qr r)) (qp (qr s)) = decide (r = s) := by
  rw [eq_q]
  by_cases e : r = s
  · simp [e]
  · have : ¬ qr r = qr s := fun z => e (Rat.ext (congrArg Prod.fst z) (by have := congrArg Prod.snd z; simp only [qr] at this; omega))
    simp [e, this]
/-- a kind of values that can be compared -/
structure Vw (α : Type) [DecidableEq α] where
  enc : α → D
  dat : α → PyData
  fu : Nat
  view : ∀ n h x, viewP (n + fu) h (enc x) = some (dat x)
  inj : ∀ x y, eqP (dat x) (dat y) = decide (x = y)
def vRat : Vw Rat := ⟨fq, fun r => qp (qr r), 2, fun _ _ _ => rfl, eq_fq⟩
def vInt : Vw Int := ⟨D.int, PyData.int, 1, fun _ _ _ => rfl, fun x y => by
  by_cases e : x = y <;> simp [eqP, e]⟩
section
variable {α : Type} [DecidableEq α] (V : Vw α)
theorem vw_map (n : Nat) (h : Hh) : ∀ l : List α, mapO (viewP (n + V.fu) h) (l.map V.enc) = some (l.map V.dat)
  | [] => rfl
  | x :: l => by simp only [List.map_cons, mapO, V.view, vw_map n h l]
theorem vw_eqL : ∀ l l' : List α, eqPL (l.map V.dat) (l'.map V.dat) = decide (l = l')
  | [], [] => rfl
  | [], _ :: _ => rfl
  | _ :: _, [] => rfl
  | x :: l, y :: l' => by
    simp only [List.map_cons, eqPL, V.inj, vw_eqL l l']
    by_cases h1 : x = y <;> by_cases h2 : l = l' <;> simp [h1, h2]
theorem vw_tupView (n : Nat) (h : Hh) (l : List α) : viewP (n + (V.fu + 1)) h (.tup (l.map V.enc)) = some (.tuple (l.map V.dat)) := by
  show (match mapO (viewP (n + V.fu) h) (l.map V.enc) with
    | some ys => some (PyData.tuple ys)
    | none => none) = _
  rw [vw_map V]
theorem vw_locView {a : Nat} (n : Nat) (h : Hh) (l : List α) (hg : h.get a = some (.lst (l.map V.enc))) : viewP (n + (V.fu + 1)) h (.loc a) = some (.list (l.map V.dat)) := by
  show (match h.get a with
    | some (.lst xs) => (match mapO (viewP (n + V.fu) h) xs with
      | some ys => some (PyData.list ys)
      | none => none)
    | some (.ro xs) => (match mapO (viewP (n + V.fu) h) xs with
      | some ys => some (.list ys)
      | none => none)
    | _ => none) = _
  rw [hg]
  simp only [vw_map V]
/-- tuples of such values -/
def Vw.tup : Vw (List α) := ⟨fun l => .tup (l.map V.enc), fun l => .tuple (l.map V.dat), V.fu + 1, fun n h l => vw_tupView V n h l, fun l l' => by simp only [eqP, vw_eqL]⟩
theorem c_eqV {x y : α} {h : Hh} (hf : V.fu ≤ 10) : cmpD .eq (V.enc x) (V.enc y) h = some (decide (x = y)) := by
  have e : vfuel = (10 - V.fu) + V.fu := by unfold vfuel; omega
  simp only [cmpD, eqD, e, V.view, V.inj]
theorem c_neV {x y : α} {h : Hh} (hf : V.fu ≤ 10) : cmpD .ne (V.enc x) (V.enc y) h = some (!decide (x = y)) := by
  have e : vfuel = (10 - V.fu) + V.fu := by unfold vfuel; omega
  simp only [cmpD, eqD, e, V.view, V.inj]
theorem c_eqVL {l l' : List α} {a b : Nat} {h : Hh} (hf : V.fu ≤ 9) (ha : h.get a = some (.lst (l.map V.enc))) (hb : h.get b = some (.lst (l'.map V.enc))) : cmpD .eq (.loc a) (.loc b) h = some (decide (l = l')) := by
  have e : vfuel = (10 - (V.fu + 1)) + (V.fu + 1) := by unfold vfuel; omega
  simp only [cmpD, eqD, e, vw_locView V _ h l ha, vw_locView V _ h l' hb, eqP, vw_eqL]
theorem c_neVL {l l' : List α} {a b : Nat} {h : Hh} (hf : V.fu ≤ 9) (ha : h.get a = some (.lst (l.map V.enc))) (hb : h.get b = some (.lst (l'.map V.enc))) : cmpD .ne (.loc a) (.loc b) h = some (!decide (l = l')) := by
  have e : vfuel = (10 - (V.fu + 1)) + (V.fu + 1) := by unfold vfuel; omega
  simp only [cmpD, eqD, e, vw_locView V _ h l ha, vw_locView V _ h l' hb, eqP, vw_eqL]
end
theorem c_eqF {r s : Rat} {h : Hh} : cmpD .eq (fq r) (fq s) h = some (decide (r = s)) := c_eqV vRat (by decide)
theorem c_neF {r s : Rat} {h : Hh} : cmpD .ne (fq r) (fq s) h = some (!decide (r = s)) := c_neV vRat (by decide)
theorem c_eqFT {l l' : List Rat} {h : Hh} : cmpD .eq (.tup (l.map fq)) (.tup (l'.map fq)) h = some (decide (l = l')) := c_eqV vRat.tup (by decide)
theorem c_neFT {l l' : List Rat} {h : Hh} : cmpD .ne (.tup (l.map fq)) (.tup (l'.map fq)) h = some (!decide (l = l')) := c_neV vRat.tup (by decide)
theorem sub_f0 {r : Rat} {h : Hh} : subD (fq r) (.int 0) h = some (.int r.num) := rfl
theorem sub_f1 {r : Rat} {h : Hh} : subD (fq r) (.int 1) h = some (.int r.den) := rfl
theorem fq_zero : D.tup [.int 0, .int 1] = fq 0 := rfl
theorem fq_one : D.tup [.int 1, .int 1] = fq 1 := rfl
theorem fq_int (i : Int) : D.tup [.int i, .int 1] = fq (i : Rat) := rfl
end Alb.Rn
set_option Elab.async false
set_option linter.all false
set_option maxRecDepth 100000
set_option maxHeartbeats 400000
/-! Spreads as rationals: one pack is a matrix. -/
namespace Alb.Rn
open PySem Alb
/-! ### sums -/
def sm (f : Nat → Rat) : Nat → Rat
  | 0 => 0
  | n + 1 => sm f n + f n
theorem sm_congr {f g : Nat → Rat} : ∀ {n : Nat}, (∀ i, i < n → f i = g i) → sm f n = sm g n
  | 0, _ => rfl
  | n + 1, h => by
    simp only [sm, sm_congr (n := n) fun i hi => h i (by omega), h n (by omega)]
theorem sm_add (f g : Nat → Rat) : ∀ n, sm (fun i => f i + g i) n = sm f n + sm g n
  | 0 => by simp [sm, Rat.add_zero]
  | n + 1 => by
    simp only [sm, sm_add f g n]
    grind
theorem sm_mul (c : Rat) (f : Nat → Rat) : ∀ n, sm (fun i => c * f i) n = c * sm f n
  | 0 => by simp [sm, Rat.mul_zero]
  | n + 1 => by
    simp only [sm, sm_mul c f n]
    grind
theorem sm_zero : ∀ n, sm (fun _ => 0) n = 0
  | 0 => rfl
  | n + 1 => by simp [sm, sm_zero n, Rat.add_zero]
theorem sm_swap (f : Nat → Nat → Rat) (k : Nat) : ∀ n, sm (fun i => sm (fun j => f i j) k) n = sm (fun j => sm (fun i => f i j) n) k
  | 0 => by simp only [sm, sm_zero]
  | n + 1 => by
    simp only [sm, sm_swap f k n]
    rw [← sm_add]
theorem sm_nonneg {f : Nat → Rat} : ∀ {n : Nat}, (∀ i, i < n → 0 ≤ f i) → 0 ≤ sm f n
  | 0, _ => by simp [sm]
  | n + 1, h => by
    have h1 := sm_nonneg (n := n) fun i hi => h i (by omega)
    have h2 := h n (by omega)
    simp only [sm]
    grind
theorem sm_le_of {f : Nat → Rat} : ∀ {n : Nat}, (∀ i, i < n → 0 ≤ f i) → ∀ j, j < n → f j ≤ sm f n
  | 0, _, j, hj => by omega
  | n + 1, h, j, hj => by
    have h1 := sm_nonneg (n := n) fun i hi => h i (by omega)
    have h2 := h n (by omega)
    simp only [sm]
    by_cases e : j = n
    · subst e
      grind
    · have := sm_le_of (n := n) (fun i hi => h i (by omega)) j (by omega)
      grind
/-- only one of them counts -/
theorem sm_one {f : Nat → Rat} {j : Nat} : ∀ {n : Nat}, j < n → (∀ i, i < n → i ≠ j → f i = 0) → sm f n = f j
  | 0, h, _ => by omega
  | n + 1, h, hz => by
    simp only [sm]
    by_cases e : j = n
    · subst e
      have : sm f j = sm (fun _ => 0) j := sm_congr fun i hi => hz i (by omega) (by omega)
      rw [this, sm_zero, Rat.zero_add]
    · rw [sm_one (n := n) (by omega) (fun i hi => hz i (by omega)), hz n (by omega) (by omega), Rat.add_zero]
theorem sm_list (f : Nat → Rat) (n : Nat) : ((List.range n).map f).sum = sm f n := by
  induction n with
  | zero => rfl
  | succ n ih => simp [List.range_succ, ih, sm, Rat.add_zero]
/-! ### one pack more, in whole numbers -/
def dotI (g : Nat → Int) : Nat → List Int → Int
  | _, [] => 0
  | i, c :: cs => c * g i + dotI g (i + 1) cs
theorem inn_get {w : Int → Int} {i : Nat} {ch : Int} {j : Nat} : ∀ (k f : Nat) (l : List Int), j < l.length → (innI w i ch k f l).getD j 0 = l.getD j 0 + (if i + f ≤ j ∧ j < i + f + k then ch * w ((j : Int) - i) else 0)
  | 0, f, l, hj => by
    rw [if_neg (by omega)]
    simp [innI]
  | k + 1, f, l, hj => by
    have e : ((i : Int) + (f : Int)).toNat = i + f := by omega
    have e1 : ((f : Int) + 1) = ((f + 1 : Nat) : Int) := by omega
    rw [innI, e, e1, inn_get k (f + 1) _ (by rw [List.length_set]; exact hj)]
    by_cases z : i + f = j
    · subst z
      have : (l.set (i + f) (l.getD (i + f) 0 + ch * w f)).getD (i + f) 0 = l.getD (i + f) 0 + ch * w f := by
        simp [List.getD, hj]
      rw [this, if_neg (by omega), if_pos (by omega), Int.add_zero]
      congr 3
      omega
    · have : (l.set (i + f) (l.getD (i + f) 0 + ch * w f)).getD j 0 = l.getD j 0 := by
        simp [List.getD, List.getElem?_set, z]
      rw [this]
      congr 1
      by_cases y : i + (f + 1) ≤ j ∧ j < i + (f + 1) + k
      · rw [if_pos y, if_pos (by omega)]
      · rw [if_neg y, if_neg (by omega)]
theorem out_get {n : Int} {w : Int → Int → Int} {j : Nat} (hn : 0 ≤ n) : ∀ (cs : List Int) (i : Nat) (l : List Int), l.length = (n + 1).toNat → (i : Int) + cs.length ≤ n + 1 → j < l.length → (outI n w i cs l).getD j 0 = l.getD j 0 + dotI (fun i => if i ≤ j then w i ((j : Int) - i) else 0) i cs
  | [], i, l, _, _, _ => by simp [outI, dotI]
  | c :: cs, i, l, hl, hi, hj => by
    simp only [List.length_cons] at hi
    rw [outI, out_get hn cs (i + 1) _ (by rw [inn_len]; exact hl) (by omega) (by rw [inn_len]; exact hj)]
    have := inn_get (w := w i) (i := i) (ch := c) (j := j) (n - i + 1).toNat 0 l hj
    simp only [Int.natCast_zero] at this
    rw [this, dotI]
    by_cases z : i ≤ j
    · rw [if_pos (by omega), if_pos z]
      omega
    · rw [if_neg (by omega), if_neg z]
      omega
theorem step_get {n s : Int} (hn : 0 ≤ n) {c : List Int} (hc : c.length = (n + 1).toNat) {j : Nat} (hj : j < (n + 1).toNat) : (stepI n s c).getD j 0 = dotI (fun i => if i ≤ j then wN n s i ((j : Int) - i) else 0) 0 c := by
  unfold stepI
  rw [out_get hn c 0 _ (by simp) (by omega) (by simpa using hj)]
  have : (List.replicate (n + 1).toNat (0 : Int)).getD j 0 = 0 := by
    simp [List.getD, hj]
  rw [this, Int.zero_add]
theorem dot_sm {g : Nat → Int} {B W : Nat} (hB : 0 < B) (hW : 0 < W) : ∀ (cs : List Int) (i : Nat), mkRat (dotI g i cs) (B * W) = sm (fun t => mkRat (cs.getD t 0) B * mkRat (g (i + t)) W) cs.length := by
  have snoc : ∀ (cs : List Int) (i : Nat) (c : Int), dotI g i (cs ++ [c]) = dotI g i cs + c * g (i + cs.length) := by
    intro cs
    induction cs with
    | nil => intro i c; simp [dotI]
    | cons d cs ih =>
      intro i c
      simp only [List.cons_append, dotI, ih, List.length_cons]
      rw [Int.add_assoc]
      congr 4
      omega
  intro cs i
  induction h : cs.length generalizing cs with
  | zero =>
    have : cs = [] := List.length_eq_zero_iff.mp h
    subst this
    simp [dotI, sm, Rat.zero_mkRat]
  | succ k ih =>
    have hne : cs ≠ [] := by intro e; subst e; simp at h
    obtain ⟨ds, d, rfl⟩ : ∃ ds d, cs = ds ++ [d] := ⟨cs.dropLast, cs.getLast hne, (List.dropLast_concat_getLast hne).symm⟩
    have hk : ds.length = k := by simpa using h
    rw [snoc, sm]
    have e1 : sm (fun t => mkRat ((ds ++ [d]).getD t 0) B * mkRat (g (i + t)) W) k = sm (fun t => mkRat (ds.getD t 0) B * mkRat (g (i + t)) W) k := sm_congr fun t ht => by
      simp [List.getD, List.getElem?_append_left (by omega : t < ds.length)]
    rw [e1, ← ih ds hk]
    have e2 : (ds ++ [d]).getD k 0 = d := by
      subst hk
      simp [List.getD]
    rw [e2, Rat.mkRat_mul_mkRat, Rat.mkRat_add_mkRat _ _ (by have := Nat.mul_pos hB hW; omega) (by have := Nat.mul_pos hB hW; omega), ← Int.add_mul, Rat.mkRat_mul_right (by have := Nat.mul_pos hB hW; omega), hk]
/-! ### as rationals -/
/-- the chance that i different ones become j by one pack -/
def A (n s : Int) (i j : Nat) : Rat := if i ≤ j then mkRat (wN n s i ((j : Int) - i)) (WN n s) else 0
/-- the chance that had different ones become j by p packs -/
def pr (n s had : Int) (p j : Nat) : Rat := mkRat ((itI n s p (stI n had)).getD j 0) (WN n s ^ p)
theorem pr_zero {n s had : Int} {j : Nat} (hj : j < (n + 1).toNat) : pr n s had 0 j = if (j : Int) = had then 1 else 0 := by
  have gi : ∀ (k : Nat) (lo : Int) (j : Nat), j < k → (intsFrom lo k)[j]? = some (lo + j) := by
    intro k
    induction k with
    | zero => intro lo j h; omega
    | succ k ih =>
      intro lo j h
      cases j with
      | zero => simp [intsFrom]
      | succ j =>
        simp only [intsFrom, List.getElem?_cons_succ]
        rw [ih (lo + 1) j (by omega)]
        congr 1
        omega
  unfold pr itI stI
  simp only [List.getD, List.getElem?_map, gi _ _ _ hj, Option.map_some, Option.getD_some, Nat.pow_zero, Int.zero_add]
  by_cases e : (j : Int) = had
  · simp [e]; rfl
  · simp [e, Rat.zero_mkRat]
theorem pr_succ {n s had : Int} (a : Alm n s) {p : Nat} (hp : p ≤ 31) {j : Nat} (hj : j < (n + 1).toNat) : pr n s had (p + 1) j = sm (fun i => pr n s had p i * A n s i j) (n + 1).toNat := by
  obtain ⟨w1, w2, w3⟩ := WN_pos a
  have n1 := a.n1
  have hc := (it_ok a (had := had) p hp).2.2
  unfold pr
  rw [itI, step_get (by omega) hc hj, Nat.pow_succ, dot_sm (Nat.pow_pos w1) w1, hc]
  refine sm_congr fun i hi => ?_
  congr 1
  unfold A
  rw [Nat.zero_add]
  by_cases z : i ≤ j
  · simp only [z, if_true]
  · simp only [z, if_false, Rat.zero_mkRat]
/-- packs after packs -/
theorem pr_add {n s had : Int} (a : Alm n s) {p : Nat} (h0 : 0 ≤ had) (hn : had ≤ n) : ∀ (q : Nat), p + q ≤ 31 → ∀ {j : Nat}, j < (n + 1).toNat → pr n s had (p + q) j = sm (fun k => pr n s had p k * pr n s k q j) (n + 1).toNat
  | 0, hq, j, hj => by
    rw [Nat.add_zero, sm_one hj (fun i hi hij => by
      rw [pr_zero hj, if_neg (by omega), Rat.mul_zero]), pr_zero hj, if_pos rfl, Rat.mul_one]
  | q + 1, hq, j, hj => by
    rw [← Nat.add_assoc, pr_succ a (by omega) hj]
    have e1 : sm (fun i => pr n s had (p + q) i * A n s i j) (n + 1).toNat = sm (fun i => sm (fun k => A n s i j * (pr n s had p k * pr n s k q i)) (n + 1).toNat) (n + 1).toNat := sm_congr fun i hi => by
      rw [pr_add a h0 hn q (by omega) hi, sm_mul, Rat.mul_comm]
    rw [e1, sm_swap]
    refine sm_congr fun k hk => ?_
    rw [pr_succ a (by omega) hj, ← sm_mul]
    refine sm_congr fun i hi => ?_
    grind
end Alb.Rn
set_option Elab.async false
set_option linter.all false
set_option maxRecDepth 100000
set_option maxHeartbeats 400000
/-! What the program's functions of packs answer, as rationals. -/
namespace Alb.Rn
open PySem Alb
def mTab : List (List (List Q)) := [[[(0, 1), (1, 1)]],
  [[(0, 1), (2, 1), (3, 1)], [(0, 1), (1, 1), (1, 1)]],
  [[(0, 1), (3, 1), (9, 2), (11, 2)], [(0, 1), (3, 2), (2, 1), (5, 2)], [(0, 1), (1, 1), (1, 1), (1, 1)]],
  [[(0, 1), (4, 1), (6, 1), (22, 3), (25, 3)], [(0, 1), (2, 1), (14, 5), (17, 5), (19, 5)], [(0, 1), (4, 3), (5, 3), (2, 1), (7, 3)], [(0, 1), (1, 1), (1, 1), (1, 1), (1, 1)]],
  [[(0, 1), (5, 1), (15, 2), (55, 6), (125, 12), (137, 12)], [(0, 1), (5, 2), (25, 7), (545, 126), (307, 63), (671, 126)], [(0, 1), (5, 3), (20, 9), (8, 3), (3, 1), (29, 9)], [(0, 1), (5, 4), (3, 2), (7, 4), (2, 1), (9, 4)], [(0, 1), (1, 1), (1, 1), (1, 1), (1, 1), (1, 1)]],
  [[(0, 1), (6, 1), (9, 1), (11, 1), (25, 2), (137, 10), (147, 10)], [(0, 1), (3, 1), (13, 3), (21, 4), (83, 14), (136, 21), (97, 14)], [(0, 1), (2, 1), (11, 4), (251, 76), (141, 38), (153, 38), (327, 76)], [(0, 1), (3, 2), (27, 14), (16, 7), (18, 7), (39, 14), (41, 14)], [(0, 1), (6, 5), (7, 5), (8, 5), (9, 5), (2, 1), (11, 5)], [(0, 1), (1, 1), (1, 1), (1, 1), (1, 1), (1, 1), (1, 1)]],
  [[(0, 1), (7, 1), (21, 2), (77, 6), (175, 12), (959, 60), (343, 20), (363, 20)], [(0, 1), (7, 2), (56, 11), (679, 110), (2303, 330), (5033, 660), (449, 55), (5693, 660)], [(0, 1), (7, 3), (49, 15), (609, 155), (69881, 15810), (15209, 3162), (5417, 1054), (85691, 15810)], [(0, 1), (7, 4), (7, 3), (189, 68), (53, 17), (689, 204), (61, 17), (257, 68)], [(0, 1), (7, 5), (7, 4), (41, 20), (23, 10), (5, 2), (53, 20), (11, 4)], [(0, 1), (7, 6), (4, 3), (3, 2), (5, 3), (11, 6), (2, 1), (13, 6)], [(0, 1), (1, 1), (1, 1), (1, 1), (1, 1), (1, 1), (1, 1), (1, 1)]],
  [[(0, 1), (8, 1), (12, 1), (44, 3), (50, 3), (274, 15), (98, 5), (726, 35), (761, 35)], [(0, 1), (4, 1), (76, 13), (830, 117), (10330, 1287), (282286, 32175), (906898, 96525), (958393, 96525), (1003423, 96525)], [(0, 1), (8, 3), (34, 9), (314, 69), (4598, 897), (826646, 148005), (294517, 49335), (103574, 16445), (974651, 148005)], [(0, 1), (2, 1), (30, 11), (466, 143), (36082, 9867), (39167, 9867), (13913, 3289), (43985, 9867), (45949, 9867)], [(0, 1), (8, 5), (52, 25), (676, 275), (757, 275), (164, 55), (174, 55), (912, 275), (951, 275)], [(0, 1), (4, 3), (44, 27), (17, 9), (19, 9), (62, 27), (22, 9), (23, 9), (71, 27)], [(0, 1), (8, 7), (9, 7), (10, 7), (11, 7), (12, 7), (13, 7), (2, 1), (15, 7)], [(0, 1), (1, 1), (1, 1), (1, 1), (1, 1), (1, 1), (1, 1), (1, 1), (1, 1)]]]
def bTab : List (List Int) := [[1, 0, 0, 0, 0, 0, 0, 0, 0], [1, 1, 0, 0, 0, 0, 0, 0, 0], [1, 2, 1, 0, 0, 0, 0, 0, 0], [1, 3, 3, 1, 0, 0, 0, 0, 0], [1, 4, 6, 4, 1, 0, 0, 0, 0], [1, 5, 10, 10, 5, 1, 0, 0, 0], [1, 6, 15, 20, 15, 6, 1, 0, 0], [1, 7, 21, 35, 35, 21, 7, 1, 0], [1, 8, 28, 56, 70, 56, 28, 8, 1]]
/-! ### binomials by the table -/
def bn (a b : Int) : Int := if b < 0 then 0 else (bTab.getD a.toNat []).getD b.toNat 0
theorem bn_chk : ((List.range 9).all fun a => (List.range 17).all fun b => decide (wv a ((b : Int) - 8) = bn a ((b : Int) - 8))) = true := by decide +kernel
theorem wv_bn {a b : Int} (h1 : 0 ≤ a) (h2 : a ≤ 8) (h3 : -8 ≤ b) (h4 : b ≤ 8) : wv a b = bn a b := by
  have := bn_chk
  rw [List.all_eq_true] at this
  have := this a.toNat (List.mem_range.mpr (by omega))
  rw [List.all_eq_true] at this
  have := this (b + 8).toNat (List.mem_range.mpr (by omega))
  have e1 : ((a.toNat : Nat) : Int) = a := by omega
  have e2 : (((b + 8).toNat : Nat) : Int) - 8 = b := by omega
  rw [e1, e2] at this
  exact of_decide_eq_true this
/-- how many packs lead from i to j -/
def aB (n s : Int) (i j : Nat) : Int := if i ≤ j then bn (n - i) ((j : Int) - i) * bn i (s - ((j : Int) - i)) else 0
theorem A_aB {n s : Int} (a : Alm n s) {i j : Nat} (hi : i < (n + 1).toNat) (hj : j < (n + 1).toNat) : A n s i j = mkRat (aB n s i j) (WN n s) := by
  obtain ⟨n1, n8, s1, sn⟩ := a
  unfold A aB wN
  by_cases z : i ≤ j
  · rw [if_pos z, if_pos z, wv_bn (by omega) (by omega) (by omega) (by omega), wv_bn (by omega) (by omega) (by omega) (by omega)]
  · rw [if_neg z, if_neg z, Rat.zero_mkRat]
theorem WN_bn {n s : Int} (a : Alm n s) : ((WN n s : Nat) : Int) = bn n s := by
  obtain ⟨n1, n8, s1, sn⟩ := a
  rw [(WN_pos ⟨n1, n8, s1, sn⟩).2.2, wv_bn (by omega) (by omega) (by omega) (by omega)]
def smI (g : Nat → Int) : Nat → Int
  | 0 => 0
  | n + 1 => smI g n + g n
theorem sm_mk {W : Nat} (hW : 0 < W) (g : Nat → Int) : ∀ k, sm (fun j => mkRat (g j) W) k = mkRat (smI g k) W
  | 0 => by simp [sm, smI, Rat.zero_mkRat]
  | k + 1 => by
    simp only [sm, smI, sm_mk hW g k]
    rw [Rat.mkRat_add_mkRat _ _ (by omega) (by omega), ← Int.add_mul, Rat.mkRat_mul_right (by omega)]
/-- all n, s, i -/
def alb3 (f : Nat → Nat → Nat → Bool) : Bool := (List.range 8).all fun n => (List.range (n + 1)).all fun s => (List.range (n + 2)).all fun i => f (n + 1) (s + 1) i
theorem alb3_of {f : Nat → Nat → Nat → Bool} (h : alb3 f = true) {n s : Int} (a : Alm n s) {i : Nat} (hi : i < (n + 1).toNat) : f n.toNat s.toNat i = true := by
  obtain ⟨n1, n8, s1, sn⟩ := a
  unfold alb3 at h
  rw [List.all_eq_true] at h
  have h := h (n.toNat - 1) (List.mem_range.mpr (by omega))
  rw [List.all_eq_true] at h
  have h := h (s.toNat - 1) (List.mem_range.mpr (by omega))
  rw [List.all_eq_true] at h
  have h := h i (List.mem_range.mpr (by omega))
  have e1 : n.toNat - 1 + 1 = n.toNat := by omega
  have e2 : s.toNat - 1 + 1 = s.toNat := by omega
  rw [e1, e2] at h
  exact h
theorem row_chk : alb3 (fun n s i => decide (smI (aB n s i) (n + 1) = bn n s) && decide (n * smI (fun j => j * aB n s i j) (n + 1) = bn n s * (n * i + s * ((n : Int) - i)))) = true := by decide +kernel
theorem row_sum {n s : Int} (a : Alm n s) {i : Nat} (hi : i < (n + 1).toNat) : sm (fun j => A n s i j) (n + 1).toNat = 1 := by
  have h := alb3_of row_chk a hi
  simp only [Bool.and_eq_true, decide_eq_true_eq] at h
  have w := WN_pos a
  have e : sm (fun j => A n s i j) (n + 1).toNat = sm (fun j => mkRat (aB n s i j) (WN n s)) (n + 1).toNat := sm_congr fun j hj => A_aB a hi hj
  have n1 := a.n1
  have s1 := a.s1
  have e1 : ((n.toNat : Nat) : Int) = n := by omega
  have e2 : ((s.toNat : Nat) : Int) = s := by omega
  have e3 : n.toNat + 1 = (n + 1).toNat := by omega
  rw [e1, e2, e3] at h
  rw [e, sm_mk w.1, h.1, ← WN_bn a]
  have : mkRat ((WN n s : Nat) : Int) (WN n s) = mkRat 1 1 := by
    rw [Rat.mkRat_eq_iff (by omega) (by omega)]
    omega
  rw [this]
  rfl
theorem row_mean {n s : Int} (a : Alm n s) {i : Nat} (hi : i < (n + 1).toNat) : sm (fun j => A n s i j * (j : Rat)) (n + 1).toNat = (i : Rat) + mkRat s n.toNat * ((n : Rat) - (i : Rat)) := by
  have h := alb3_of row_chk a hi
  simp only [Bool.and_eq_true, decide_eq_true_eq] at h
  have w := WN_pos a
  have n1 := a.n1
  have s1 := a.s1
  have e : sm (fun j => A n s i j * (j : Rat)) (n + 1).toNat = sm (fun j => mkRat (j * aB n s i j) (WN n s)) (n + 1).toNat := sm_congr fun j hj => by
    rw [A_aB a hi hj]
    have : ((j : Nat) : Rat) = mkRat (j : Int) 1 := by rw [Rat.mkRat_one]; rfl
    rw [this, Rat.mkRat_mul_mkRat, Nat.mul_one, Int.mul_comm]
  have e1 : ((n.toNat : Nat) : Int) = n := by omega
  have e2 : ((s.toNat : Nat) : Int) = s := by omega
  have e3 : n.toNat + 1 = (n + 1).toNat := by omega
  rw [e1, e2, e3] at h
  have h2 := h.2
  rw [← WN_bn a] at h2
  rw [e, sm_mk w.1]
  rw [Rat.mkRat_eq_div, Rat.mkRat_eq_div]
  have hW : ((WN n s : Nat) : Rat) ≠ 0 := by
    have := w.1
    intro z
    have : (WN n s) = 0 := by exact_mod_cast z
    omega
  have hn : ((n.toNat : Nat) : Rat) ≠ 0 := by
    intro z
    have : n.toNat = 0 := by exact_mod_cast z
    omega
  have e4 : (n : Rat) = ((n.toNat : Nat) : Rat) := by
    have : (n : Rat) = (((n.toNat : Nat) : Int) : Rat) := by rw [e1]
    rw [this]
    rfl
  have h3 : (n : Rat) * ((smI (fun j => j * aB n s i j) (n + 1).toNat : Int) : Rat) = ((WN n s : Nat) : Rat) * ((n : Rat) * (i : Rat) + (s : Rat) * ((n : Rat) - (i : Rat))) := by
    have := congrArg (fun z : Int => (z : Rat)) h2
    simp only [Rat.intCast_mul, Rat.intCast_add, Rat.intCast_sub, Rat.intCast_natCast] at this
    exact this
  rw [e4] at h3 ⊢
  grind
theorem mk_nonneg {a : Int} {b : Nat} (h : 0 ≤ a) : 0 ≤ mkRat a b := by
  rw [← Rat.divInt_ofNat]
  exact Rat.divInt_nonneg h (by omega)
theorem A_nonneg {n s : Int} (a : Alm n s) {i j : Nat} (hi : i < (n + 1).toNat) (hj : j < (n + 1).toNat) : 0 ≤ A n s i j := by
  unfold A
  have := a.n1
  split
  · have := (wN_bd a (had := i) (f := (j : Int) - i) (by omega) (by omega) (by omega)).2.1
    exact mk_nonneg this
  · exact Rat.le_refl
end Alb.Rn
set_option Elab.async false
set_option linter.all false
set_option maxRecDepth 100000
set_option maxHeartbeats 400000
/-! What the program's functions of packs answer, as rationals. -/
namespace Alb.Rn
open PySem Alb
section
variable {n s had : Int}
theorem pr_nonneg (a : Alm n s) (h0 : 0 ≤ had) : ∀ p : Nat, p ≤ 31 → ∀ {j : Nat}, j < (n + 1).toNat → 0 ≤ pr n s had p j
  | 0, _, j, hj => by
    rw [pr_zero hj]
    split <;> decide
  | p + 1, hp, j, hj => by
    rw [pr_succ a (by omega) hj]
    exact sm_nonneg fun i hi => Rat.mul_nonneg (pr_nonneg a h0 p (by omega) hi) (A_nonneg a hi hj)
theorem pr_sum (a : Alm n s) (h0 : 0 ≤ had) (h1 : had ≤ n) : ∀ p : Nat, p ≤ 31 → sm (fun j => pr n s had p j) (n + 1).toNat = 1
  | 0, _ => by
    rw [sm_one (j := had.toNat) (by omega) (fun i hi hij => by rw [pr_zero hi, if_neg (by omega)]), pr_zero (by omega), if_pos (by omega)]
  | p + 1, hp => by
    have e : sm (fun j => pr n s had (p + 1) j) (n + 1).toNat = sm (fun j => sm (fun i => pr n s had p i * A n s i j) (n + 1).toNat) (n + 1).toNat := sm_congr fun j hj => pr_succ a (by omega) hj
    rw [e, sm_swap]
    have e2 : sm (fun i => sm (fun j => pr n s had p i * A n s i j) (n + 1).toNat) (n + 1).toNat = sm (fun i => pr n s had p i) (n + 1).toNat := sm_congr fun i hi => by
      rw [sm_mul, row_sum a hi, Rat.mul_one]
    rw [e2, pr_sum a h0 h1 p (by omega)]
theorem pr_le_one (a : Alm n s) (h0 : 0 ≤ had) (h1 : had ≤ n) {p : Nat} (hp : p ≤ 31) {j : Nat} (hj : j < (n + 1).toNat) : pr n s had p j ≤ 1 := by
  rw [← pr_sum a h0 h1 p hp]
  exact sm_le_of (fun i hi => pr_nonneg a h0 p hp hi) j hj
/-- the mean number of different ones -/
def md (n s had : Int) (p : Nat) : Rat := sm (fun j => pr n s had p j * (j : Rat)) (n + 1).toNat
theorem md_zero (a : Alm n s) (h0 : 0 ≤ had) (h1 : had ≤ n) : md n s had 0 = had := by
  unfold md
  rw [sm_one (j := had.toNat) (by omega) (fun i hi hij => by rw [pr_zero hi, if_neg (by omega), Rat.zero_mul]), pr_zero (by omega), if_pos (by omega), Rat.one_mul]
  have : (had : Rat) = (((had.toNat : Nat) : Int) : Rat) := by
    congr 1
    omega
  rw [this]
  rfl
theorem md_succ (a : Alm n s) (h0 : 0 ≤ had) (h1 : had ≤ n) {p : Nat} (hp : p ≤ 30) : md n s had (p + 1) = md n s had p + mkRat s n.toNat * ((n : Rat) - md n s had p) := by
  have ps := pr_sum a h0 h1 p (by omega)
  unfold md
  have e : sm (fun j => pr n s had (p + 1) j * (j : Rat)) (n + 1).toNat = sm (fun j => sm (fun i => pr n s had p i * (A n s i j * (j : Rat))) (n + 1).toNat) (n + 1).toNat := sm_congr fun j hj => by
    rw [pr_succ a (by omega) hj, Rat.mul_comm, ← sm_mul]
    refine sm_congr fun i hi => ?_
    grind
  rw [e, sm_swap]
  have e2 : sm (fun i => sm (fun j => pr n s had p i * (A n s i j * (j : Rat))) (n + 1).toNat) (n + 1).toNat = sm (fun i => (1 - mkRat s n.toNat) * (pr n s had p i * (i : Rat)) + mkRat s n.toNat * (n : Rat) * pr n s had p i) (n + 1).toNat := sm_congr fun i hi => by
    rw [sm_mul, row_mean a hi]
    grind
  rw [e2, sm_add, sm_mul, sm_mul, ps]
  grind
/-! ### the program's functions -/
theorem okk (a : Alm n s) (h0 : 0 ≤ had) (h1 : had ≤ n) : ok3 n s had = true := by
  obtain ⟨n1, n8, s1, sn⟩ := a
  simp only [ok3, Bool.and_eq_true, decide_eq_true_eq]
  omega
/-- the spread as a list -/
def sprL (n s had : Int) (p : Nat) : List Rat := (List.range (n + 1).toNat).map (pr n s had p)
theorem spr_eq (a : Alm n s) {p : Nat} (hp : p ≤ 31) : rd (WN n s ^ p) (itI n s p (stI n had)) = (sprL n s had p).map qr := by
  have w := (WN_pos a).1
  have hc := (it_ok a (had := had) p hp).2.2
  unfold rd sprL pr
  rw [List.map_map]
  refine List.ext_getElem (by simp [hc]) fun i h1 h2 => ?_
  simp only [List.getElem_map, List.getElem_range, Function.comp]
  rw [red_rat (Nat.pow_pos w)]
  simp only [List.length_map] at h1
  simp [List.getD, h1]
theorem after_rat (a : Alm n s) {p : Int} (p0 : 0 ≤ p) (p1 : p ≤ 30) : afterM n s had p = some ((sprL n s had p.toNat).map qr) := by
  rw [after_ok a p0 (by omega), spr_eq a (by omega)]
theorem rr_after {m : Nat} {h : Hh} (a : Alm n s) {p : Int} (p0 : 0 ≤ p) (p1 : p ≤ 30) : (clOf TT (m + 5)).f 22 [.int n, .int s, .int had, .int p] h = .ok (.tup ((sprL n s had p.toNat).map fq)) h := by
  have := r_after (m := m) (h := h) (after_rat (had := had) a p0 p1)
  rw [map_fq] at this
  exact this
theorem rr_spread {m : Nat} {h : Hh} (a : Alm n s) (h0 : 0 ≤ had) (h1 : had ≤ n) {p : Int} (p0 : 0 ≤ p) (p1 : p ≤ 30) : (clOf TT (m + 6)).f 23 [.int n, .int s, .int had, .int p] h = .ok (.tup ((sprL n s had p.toNat).map fq)) h := by
  have := r_spread (m := m) (h := h) (okk a h0 h1) (num_ok p0 p1) (after_rat (had := had) a p0 p1)
  rw [map_fq] at this
  exact this
theorem spr_last (a : Alm n s) {p : Nat} : (sprL n s had p).getLast? = some (pr n s had p n.toNat) := by
  have n1 := a.n1
  have e : (n + 1).toNat = n.toNat + 1 := by omega
  unfold sprL
  rw [e, List.range_succ, List.map_append]
  simp
theorem rr_full {m : Nat} {h : Hh} (a : Alm n s) (h0 : 0 ≤ had) (h1 : had ≤ n) {p : Int} (p0 : 0 ≤ p) (p1 : p ≤ 30) : (clOf TT (m + 6)).f 30 [.int n, .int s, .int had, .int p] h = .ok (fq (pr n s had p.toNat n.toNat)) h := by
  have := r_full (m := m) (h := h) (okk a h0 h1) (num_ok p0 p1) (after_rat (had := had) a p0 p1) (by rw [List.getLast?_map, spr_last a]; rfl)
  rw [qd_qr] at this
  exact this
theorem diff_fold {B : Nat} (hB : 0 < B) (hBs : B < 2 ^ 4000) {M : Nat} : ∀ (c : List Int) (i : Nat) (y : Int), (∀ x ∈ c, x.natAbs ≤ M) → i + c.length ≤ 9 → y.natAbs + (c.length + 1) * (9 * M) < 2 ^ 4000 →
    foldO diffG (enumI i (rd B c)) (qr (mkRat y B)) = some (qr (mkRat (y + dotI (fun i => (i : Int)) i c) B))
  | [], i, y, _, _, _ => by simp [rd, enumI, foldO, dotI]
  | x :: c, i, y, hx, hi, hy => by
    have e : ((x :: c).length + 1) * (9 * M) = (c.length + 1) * (9 * M) + 9 * M := by rw [List.length_cons, Nat.add_mul _ 1, Nat.one_mul]
    rw [e] at hy
    simp only [List.length_cons] at hi
    have h1 := hx x List.mem_cons_self
    have sx : Sk 4000 (mkRat x B) := sk_mk hB (by omega) hBs
    have si : Sk 4000 ((i : Int) : Rat) := sk_int (Nat.lt_of_le_of_lt (by simp; omega : ((i : Int)).natAbs ≤ 9) (Nat.lt_of_lt_of_le (by decide : 9 < 2 ^ 4) (Nat.pow_le_pow_right (by decide) (by decide)))) (by decide)
    have et : timesM ((i : Int), 1) (red x B) = some (qr (mkRat (x * i) B)) := by
      rw [red_rat hB]
      have := times_rat si sx
      have e2 : ((i : Int) : Rat) * mkRat x B = mkRat (x * i) B := by
        have : ((i : Int) : Rat) = mkRat (i : Int) 1 := by rw [Rat.mkRat_one]
        rw [this, Rat.mkRat_mul_mkRat, Nat.one_mul, Int.mul_comm]
      rw [e2] at this
      exact this
    have bx : (x * (i : Int)).natAbs ≤ 9 * M := by
      rw [Int.natAbs_mul, Int.natAbs_natCast, Nat.mul_comm]
      exact Nat.mul_le_mul (by omega) h1
    have ep : plusM (qr (mkRat y B)) (qr (mkRat (x * i) B)) = some (qr (mkRat (y + x * i) B)) := by
      rw [plus_rat (sk_mk hB (by omega) hBs) (sk_mk hB (by omega) hBs), Rat.mkRat_add_mkRat _ _ (by omega) (by omega), ← Int.add_mul, Rat.mkRat_mul_right (by omega)]
    have ab := Int.natAbs_add_le y (x * i)
    have ih := diff_fold hB hBs c (i + 1) (y + x * i) (fun z hz => hx z (List.mem_cons_of_mem _ hz)) (by omega) (by omega)
    show foldO diffG (((i : Nat), red x B) :: enumI (i + 1) (rd B c)) _ = _
    have st : diffG ((i : Nat), red x B) (qr (mkRat y B)) = some (qr (mkRat (y + x * i) B)) := by
      unfold diffG
      simp only [et, ep]
    simp only [foldO, st, ih, dotI, Int.add_assoc]
theorem diff_rat (a : Alm n s) {p : Int} (p0 : 0 ≤ p) (p1 : p ≤ 30) : diffM n s had p = some (qr (md n s had p.toNat)) := by
  have n8 := a.n8
  have n1 := a.n1
  obtain ⟨w1, w2, w3⟩ := WN_pos a
  obtain ⟨i1, i2, i3⟩ := it_ok a (had := had) p.toNat (by omega)
  have hB : 0 < WN n s ^ p.toNat := Nat.pow_pos w1
  have hW : WN n s ^ p.toNat ≤ 2 ^ (7 * p.toNat) := by
    rw [Nat.pow_mul]
    exact Nat.pow_le_pow_left (by omega) _
  have hBs : WN n s ^ p.toNat < 2 ^ 4000 := Nat.lt_of_le_of_lt hW (Nat.pow_lt_pow_right (by decide) (by omega))
  unfold diffM
  rw [after_ok a p0 (by omega)]
  simp only
  have z : ((0, 1) : Q) = qr (mkRat 0 (WN n s ^ p.toNat)) := by rw [Rat.zero_mkRat]; rfl
  have bd : (0 : Int).natAbs + ((itI n s p.toNat (stI n had)).length + 1) * (9 * 2 ^ (19 * p.toNat)) < 2 ^ 4000 := by
    rw [i3]
    have h1 : ((n + 1).toNat + 1) * (9 * 2 ^ (19 * p.toNat)) ≤ 10 * (9 * 2 ^ (19 * p.toNat)) := Nat.mul_le_mul_right _ (by omega)
    have h2 : 10 * (9 * 2 ^ (19 * p.toNat)) ≤ 2 ^ 7 * 2 ^ (19 * p.toNat) := by
      rw [← Nat.mul_assoc]
      exact Nat.mul_le_mul_right _ (by decide)
    rw [← Nat.pow_add] at h2
    have h3 : 2 ^ (7 + 19 * p.toNat) < 2 ^ 4000 := Nat.pow_lt_pow_right (by decide) (by omega)
    have e0 : (0 : Int).natAbs = 0 := rfl
    rw [e0, Nat.zero_add]
    exact Nat.lt_of_le_of_lt (Nat.le_trans h1 h2) h3
  rw [z, diff_fold hB hBs _ 0 0 i2 (by omega) bd, Int.zero_add]
  have := dot_sm (g := fun i => (i : Int)) hB (W := 1) (by decide) (itI n s p.toNat (stI n had)) 0
  rw [Nat.mul_one] at this
  rw [this, i3]
  unfold md pr
  congr 2
  refine sm_congr fun i hi => ?_
  rw [Nat.zero_add, Rat.mkRat_one]
  rfl
theorem rr_diff {m : Nat} {h : Hh} (a : Alm n s) (h0 : 0 ≤ had) (h1 : had ≤ n) {p : Int} (p0 : 0 ≤ p) (p1 : p ≤ 30) : (clOf TT (m + 6)).f 24 [.int n, .int s, .int had, .int p] h = .ok (fq (md n s had p.toNat)) h := by
  have := r_diff (m := m) (h := h) (okk a h0 h1) (num_ok p0 p1) (diff_rat (had := had) a p0 p1)
  rw [qd_qr] at this
  exact this
/-- the chance that a pack brings f new ones -/
def pc (n s had f : Int) : Rat := mkRat (wN n s had f) (WN n s)
theorem fresh_rat (a : Alm n s) {f : Int} (h0 : 0 ≤ had) (h1 : had ≤ n) (f0 : 0 ≤ f) (f1 : f ≤ n) : freshM n s had f = some (qr (pc n s had f)) := by
  obtain ⟨n1, n8, s1, sn⟩ := a
  have t1 := ways_tab (a := n - had) (b := f) (by omega) (by omega) (by omega) (by omega)
  have t2 := ways_tab (a := had) (b := s - f) (by omega) (by omega) (by omega) (by omega)
  have t3 := ways_tab (a := n) (b := s) (by omega) (by omega) (by omega) (by omega)
  obtain ⟨w1, w2, w3⟩ := WN_pos ⟨n1, n8, s1, sn⟩
  unfold freshM
  rw [t1.1, t2.1, t3.1]
  simp only
  have sm7 : ∀ {x : Int}, 0 ≤ x → x ≤ 70 → Sm x := fun {x} h0 h1 => sm_of (k := 70) (by omega) (Nat.lt_of_lt_of_le (by decide : 70 < 2 ^ 7) (Nat.pow_le_pow_right (by decide) (by decide)))
  rw [mul_sm (sm7 t1.2.1 t1.2.2) (sm7 t2.2.1 t2.2.2)]
  simp only
  rw [← w3, low_rat w1 (Nat.lt_of_le_of_lt w2 (Nat.lt_of_lt_of_le (by decide : 70 < 2 ^ 7) (Nat.pow_le_pow_right (by decide) (by decide))))]
  rfl
theorem rr_pack {m : Nat} {h : Hh} (a : Alm n s) {f : Int} (h0 : 0 ≤ had) (h1 : had ≤ n) (f0 : 0 ≤ f) (f1 : f ≤ n) : (clOf TT (m + 4)).f 8 [.int n, .int s, .int had, .int f] h = .ok (fq (pc n s had f)) h := by
  have := r_pack (m := m) (h := h) (okk a h0 h1) (num_ok f0 f1) (fresh_rat a h0 h1 f0 f1)
  rw [qd_qr] at this
  exact this
/-! ### sizes -/
theorem sk_pr (a : Alm n s) {p : Nat} (hp : p ≤ 31) (j : Nat) : Sk 600 (pr n s had p j) := by
  obtain ⟨w1, w2, w3⟩ := WN_pos a
  obtain ⟨i1, i2, i3⟩ := it_ok a (had := had) p hp
  have hW : WN n s ^ p ≤ 2 ^ (7 * p) := by
    rw [Nat.pow_mul]
    exact Nat.pow_le_pow_left (by omega) _
  unfold pr
  refine sk_mk (Nat.pow_pos w1) ?_ (Nat.lt_of_le_of_lt hW (Nat.pow_lt_pow_right (by decide) (by omega)))
  have : ((itI n s p (stI n had)).getD j 0).natAbs ≤ 2 ^ (19 * p) := by
    simp only [List.getD]
    cases q : (itI n s p (stI n had))[j]? with
    | none => simp
    | some x => exact i2 x (List.mem_of_getElem? q)
  exact Nat.lt_of_le_of_lt this (Nat.pow_lt_pow_right (by decide) (by omega))
theorem den_pr (a : Alm n s) {p : Nat} (hp : p ≤ 31) (j : Nat) : ∃ x : Int, pr n s had p j = mkRat x (WN n s ^ p) ∧ x.natAbs ≤ 2 ^ (19 * p) := by
  obtain ⟨i1, i2, i3⟩ := it_ok a (had := had) p hp
  refine ⟨_, rfl, ?_⟩
  simp only [List.getD]
  cases q : (itI n s p (stI n had))[j]? with
  | none => simp
  | some x => exact i2 x (List.mem_of_getElem? q)
theorem sk_pc (a : Alm n s) {f : Int} (h0 : 0 ≤ had) (h1 : had ≤ n) (f0 : 0 ≤ f) (f1 : f ≤ n) : Sk 13 (pc n s had f) := by
  obtain ⟨n1, n8, s1, sn⟩ := a
  have t1 := ways_tab (a := n - had) (b := f) (by omega) (by omega) (by omega) (by omega)
  have t2 := ways_tab (a := had) (b := s - f) (by omega) (by omega) (by omega) (by omega)
  obtain ⟨w1, w2, w3⟩ := WN_pos ⟨n1, n8, s1, sn⟩
  have b1 : wv (n - had) f * wv had (s - f) ≤ 70 * 70 := Int.mul_le_mul t1.2.2 t2.2.2 t2.2.1 (by decide)
  have b0 : 0 ≤ wv (n - had) f * wv had (s - f) := Int.mul_nonneg t1.2.1 t2.2.1
  unfold pc wN
  exact sk_mk w1 (by omega) (by omega)
theorem pc_A {i j : Nat} (hij : i ≤ j) : pc n s i ((j : Int) - i) = A n s i j := by
  unfold pc A
  rw [if_pos hij]
end
end Alb.Rn
set_option Elab.async false
set_option linter.all false
set_option maxRecDepth 100000
set_option maxHeartbeats 400000
/-! More rules to walk through a body: rows by numbers. -/
namespace Alb.Rn
open PySem Alb
theorem setL_same {a : Nat} {o : O} : ∀ {l : List (Nat × O)}, getL a l = some o → setL a o l = l
  | [], h => by simp [getL] at h
  | (j, p) :: r, h => by
    by_cases e : a = j
    · simp only [getL, e, if_true, Option.some.injEq] at h
      simp [setL, e, h]
    · simp only [getL, e, if_false] at h
      simp [setL, e, setL_same h]
theorem set_same {h : Hh} {a : Nat} {o : O} (e : h.get a = some o) : h.set a o = h := by
  cases h
  simp only [Hh.set]
  congr 1
  exact setL_same e
theorem unlock_lock {h : Hh} {a : Nat} {xs : List D} (e : h.get a = some (.lst xs)) : (h.set a (.ro xs)).set a (.lst xs) = h := by
  rw [set_set, set_same e]
/-! ### rows by numbers -/
theorem ints_range (lo : Int) : ∀ k : Nat, (intsFrom lo k).map D.int = (List.range k).map fun i => D.int (lo + (i : Nat)) := by
  have gen : ∀ (k : Nat) (lo : Int), intsFrom lo k = (List.range k).map fun i => lo + ((i : Nat) : Int) := by
    intro k
    induction k with
    | zero => intro lo; rfl
    | succ k ih =>
      intro lo
      rw [intsFrom, ih (lo + 1), List.range_succ_eq_map, List.map_cons, List.map_map]
      congr 1
      · simp
      · refine List.map_congr_left fun i _ => ?_
        simp only [Function.comp]
        omega
  intro k
  rw [gen, List.map_map]
  rfl
theorem enum_from {f : Nat → D} : ∀ (k m : Nat), enumD m ((List.range k).map fun i => f (m + i)) = (List.range k).map fun i => D.tup [.int ((m + i : Nat) : Int), f (m + i)]
  | 0, _ => rfl
  | k + 1, m => by
    rw [List.range_succ_eq_map, List.map_cons, List.map_cons, List.map_map, List.map_map, enumD]
    congr 1
    have := enum_from (f := f) k (m + 1)
    have e1 : (List.range k).map ((fun i => f (m + i)) ∘ Nat.succ) = (List.range k).map fun i => f (m + 1 + i) := List.map_congr_left fun i _ => by
      simp only [Function.comp]
      congr 1
      omega
    rw [e1, this]
    refine List.map_congr_left fun i _ => ?_
    simp only [Function.comp]
    have : m + 1 + i = m + i.succ := by omega
    rw [this]
theorem enum_range {f : Nat → D} {k : Nat} : enumD 0 ((List.range k).map f) = (List.range k).map fun i => D.tup [.int (i : Nat), f i] := by
  have := enum_from (f := f) k 0
  simpa only [Nat.zero_add] using this
theorem rtr_r1 {i : Int} {h : Hh} (h0 : -1000000 ≤ i) (h1 : i ≤ 1000000) : iterD .r1 [.int i] h = some ((List.range i.toNat).map (fun k => D.int (k : Nat)), []) := by
  rw [itr_r1 h0 h1, ints_range]
  simp only [Int.zero_add]
theorem rtr_r2 {i j : Int} {h : Hh} (h0 : -1000000 ≤ i) (h1 : i ≤ 1000000) (h2 : -1000000 ≤ j) (h3 : j ≤ 1000000) : iterD .r2 [.int i, .int j] h = some ((List.range (j - i).toNat).map (fun k => D.int (i + (k : Nat))), []) := by
  rw [itr_r2 h0 h1 h2 h3, ints_range]
theorem get_range {α : Type} {f : Nat → α} {j k : Nat} (h : j < k) : ((List.range k).map f)[j]? = some (f j) := by
  simp [h]
theorem len_range {α : Type} {f : Nat → α} {k : Nat} : ((List.range k).map f).length = k := by simp
section
variable {N : Env → Hh → Prop} {P : D → Hh → Prop} {cl : Cl} {own : List Nat} {t : Tg} {c : Oe} {e : E} {r : Env} {h : Hh}
/-- a comprehension over a row by numbers, all of it kept, nothing else done -/
theorem rsat_lcR {k : Nat} {enc dec : Nat → D} {Q : D → Hh → Prop} {lk : List (Nat × List D)} (hu : unlockH lk (lockH lk h) = h) (hl : k ≤ 100000) (hf : ∀ i, i < k → lcF cl own t c e r (enc i) (lockH lk h) = .ok (some (dec i)) (lockH lk h)) (hk : Q (.loc h.nx) (h.new (.lst ((List.range k).map dec)))) : RSat (lcK cl own t c e r (some ((List.range k).map enc, lk)) h) Q := by
  refine rsat_lc (fun i acc h' => acc = (List.range i).map dec ∧ h' = lockH lk h ∧ i ≤ k) ⟨rfl, rfl, Nat.zero_le _⟩ (fun i x acc h' hx hi => ?_) (fun acc h' hi => ?_)
  · obtain ⟨rfl, rfl, _⟩ := hi
    have hik : i < k := by
      have := (List.getElem?_eq_some_iff.mp hx).1
      simpa using this
    rw [get_range hik] at hx
    cases hx
    rw [hf i hik]
    refine ⟨by simp [lim_eq]; omega, ?_, rfl, hik⟩
    rw [List.range_succ, List.map_append]
    rfl
  · rw [len_range] at hi
    obtain ⟨rfl, rfl, _⟩ := hi
    rw [hu]
    exact hk
theorem sat_lcR {k : Nat} {enc : Nat → D} (dec : Nat → D) {K : D → Hh → SR} {lk : List (Nat × List D)} (hu : unlockH lk (lockH lk h) = h) (hl : k ≤ 100000) (hf : ∀ i, i < k → lcF cl own t c e r (enc i) (lockH lk h) = .ok (some (dec i)) (lockH lk h)) (hk : Sat (K (.loc h.nx) (h.new (.lst ((List.range k).map dec)))) N P) : Sat ((lcK cl own t c e r (some ((List.range k).map enc, lk)) h).thn K) N P :=
  sat_rthn (rsat_lcR hu hl hf hk)
/-- a comprehension that changes nothing but leaves some out -/
theorem rsat_lcF {α : Type} {xs : List α} {enc : α → D} (g : α → Option D) {Q : D → Hh → Prop} {lk : List (Nat × List D)} (hu : unlockH lk (lockH lk h) = h) (hl : xs.length ≤ 100000) (hf : ∀ x, x ∈ xs → lcF cl own t c e r (enc x) (lockH lk h) = .ok (g x) (lockH lk h)) (hk : Q (.loc h.nx) (h.new (.lst (xs.filterMap g)))) : RSat (lcK cl own t c e r (some (xs.map enc, lk)) h) Q := by
  refine rsat_lc (fun i acc h' => acc = (xs.take i).filterMap g ∧ h' = lockH lk h ∧ i ≤ xs.length) ⟨rfl, rfl, Nat.zero_le _⟩ (fun i x acc h' hx hi => ?_) (fun acc h' hi => ?_)
  · obtain ⟨rfl, rfl, _⟩ := hi
    rw [List.getElem?_map] at hx
    cases q : xs[i]? with
    | none => rw [q] at hx; cases hx
    | some y =>
      rw [q] at hx
      cases hx
      have hlt := (List.getElem?_eq_some_iff.mp q).1
      have e1 : xs.take (i + 1) = xs.take i ++ [y] := by
        rw [List.take_add_one, q]
        rfl
      rw [hf y (List.mem_of_getElem? q)]
      cases z : g y with
      | none =>
        refine ⟨?_, rfl, hlt⟩
        rw [e1, List.filterMap_append]
        simp [z]
      | some w =>
        refine ⟨?_, ?_, rfl, hlt⟩
        · have := List.length_filterMap_le g (xs.take i)
          simp only [List.length_take] at this
          simp only [lim_eq]
          omega
        · rw [e1, List.filterMap_append]
          simp [z]
  · rw [List.length_map] at hi
    obtain ⟨rfl, rfl, _⟩ := hi
    rw [hu, List.take_length]
    exact hk
theorem sat_lcF {α : Type} {xs : List α} {enc : α → D} (g : α → Option D) {K : D → Hh → SR} {lk : List (Nat × List D)} (hu : unlockH lk (lockH lk h) = h) (hl : xs.length ≤ 100000) (hf : ∀ x, x ∈ xs → lcF cl own t c e r (enc x) (lockH lk h) = .ok (g x) (lockH lk h)) (hk : Sat (K (.loc h.nx) (h.new (.lst (xs.filterMap g)))) N P) : Sat ((lcK cl own t c e r (some (xs.map enc, lk)) h).thn K) N P :=
  sat_rthn (rsat_lcF g hu hl hf hk)
/-- a for over a row by numbers -/
theorem sat_forR {b : Ss} {k : Nat} {enc : Nat → D} {lk : List (Nat × List D)} {K : Env → Hh → SR} (Inv : Nat → Env → Hh → Prop) (h0 : Inv 0 r (lockH lk h))
    (hs : ∀ i r h, i < k → Inv i r h → Sat (forF cl t b (enc i) r h) (Inv (i + 1)) (fun d h => P d (unlockH lk h)))
    (hk : ∀ r h, Inv k r h → Sat (K r (unlockH lk h)) N P) : Sat ((forK cl t b r (some ((List.range k).map enc, lk)) h).thn K) N P := by
  refine sat_for Inv h0 (fun i x r h hx hi => ?_) (fun r h hi => hk r h (by simpa using hi))
  have hik : i < k := by
    have := (List.getElem?_eq_some_iff.mp hx).1
    simpa using this
  rw [get_range hik] at hx
  cases hx
  exact hs i r h hik hi
end
/-! ### fractions in rows -/
theorem rr_joinF {m : Nat} {h : Hh} {a : Nat} {k : Nat} {f : Nat → Rat} (hl : JOk 0 ((List.range k).map f)) (hg : h.get a = some (.lst ((List.range k).map fun i => fq (f i)))) : (clOf TT (m + 2)).f 10 [.loc a] h = .ok (fq (sm f k)) h := by
  have := rr_joinL (m := m) (h := h) (a := a) (l := (List.range k).map f) (by rw [List.map_map]; exact hg) hl
  rw [sm_list] at this
  exact this
theorem rr_joinN {m : Nat} {h : Hh} {a : Nat} {k : Nat} {f : Nat → Rat} (hl : JOk 0 ((List.range k).map f)) (ha : a = h.nx) : (clOf TT (m + 2)).f 10 [.loc a] (h.new (.lst ((List.range k).map fun i => fq (f i)))) = .ok (fq (sm f k)) (h.new (.lst ((List.range k).map fun i => fq (f i)))) :=
  rr_joinF hl (get_new_eq ha)
theorem jok_comF {B : Nat} (hB : 0 < B) (hBs : B < 2 ^ 1000) {k : Nat} (hk : k ≤ 100) {f : Nat → Rat} (hf : ∀ i, i < k → ∃ x : Int, f i = mkRat x B ∧ x.natAbs ≤ 2 ^ 3900) : JOk 0 ((List.range k).map f) := by
  have ex : ∃ g : Nat → Int, ∀ i, i < k → f i = mkRat (g i) B ∧ (g i).natAbs ≤ 2 ^ 3900 := by
    refine ⟨fun i => if h : i < k then (hf i h).choose else 0, fun i hi => ?_⟩
    simp only [hi, dif_pos]
    exact (hf i hi).choose_spec
  obtain ⟨g, hg⟩ := ex
  have e : (List.range k).map f = ((List.range k).map g).map fun x => mkRat x B := by
    rw [List.map_map]
    exact List.map_congr_left fun i hi => (hg i (List.mem_range.mp hi)).1
  rw [e, ← mkRat_zero' (B := B)]
  refine jok_com hB (Nat.lt_of_lt_of_le hBs (Nat.pow_le_pow_right (by decide) (by decide))) (M := 2 ^ 3900) _ 0 (fun x hx => ?_) ?_
  · obtain ⟨i, hi, rfl⟩ := List.mem_map.mp hx
    exact (hg i (List.mem_range.mp hi)).2
  · rw [len_range]
    have e0 : (0 : Int).natAbs = 0 := rfl
    have h1 : (k + 1) * 2 ^ 3900 ≤ 2 ^ 7 * 2 ^ 3900 := Nat.mul_le_mul_right _ (by omega)
    rw [← Nat.pow_add] at h1
    rw [e0, Nat.zero_add]
    exact Nat.lt_of_le_of_lt h1 (Nat.pow_lt_pow_right (by decide) (by decide))
theorem WN_lt {n s : Int} (a : Alm n s) {p : Nat} (hp : p ≤ 100) : 0 < WN n s ^ p ∧ WN n s ^ p < 2 ^ 1000 := by
  obtain ⟨w1, w2, w3⟩ := WN_pos a
  refine ⟨Nat.pow_pos w1, ?_⟩
  have hW : WN n s ^ p ≤ 2 ^ (7 * p) := by
    rw [Nat.pow_mul]
    exact Nat.pow_le_pow_left (by omega) _
  exact Nat.lt_of_le_of_lt hW (Nat.pow_lt_pow_right (by decide) (by omega))
theorem spr_fq {n s had : Int} {p : Nat} : (sprL n s had p).map fq = (List.range (n + 1).toNat).map fun j => fq (pr n s had p j) := by
  unfold sprL
  rw [List.map_map]
  rfl
theorem asg_nm {i : Nat} {d : D} {r : Env} : asgT (.nm i) d r = if i < r.length then some (r.set i (some d)) else none := rfl
theorem asg_tp {is : List Nat} {ds : List D} {r : Env} : asgT (.tp is) (.tup ds) r = asgL is ds r := rfl
theorem asg_fq {is : List Nat} {q : Rat} {r : Env} : asgT (.tp is) (fq q) r = asgL is [.int q.num, .int q.den] r := rfl
theorem itr_fq {q : Rat} {h : Hh} : iterD .val [fq q] h = some ([.int q.num, .int q.den], []) := rfl
theorem len_fq {q : Rat} {h : Hh} : bltD .len [fq q] h = some (.int 2, h) := rfl
theorem isi_fq {q : Rat} {h : Hh} : isiD .tuple (fq q) h = some true := rfl
/-- a run that raises behind a for -/
theorem ex_forR {cl : Cl} {t : Tg} {b : Ss} {r : Env} {h : Hh} {k c : Nat} {enc : Nat → D} {lk : List (Nat × List D)} {K : Env → Hh → SR} (Inv : Nat → Env → Hh → Prop) (h0 : Inv 0 r (lockH lk h))
    (hs : ∀ i r h, i < k → Inv i r h → Sat (forF cl t b (enc i) r h) (Inv (i + 1)) (fun d h => False))
    (hk : ∀ r h, Inv k r h → ∃ h', K r (unlockH lk h) = .ex c h') : ∃ h', (forK cl t b r (some ((List.range k).map enc, lk)) h).thn K = .ex c h' := by
  have := sat_forR (N := fun r h => ∃ h', K r h = .ex c h') (P := fun _ _ => False) (K := SR.nx) (cl := cl) (t := t) (b := b) (enc := enc) (lk := lk) Inv h0 hs (fun r h hi => hk r h hi)
  revert this
  cases forK cl t b r (some ((List.range k).map enc, lk)) h with
  | nx r1 h1 => exact fun h => h
  | rt d h => exact fun h => h.elim
  | ex _ _ => exact fun h => h.elim
  | bad => exact fun h => h.elim
theorem own_exc {m f : Nat} {fd : Fd} {ds : List D} {h : Hh} {c : Nat} (hf : TT.fd f = some fd) (ho : fd.own = true) (hp : pureL ds = true) (hn : ds.length = fd.np)
    (hs : ∃ h', exs (clOf TT m) fd.body (stEnv fd.ns ds) ⟨0, []⟩ = .ex c h') : (clOf TT (m + 1)).f f ds h = .ex c h := by
  obtain ⟨h', e⟩ := hs
  exact call_exc hf ho hp hn e
theorem own_non {m f : Nat} {fd : Fd} {ds : List D} {h : Hh} (hf : TT.fd f = some fd) (ho : fd.own = true) (hp : pureL ds = true) (hn : ds.length = fd.np)
    (hs : Sat (exs (clOf TT m) fd.body (stEnv fd.ns ds) ⟨0, []⟩) (fun _ _ => True) (fun _ _ => False)) : (clOf TT (m + 1)).f f ds h = .ok .non h := by
  revert hs
  cases q : exs (clOf TT m) fd.body (stEnv fd.ns ds) ⟨0, []⟩ with
  | nx _ _ => exact fun _ => call_non hf ho hp hn q
  | rt d h => exact fun h => h.elim
  | ex _ _ => exact fun h => h.elim
  | bad => exact fun h => h.elim
/-- products for comparing -/
theorem mul_nd {r s : Rat} {h : Hh} (hr : Sk 4000 r) (hs : Sk 4000 s) : binD .mul (.int r.num) (.int (s.den : Nat)) h = some (.int (r.num * s.den), h) := by
  have := mul_sm hr.sm.1 hs.sm.2
  unfold mulM at this
  rw [o_mul]
  split at this
  · rename_i z
    rw [if_pos z]
  · cases this
end Alb.Rn
set_option Elab.async false
set_option linter.all false
set_option maxRecDepth 100000
set_option maxHeartbeats 400000
/-! Sizes over one denominator. -/
namespace Alb.Rn
open PySem Alb
def Cm (B K : Nat) (r : Rat) : Prop := ∃ x : Int, r = mkRat x B ∧ x.natAbs ≤ 2 ^ K
theorem Cm.mono {B K L : Nat} {r : Rat} (h : Cm B K r) (hl : K ≤ L) : Cm B L r := by
  obtain ⟨x, e, hx⟩ := h
  exact ⟨x, e, Nat.le_trans hx (Nat.pow_le_pow_right (by decide) hl)⟩
theorem cm_mul {B C K L : Nat} {r s : Rat} (hr : Cm B K r) (hs : Cm C L s) : Cm (B * C) (K + L) (r * s) := by
  obtain ⟨x, rfl, hx⟩ := hr
  obtain ⟨y, rfl, hy⟩ := hs
  refine ⟨x * y, Rat.mkRat_mul_mkRat .., ?_⟩
  rw [Int.natAbs_mul, Nat.pow_add]
  exact Nat.mul_le_mul hx hy
theorem cm_add {B K : Nat} (hB : 0 < B) {r s : Rat} (hr : Cm B K r) (hs : Cm B K s) : Cm B (K + 1) (r + s) := by
  obtain ⟨x, rfl, hx⟩ := hr
  obtain ⟨y, rfl, hy⟩ := hs
  refine ⟨x + y, ?_, ?_⟩
  · rw [Rat.mkRat_add_mkRat _ _ (by omega) (by omega), ← Int.add_mul, Rat.mkRat_mul_right (by omega)]
  · have := Int.natAbs_add_le x y
    rw [Nat.pow_succ]
    omega
theorem cm_sm {B K : Nat} (hB : 0 < B) {f : Nat → Rat} : ∀ {k : Nat}, k ≤ 128 → (∀ i, i < k → Cm B K (f i)) → Cm B (K + 7) (sm f k) := by
  have go : ∀ k : Nat, (∀ i, i < k → Cm B K (f i)) → ∃ x : Int, sm f k = mkRat x B ∧ x.natAbs ≤ k * 2 ^ K := by
    intro k
    induction k with
    | zero => intro _; exact ⟨0, by simp [sm, Rat.zero_mkRat], by simp⟩
    | succ k ih =>
      intro h
      obtain ⟨x, e, hx⟩ := ih fun i hi => h i (by omega)
      obtain ⟨y, e2, hy⟩ := h k (by omega)
      refine ⟨x + y, ?_, ?_⟩
      · rw [sm, e, e2, Rat.mkRat_add_mkRat _ _ (by omega) (by omega), ← Int.add_mul, Rat.mkRat_mul_right (by omega)]
      · have := Int.natAbs_add_le x y
        rw [Nat.add_mul, Nat.one_mul]
        omega
  intro k hk h
  obtain ⟨x, e, hx⟩ := go k h
  refine ⟨x, e, Nat.le_trans hx ?_⟩
  rw [Nat.add_comm, Nat.pow_add]
  exact Nat.mul_le_mul_right _ hk
theorem cm_nat {j K : Nat} (h : j ≤ 2 ^ K) : Cm 1 K (j : Rat) := ⟨j, by rw [Rat.mkRat_one]; rfl, by simpa using h⟩
theorem cm_int {j : Int} {K : Nat} (h : j.natAbs ≤ 2 ^ K) : Cm 1 K (j : Rat) := ⟨j, by rw [Rat.mkRat_one], h⟩
theorem cm_zero {B K : Nat} : Cm B K 0 := ⟨0, by rw [Rat.zero_mkRat], by simp⟩
theorem cm_sk {B K : Nat} {r : Rat} (h : Cm B K r) (hB : 0 < B) (hBs : B < 2 ^ (K + 1)) : Sk (K + 1) r := by
  obtain ⟨x, rfl, hx⟩ := h
  exact sk_mk hB (Nat.lt_of_le_of_lt hx (Nat.pow_lt_pow_right (by decide) (by omega))) hBs
theorem jok_cm {B K : Nat} (hB : 0 < B) (hBs : B < 2 ^ 1000) (hK : K ≤ 3900) {k : Nat} (hk : k ≤ 100) {f : Nat → Rat} (hf : ∀ i, i < k → Cm B K (f i)) : JOk 0 ((List.range k).map f) :=
  jok_comF hB hBs hk fun i hi => by
    obtain ⟨x, e, hx⟩ := (hf i hi).mono hK
    exact ⟨x, e, hx⟩
section
variable {n s had : Int}
theorem cm_pr (a : Alm n s) {p : Nat} (hp : p ≤ 31) (j : Nat) : Cm (WN n s ^ p) (19 * p) (pr n s had p j) := den_pr a hp j
theorem cm_md (a : Alm n s) {p : Nat} (hp : p ≤ 31) : Cm (WN n s ^ p) (19 * p + 11) (md n s had p) := by
  have n8 := a.n8
  have := cm_sm (B := WN n s ^ p) (K := 19 * p + 4) (f := fun j => pr n s had p j * (j : Rat)) (k := (n + 1).toNat) (WN_lt a (by omega)).1 (by omega) (fun i hi => by
    have := cm_mul (cm_pr (had := had) a hp i) (cm_nat (j := i) (K := 4) (by omega))
    rw [Nat.mul_one] at this
    exact this)
  exact this
theorem sk_md (a : Alm n s) {p : Nat} (hp : p ≤ 31) : Sk 1000 (md n s had p) := by
  have h := cm_md (had := had) a hp
  exact cm_sk (h.mono (by omega : 19 * p + 11 ≤ 999)) (WN_lt a (by omega)).1 (WN_lt a (by omega)).2
theorem sk_pr' (a : Alm n s) {p : Nat} (hp : p ≤ 31) (j : Nat) : Sk 4000 (pr n s had p j) := (sk_pr a hp j).mono (by decide)
theorem sk_md' (a : Alm n s) {p : Nat} (hp : p ≤ 31) : Sk 4000 (md n s had p) := (sk_md a hp).mono (by decide)
end
end Alb.Rn
set_option Elab.async false
set_option linter.all false
set_option maxRecDepth 100000
set_option maxHeartbeats 400000
/-! The mean numbers of packs, by the table. -/
namespace Alb.Rn
open PySem Alb
def mRow (n s : Int) : List Q := (mTab.getD (n - 1).toNat []).getD (s - 1).toNat []
def mpQ (n s had : Int) : Q := (mRow n s).getD (n - had).toNat (0, 1)
/-- the mean number of packs -/
def mp (n s had : Int) : Rat := mkRat (mpQ n s had).1 (mpQ n s had).2.toNat
def alb2 (f : Nat → Nat → Bool) : Bool := (List.range 8).all fun n => (List.range (n + 1)).all fun s => f (n + 1) (s + 1)
theorem alb2_of {f : Nat → Nat → Bool} (h : alb2 f = true) {n s : Int} (a : Alm n s) : f n.toNat s.toNat = true := by
  obtain ⟨n1, n8, s1, sn⟩ := a
  unfold alb2 at h
  rw [List.all_eq_true] at h
  have h := h (n.toNat - 1) (List.mem_range.mpr (by omega))
  rw [List.all_eq_true] at h
  have h := h (s.toNat - 1) (List.mem_range.mpr (by omega))
  have e1 : n.toNat - 1 + 1 = n.toNat := by omega
  have e2 : s.toNat - 1 + 1 = s.toNat := by omega
  rw [e1, e2] at h
  exact h
theorem here_chk : alb2 (fun n s => decide (hereM n s 0 = some (mRow n s)) && decide ((mRow n s).length = n + 1) && (mRow n s).all fun q => decide (red q.1 q.2.toNat = q) && decide (0 < q.2) && decide (q.1.natAbs < 2 ^ 64) && decide (q.2 < 2 ^ 64) && decide (0 ≤ q.1)) = true := by decide +kernel
theorem fold_app {α σ : Type} {g : α → σ → Option σ} : ∀ (xs ys : List α) (s r : σ), foldO g (xs ++ ys) s = some r → ∃ s1, foldO g xs s = some s1 ∧ foldO g ys s1 = some r
  | [], ys, s, r, h => ⟨s, rfl, h⟩
  | x :: xs, ys, s, r, h => by
    simp only [List.cons_append, foldO] at h ⊢
    split at h
    · exact fold_app xs ys _ r h
    · cases h
theorem here_one {n s miss : Int} {l l' : List Q} (h : hereR n s miss l = some l') : ∃ y, l' = l ++ [y] := by
  unfold hereR at h
  split at h
  · split at h
    · split at h
      · split at h
        · split at h
          · cases h
            exact ⟨_, rfl⟩
          · cases h
        · cases h
      · cases h
    · cases h
  · cases h
theorem here_many {n s : Int} : ∀ (xs : List Int) (l l' : List Q), foldO (hereR n s) xs l = some l' → ∃ ys, l' = l ++ ys ∧ ys.length = xs.length
  | [], l, l', h => by
    cases h
    exact ⟨[], by simp⟩
  | x :: xs, l, l', h => by
    simp only [foldO] at h
    split at h
    · rename_i l1 e
      obtain ⟨y, rfl⟩ := here_one e
      obtain ⟨ys, rfl, hl⟩ := here_many xs _ l' h
      exact ⟨y :: ys, by simp, by simp [hl]⟩
    · cases h
theorem ints_app : ∀ (i j : Nat) (lo : Int), intsFrom lo (i + j) = intsFrom lo i ++ intsFrom (lo + i) j
  | 0, j, lo => by simp [intsFrom]
  | i + 1, j, lo => by
    have e : i + 1 + j = (i + j) + 1 := by omega
    rw [e, intsFrom, intsFrom, ints_app i j (lo + 1), List.cons_append]
    congr 3
    omega
section
variable {n s had : Int}
theorem row_ok (a : Alm n s) : hereM n s 0 = some (mRow n s) ∧ (mRow n s).length = (n + 1).toNat ∧ ∀ q ∈ mRow n s, red q.1 q.2.toNat = q ∧ 0 < q.2 ∧ q.1.natAbs < 2 ^ 64 ∧ q.2 < 2 ^ 64 ∧ 0 ≤ q.1 := by
  have h := alb2_of here_chk a
  have n1 := a.n1
  have s1 := a.s1
  have e1 : ((n.toNat : Nat) : Int) = n := by omega
  have e2 : ((s.toNat : Nat) : Int) = s := by omega
  rw [e1, e2] at h
  simp only [Bool.and_eq_true, decide_eq_true_eq, List.all_eq_true] at h
  refine ⟨h.1.1, by rw [h.1.2]; omega, fun q hq => ?_⟩
  obtain ⟨⟨⟨⟨h1, h2⟩, h3⟩, h4⟩, h5⟩ := h.2 q hq
  exact ⟨h1, h2, h3, h4, h5⟩
theorem here_had (a : Alm n s) (h0 : 0 ≤ had) (h1 : had ≤ n) : hereM n s had = some ((mRow n s).take (n - had + 1).toNat) := by
  obtain ⟨r1, r2, _⟩ := row_ok a
  have n1 := a.n1
  have n8 := a.n8
  unfold hereM at r1 ⊢
  rw [if_pos (by simp [rOk]; omega)] at r1 ⊢
  have e : (n - 0 + 1 - 1).toNat = (n - had + 1 - 1).toNat + had.toNat := by omega
  rw [e, ints_app] at r1
  obtain ⟨l, e1, e2⟩ := fold_app _ _ _ _ r1
  rw [e1]
  obtain ⟨ys, e3, h3⟩ := here_many _ _ _ e2
  obtain ⟨zs, e4, h4⟩ := here_many _ _ _ e1
  rw [e3]
  have hl : l.length = (n - had + 1).toNat := by
    rw [e4, List.length_append, h4, intsFrom_length]
    simp
    omega
  rw [← hl, List.take_left']
  rfl
theorem mpQ_mem (a : Alm n s) (h0 : 0 ≤ had) (h1 : had ≤ n) : mpQ n s had ∈ mRow n s := by
  obtain ⟨_, r2, _⟩ := row_ok a
  unfold mpQ
  have h : (n - had).toNat < (mRow n s).length := by omega
  simp only [List.getD, List.getElem?_eq_getElem h, Option.getD_some]
  exact List.getElem_mem h
theorem mp_qr (a : Alm n s) (h0 : 0 ≤ had) (h1 : had ≤ n) : mpQ n s had = qr (mp n s had) := by
  obtain ⟨q1, q2, q3, q4, q5⟩ := (row_ok a).2.2 _ (mpQ_mem a h0 h1)
  unfold mp
  rw [← red_rat (by omega), q1]
theorem sk_mp (a : Alm n s) (h0 : 0 ≤ had) (h1 : had ≤ n) : Sk 64 (mp n s had) := by
  obtain ⟨q1, q2, q3, q4, q5⟩ := (row_ok a).2.2 _ (mpQ_mem a h0 h1)
  unfold mp
  exact sk_mk (by omega) q3 (by omega)
theorem mp_nonneg (a : Alm n s) (h0 : 0 ≤ had) (h1 : had ≤ n) : 0 ≤ mp n s had := by
  obtain ⟨q1, q2, q3, q4, q5⟩ := (row_ok a).2.2 _ (mpQ_mem a h0 h1)
  exact mk_nonneg q5
theorem here_last (a : Alm n s) (h0 : 0 ≤ had) (h1 : had ≤ n) : ((mRow n s).take (n - had + 1).toNat).getLast? = some (mpQ n s had) := by
  obtain ⟨_, r2, _⟩ := row_ok a
  have hl : ((mRow n s).take (n - had + 1).toNat).length = (n - had + 1).toNat := by
    rw [List.length_take]
    omega
  have h : (n - had).toNat < (mRow n s).length := by omega
  rw [List.getLast?_eq_getElem?, hl, List.getElem?_take, if_pos (by omega)]
  have e : (n - had + 1).toNat - 1 = (n - had).toNat := by omega
  rw [e]
  unfold mpQ
  simp only [List.getD, List.getElem?_eq_getElem h, Option.getD_some]
theorem rr_here {m : Nat} {h : Hh} (a : Alm n s) (h0 : 0 ≤ had) (h1 : had ≤ n) : (clOf TT (m + 4)).f 28 [.int n, .int s, .int had] h = .ok (fq (mp n s had)) h := by
  have := r_here (m := m) (h := h) (here_had a h0 h1) (here_last a h0 h1)
  rw [mp_qr a h0 h1, qd_qr] at this
  exact this
theorem rr_mean {m : Nat} {h : Hh} (a : Alm n s) (h0 : 0 ≤ had) (h1 : had ≤ n) : (clOf TT (m + 5)).f 29 [.int n, .int s, .int had] h = .ok (fq (mp n s had)) h := by
  have := r_mean (m := m) (h := h) (okk a h0 h1) (here_had a h0 h1) (here_last a h0 h1)
  rw [mp_qr a h0 h1, qd_qr] at this
  exact this
end
end Alb.Rn
set_option Elab.async false
set_option linter.all false
set_option maxRecDepth 100000
set_option maxHeartbeats 400000
/-! Chances to be full, by a table of whole numbers. -/
namespace Alb.Rn
open PySem Alb
def fTab : List (List (List (List Int))) := [[[[0, 1], [1, 1], [1, 1], [1, 1], [1, 1], [1, 1], [1, 1], [1, 1]]],
  [[[0, 0, 1], [0, 1, 2], [2, 3, 4], [6, 7, 8], [14, 15, 16], [30, 31, 32], [62, 63, 64], [126, 127, 128]], [[0, 0, 1], [1, 1, 1], [1, 1, 1], [1, 1, 1], [1, 1, 1], [1, 1, 1], [1, 1, 1], [1, 1, 1]]],
  [[[0, 0, 0, 1], [0, 0, 1, 3], [0, 2, 5, 9], [6, 12, 19, 27], [36, 50, 65, 81], [150, 180, 211, 243], [540, 602, 665, 729], [1806, 1932, 2059, 2187]], [[0, 0, 0, 1], [0, 1, 2, 3], [6, 7, 8, 9], [24, 25, 26, 27], [78, 79, 80, 81], [240, 241, 242, 243], [726, 727, 728, 729], [2184, 2185, 2186, 2187]], [[0, 0, 0, 1], [1, 1, 1, 1], [1, 1, 1, 1], [1, 1, 1, 1], [1, 1, 1, 1], [1, 1, 1, 1], [1, 1, 1, 1], [1, 1, 1, 1]]],
  [[[0, 0, 0, 0, 1], [0, 0, 0, 1, 4], [0, 0, 2, 7, 16], [0, 6, 18, 37, 64], [24, 60, 110, 175, 256], [240, 390, 570, 781, 1024], [1560, 2100, 2702, 3367, 4096], [8400, 10206, 12138, 14197, 16384]], [[0, 0, 0, 0, 1], [0, 0, 1, 3, 6], [6, 12, 19, 27, 36], [114, 138, 163, 189, 216], [978, 1056, 1135, 1215, 1296], [6810, 7050, 7291, 7533, 7776], [43746, 44472, 45199, 45927, 46656], [271194, 273378, 275563, 277749, 279936]], [[0, 0, 0, 0, 1], [0, 1, 2, 3, 4], [12, 13, 14, 15, 16], [60, 61, 62, 63, 64], [252, 253, 254, 255, 256], [1020, 1021, 1022, 1023, 1024], [4092, 4093, 4094, 4095, 4096], [16380, 16381, 16382, 16383, 16384]], [[0, 0, 0, 0, 1], [1, 1, 1, 1, 1], [1, 1, 1, 1, 1], [1, 1, 1, 1, 1], [1, 1, 1, 1, 1], [1, 1, 1, 1, 1], [1, 1, 1, 1, 1], [1, 1, 1, 1, 1]]],
  [[[0, 0, 0, 0, 0, 1], [0, 0, 0, 0, 1, 5], [0, 0, 0, 2, 9, 25], [0, 0, 6, 24, 61, 125], [0, 24, 84, 194, 369, 625], [120, 360, 750, 1320, 2101, 3125], [1800, 3360, 5460, 8162, 11529, 15625], [16800, 25200, 35406, 47544, 61741, 78125]], [[0, 0, 0, 0, 0, 1], [0, 0, 0, 1, 4, 10], [0, 6, 18, 37, 64, 100], [180, 294, 432, 595, 784, 1000], [4320, 5298, 6354, 7489, 8704, 10000], [63540, 70350, 77400, 84691, 92224, 100000], [774000, 817746, 862218, 907417, 953344, 1000000], [8622180, 8893374, 9166752, 9442315, 9720064, 10000000]], [[0, 0, 0, 0, 0, 1], [0, 0, 1, 3, 6, 10], [30, 42, 55, 69, 84, 100], [690, 750, 811, 873, 936, 1000], [8730, 8982, 9235, 9489, 9744, 10000], [94890, 95910, 96931, 97953, 98976, 100000], [979530, 983622, 987715, 991809, 995904, 1000000], [9918090, 9934470, 9950851, 9967233, 9983616, 10000000]], [[0, 0, 0, 0, 0, 1], [0, 1, 2, 3, 4, 5], [20, 21, 22, 23, 24, 25], [120, 121, 122, 123, 124, 125], [620, 621, 622, 623, 624, 625], [3120, 3121, 3122, 3123, 3124, 3125], [15620, 15621, 15622, 15623, 15624, 15625], [78120, 78121, 78122, 78123, 78124, 78125]], [[0, 0, 0, 0, 0, 1], [1, 1, 1, 1, 1, 1], [1, 1, 1, 1, 1, 1], [1, 1, 1, 1, 1, 1], [1, 1, 1, 1, 1, 1], [1, 1, 1, 1, 1, 1], [1, 1, 1, 1, 1, 1], [1, 1, 1, 1, 1, 1]]],
  [[[0, 0, 0, 0, 0, 0, 1], [0, 0, 0, 0, 0, 1, 6], [0, 0, 0, 0, 2, 11, 36], [0, 0, 0, 6, 30, 91, 216], [0, 0, 24, 108, 302, 671, 1296], [0, 120, 480, 1230, 2550, 4651, 7776], [720, 2520, 5880, 11340, 19502, 31031, 46656], [15120, 31920, 57120, 92526, 140070, 201811, 279936]], [[0, 0, 0, 0, 0, 0, 1], [0, 0, 0, 0, 1, 5, 15], [0, 0, 6, 24, 61, 125, 225], [90, 270, 564, 996, 1591, 2375, 3375], [8460, 12780, 18078, 24432, 31921, 40625, 50625], [271170, 334710, 405060, 482460, 567151, 659375, 759375], [6075900, 6849900, 7667646, 8529864, 9437281, 10390625, 11390625], [115014690, 123636870, 132530244, 141696996, 151139311, 160859375, 170859375]], [[0, 0, 0, 0, 0, 0, 1], [0, 0, 0, 1, 4, 10, 20], [20, 50, 92, 147, 216, 300, 400], [2940, 3630, 4380, 5191, 6064, 7000, 8000], [103820, 112550, 121532, 130767, 140256, 150000, 160000], [2615340, 2710230, 2806140, 2903071, 3001024, 3100000, 3200000], [58061420, 59040950, 60024572, 61012287, 62004096, 63000000, 64000000], [1220245740, 1230163830, 1240098300, 1250049151, 1260016384, 1270000000, 1280000000]], [[0, 0, 0, 0, 0, 0, 1], [0, 0, 1, 3, 6, 10, 15], [90, 110, 131, 153, 176, 200, 225], [2640, 2760, 2881, 3003, 3126, 3250, 3375], [46890, 47510, 48131, 48753, 49376, 50000, 50625], [740640, 743760, 746881, 750003, 753126, 756250, 759375], [11296890, 11312510, 11328131, 11343753, 11359376, 11375000, 11390625], [170390640, 170468760, 170546881, 170625003, 170703126, 170781250, 170859375]], [[0, 0, 0, 0, 0, 0, 1], [0, 1, 2, 3, 4, 5, 6], [30, 31, 32, 33, 34, 35, 36], [210, 211, 212, 213, 214, 215, 216], [1290, 1291, 1292, 1293, 1294, 1295, 1296], [7770, 7771, 7772, 7773, 7774, 7775, 7776], [46650, 46651, 46652, 46653, 46654, 46655, 46656], [279930, 279931, 279932, 279933, 279934, 279935, 279936]], [[0, 0, 0, 0, 0, 0, 1], [1, 1, 1, 1, 1, 1, 1], [1, 1, 1, 1, 1, 1, 1], [1, 1, 1, 1, 1, 1, 1], [1, 1, 1, 1, 1, 1, 1], [1, 1, 1, 1, 1, 1, 1], [1, 1, 1, 1, 1, 1, 1], [1, 1, 1, 1, 1, 1, 1]]],
  [[[0, 0, 0, 0, 0, 0, 0, 1], [0, 0, 0, 0, 0, 0, 1, 7], [0, 0, 0, 0, 0, 2, 13, 49], [0, 0, 0, 0, 6, 36, 127, 343], [0, 0, 0, 24, 132, 434, 1105, 2401], [0, 0, 120, 600, 1830, 4380, 9031, 16807], [0, 720, 3240, 9120, 20460, 39962, 70993, 117649], [5040, 20160, 52080, 109200, 201726, 341796, 543607, 823543]], [[0, 0, 0, 0, 0, 0, 0, 1], [0, 0, 0, 0, 0, 1, 6, 21], [0, 0, 0, 6, 30, 91, 216, 441], [0, 90, 360, 924, 1920, 3511, 5886, 9261], [7560, 16020, 28800, 46878, 71310, 103231, 143856, 194481], [604800, 875970, 1210680, 1615740, 2098200, 2665351, 3324726, 4084101], [25424280, 31500180, 38350080, 46017726, 54547590, 63984871, 74375496, 85766121], [805351680, 920366370, 1044003240, 1176533484, 1318230480, 1469369791, 1630229166, 1801088541]], [[0, 0, 0, 0, 0, 0, 0, 1], [0, 0, 0, 0, 1, 5, 15, 35], [0, 20, 70, 162, 309, 525, 825, 1225], [5670, 8610, 12240, 16620, 21811, 27875, 34875, 42875], [581700, 685520, 798070, 919602, 1050369, 1190625, 1340625, 1500625], [32186070, 34801410, 37511640, 40317780, 43220851, 46221875, 49321875, 52521875], [1411122300, 1469183720, 1528224670, 1588249242, 1649261529, 1711265625, 1774265625, 1838265625], [55588723470, 56808969210, 58039133040, 59279231340, 60529280491, 61789296875, 63059296875, 64339296875]], [[0, 0, 0, 0, 0, 0, 0, 1], [0, 0, 0, 1, 4, 10, 20, 35], [140, 230, 340, 471, 624, 800, 1000, 1225], [21840, 24480, 27240, 30121, 33124, 36250, 39500, 42875], [1159340, 1206230, 1253740, 1301871, 1350624, 1400000, 1450000, 1500625], [47271840, 48012480, 48756240, 49503121, 50253124, 51006250, 51762500, 52521875], [1758859340, 1770156230, 1781468740, 1792796871, 1804140624, 1815500000, 1826875000, 1838265625], [63144921840, 63315312480, 63485781240, 63656328121, 63826953124, 63997656250, 64168437500, 64339296875]], [[0, 0, 0, 0, 0, 0, 0, 1], [0, 0, 1, 3, 6, 10, 15, 21], [210, 240, 271, 303, 336, 370, 405, 441], [7770, 7980, 8191, 8403, 8616, 8830, 9045, 9261], [185430, 186720, 188011, 189303, 190596, 191890, 193185, 194481], [4029690, 4037460, 4045231, 4053003, 4060776, 4068550, 4076325, 4084101], [85439550, 85486200, 85532851, 85579503, 85626156, 85672810, 85719465, 85766121], [1799129010, 1799408940, 1799688871, 1799968803, 1800248736, 1800528670, 1800808605, 1801088541]], [[0, 0, 0, 0, 0, 0, 0, 1], [0, 1, 2, 3, 4, 5, 6, 7], [42, 43, 44, 45, 46, 47, 48, 49], [336, 337, 338, 339, 340, 341, 342, 343], [2394, 2395, 2396, 2397, 2398, 2399, 2400, 2401], [16800, 16801, 16802, 16803, 16804, 16805, 16806, 16807], [117642, 117643, 117644, 117645, 117646, 117647, 117648, 117649], [823536, 823537, 823538, 823539, 823540, 823541, 823542, 823543]], [[0, 0, 0, 0, 0, 0, 0, 1], [1, 1, 1, 1, 1, 1, 1, 1], [1, 1, 1, 1, 1, 1, 1, 1], [1, 1, 1, 1, 1, 1, 1, 1], [1, 1, 1, 1, 1, 1, 1, 1], [1, 1, 1, 1, 1, 1, 1, 1], [1, 1, 1, 1, 1, 1, 1, 1], [1, 1, 1, 1, 1, 1, 1, 1]]],
  [[[0, 0, 0, 0, 0, 0, 0, 0, 1], [0, 0, 0, 0, 0, 0, 0, 1, 8], [0, 0, 0, 0, 0, 0, 2, 15, 64], [0, 0, 0, 0, 0, 6, 42, 169, 512], [0, 0, 0, 0, 24, 156, 590, 1695, 4096], [0, 0, 0, 120, 720, 2550, 6930, 15961, 32768], [0, 0, 720, 3960, 13080, 33540, 73502, 144495, 262144], [0, 5040, 25200, 77280, 186480, 388206, 730002, 1273609, 2097152]], [[0, 0, 0, 0, 0, 0, 0, 0, 1], [0, 0, 0, 0, 0, 0, 1, 7, 28], [0, 0, 0, 0, 6, 36, 127, 343, 784], [0, 0, 90, 450, 1374, 3294, 6805, 12691, 21952], [2520, 10080, 26100, 54900, 101778, 173088, 276319, 420175, 614656], [730800, 1335600, 2211570, 3422250, 5037990, 7136190, 9801541, 13126267, 17210368], [61923960, 87348240, 118848420, 157198500, 203216226, 257763816, 321748687, 396124183, 481890304], [3327755760, 4133107440, 5053473810, 6097477050, 7274010534, 8592241014, 10061610805, 11691839971, 13492928512]], [[0, 0, 0, 0, 0, 0, 0, 0, 1], [0, 0, 0, 0, 0, 1, 6, 21, 56], [0, 0, 20, 90, 252, 561, 1086, 1911, 3136], [5040, 10710, 19320, 31560, 48180, 69991, 97866, 132741, 175616], [1767360, 2349060, 3034580, 3832650, 4752252, 5802621, 6993246, 8333871, 9834496], [214628400, 246814470, 281615880, 319127520, 359445300, 402666151, 448888026, 498209901, 550731776], [17871141120, 19282263420, 20751447140, 22279671810, 23867921052, 25517182581, 27228448206, 29002713831, 30840979456], [1247661621360, 1303250344830, 1360059314040, 1418098447080, 1477377678420, 1537906958911, 1599696255786, 1662755552661, 1727094849536]], [[0, 0, 0, 0, 0, 0, 0, 0, 1], [0, 0, 0, 0, 1, 5, 15, 35, 70], [70, 210, 440, 780, 1251, 1875, 2675, 3675, 4900], [87570, 109410, 133890, 161130, 191251, 224375, 260625, 300125, 343000], [13387570, 14546910, 15753140, 17006880, 18308751, 19659375, 21059375, 22509375, 24010000], [1281612570, 1328884410, 1376896890, 1425653130, 1475156251, 1525409375, 1576415625, 1628178125, 1680700000], [103260937570, 105019796910, 106789953140, 108571421880, 110364218751, 112168359375, 113983859375, 115810734375, 117649000000], [7725495312570, 7788640234410, 7851955546890, 7915441328130, 7979097656251, 8042924609375, 8106922265625, 8171090703125, 8235430000000]], [[0, 0, 0, 0, 0, 0, 0, 0, 1], [0, 0, 0, 1, 4, 10, 20, 35, 56], [560, 770, 1010, 1281, 1584, 1920, 2290, 2695, 3136], [107520, 115290, 123270, 131461, 139864, 148480, 157310, 166355, 175616], [8314880, 8500310, 8687030, 8875041, 9064344, 9254940, 9446830, 9640015, 9834496], [518276640, 522306330, 526343790, 530389021, 534442024, 538502800, 542571350, 546647675, 550731776], [30156156800, 30241596350, 30327082550, 30412615401, 30498194904, 30583821060, 30669493870, 30755213335, 30840979456], [1712693979360, 1714493108370, 1716292517310, 1718092206181, 1719892174984, 1721692423720, 1723492952390, 1725293760995, 1727094849536]], [[0, 0, 0, 0, 0, 0, 0, 0, 1], [0, 0, 1, 3, 6, 10, 15, 21, 28], [420, 462, 505, 549, 594, 640, 687, 735, 784], [19236, 19572, 19909, 20247, 20586, 20926, 21267, 21609, 21952], [595476, 597870, 600265, 602661, 605058, 607456, 609855, 612255, 614656], [17075940, 17092740, 17109541, 17126343, 17143146, 17159950, 17176755, 17193561, 17210368], [480949140, 481066782, 481184425, 481302069, 481419714, 481537360, 481655007, 481772655, 481890304], [13486340196, 13487163732, 13487987269, 13488810807, 13489634346, 13490457886, 13491281427, 13492104969, 13492928512]], [[0, 0, 0, 0, 0, 0, 0, 0, 1], [0, 1, 2, 3, 4, 5, 6, 7, 8], [56, 57, 58, 59, 60, 61, 62, 63, 64], [504, 505, 506, 507, 508, 509, 510, 511, 512], [4088, 4089, 4090, 4091, 4092, 4093, 4094, 4095, 4096], [32760, 32761, 32762, 32763, 32764, 32765, 32766, 32767, 32768], [262136, 262137, 262138, 262139, 262140, 262141, 262142, 262143, 262144], [2097144, 2097145, 2097146, 2097147, 2097148, 2097149, 2097150, 2097151, 2097152]], [[0, 0, 0, 0, 0, 0, 0, 0, 1], [1, 1, 1, 1, 1, 1, 1, 1, 1], [1, 1, 1, 1, 1, 1, 1, 1, 1], [1, 1, 1, 1, 1, 1, 1, 1, 1], [1, 1, 1, 1, 1, 1, 1, 1, 1], [1, 1, 1, 1, 1, 1, 1, 1, 1], [1, 1, 1, 1, 1, 1, 1, 1, 1], [1, 1, 1, 1, 1, 1, 1, 1, 1]]]]
def fRow (n s p : Nat) : List Int := ((fTab.getD (n - 1) []).getD (s - 1) []).getD p []
/-- every row follows from the one before it -/
theorem fTab_chk : alb2 (fun n s => decide (fRow n s 0 = (List.range (n + 1)).map fun i => if i = n then 1 else 0) && (List.range 7).all fun p => decide (fRow n s (p + 1) = (List.range (n + 1)).map fun i => smI (fun k => aB n s i k * (fRow n s p).getD k 0) (n + 1))) = true := by decide +kernel
section
variable {n s had : Int}
theorem fRow_zero (a : Alm n s) {i : Nat} (hi : i < (n + 1).toNat) : (fRow n.toNat s.toNat 0).getD i 0 = if i = n.toNat then 1 else 0 := by
  have h := alb2_of fTab_chk a
  have n1 := a.n1
  simp only [Bool.and_eq_true, decide_eq_true_eq] at h
  rw [h.1]
  simp only [List.getD, List.getElem?_map]
  rw [List.getElem?_range (by omega)]
  rfl
theorem fRow_succ (a : Alm n s) {p : Nat} (hp : p < 7) {i : Nat} (hi : i < (n + 1).toNat) : (fRow n.toNat s.toNat (p + 1)).getD i 0 = smI (fun k => aB n s i k * (fRow n.toNat s.toNat p).getD k 0) (n + 1).toNat := by
  have h := alb2_of fTab_chk a
  have n1 := a.n1
  have s1 := a.s1
  simp only [Bool.and_eq_true, decide_eq_true_eq, List.all_eq_true] at h
  have h := h.2 p (List.mem_range.mpr hp)
  have e1 : ((n.toNat : Nat) : Int) = n := by omega
  have e2 : ((s.toNat : Nat) : Int) = s := by omega
  have e3 : n.toNat + 1 = (n + 1).toNat := by omega
  rw [h, e1, e2, e3]
  simp only [List.getD, List.getElem?_map]
  rw [List.getElem?_range hi]
  rfl
theorem pr_one (a : Alm n s) {i k : Nat} (hi : i < (n + 1).toNat) (hk : k < (n + 1).toNat) : pr n s i 1 k = A n s i k := by
  rw [pr_succ a (by omega) hk, sm_one hi (fun t ht hti => by rw [pr_zero ht, if_neg (by omega), Rat.zero_mul]), pr_zero hi, if_pos rfl, Rat.one_mul]
/-- the first pack, then the others -/
theorem pr_first (a : Alm n s) {i : Nat} (hi : i < (n + 1).toNat) {p : Nat} (hp : p ≤ 30) {j : Nat} (hj : j < (n + 1).toNat) : pr n s i (p + 1) j = sm (fun k => A n s i k * pr n s k p j) (n + 1).toNat := by
  have n1 := a.n1
  rw [Nat.add_comm, pr_add a (p := 1) (by omega) (by omega) p (by omega) hj]
  exact sm_congr fun k hk => by rw [pr_one a hi hk]
theorem full_tab (a : Alm n s) : ∀ p : Nat, p ≤ 7 → ∀ {i : Nat}, i < (n + 1).toNat → pr n s i p n.toNat = mkRat ((fRow n.toNat s.toNat p).getD i 0) (WN n s ^ p)
  | 0, _, i, hi => by
    have n1 := a.n1
    rw [pr_zero (by omega), fRow_zero a hi]
    by_cases e : i = n.toNat
    · rw [if_pos e, if_pos (by omega), Nat.pow_zero]
      rfl
    · rw [if_neg e, if_neg (by omega), Rat.zero_mkRat]
  | p + 1, hp, i, hi => by
    have n1 := a.n1
    have w := (WN_pos a).1
    rw [pr_first a hi (by omega) (by omega), fRow_succ a (by omega) hi, Nat.pow_succ, Nat.mul_comm, ← sm_mk (Nat.mul_pos w (Nat.pow_pos w))]
    exact sm_congr fun k hk => by rw [A_aB a hi hk, full_tab a p (by omega) hk, Rat.mkRat_mul_mkRat]
/-- which chances grow -/
theorem grow_chk : alb2 (fun n s => (List.range 8).all fun p => (List.range (n + 1)).all fun i => (decide (n = s) || decide ((fRow n s p).getD i 0 * bn n (s + 1) ^ p ≤ (fRow n (s + 1) p).getD i 0 * bn n s ^ p)) && (decide (n = i) || decide ((fRow n s p).getD i 0 ≤ (fRow n s p).getD (i + 1) 0))) = true := by decide +kernel
theorem mk_le {x y : Int} {b d : Nat} (hb : 0 < b) (hd : 0 < d) (h : x * d ≤ y * b) : mkRat x b ≤ mkRat y d := by
  rw [Rat.le_iff_sub_nonneg, Rat.sub_eq_add_neg, Rat.neg_mkRat, Rat.mkRat_add_mkRat _ _ (by omega) (by omega)]
  refine mk_nonneg ?_
  rw [Int.neg_mul]
  omega
theorem full_size (a : Alm n s) (hs : s < n) {p : Nat} (hp : p ≤ 7) (h0 : 0 ≤ had) (h1 : had ≤ n) : pr n s had p n.toNat ≤ pr n (s + 1) had p n.toNat := by
  obtain ⟨n1, n8, s1, sn⟩ := a
  have a : Alm n s := ⟨n1, n8, s1, sn⟩
  have a' : Alm n (s + 1) := ⟨n1, n8, by omega, by omega⟩
  have h := alb2_of grow_chk a
  simp only [List.all_eq_true] at h
  have h := h p (List.mem_range.mpr (by omega)) had.toNat (List.mem_range.mpr (by omega))
  simp only [Bool.and_eq_true, Bool.or_eq_true, decide_eq_true_eq] at h
  have h := h.1.resolve_left (by omega)
  have e1 : ((n.toNat : Nat) : Int) = n := by omega
  have e2 : ((s.toNat : Nat) : Int) = s := by omega
  have e3 : ((had.toNat : Nat) : Int) = had := by omega
  have e4 : (s + 1).toNat = s.toNat + 1 := by omega
  have f1 := full_tab a p hp (i := had.toNat) (by omega)
  have f2 := full_tab a' p hp (i := had.toNat) (by omega)
  rw [e3] at f1 f2
  rw [f1, f2]
  refine mk_le (Nat.pow_pos (WN_pos a).1) (Nat.pow_pos (WN_pos a').1) ?_
  rw [Int.natCast_pow, Int.natCast_pow, WN_bn a, WN_bn a', e4]
  rw [e1, e2] at h
  exact h
theorem full_had (a : Alm n s) (hh : had < n) {p : Nat} (hp : p ≤ 7) (h0 : 0 ≤ had) : pr n s had p n.toNat ≤ pr n s (had + 1) p n.toNat := by
  obtain ⟨n1, n8, s1, sn⟩ := a
  have a : Alm n s := ⟨n1, n8, s1, sn⟩
  have h := alb2_of grow_chk a
  simp only [List.all_eq_true] at h
  have h := h p (List.mem_range.mpr (by omega)) had.toNat (List.mem_range.mpr (by omega))
  simp only [Bool.and_eq_true, Bool.or_eq_true, decide_eq_true_eq] at h
  have h := h.2.resolve_left (by omega)
  have e3 : ((had.toNat : Nat) : Int) = had := by omega
  have e4 : ((had.toNat + 1 : Nat) : Int) = had + 1 := by omega
  have f1 := full_tab a p hp (i := had.toNat) (by omega)
  have f2 := full_tab a p hp (i := had.toNat + 1) (by omega)
  rw [e3] at f1
  rw [e4] at f2
  rw [f1, f2]
  refine mk_le (Nat.pow_pos (WN_pos a).1) (Nat.pow_pos (WN_pos a).1) ?_
  exact Int.mul_le_mul_of_nonneg_right h (by omega)
/-! means -/
theorem mean_chk : alb3 (fun n s i => (decide (n = s) || decide ((mpQ n (s + 1) i).1 * (mpQ n s i).2 ≤ (mpQ n s i).1 * (mpQ n (s + 1) i).2)) && (decide (n = i) || decide ((mpQ n s (i + 1)).1 * (mpQ n s i).2 ≤ (mpQ n s i).1 * (mpQ n s (i + 1)).2))) = true := by decide +kernel
theorem mean_size (a : Alm n s) (hs : s < n) (h0 : 0 ≤ had) (h1 : had ≤ n) : mp n (s + 1) had ≤ mp n s had := by
  obtain ⟨n1, n8, s1, sn⟩ := a
  have a : Alm n s := ⟨n1, n8, s1, sn⟩
  have a' : Alm n (s + 1) := ⟨n1, n8, by omega, by omega⟩
  have h := alb3_of mean_chk a (i := had.toNat) (by omega)
  simp only [Bool.and_eq_true, Bool.or_eq_true, decide_eq_true_eq] at h
  have h := h.1.resolve_left (by omega)
  have e1 : ((n.toNat : Nat) : Int) = n := by omega
  have e2 : ((s.toNat : Nat) : Int) = s := by omega
  have e3 : ((had.toNat : Nat) : Int) = had := by omega
  rw [e1, e2, e3, mp_qr a h0 h1, mp_qr a' h0 h1] at h
  rw [Rat.le_iff]
  exact h
theorem mean_had (a : Alm n s) (hh : had < n) (h0 : 0 ≤ had) : mp n s (had + 1) ≤ mp n s had := by
  obtain ⟨n1, n8, s1, sn⟩ := a
  have a : Alm n s := ⟨n1, n8, s1, sn⟩
  have h := alb3_of mean_chk a (i := had.toNat) (by omega)
  simp only [Bool.and_eq_true, Bool.or_eq_true, decide_eq_true_eq] at h
  have h := h.2.resolve_left (by omega)
  have e1 : ((n.toNat : Nat) : Int) = n := by omega
  have e2 : ((s.toNat : Nat) : Int) = s := by omega
  have e3 : ((had.toNat : Nat) : Int) = had := by omega
  rw [e1, e2, e3, mp_qr a h0 (by omega), mp_qr a (by omega : 0 ≤ had + 1) (by omega)] at h
  rw [Rat.le_iff]
  exact h
end
end Alb.Rn
set_option Elab.async false
set_option linter.all false
set_option maxRecDepth 100000
set_option maxHeartbeats 400000
set_option pp.deepTerms false
set_option pp.deepTerms.threshold 8
/-! What packs_for answers. -/
namespace Alb.Rn
open PySem Alb
/-- a chance as packs_for takes it -/
structure Chn (c : Rat) : Prop where
  n1 : 1 ≤ c.num
  n2 : c.num ≤ 99
  d1 : (c.den : Int) ≤ 99
  lt : c.num < c.den
theorem pure_fq1 {r : Rat} : (fq r).pure = true := rfl
theorem int_in {k lo hi : Int} (h0 : lo ≤ k) (h1 : k ≤ hi) : isIntM (.int k) lo hi = true := by simp [isIntM, h0, h1]
theorem rr_chance {m : Nat} {h : Hh} {c : Rat} (hc : Chn c) : (clOf TT (m + 2)).f 33 [fq c] h = .ok .non h := by
  obtain ⟨n1, n2, d1, lt⟩ := hc
  refine own_non (fd := b_check_chance) rfl rfl rfl rfl ?_
  simp only [b_check_chance, stEnv, List.map, List.length, List.replicate, Nat.reduceAdd, Nat.reduceSub, List.cons_append, List.nil_append]
  have i1 := r_isint (m := m) (h := ⟨0, []⟩) (v := .int c.num) (lo := 1) (hi := 99) rfl
  have i2 := r_isint (m := m) (h := ⟨0, []⟩) (v := .int c.den) (lo := 1) (hi := 99) rfl
  rw [int_in n1 n2] at i1
  rw [int_in (by omega) d1] at i2
  have al : bltD .all [.loc 0] ⟨1, [(0, .lst [.bl true, .bl true])]⟩ = some (.bl true, ⟨1, [(0, .lst [.bl true, .bl true])]⟩) := rfl
  have ge : ¬ (c.den : Int) ≤ c.num := by omega
  have dv := r_divisor (m := m) (h := ⟨1, [(0, .lst [.bl true, .bl true])]⟩) c.den c.num.toNat (by
    rw [Nat.log2_lt (by omega)]
    exact Nat.lt_of_le_of_lt (by omega : c.num.toNat ≤ 99) (Nat.lt_of_lt_of_le (by decide : 99 < 2 ^ 7) (Nat.pow_le_pow_right (by decide) (by decide))))
  have e1 : ((c.num.toNat : Nat) : Int) = c.num := by omega
  have eg : Nat.gcd c.den c.num.toNat = 1 := by
    have := c.reduced
    rw [Nat.Coprime, Nat.gcd_comm] at this
    have e : c.num.natAbs = c.num.toNat := by omega
    rw [e] at this
    exact this
  rw [e1, eg, show ((1 : Nat) : Int) = 1 from rfl] at dv
  simp (disch := (first | (with_reducible assumption) | omega | ((repeat first | rw [nx_new] | rw [nx_set] | rw [List.length_map] | rw [List.length_replicate] | rw [List.length_range] | rw [List.length_append] | rw [List.length_cons] | rw [List.length_nil]) <;> omega) | fail)) only [s_nil, s_cons, s_asg, s_unp, s_par, s_sto, s_aug, s_aus, s_exp, s_ret, s_ife, s_for, s_whi, s_rai, s_tryw, e_cst, e_var, e_fnv, e_glb, e_bin, e_neg, e_cmp, e_chn, e_and, e_or, e_not, e_ite, e_cal, e_cax, e_blt, e_isi, e_mth, e_tup, e_lst, e_sub, e_slc, e_lc, es_nil, es_cons, ea_nil, ea_cons, eo_nil, eo_cons, eb_none, eb_some, ec_none, ec_some, b_ok, b_ex, t_ok, t_ex, st_nx, st_rt, st_ex, o_some, v_some, o_add, o_sub, o_fdiv, o_mod, o_pow, c_lt, c_le, c_gt, c_ge, l_max, l_min, asgL, asg_nm, asg_tp, asg_fq, itr_fq, len_fq, isi_fq, ix_neg, sub_f0, sub_f1, List.length_cons, List.length_nil, List.length_set, List.getElem?_cons_zero, List.getElem?_cons_succ, List.set_cons_zero, List.set_cons_succ, Option.map_some, if_true, if_false, decide_true, decide_false, Bool.not_true, Bool.not_false, Nat.zero_add, Nat.reduceAdd, Nat.reduceLT, Nat.zero_lt_succ, Bool.false_eq_true, reduceIte, reduceCtorEq, thn_bind, bind_bind, thn_thn, rthn_thn, sat_nx, sat_rt, rsat_ok, get_new_ne, get_new_eq, nx_new, nx_set, get_set_ne, mk_new, mk_get, mk_set, mk_nx, setL_cons, mth_append, mth_extend, rcv_append, rcv_extend, rcv_count, it_tup, it_loc, len_tup, len_loc, tup_loc, list_tup, sub_tup, sub_at, lget_at, sto_at, aug_add, aug_sub, neg_int, itr_tup, itr_loc, itr_enuT, itr_enuL, itr_zipT, lock_nil, lock_one, unlock_nil, unlock_one, add_tup, c_eqI, c_neI, lim_eq, wipeD, forF, lcF, List.map_cons, List.map_nil, rtr_r1, rtr_r2, enum_range, get_range, len_range, ix_ok, List.getElem?_nil, List.nil_append, List.cons_append, Int.reduceLT, Int.reduceLE, Int.reduceBEq, Int.reduceAdd, Int.reduceSub, Int.reduceMul, Int.reduceToNat, beq_self_eq_true, lcK, compGo, i1, i2, al, ge, dv]
theorem rr_step {m : Nat} {h : Hh} {n s had : Int} (a : Alm n s) {p : Nat} (hp : p ≤ 30) : (clOf TT (m + 4)).f 21 [.int n, .int s, .tup ((sprL n s had p).map fq)] h = .ok (.tup ((sprL n s had (p + 1)).map fq)) h := by
  have h1 := (it_ok a (had := had) p (by omega)).1
  have h2 := (it_ok a (had := had) (p + 1) (by omega)).1
  simp only [iterM, h1] at h2
  rw [spr_eq a (by omega), spr_eq a (by omega)] at h2
  have := r_step (m := m) (h := h) h2
  rw [map_fq, map_fq] at this
  exact this
theorem last_ix {n : Int} (hn : 0 ≤ n) : (-1 + ((n + 1).toNat : Int)).toNat = n.toNat := by omega
section
variable {n s had : Int} {c : Rat} {m : Nat} {h : Hh}
theorem pf_body (a : Alm n s) (hc : Chn c) {p : Nat} (hp : p ≤ 30) {v v1 v2 : Option D} {N : Env → Hh → Prop} {P : D → Hh → Prop}
    (hr : c ≤ pr n s had p n.toNat → P (.int p) h)
    (hx : ¬ c ≤ pr n s had p n.toNat → N [some (.int n), some (.int s), some (.int had), some (fq c), some (.tup ((sprL n s had (p + 1)).map fq)), some (.int p), some (.int (pr n s had p n.toNat).num), some (.int (pr n s had p n.toNat).den)] h) :
    Sat (forF (clOf TT (m + 5)) (.nm 5) (.cons (.unp [6, 7] (.sub (.var 4) (.neg (.cst (.int 1))))) (.cons (.ife (.cmp .ge (.bin .mul (.var 6) (.sub (.var 3) (.cst (.int 1)))) (.bin .mul (.sub (.var 3) (.cst (.int 0))) (.var 7))) (.cons (.ret (.var 5)) .nil) .nil) (.cons (.asg 4 (.cal 21 (.cons (.var 0) (.cons (.var 1) (.cons (.var 4) .nil))))) .nil))) (.int p)
      [some (.int n), some (.int s), some (.int had), some (fq c), some (.tup ((sprL n s had p).map fq)), v, v1, v2] h) N P := by
  have n1 := a.n1
  obtain ⟨q1, q2, d1, lt⟩ := hc
  have sk := sk_pr' (had := had) a (p := p) (by omega) n.toNat
  have sc : Sk 4000 c := ⟨Nat.lt_of_le_of_lt (by omega : c.num.natAbs ≤ 99) (Nat.lt_of_lt_of_le (by decide : 99 < 2 ^ 7) (Nat.pow_le_pow_right (by decide) (by decide))), Nat.lt_of_le_of_lt (by omega : c.den ≤ 99) (Nat.lt_of_lt_of_le (by decide : 99 < 2 ^ 7) (Nat.pow_le_pow_right (by decide) (by decide)))⟩
  have sub : ∀ h : Hh, subD (.tup ((sprL n s had p).map fq)) (.int (-1)) h = some (fq (pr n s had p n.toNat)) := fun h => by
    rw [spr_fq]
    simp (disch := (first | (with_reducible assumption) | omega | ((repeat first | rw [nx_new] | rw [nx_set] | rw [List.length_map] | rw [List.length_replicate] | rw [List.length_range] | rw [List.length_append] | rw [List.length_cons] | rw [List.length_nil]) <;> omega) | fail)) only [s_nil, s_cons, s_asg, s_unp, s_par, s_sto, s_aug, s_aus, s_exp, s_ret, s_ife, s_for, s_whi, s_rai, s_tryw, e_cst, e_var, e_fnv, e_glb, e_bin, e_neg, e_cmp, e_chn, e_and, e_or, e_not, e_ite, e_cal, e_cax, e_blt, e_isi, e_mth, e_tup, e_lst, e_sub, e_slc, e_lc, es_nil, es_cons, ea_nil, ea_cons, eo_nil, eo_cons, eb_none, eb_some, ec_none, ec_some, b_ok, b_ex, t_ok, t_ex, st_nx, st_rt, st_ex, o_some, v_some, o_add, o_sub, o_fdiv, o_mod, o_pow, c_lt, c_le, c_gt, c_ge, l_max, l_min, asgL, asg_nm, asg_tp, asg_fq, itr_fq, len_fq, isi_fq, ix_neg, sub_f0, sub_f1, List.length_cons, List.length_nil, List.length_set, List.getElem?_cons_zero, List.getElem?_cons_succ, List.set_cons_zero, List.set_cons_succ, Option.map_some, if_true, if_false, decide_true, decide_false, Bool.not_true, Bool.not_false, Nat.zero_add, Nat.reduceAdd, Nat.reduceLT, Nat.zero_lt_succ, Bool.false_eq_true, reduceIte, reduceCtorEq, thn_bind, bind_bind, thn_thn, rthn_thn, sat_nx, sat_rt, rsat_ok, get_new_ne, get_new_eq, nx_new, nx_set, get_set_ne, mk_new, mk_get, mk_set, mk_nx, setL_cons, mth_append, mth_extend, rcv_append, rcv_extend, rcv_count, it_tup, it_loc, len_tup, len_loc, tup_loc, list_tup, sub_tup, sub_at, lget_at, sto_at, aug_add, aug_sub, neg_int, itr_tup, itr_loc, itr_enuT, itr_enuL, itr_zipT, lock_nil, lock_one, unlock_nil, unlock_one, add_tup, c_eqI, c_neI, lim_eq, wipeD, forF, lcF, List.map_cons, List.map_nil, rtr_r1, rtr_r2, enum_range, get_range, len_range, ix_ok, List.getElem?_nil, List.nil_append, List.cons_append, Int.reduceLT, Int.reduceLE, Int.reduceBEq, Int.reduceAdd, Int.reduceSub, Int.reduceMul, Int.reduceToNat, beq_self_eq_true, last_ix (by omega : 0 ≤ n)]
  by_cases z : c ≤ pr n s had p n.toNat
  · simp (disch := (first | (with_reducible assumption) | omega | ((repeat first | rw [nx_new] | rw [nx_set] | rw [List.length_map] | rw [List.length_replicate] | rw [List.length_range] | rw [List.length_append] | rw [List.length_cons] | rw [List.length_nil]) <;> omega) | fail)) only [s_nil, s_cons, s_asg, s_unp, s_par, s_sto, s_aug, s_aus, s_exp, s_ret, s_ife, s_for, s_whi, s_rai, s_tryw, e_cst, e_var, e_fnv, e_glb, e_bin, e_neg, e_cmp, e_chn, e_and, e_or, e_not, e_ite, e_cal, e_cax, e_blt, e_isi, e_mth, e_tup, e_lst, e_sub, e_slc, e_lc, es_nil, es_cons, ea_nil, ea_cons, eo_nil, eo_cons, eb_none, eb_some, ec_none, ec_some, b_ok, b_ex, t_ok, t_ex, st_nx, st_rt, st_ex, o_some, v_some, o_add, o_sub, o_fdiv, o_mod, o_pow, c_lt, c_le, c_gt, c_ge, l_max, l_min, asgL, asg_nm, asg_tp, asg_fq, itr_fq, len_fq, isi_fq, ix_neg, sub_f0, sub_f1, List.length_cons, List.length_nil, List.length_set, List.getElem?_cons_zero, List.getElem?_cons_succ, List.set_cons_zero, List.set_cons_succ, Option.map_some, if_true, if_false, decide_true, decide_false, Bool.not_true, Bool.not_false, Nat.zero_add, Nat.reduceAdd, Nat.reduceLT, Nat.zero_lt_succ, Bool.false_eq_true, reduceIte, reduceCtorEq, thn_bind, bind_bind, thn_thn, rthn_thn, sat_nx, sat_rt, rsat_ok, get_new_ne, get_new_eq, nx_new, nx_set, get_set_ne, mk_new, mk_get, mk_set, mk_nx, setL_cons, mth_append, mth_extend, rcv_append, rcv_extend, rcv_count, it_tup, it_loc, len_tup, len_loc, tup_loc, list_tup, sub_tup, sub_at, lget_at, sto_at, aug_add, aug_sub, neg_int, itr_tup, itr_loc, itr_enuT, itr_enuL, itr_zipT, lock_nil, lock_one, unlock_nil, unlock_one, add_tup, c_eqI, c_neI, lim_eq, wipeD, forF, lcF, List.map_cons, List.map_nil, rtr_r1, rtr_r2, enum_range, get_range, len_range, ix_ok, List.getElem?_nil, List.nil_append, List.cons_append, Int.reduceLT, Int.reduceLE, Int.reduceBEq, Int.reduceAdd, Int.reduceSub, Int.reduceMul, Int.reduceToNat, beq_self_eq_true, sub, mul_nd sk sc, mul_nd sc sk, ← Rat.le_iff, z]
    exact hr z
  · simp (disch := (first | (with_reducible assumption) | omega | ((repeat first | rw [nx_new] | rw [nx_set] | rw [List.length_map] | rw [List.length_replicate] | rw [List.length_range] | rw [List.length_append] | rw [List.length_cons] | rw [List.length_nil]) <;> omega) | fail)) only [s_nil, s_cons, s_asg, s_unp, s_par, s_sto, s_aug, s_aus, s_exp, s_ret, s_ife, s_for, s_whi, s_rai, s_tryw, e_cst, e_var, e_fnv, e_glb, e_bin, e_neg, e_cmp, e_chn, e_and, e_or, e_not, e_ite, e_cal, e_cax, e_blt, e_isi, e_mth, e_tup, e_lst, e_sub, e_slc, e_lc, es_nil, es_cons, ea_nil, ea_cons, eo_nil, eo_cons, eb_none, eb_some, ec_none, ec_some, b_ok, b_ex, t_ok, t_ex, st_nx, st_rt, st_ex, o_some, v_some, o_add, o_sub, o_fdiv, o_mod, o_pow, c_lt, c_le, c_gt, c_ge, l_max, l_min, asgL, asg_nm, asg_tp, asg_fq, itr_fq, len_fq, isi_fq, ix_neg, sub_f0, sub_f1, List.length_cons, List.length_nil, List.length_set, List.getElem?_cons_zero, List.getElem?_cons_succ, List.set_cons_zero, List.set_cons_succ, Option.map_some, if_true, if_false, decide_true, decide_false, Bool.not_true, Bool.not_false, Nat.zero_add, Nat.reduceAdd, Nat.reduceLT, Nat.zero_lt_succ, Bool.false_eq_true, reduceIte, reduceCtorEq, thn_bind, bind_bind, thn_thn, rthn_thn, sat_nx, sat_rt, rsat_ok, get_new_ne, get_new_eq, nx_new, nx_set, get_set_ne, mk_new, mk_get, mk_set, mk_nx, setL_cons, mth_append, mth_extend, rcv_append, rcv_extend, rcv_count, it_tup, it_loc, len_tup, len_loc, tup_loc, list_tup, sub_tup, sub_at, lget_at, sto_at, aug_add, aug_sub, neg_int, itr_tup, itr_loc, itr_enuT, itr_enuL, itr_zipT, lock_nil, lock_one, unlock_nil, unlock_one, add_tup, c_eqI, c_neI, lim_eq, wipeD, forF, lcF, List.map_cons, List.map_nil, rtr_r1, rtr_r2, enum_range, get_range, len_range, ix_ok, List.getElem?_nil, List.nil_append, List.cons_append, Int.reduceLT, Int.reduceLE, Int.reduceBEq, Int.reduceAdd, Int.reduceSub, Int.reduceMul, Int.reduceToNat, beq_self_eq_true, sub, mul_nd sk sc, mul_nd sc sk, ← Rat.le_iff, z, rr_step a hp]
    exact hx z
theorem rr_pf (a : Alm n s) (hc : Chn c) (h0 : 0 ≤ had) (h1 : had ≤ n) {p : Nat} (hp : p ≤ 30) (hit : c ≤ pr n s had p n.toNat) (miss : ∀ q, q < p → ¬ c ≤ pr n s had q n.toNat) : (clOf TT (m + 6)).f 34 [.int n, .int s, .int had, fq c] h = .ok (.int p) h := by
  refine own_val (fd := b_packs_for) rfl rfl rfl rfl rfl ?_
  simp only [b_packs_for, stEnv, List.map, List.length, List.replicate, Nat.reduceAdd, Nat.reduceSub, List.cons_append, List.nil_append]
  have af := rr_after (m := m) (h := ⟨0, []⟩) (had := had) a (p := 0) (by decide) (by decide)
  have z0 : (0 : Int).toNat = 0 := rfl
  rw [z0] at af
  simp (disch := (first | (with_reducible assumption) | omega | ((repeat first | rw [nx_new] | rw [nx_set] | rw [List.length_map] | rw [List.length_replicate] | rw [List.length_range] | rw [List.length_append] | rw [List.length_cons] | rw [List.length_nil]) <;> omega) | fail)) only [s_nil, s_cons, s_asg, s_unp, s_par, s_sto, s_aug, s_aus, s_exp, s_ret, s_ife, s_for, s_whi, s_rai, s_tryw, e_cst, e_var, e_fnv, e_glb, e_bin, e_neg, e_cmp, e_chn, e_and, e_or, e_not, e_ite, e_cal, e_cax, e_blt, e_isi, e_mth, e_tup, e_lst, e_sub, e_slc, e_lc, es_nil, es_cons, ea_nil, ea_cons, eo_nil, eo_cons, eb_none, eb_some, ec_none, ec_some, b_ok, b_ex, t_ok, t_ex, st_nx, st_rt, st_ex, o_some, v_some, o_add, o_sub, o_fdiv, o_mod, o_pow, c_lt, c_le, c_gt, c_ge, l_max, l_min, asgL, asg_nm, asg_tp, asg_fq, itr_fq, len_fq, isi_fq, ix_neg, sub_f0, sub_f1, List.length_cons, List.length_nil, List.length_set, List.getElem?_cons_zero, List.getElem?_cons_succ, List.set_cons_zero, List.set_cons_succ, Option.map_some, if_true, if_false, decide_true, decide_false, Bool.not_true, Bool.not_false, Nat.zero_add, Nat.reduceAdd, Nat.reduceLT, Nat.zero_lt_succ, Bool.false_eq_true, reduceIte, reduceCtorEq, thn_bind, bind_bind, thn_thn, rthn_thn, sat_nx, sat_rt, rsat_ok, get_new_ne, get_new_eq, nx_new, nx_set, get_set_ne, mk_new, mk_get, mk_set, mk_nx, setL_cons, mth_append, mth_extend, rcv_append, rcv_extend, rcv_count, it_tup, it_loc, len_tup, len_loc, tup_loc, list_tup, sub_tup, sub_at, lget_at, sto_at, aug_add, aug_sub, neg_int, itr_tup, itr_loc, itr_enuT, itr_enuL, itr_zipT, lock_nil, lock_one, unlock_nil, unlock_one, add_tup, c_eqI, c_neI, lim_eq, wipeD, forF, lcF, List.map_cons, List.map_nil, rtr_r1, rtr_r2, enum_range, get_range, len_range, ix_ok, List.getElem?_nil, List.nil_append, List.cons_append, Int.reduceLT, Int.reduceLE, Int.reduceBEq, Int.reduceAdd, Int.reduceSub, Int.reduceMul, Int.reduceToNat, beq_self_eq_true, r_size_ok (okk a h0 h1), r_num_ok (ok3_had (okk a h0 h1)), rr_chance hc, af, g_most, Int.reduceAdd, Int.reduceToNat]
  refine sat_forR (fun i r h => ∃ v1 v2 v3, r = [some (.int n), some (.int s), some (.int had), some (fq c), some (.tup ((sprL n s had i).map fq)), v1, v2, v3] ∧ i ≤ p) ⟨none, none, none, rfl, Nat.zero_le _⟩ (fun i r h hi hv => ?_) (fun r h hv => ?_)
  · obtain ⟨v1, v2, v3, rfl, hip⟩ := hv
    refine pf_body a hc (by omega) (fun z => ?_) (fun z => ?_)
    · by_cases e : i = p
      · rw [e]
      · exact absurd z (miss i (by omega))
    · refine ⟨_, _, _, rfl, ?_⟩
      by_cases e : i = p
      · subst e
        exact absurd hit z
      · omega
  · obtain ⟨v1, v2, v3, rfl, hip⟩ := hv
    omega
theorem rr_pfx (a : Alm n s) (hc : Chn c) (h0 : 0 ≤ had) (h1 : had ≤ n) (miss : ∀ q, q ≤ 30 → ¬ c ≤ pr n s had q n.toNat) : (clOf TT (m + 6)).f 34 [.int n, .int s, .int had, fq c] h = .ex 7 h := by
  refine own_exc (fd := b_packs_for) rfl rfl rfl rfl ?_
  simp only [b_packs_for, stEnv, List.map, List.length, List.replicate, Nat.reduceAdd, Nat.reduceSub, List.cons_append, List.nil_append]
  have af := rr_after (m := m) (h := ⟨0, []⟩) (had := had) a (p := 0) (by decide) (by decide)
  have z0 : (0 : Int).toNat = 0 := rfl
  rw [z0] at af
  simp (disch := (first | (with_reducible assumption) | omega | ((repeat first | rw [nx_new] | rw [nx_set] | rw [List.length_map] | rw [List.length_replicate] | rw [List.length_range] | rw [List.length_append] | rw [List.length_cons] | rw [List.length_nil]) <;> omega) | fail)) only [s_nil, s_cons, s_asg, s_unp, s_par, s_sto, s_aug, s_aus, s_exp, s_ret, s_ife, s_for, s_whi, s_rai, s_tryw, e_cst, e_var, e_fnv, e_glb, e_bin, e_neg, e_cmp, e_chn, e_and, e_or, e_not, e_ite, e_cal, e_cax, e_blt, e_isi, e_mth, e_tup, e_lst, e_sub, e_slc, e_lc, es_nil, es_cons, ea_nil, ea_cons, eo_nil, eo_cons, eb_none, eb_some, ec_none, ec_some, b_ok, b_ex, t_ok, t_ex, st_nx, st_rt, st_ex, o_some, v_some, o_add, o_sub, o_fdiv, o_mod, o_pow, c_lt, c_le, c_gt, c_ge, l_max, l_min, asgL, asg_nm, asg_tp, asg_fq, itr_fq, len_fq, isi_fq, ix_neg, sub_f0, sub_f1, List.length_cons, List.length_nil, List.length_set, List.getElem?_cons_zero, List.getElem?_cons_succ, List.set_cons_zero, List.set_cons_succ, Option.map_some, if_true, if_false, decide_true, decide_false, Bool.not_true, Bool.not_false, Nat.zero_add, Nat.reduceAdd, Nat.reduceLT, Nat.zero_lt_succ, Bool.false_eq_true, reduceIte, reduceCtorEq, thn_bind, bind_bind, thn_thn, rthn_thn, sat_nx, sat_rt, rsat_ok, get_new_ne, get_new_eq, nx_new, nx_set, get_set_ne, mk_new, mk_get, mk_set, mk_nx, setL_cons, mth_append, mth_extend, rcv_append, rcv_extend, rcv_count, it_tup, it_loc, len_tup, len_loc, tup_loc, list_tup, sub_tup, sub_at, lget_at, sto_at, aug_add, aug_sub, neg_int, itr_tup, itr_loc, itr_enuT, itr_enuL, itr_zipT, lock_nil, lock_one, unlock_nil, unlock_one, add_tup, c_eqI, c_neI, lim_eq, wipeD, forF, lcF, List.map_cons, List.map_nil, rtr_r1, rtr_r2, enum_range, get_range, len_range, ix_ok, List.getElem?_nil, List.nil_append, List.cons_append, Int.reduceLT, Int.reduceLE, Int.reduceBEq, Int.reduceAdd, Int.reduceSub, Int.reduceMul, Int.reduceToNat, beq_self_eq_true, r_size_ok (okk a h0 h1), r_num_ok (ok3_had (okk a h0 h1)), rr_chance hc, af, g_most, Int.reduceAdd, Int.reduceToNat]
  refine ex_forR (fun i r h => ∃ v1 v2 v3, r = [some (.int n), some (.int s), some (.int had), some (fq c), some (.tup ((sprL n s had i).map fq)), v1, v2, v3]) ⟨none, none, none, rfl⟩ (fun i r h hi hv => ?_) (fun r h hv => ?_)
  · obtain ⟨v1, v2, v3, rfl⟩ := hv
    exact pf_body a hc (by omega) (fun z => miss i (by omega) z) (fun z => ⟨_, _, _, rfl⟩)
  · exact ⟨_, rfl⟩
end
end Alb.Rn
set_option Elab.async false
set_option linter.all false
set_option maxRecDepth 100000
set_option maxHeartbeats 1000000
set_option pp.deepTerms false
set_option pp.deepTerms.threshold 8
/-! What the laws' own going through all packs answers. -/
namespace Alb.Rn
open PySem Alb
theorem sat_cut {s : SR} {k : Env → Hh → SR} {N : Env → Hh → Prop} {P : D → Hh → Prop} (M : Env → Hh → Prop) (hs : Sat s M P) (hk : ∀ r h, M r h → Sat (k r h) N P) : Sat (s.thn k) N P :=
  sat_thn (sat_mono hs hk fun _ _ h => h)
def tupI (xs : List Int) : D := .tup (xs.map .int)
def startI (own : List Int) : Int := match own.getLast? with
  | some x => x + 1
  | none => 0
def extI (n : Int) (own : List Int) : List (List Int) := (List.range (n - startI own).toNat).map fun i : Nat => own ++ [startI own + i]
def setsM (n : Int) : Nat → List (List Int)
  | 0 => [[]]
  | k + 1 => (setsM n k).flatMap (extI n)
theorem sets_chk : ((List.range 8).all fun n => (List.range 9).all fun k => decide ((setsM ((n + 1 : Nat) : Int) k).length ≤ 70) && (setsM ((n + 1 : Nat) : Int) k).all fun own => decide (own.length ≤ 8) && decide (0 ≤ startI own) && decide (startI own ≤ ((n + 1 : Nat) : Int))) = true := by decide +kernel
theorem sets_ok {n : Int} (n1 : 1 ≤ n) (n8 : n ≤ 8) {k : Nat} (hk : k ≤ 8) : (setsM n k).length ≤ 70 ∧ ∀ own ∈ setsM n k, own.length ≤ 8 ∧ 0 ≤ startI own ∧ startI own ≤ n := by
  have h := sets_chk
  rw [List.all_eq_true] at h
  have h := h (n.toNat - 1) (List.mem_range.mpr (by omega))
  rw [List.all_eq_true] at h
  have h := h k (List.mem_range.mpr (by omega))
  have e : ((n.toNat - 1 + 1 : Nat) : Int) = n := by omega
  rw [e] at h
  simp only [Bool.and_eq_true, decide_eq_true_eq, List.all_eq_true] at h
  exact ⟨h.1, fun own ho => ⟨(h.2 own ho).1.1, (h.2 own ho).1.2, (h.2 own ho).2⟩⟩
theorem c_neTI {l : List Int} {h : Hh} : cmpD .ne (.tup (l.map D.int)) (.tup []) h = some (!decide (l = [])) := c_neV vInt.tup (x := l) (y := []) (by decide)
theorem sub_lastI {l : List Int} {x : Int} {h : Hh} (e : l.getLast? = some x) : subD (.tup (l.map D.int)) (.int (-1)) h = some (.int x) := by
  have hl : 0 < l.length := by
    cases l with
    | nil => simp at e
    | cons _ _ => simp
  rw [List.getLast?_eq_getElem?] at e
  rw [sub_tup, ix_neg (by omega) (by rw [List.length_map]; omega)]
  simp only [List.getElem?_map, List.length_map]
  have : (-1 + (l.length : Int)).toNat = l.length - 1 := by omega
  rw [this, e]
  rfl
theorem take_one {α : Type} {l : List α} {j : Nat} {x : α} (h : l[j]? = some x) : l.take (j + 1) = l.take j ++ [x] := by
  rw [List.take_add_one, h]
  rfl
theorem pure_tupI {xs : List Int} : (tupI xs).pure = true := by
  unfold tupI
  simp only [D.pure]
  induction xs with
  | nil => rfl
  | cons x xs ih => simpa [pureL, D.pure] using ih
theorem pure_tupIs {l : List (List Int)} : pureL (l.map tupI) = true := by
  induction l with
  | nil => rfl
  | cons x xs ih => simp [pureL, pure_tupI, ih]
theorem flat_len {n : Int} (n1 : 1 ≤ n) (n8 : n ≤ 8) {k : Nat} (hk : k < 8) (j : Nat) : (((setsM n k).take j).flatMap (extI n)).length ≤ 70 := by
  have h := (sets_ok n1 n8 (k := k + 1) (by omega)).1
  have e : (setsM n (k + 1)) = ((setsM n k).take j).flatMap (extI n) ++ ((setsM n k).drop j).flatMap (extI n) := by
    rw [← List.flatMap_append, List.take_append_drop]
    rfl
  rw [e, List.length_append] at h
  omega
theorem rr_sets {m : Nat} {h : Hh} {n s : Int} (a : Alm n s) : (clOf TT (m + 1)).f 15 [.int n, .int s] h = .ok (.loc h.nx) (h.new (.lst ((setsM n s.toNat).map tupI))) := by
  obtain ⟨n1, n8, s1, sn⟩ := a
  refine own_lst (fd := b_law_sets_of) rfl rfl rfl rfl pure_tupIs ?_
  simp only [b_law_sets_of, stEnv, List.map, List.length, List.replicate, Nat.reduceAdd, Nat.reduceSub, List.cons_append, List.nil_append]
  simp (disch := (first | (with_reducible assumption) | omega | ((repeat first | rw [nx_new] | rw [nx_set] | rw [List.length_map] | rw [List.length_replicate] | rw [List.length_range] | rw [List.length_append] | rw [List.length_cons] | rw [List.length_nil]) <;> omega) | fail)) only [s_nil, s_cons, s_asg, s_unp, s_par, s_sto, s_aug, s_aus, s_exp, s_ret, s_ife, s_for, s_whi, s_rai, s_tryw, e_cst, e_var, e_fnv, e_glb, e_bin, e_neg, e_cmp, e_chn, e_and, e_or, e_not, e_ite, e_cal, e_cax, e_blt, e_isi, e_mth, e_tup, e_lst, e_sub, e_slc, e_lc, es_nil, es_cons, ea_nil, ea_cons, eo_nil, eo_cons, eb_none, eb_some, ec_none, ec_some, b_ok, b_ex, t_ok, t_ex, st_nx, st_rt, st_ex, o_some, v_some, o_add, o_sub, o_fdiv, o_mod, o_pow, c_lt, c_le, c_gt, c_ge, l_max, l_min, asgL, asg_nm, asg_tp, asg_fq, itr_fq, len_fq, isi_fq, ix_neg, sub_f0, sub_f1, List.length_cons, List.length_nil, List.length_set, List.getElem?_cons_zero, List.getElem?_cons_succ, List.set_cons_zero, List.set_cons_succ, Option.map_some, if_true, if_false, decide_true, decide_false, Bool.not_true, Bool.not_false, Nat.zero_add, Nat.reduceAdd, Nat.reduceLT, Nat.zero_lt_succ, Bool.false_eq_true, reduceIte, reduceCtorEq, thn_bind, bind_bind, thn_thn, rthn_thn, sat_nx, sat_rt, rsat_ok, get_new_ne, get_new_eq, nx_new, nx_set, get_set_ne, mk_new, mk_get, mk_set, mk_nx, setL_cons, mth_append, mth_extend, rcv_append, rcv_extend, rcv_count, it_tup, it_loc, len_tup, len_loc, tup_loc, list_tup, sub_tup, sub_at, lget_at, sto_at, aug_add, aug_sub, neg_int, itr_tup, itr_loc, itr_enuT, itr_enuL, itr_zipT, lock_nil, lock_one, unlock_nil, unlock_one, add_tup, c_eqI, c_neI, lim_eq, wipeD, forF, lcF, List.map_cons, List.map_nil, rtr_r1, rtr_r2, enum_range, get_range, len_range, ix_ok, List.getElem?_nil, List.nil_append, List.cons_append, Int.reduceLT, Int.reduceLE, Int.reduceBEq, Int.reduceAdd, Int.reduceSub, Int.reduceMul, Int.reduceToNat, beq_self_eq_true]
  refine sat_forR (fun i r h => ∃ (a : Nat) (v : Option D × Option D × Option D × Option D), r = [some (.int n), some (.int s), some (.loc a), v.1, v.2.1, v.2.2.1, v.2.2.2, none] ∧ a < h.nx ∧ h.get a = some (.lst ((setsM n i).map tupI))) ⟨0, (_, _, _, _), rfl, (by show 0 < 1; decide), rfl⟩ (fun i r h hi hv => ?_) (fun r h hv => ?_)
  · obtain ⟨a, v, rfl, ha, hg⟩ := hv
    simp (disch := (first | (with_reducible assumption) | omega | ((repeat first | rw [nx_new] | rw [nx_set] | rw [List.length_map] | rw [List.length_replicate] | rw [List.length_range] | rw [List.length_append] | rw [List.length_cons] | rw [List.length_nil]) <;> omega) | fail)) only [s_nil, s_cons, s_asg, s_unp, s_par, s_sto, s_aug, s_aus, s_exp, s_ret, s_ife, s_for, s_whi, s_rai, s_tryw, e_cst, e_var, e_fnv, e_glb, e_bin, e_neg, e_cmp, e_chn, e_and, e_or, e_not, e_ite, e_cal, e_cax, e_blt, e_isi, e_mth, e_tup, e_lst, e_sub, e_slc, e_lc, es_nil, es_cons, ea_nil, ea_cons, eo_nil, eo_cons, eb_none, eb_some, ec_none, ec_some, b_ok, b_ex, t_ok, t_ex, st_nx, st_rt, st_ex, o_some, v_some, o_add, o_sub, o_fdiv, o_mod, o_pow, c_lt, c_le, c_gt, c_ge, l_max, l_min, asgL, asg_nm, asg_tp, asg_fq, itr_fq, len_fq, isi_fq, ix_neg, sub_f0, sub_f1, List.length_cons, List.length_nil, List.length_set, List.getElem?_cons_zero, List.getElem?_cons_succ, List.set_cons_zero, List.set_cons_succ, Option.map_some, if_true, if_false, decide_true, decide_false, Bool.not_true, Bool.not_false, Nat.zero_add, Nat.reduceAdd, Nat.reduceLT, Nat.zero_lt_succ, Bool.false_eq_true, reduceIte, reduceCtorEq, thn_bind, bind_bind, thn_thn, rthn_thn, sat_nx, sat_rt, rsat_ok, get_new_ne, get_new_eq, nx_new, nx_set, get_set_ne, mk_new, mk_get, mk_set, mk_nx, setL_cons, mth_append, mth_extend, rcv_append, rcv_extend, rcv_count, it_tup, it_loc, len_tup, len_loc, tup_loc, list_tup, sub_tup, sub_at, lget_at, sto_at, aug_add, aug_sub, neg_int, itr_tup, itr_loc, itr_enuT, itr_enuL, itr_zipT, lock_nil, lock_one, unlock_nil, unlock_one, add_tup, c_eqI, c_neI, lim_eq, wipeD, forF, lcF, List.map_cons, List.map_nil, rtr_r1, rtr_r2, enum_range, get_range, len_range, ix_ok, List.getElem?_nil, List.nil_append, List.cons_append, Int.reduceLT, Int.reduceLE, Int.reduceBEq, Int.reduceAdd, Int.reduceSub, Int.reduceMul, Int.reduceToNat, beq_self_eq_true, hg]
    refine sat_forM (xs := setsM n i) (enc := tupI) (fun j r h' => ∃ v : Option D × Option D, r = [some (.int n), some (.int s), some (.loc a), some (.int i), some (.loc h.nx), v.1, v.2, none] ∧ h.nx < h'.nx ∧ h'.get a = some (.ro ((setsM n i).map tupI)) ∧ h'.get h.nx = some (.lst ((((setsM n i).take j).flatMap (extI n)).map tupI))) ⟨(_, _), rfl, ?_, ?_, ?_⟩ (fun j own r h' hj hv => ?_) (fun r h' hv => ?_)
    · simp (disch := (first | (with_reducible assumption) | omega | ((repeat first | rw [nx_new] | rw [nx_set] | rw [List.length_map] | rw [List.length_replicate] | rw [List.length_range] | rw [List.length_append] | rw [List.length_cons] | rw [List.length_nil]) <;> omega) | fail)) only [s_nil, s_cons, s_asg, s_unp, s_par, s_sto, s_aug, s_aus, s_exp, s_ret, s_ife, s_for, s_whi, s_rai, s_tryw, e_cst, e_var, e_fnv, e_glb, e_bin, e_neg, e_cmp, e_chn, e_and, e_or, e_not, e_ite, e_cal, e_cax, e_blt, e_isi, e_mth, e_tup, e_lst, e_sub, e_slc, e_lc, es_nil, es_cons, ea_nil, ea_cons, eo_nil, eo_cons, eb_none, eb_some, ec_none, ec_some, b_ok, b_ex, t_ok, t_ex, st_nx, st_rt, st_ex, o_some, v_some, o_add, o_sub, o_fdiv, o_mod, o_pow, c_lt, c_le, c_gt, c_ge, l_max, l_min, asgL, asg_nm, asg_tp, asg_fq, itr_fq, len_fq, isi_fq, ix_neg, sub_f0, sub_f1, List.length_cons, List.length_nil, List.length_set, List.getElem?_cons_zero, List.getElem?_cons_succ, List.set_cons_zero, List.set_cons_succ, Option.map_some, if_true, if_false, decide_true, decide_false, Bool.not_true, Bool.not_false, Nat.zero_add, Nat.reduceAdd, Nat.reduceLT, Nat.zero_lt_succ, Bool.false_eq_true, reduceIte, reduceCtorEq, thn_bind, bind_bind, thn_thn, rthn_thn, sat_nx, sat_rt, rsat_ok, get_new_ne, get_new_eq, nx_new, nx_set, get_set_ne, mk_new, mk_get, mk_set, mk_nx, setL_cons, mth_append, mth_extend, rcv_append, rcv_extend, rcv_count, it_tup, it_loc, len_tup, len_loc, tup_loc, list_tup, sub_tup, sub_at, lget_at, sto_at, aug_add, aug_sub, neg_int, itr_tup, itr_loc, itr_enuT, itr_enuL, itr_zipT, lock_nil, lock_one, unlock_nil, unlock_one, add_tup, c_eqI, c_neI, lim_eq, wipeD, forF, lcF, List.map_cons, List.map_nil, rtr_r1, rtr_r2, enum_range, get_range, len_range, ix_ok, List.getElem?_nil, List.nil_append, List.cons_append, Int.reduceLT, Int.reduceLE, Int.reduceBEq, Int.reduceAdd, Int.reduceSub, Int.reduceMul, Int.reduceToNat, beq_self_eq_true]
      omega
    · rw [lock_one, get_set_eq (o' := .lst ((setsM n i).map tupI))]
      rw [get_new_ne (by omega)]
      exact hg
    · rw [lock_one, get_set_ne (by omega), get_new_eq rfl]
      rfl
    · obtain ⟨w, rfl, hx, g1, g2⟩ := hv
      have hm := (sets_ok n1 n8 (k := i) (by omega)).2 own (List.mem_of_getElem? hj)
      have hs : ev (clOf TT m) (.ite (.cmp .ne (.var 5) (.tup .nil)) (.bin .add (.sub (.var 5) (.neg (.cst (.int 1)))) (.cst (.int 1))) (.cst (.int 0))) [some (.int n), some (.int s), some (.loc a), some (.int i), some (.loc h.nx), some (tupI own), w.2, none] h' = .ok (.int (startI own)) h' := by
        unfold startI tupI
        cases q : own.getLast? with
        | none =>
          have : own = [] := by simpa using q
          simp (disch := (first | (with_reducible assumption) | omega | ((repeat first | rw [nx_new] | rw [nx_set] | rw [List.length_map] | rw [List.length_replicate] | rw [List.length_range] | rw [List.length_append] | rw [List.length_cons] | rw [List.length_nil]) <;> omega) | fail)) only [s_nil, s_cons, s_asg, s_unp, s_par, s_sto, s_aug, s_aus, s_exp, s_ret, s_ife, s_for, s_whi, s_rai, s_tryw, e_cst, e_var, e_fnv, e_glb, e_bin, e_neg, e_cmp, e_chn, e_and, e_or, e_not, e_ite, e_cal, e_cax, e_blt, e_isi, e_mth, e_tup, e_lst, e_sub, e_slc, e_lc, es_nil, es_cons, ea_nil, ea_cons, eo_nil, eo_cons, eb_none, eb_some, ec_none, ec_some, b_ok, b_ex, t_ok, t_ex, st_nx, st_rt, st_ex, o_some, v_some, o_add, o_sub, o_fdiv, o_mod, o_pow, c_lt, c_le, c_gt, c_ge, l_max, l_min, asgL, asg_nm, asg_tp, asg_fq, itr_fq, len_fq, isi_fq, ix_neg, sub_f0, sub_f1, List.length_cons, List.length_nil, List.length_set, List.getElem?_cons_zero, List.getElem?_cons_succ, List.set_cons_zero, List.set_cons_succ, Option.map_some, if_true, if_false, decide_true, decide_false, Bool.not_true, Bool.not_false, Nat.zero_add, Nat.reduceAdd, Nat.reduceLT, Nat.zero_lt_succ, Bool.false_eq_true, reduceIte, reduceCtorEq, thn_bind, bind_bind, thn_thn, rthn_thn, sat_nx, sat_rt, rsat_ok, get_new_ne, get_new_eq, nx_new, nx_set, get_set_ne, mk_new, mk_get, mk_set, mk_nx, setL_cons, mth_append, mth_extend, rcv_append, rcv_extend, rcv_count, it_tup, it_loc, len_tup, len_loc, tup_loc, list_tup, sub_tup, sub_at, lget_at, sto_at, aug_add, aug_sub, neg_int, itr_tup, itr_loc, itr_enuT, itr_enuL, itr_zipT, lock_nil, lock_one, unlock_nil, unlock_one, add_tup, c_eqI, c_neI, lim_eq, wipeD, forF, lcF, List.map_cons, List.map_nil, rtr_r1, rtr_r2, enum_range, get_range, len_range, ix_ok, List.getElem?_nil, List.nil_append, List.cons_append, Int.reduceLT, Int.reduceLE, Int.reduceBEq, Int.reduceAdd, Int.reduceSub, Int.reduceMul, Int.reduceToNat, beq_self_eq_true, c_neTI, this]
          rfl
        | some x =>
          have : own ≠ [] := by
            intro z
            rw [z] at q
            cases q
          simp (disch := (first | (with_reducible assumption) | omega | ((repeat first | rw [nx_new] | rw [nx_set] | rw [List.length_map] | rw [List.length_replicate] | rw [List.length_range] | rw [List.length_append] | rw [List.length_cons] | rw [List.length_nil]) <;> omega) | fail)) only [s_nil, s_cons, s_asg, s_unp, s_par, s_sto, s_aug, s_aus, s_exp, s_ret, s_ife, s_for, s_whi, s_rai, s_tryw, e_cst, e_var, e_fnv, e_glb, e_bin, e_neg, e_cmp, e_chn, e_and, e_or, e_not, e_ite, e_cal, e_cax, e_blt, e_isi, e_mth, e_tup, e_lst, e_sub, e_slc, e_lc, es_nil, es_cons, ea_nil, ea_cons, eo_nil, eo_cons, eb_none, eb_some, ec_none, ec_some, b_ok, b_ex, t_ok, t_ex, st_nx, st_rt, st_ex, o_some, v_some, o_add, o_sub, o_fdiv, o_mod, o_pow, c_lt, c_le, c_gt, c_ge, l_max, l_min, asgL, asg_nm, asg_tp, asg_fq, itr_fq, len_fq, isi_fq, ix_neg, sub_f0, sub_f1, List.length_cons, List.length_nil, List.length_set, List.getElem?_cons_zero, List.getElem?_cons_succ, List.set_cons_zero, List.set_cons_succ, Option.map_some, if_true, if_false, decide_true, decide_false, Bool.not_true, Bool.not_false, Nat.zero_add, Nat.reduceAdd, Nat.reduceLT, Nat.zero_lt_succ, Bool.false_eq_true, reduceIte, reduceCtorEq, thn_bind, bind_bind, thn_thn, rthn_thn, sat_nx, sat_rt, rsat_ok, get_new_ne, get_new_eq, nx_new, nx_set, get_set_ne, mk_new, mk_get, mk_set, mk_nx, setL_cons, mth_append, mth_extend, rcv_append, rcv_extend, rcv_count, it_tup, it_loc, len_tup, len_loc, tup_loc, list_tup, sub_tup, sub_at, lget_at, sto_at, aug_add, aug_sub, neg_int, itr_tup, itr_loc, itr_enuT, itr_enuL, itr_zipT, lock_nil, lock_one, unlock_nil, unlock_one, add_tup, c_eqI, c_neI, lim_eq, wipeD, forF, lcF, List.map_cons, List.map_nil, rtr_r1, rtr_r2, enum_range, get_range, len_range, ix_ok, List.getElem?_nil, List.nil_append, List.cons_append, Int.reduceLT, Int.reduceLE, Int.reduceBEq, Int.reduceAdd, Int.reduceSub, Int.reduceMul, Int.reduceToNat, beq_self_eq_true, c_neTI, this, sub_lastI q]
      simp only [s_cons, s_asg, hs, forF, asg_nm]
      simp (disch := (first | (with_reducible assumption) | omega | ((repeat first | rw [nx_new] | rw [nx_set] | rw [List.length_map] | rw [List.length_replicate] | rw [List.length_range] | rw [List.length_append] | rw [List.length_cons] | rw [List.length_nil]) <;> omega) | fail)) only [s_nil, s_cons, s_asg, s_unp, s_par, s_sto, s_aug, s_aus, s_exp, s_ret, s_ife, s_for, s_whi, s_rai, s_tryw, e_cst, e_var, e_fnv, e_glb, e_bin, e_neg, e_cmp, e_chn, e_and, e_or, e_not, e_ite, e_cal, e_cax, e_blt, e_isi, e_mth, e_tup, e_lst, e_sub, e_slc, e_lc, es_nil, es_cons, ea_nil, ea_cons, eo_nil, eo_cons, eb_none, eb_some, ec_none, ec_some, b_ok, b_ex, t_ok, t_ex, st_nx, st_rt, st_ex, o_some, v_some, o_add, o_sub, o_fdiv, o_mod, o_pow, c_lt, c_le, c_gt, c_ge, l_max, l_min, asgL, asg_nm, asg_tp, asg_fq, itr_fq, len_fq, isi_fq, ix_neg, sub_f0, sub_f1, List.length_cons, List.length_nil, List.length_set, List.getElem?_cons_zero, List.getElem?_cons_succ, List.set_cons_zero, List.set_cons_succ, Option.map_some, if_true, if_false, decide_true, decide_false, Bool.not_true, Bool.not_false, Nat.zero_add, Nat.reduceAdd, Nat.reduceLT, Nat.zero_lt_succ, Bool.false_eq_true, reduceIte, reduceCtorEq, thn_bind, bind_bind, thn_thn, rthn_thn, sat_nx, sat_rt, rsat_ok, get_new_ne, get_new_eq, nx_new, nx_set, get_set_ne, mk_new, mk_get, mk_set, mk_nx, setL_cons, mth_append, mth_extend, rcv_append, rcv_extend, rcv_count, it_tup, it_loc, len_tup, len_loc, tup_loc, list_tup, sub_tup, sub_at, lget_at, sto_at, aug_add, aug_sub, neg_int, itr_tup, itr_loc, itr_enuT, itr_enuL, itr_zipT, lock_nil, lock_one, unlock_nil, unlock_one, add_tup, c_eqI, c_neI, lim_eq, wipeD, forF, lcF, List.map_cons, List.map_nil, rtr_r1, rtr_r2, enum_range, get_range, len_range, ix_ok, List.getElem?_nil, List.nil_append, List.cons_append, Int.reduceLT, Int.reduceLE, Int.reduceBEq, Int.reduceAdd, Int.reduceSub, Int.reduceMul, Int.reduceToNat, beq_self_eq_true, hs, g2]
      refine sat_lcR (fun k => tupI (own ++ [startI own + (k : Nat)])) rfl (by omega) (fun k hk => ?_) ?_
      · unfold tupI
        simp (disch := (first | (with_reducible assumption) | omega | ((repeat first | rw [nx_new] | rw [nx_set] | rw [List.length_map] | rw [List.length_replicate] | rw [List.length_range] | rw [List.length_append] | rw [List.length_cons] | rw [List.length_nil]) <;> omega) | fail)) only [s_nil, s_cons, s_asg, s_unp, s_par, s_sto, s_aug, s_aus, s_exp, s_ret, s_ife, s_for, s_whi, s_rai, s_tryw, e_cst, e_var, e_fnv, e_glb, e_bin, e_neg, e_cmp, e_chn, e_and, e_or, e_not, e_ite, e_cal, e_cax, e_blt, e_isi, e_mth, e_tup, e_lst, e_sub, e_slc, e_lc, es_nil, es_cons, ea_nil, ea_cons, eo_nil, eo_cons, eb_none, eb_some, ec_none, ec_some, b_ok, b_ex, t_ok, t_ex, st_nx, st_rt, st_ex, o_some, v_some, o_add, o_sub, o_fdiv, o_mod, o_pow, c_lt, c_le, c_gt, c_ge, l_max, l_min, asgL, asg_nm, asg_tp, asg_fq, itr_fq, len_fq, isi_fq, ix_neg, sub_f0, sub_f1, List.length_cons, List.length_nil, List.length_set, List.getElem?_cons_zero, List.getElem?_cons_succ, List.set_cons_zero, List.set_cons_succ, Option.map_some, if_true, if_false, decide_true, decide_false, Bool.not_true, Bool.not_false, Nat.zero_add, Nat.reduceAdd, Nat.reduceLT, Nat.zero_lt_succ, Bool.false_eq_true, reduceIte, reduceCtorEq, thn_bind, bind_bind, thn_thn, rthn_thn, sat_nx, sat_rt, rsat_ok, get_new_ne, get_new_eq, nx_new, nx_set, get_set_ne, mk_new, mk_get, mk_set, mk_nx, setL_cons, mth_append, mth_extend, rcv_append, rcv_extend, rcv_count, it_tup, it_loc, len_tup, len_loc, tup_loc, list_tup, sub_tup, sub_at, lget_at, sto_at, aug_add, aug_sub, neg_int, itr_tup, itr_loc, itr_enuT, itr_enuL, itr_zipT, lock_nil, lock_one, unlock_nil, unlock_one, add_tup, c_eqI, c_neI, lim_eq, wipeD, forF, lcF, List.map_cons, List.map_nil, rtr_r1, rtr_r2, enum_range, get_range, len_range, ix_ok, List.getElem?_nil, List.nil_append, List.cons_append, Int.reduceLT, Int.reduceLE, Int.reduceBEq, Int.reduceAdd, Int.reduceSub, Int.reduceMul, Int.reduceToNat, beq_self_eq_true, List.map_append]
      have l1 := flat_len n1 n8 (k := i) (by omega) j
      have l2 := flat_len n1 n8 (k := i) (by omega) (j + 1)
      rw [take_one hj, List.flatMap_append] at l2
      simp only [List.flatMap_cons, List.flatMap_nil, List.append_nil, List.length_append] at l2
      have l3 : (extI n own).length = (n - startI own).toNat := len_range
      have ex : (List.range (n - startI own).toNat).map (fun k : Nat => tupI (own ++ [startI own + k])) = (extI n own).map tupI := by
        unfold extI
        rw [List.map_map]
        rfl
      have hl : (List.map tupI (List.flatMap (extI n) (List.take j (setsM n i)))).length + (n - startI own).toNat ≤ 100000 := by
        rw [List.length_map]
        omega
      simp (disch := (first | (with_reducible assumption) | omega | ((repeat first | rw [nx_new] | rw [nx_set] | rw [List.length_map] | rw [List.length_replicate] | rw [List.length_range] | rw [List.length_append] | rw [List.length_cons] | rw [List.length_nil]) <;> omega) | fail)) only [s_nil, s_cons, s_asg, s_unp, s_par, s_sto, s_aug, s_aus, s_exp, s_ret, s_ife, s_for, s_whi, s_rai, s_tryw, e_cst, e_var, e_fnv, e_glb, e_bin, e_neg, e_cmp, e_chn, e_and, e_or, e_not, e_ite, e_cal, e_cax, e_blt, e_isi, e_mth, e_tup, e_lst, e_sub, e_slc, e_lc, es_nil, es_cons, ea_nil, ea_cons, eo_nil, eo_cons, eb_none, eb_some, ec_none, ec_some, b_ok, b_ex, t_ok, t_ex, st_nx, st_rt, st_ex, o_some, v_some, o_add, o_sub, o_fdiv, o_mod, o_pow, c_lt, c_le, c_gt, c_ge, l_max, l_min, asgL, asg_nm, asg_tp, asg_fq, itr_fq, len_fq, isi_fq, ix_neg, sub_f0, sub_f1, List.length_cons, List.length_nil, List.length_set, List.getElem?_cons_zero, List.getElem?_cons_succ, List.set_cons_zero, List.set_cons_succ, Option.map_some, if_true, if_false, decide_true, decide_false, Bool.not_true, Bool.not_false, Nat.zero_add, Nat.reduceAdd, Nat.reduceLT, Nat.zero_lt_succ, Bool.false_eq_true, reduceIte, reduceCtorEq, thn_bind, bind_bind, thn_thn, rthn_thn, sat_nx, sat_rt, rsat_ok, get_new_ne, get_new_eq, nx_new, nx_set, get_set_ne, mk_new, mk_get, mk_set, mk_nx, setL_cons, mth_append, mth_extend, rcv_append, rcv_extend, rcv_count, it_tup, it_loc, len_tup, len_loc, tup_loc, list_tup, sub_tup, sub_at, lget_at, sto_at, aug_add, aug_sub, neg_int, itr_tup, itr_loc, itr_enuT, itr_enuL, itr_zipT, lock_nil, lock_one, unlock_nil, unlock_one, add_tup, c_eqI, c_neI, lim_eq, wipeD, forF, lcF, List.map_cons, List.map_nil, rtr_r1, rtr_r2, enum_range, get_range, len_range, ix_ok, List.getElem?_nil, List.nil_append, List.cons_append, Int.reduceLT, Int.reduceLE, Int.reduceBEq, Int.reduceAdd, Int.reduceSub, Int.reduceMul, Int.reduceToNat, beq_self_eq_true, g2, hl]
      refine ⟨(_, _), rfl, by omega, ?_, ?_⟩
      · exact g1
      · rw [get_set_eq (o' := .lst ((((setsM n i).take j).flatMap (extI n)).map tupI)) (by rw [get_new_ne (by omega)]; exact g2), ex, take_one hj, List.flatMap_append, List.map_append]
        simp
    · obtain ⟨w, rfl, hx, g1, g2⟩ := hv
      simp (disch := (first | (with_reducible assumption) | omega | ((repeat first | rw [nx_new] | rw [nx_set] | rw [List.length_map] | rw [List.length_replicate] | rw [List.length_range] | rw [List.length_append] | rw [List.length_cons] | rw [List.length_nil]) <;> omega) | fail)) only [s_nil, s_cons, s_asg, s_unp, s_par, s_sto, s_aug, s_aus, s_exp, s_ret, s_ife, s_for, s_whi, s_rai, s_tryw, e_cst, e_var, e_fnv, e_glb, e_bin, e_neg, e_cmp, e_chn, e_and, e_or, e_not, e_ite, e_cal, e_cax, e_blt, e_isi, e_mth, e_tup, e_lst, e_sub, e_slc, e_lc, es_nil, es_cons, ea_nil, ea_cons, eo_nil, eo_cons, eb_none, eb_some, ec_none, ec_some, b_ok, b_ex, t_ok, t_ex, st_nx, st_rt, st_ex, o_some, v_some, o_add, o_sub, o_fdiv, o_mod, o_pow, c_lt, c_le, c_gt, c_ge, l_max, l_min, asgL, asg_nm, asg_tp, asg_fq, itr_fq, len_fq, isi_fq, ix_neg, sub_f0, sub_f1, List.length_cons, List.length_nil, List.length_set, List.getElem?_cons_zero, List.getElem?_cons_succ, List.set_cons_zero, List.set_cons_succ, Option.map_some, if_true, if_false, decide_true, decide_false, Bool.not_true, Bool.not_false, Nat.zero_add, Nat.reduceAdd, Nat.reduceLT, Nat.zero_lt_succ, Bool.false_eq_true, reduceIte, reduceCtorEq, thn_bind, bind_bind, thn_thn, rthn_thn, sat_nx, sat_rt, rsat_ok, get_new_ne, get_new_eq, nx_new, nx_set, get_set_ne, mk_new, mk_get, mk_set, mk_nx, setL_cons, mth_append, mth_extend, rcv_append, rcv_extend, rcv_count, it_tup, it_loc, len_tup, len_loc, tup_loc, list_tup, sub_tup, sub_at, lget_at, sto_at, aug_add, aug_sub, neg_int, itr_tup, itr_loc, itr_enuT, itr_enuL, itr_zipT, lock_nil, lock_one, unlock_nil, unlock_one, add_tup, c_eqI, c_neI, lim_eq, wipeD, forF, lcF, List.map_cons, List.map_nil, rtr_r1, rtr_r2, enum_range, get_range, len_range, ix_ok, List.getElem?_nil, List.nil_append, List.cons_append, Int.reduceLT, Int.reduceLE, Int.reduceBEq, Int.reduceAdd, Int.reduceSub, Int.reduceMul, Int.reduceToNat, beq_self_eq_true]
      refine ⟨h.nx, (_, _, _, _), rfl, by omega, ?_⟩
      rw [get_set_ne (by omega), g2, List.take_length]
      rfl
  · obtain ⟨a, v, rfl, ha, hg⟩ := hv
    simp (disch := (first | (with_reducible assumption) | omega | ((repeat first | rw [nx_new] | rw [nx_set] | rw [List.length_map] | rw [List.length_replicate] | rw [List.length_range] | rw [List.length_append] | rw [List.length_cons] | rw [List.length_nil]) <;> omega) | fail)) only [s_nil, s_cons, s_asg, s_unp, s_par, s_sto, s_aug, s_aus, s_exp, s_ret, s_ife, s_for, s_whi, s_rai, s_tryw, e_cst, e_var, e_fnv, e_glb, e_bin, e_neg, e_cmp, e_chn, e_and, e_or, e_not, e_ite, e_cal, e_cax, e_blt, e_isi, e_mth, e_tup, e_lst, e_sub, e_slc, e_lc, es_nil, es_cons, ea_nil, ea_cons, eo_nil, eo_cons, eb_none, eb_some, ec_none, ec_some, b_ok, b_ex, t_ok, t_ex, st_nx, st_rt, st_ex, o_some, v_some, o_add, o_sub, o_fdiv, o_mod, o_pow, c_lt, c_le, c_gt, c_ge, l_max, l_min, asgL, asg_nm, asg_tp, asg_fq, itr_fq, len_fq, isi_fq, ix_neg, sub_f0, sub_f1, List.length_cons, List.length_nil, List.length_set, List.getElem?_cons_zero, List.getElem?_cons_succ, List.set_cons_zero, List.set_cons_succ, Option.map_some, if_true, if_false, decide_true, decide_false, Bool.not_true, Bool.not_false, Nat.zero_add, Nat.reduceAdd, Nat.reduceLT, Nat.zero_lt_succ, Bool.false_eq_true, reduceIte, reduceCtorEq, thn_bind, bind_bind, thn_thn, rthn_thn, sat_nx, sat_rt, rsat_ok, get_new_ne, get_new_eq, nx_new, nx_set, get_set_ne, mk_new, mk_get, mk_set, mk_nx, setL_cons, mth_append, mth_extend, rcv_append, rcv_extend, rcv_count, it_tup, it_loc, len_tup, len_loc, tup_loc, list_tup, sub_tup, sub_at, lget_at, sto_at, aug_add, aug_sub, neg_int, itr_tup, itr_loc, itr_enuT, itr_enuL, itr_zipT, lock_nil, lock_one, unlock_nil, unlock_one, add_tup, c_eqI, c_neI, lim_eq, wipeD, forF, lcF, List.map_cons, List.map_nil, rtr_r1, rtr_r2, enum_range, get_range, len_range, ix_ok, List.getElem?_nil, List.nil_append, List.cons_append, Int.reduceLT, Int.reduceLE, Int.reduceBEq, Int.reduceAdd, Int.reduceSub, Int.reduceMul, Int.reduceToNat, beq_self_eq_true]
    exact ⟨a, rfl, hg⟩
/-! ### counts -/
def hitI (had : Int) (pack : List Int) : Nat := (had + ((pack.filter fun x => decide (had ≤ x)).length : Int)).toNat
def cntI (had : Int) (c : List Int) (pack : List Int) : List Int := c.set (hitI had pack) (c.getD (hitI had pack) 0 + 1)
theorem cnt_chk : alb3 (fun n s i => decide ((setsM n s).foldl (cntI i) (List.replicate (n + 1) 0) = (List.range (n + 1)).map (aB n s i)) && decide (((setsM n s).length : Int) = bn n s) && (setsM n s).all fun p => decide (hitI i p ≤ n)) = true := by decide +kernel
theorem cnt_len {had : Int} : ∀ (l : List (List Int)) (c : List Int), (l.foldl (cntI had) c).length = c.length
  | [], _ => rfl
  | p :: l, c => by
    rw [List.foldl_cons, cnt_len l]
    simp [cntI]
theorem mul_loc {h : Hh} {a : Nat} {k : Int} {x : D} (hg : h.get a = some (.lst [x])) (h0 : -1000 ≤ k) (h1 : k ≤ 1000) : binD .mul (.loc a) (.int k) h = some (.loc h.nx, h.new (.lst (List.replicate k.toNat x))) := by
  have e : ∀ m : Nat, (List.replicate m [x]).flatten = List.replicate m x := by
    intro m
    induction m with
    | zero => rfl
    | succ m ih => simp [List.replicate_succ, ih]
  show (match h.get a with
    | some (.lst xs) => if -1000 ≤ k ∧ k ≤ 1000 ∧ xs.length ≤ 1000 then some (D.loc h.nx, h.new (.lst (List.replicate k.toNat xs).flatten)) else none
    | _ => none) = _
  rw [hg]
  simp only [e]
  rw [if_pos ⟨h0, h1, by simp⟩]
theorem filter_enc {had : Int} {pack : List Int} : pack.filterMap (fun x => if had ≤ x then some (D.int x) else none) = (pack.filter fun x => decide (had ≤ x)).map D.int := by
  induction pack with
  | nil => rfl
  | cons x p ih =>
    by_cases z : had ≤ x <;> simp [z, ih]
theorem rr_next {m : Nat} {h : Hh} {n s had : Int} (a : Alm n s) (h0 : 0 ≤ had) (h1 : had ≤ n) : (clOf TT (m + 2)).f 16 [.int n, .int s, .int had] h = .ok (.loc h.nx) (h.new (.lst ((List.range (n + 1).toNat).map fun j => fq (A n s had.toNat j)))) := by
  obtain ⟨n1, n8, s1, sn⟩ := a
  have a : Alm n s := ⟨n1, n8, s1, sn⟩
  have ck := alb3_of cnt_chk a (i := had.toNat) (by omega)
  have e1 : ((n.toNat : Nat) : Int) = n := by omega
  have e2 : ((s.toNat : Nat) : Int) = s := by omega
  have e3 : ((had.toNat : Nat) : Int) = had := by omega
  have e4 : n.toNat + 1 = (n + 1).toNat := by omega
  rw [e1, e2, e3, e4] at ck
  simp only [Bool.and_eq_true, decide_eq_true_eq, List.all_eq_true] at ck
  obtain ⟨⟨c1, c2⟩, c3⟩ := ck
  have so := sets_ok n1 n8 (k := s.toNat) (by omega)
  have pf : pureL ((List.range (n + 1).toNat).map fun j => fq (A n s had.toNat j)) = true := by
    have := pure_fq ((List.range (n + 1).toNat).map fun j => A n s had.toNat j)
    rw [List.map_map] at this
    exact this
  refine own_lst (fd := b_law_next_chances) rfl rfl rfl rfl pf ?_
  simp only [b_law_next_chances, stEnv, List.map, List.length, List.replicate, Nat.reduceAdd, Nat.reduceSub, List.cons_append, List.nil_append]
  have mu : binD .mul (.loc 0) (.int (n + 1)) ⟨1, [(0, .lst [.int 0])]⟩ = some (.loc 1, ⟨2, [(1, .lst (List.replicate (n + 1).toNat (.int 0))), (0, .lst [.int 0])]⟩) := mul_loc rfl (by omega) (by omega)
  simp (disch := (first | (with_reducible assumption) | omega | ((repeat first | rw [nx_new] | rw [nx_set] | rw [List.length_map] | rw [List.length_replicate] | rw [List.length_range] | rw [List.length_append] | rw [List.length_cons] | rw [List.length_nil]) <;> omega) | fail)) only [s_nil, s_cons, s_asg, s_unp, s_par, s_sto, s_aug, s_aus, s_exp, s_ret, s_ife, s_for, s_whi, s_rai, s_tryw, e_cst, e_var, e_fnv, e_glb, e_bin, e_neg, e_cmp, e_chn, e_and, e_or, e_not, e_ite, e_cal, e_cax, e_blt, e_isi, e_mth, e_tup, e_lst, e_sub, e_slc, e_lc, es_nil, es_cons, ea_nil, ea_cons, eo_nil, eo_cons, eb_none, eb_some, ec_none, ec_some, b_ok, b_ex, t_ok, t_ex, st_nx, st_rt, st_ex, o_some, v_some, o_add, o_sub, o_fdiv, o_mod, o_pow, c_lt, c_le, c_gt, c_ge, l_max, l_min, asgL, asg_nm, asg_tp, asg_fq, itr_fq, len_fq, isi_fq, ix_neg, sub_f0, sub_f1, List.length_cons, List.length_nil, List.length_set, List.getElem?_cons_zero, List.getElem?_cons_succ, List.set_cons_zero, List.set_cons_succ, Option.map_some, if_true, if_false, decide_true, decide_false, Bool.not_true, Bool.not_false, Nat.zero_add, Nat.reduceAdd, Nat.reduceLT, Nat.zero_lt_succ, Bool.false_eq_true, reduceIte, reduceCtorEq, thn_bind, bind_bind, thn_thn, rthn_thn, sat_nx, sat_rt, rsat_ok, get_new_ne, get_new_eq, nx_new, nx_set, get_set_ne, mk_new, mk_get, mk_set, mk_nx, setL_cons, mth_append, mth_extend, rcv_append, rcv_extend, rcv_count, it_tup, it_loc, len_tup, len_loc, tup_loc, list_tup, sub_tup, sub_at, lget_at, sto_at, aug_add, aug_sub, neg_int, itr_tup, itr_loc, itr_enuT, itr_enuL, itr_zipT, lock_nil, lock_one, unlock_nil, unlock_one, add_tup, c_eqI, c_neI, lim_eq, wipeD, forF, lcF, List.map_cons, List.map_nil, rtr_r1, rtr_r2, enum_range, get_range, len_range, ix_ok, List.getElem?_nil, List.nil_append, List.cons_append, Int.reduceLT, Int.reduceLE, Int.reduceBEq, Int.reduceAdd, Int.reduceSub, Int.reduceMul, Int.reduceToNat, beq_self_eq_true, mu, rr_sets a]
  refine sat_forM (xs := setsM n s.toNat) (enc := tupI) (fun j r h => ∃ v : Option D, r = [some (.int n), some (.int s), some (.int had), v, some (.loc 1), some (.loc 2), none, none] ∧ 2 < h.nx ∧ h.get 2 = some (.ro ((setsM n s.toNat).map tupI)) ∧ h.get 1 = some (.lst ((((setsM n s.toNat).take j).foldl (cntI had) (List.replicate (n + 1).toNat 0)).map D.int))) ⟨_, rfl, (by show 2 < 3; decide), rfl, ?_⟩ (fun j pack r h hj hv => ?_) (fun r h hv => ?_)
  · simp [lock_one, mk_set, mk_get, setL_cons]
  · obtain ⟨v, rfl, hx, g2, g1⟩ := hv
    have hh := c3 pack (List.mem_of_getElem? hj)
    have hp := (so.2 pack (List.mem_of_getElem? hj)).1
    simp (disch := (first | (with_reducible assumption) | omega | ((repeat first | rw [nx_new] | rw [nx_set] | rw [List.length_map] | rw [List.length_replicate] | rw [List.length_range] | rw [List.length_append] | rw [List.length_cons] | rw [List.length_nil]) <;> omega) | fail)) only [s_nil, s_cons, s_asg, s_unp, s_par, s_sto, s_aug, s_aus, s_exp, s_ret, s_ife, s_for, s_whi, s_rai, s_tryw, e_cst, e_var, e_fnv, e_glb, e_bin, e_neg, e_cmp, e_chn, e_and, e_or, e_not, e_ite, e_cal, e_cax, e_blt, e_isi, e_mth, e_tup, e_lst, e_sub, e_slc, e_lc, es_nil, es_cons, ea_nil, ea_cons, eo_nil, eo_cons, eb_none, eb_some, ec_none, ec_some, b_ok, b_ex, t_ok, t_ex, st_nx, st_rt, st_ex, o_some, v_some, o_add, o_sub, o_fdiv, o_mod, o_pow, c_lt, c_le, c_gt, c_ge, l_max, l_min, asgL, asg_nm, asg_tp, asg_fq, itr_fq, len_fq, isi_fq, ix_neg, sub_f0, sub_f1, List.length_cons, List.length_nil, List.length_set, List.getElem?_cons_zero, List.getElem?_cons_succ, List.set_cons_zero, List.set_cons_succ, Option.map_some, if_true, if_false, decide_true, decide_false, Bool.not_true, Bool.not_false, Nat.zero_add, Nat.reduceAdd, Nat.reduceLT, Nat.zero_lt_succ, Bool.false_eq_true, reduceIte, reduceCtorEq, thn_bind, bind_bind, thn_thn, rthn_thn, sat_nx, sat_rt, rsat_ok, get_new_ne, get_new_eq, nx_new, nx_set, get_set_ne, mk_new, mk_get, mk_set, mk_nx, setL_cons, mth_append, mth_extend, rcv_append, rcv_extend, rcv_count, it_tup, it_loc, len_tup, len_loc, tup_loc, list_tup, sub_tup, sub_at, lget_at, sto_at, aug_add, aug_sub, neg_int, itr_tup, itr_loc, itr_enuT, itr_enuL, itr_zipT, lock_nil, lock_one, unlock_nil, unlock_one, add_tup, c_eqI, c_neI, lim_eq, wipeD, forF, lcF, List.map_cons, List.map_nil, rtr_r1, rtr_r2, enum_range, get_range, len_range, ix_ok, List.getElem?_nil, List.nil_append, List.cons_append, Int.reduceLT, Int.reduceLE, Int.reduceBEq, Int.reduceAdd, Int.reduceSub, Int.reduceMul, Int.reduceToNat, beq_self_eq_true]
    have itp : iterD .val [tupI pack] h = some (pack.map D.int, []) := rfl
    simp (disch := (first | (with_reducible assumption) | omega | ((repeat first | rw [nx_new] | rw [nx_set] | rw [List.length_map] | rw [List.length_replicate] | rw [List.length_range] | rw [List.length_append] | rw [List.length_cons] | rw [List.length_nil]) <;> omega) | fail)) only [s_nil, s_cons, s_asg, s_unp, s_par, s_sto, s_aug, s_aus, s_exp, s_ret, s_ife, s_for, s_whi, s_rai, s_tryw, e_cst, e_var, e_fnv, e_glb, e_bin, e_neg, e_cmp, e_chn, e_and, e_or, e_not, e_ite, e_cal, e_cax, e_blt, e_isi, e_mth, e_tup, e_lst, e_sub, e_slc, e_lc, es_nil, es_cons, ea_nil, ea_cons, eo_nil, eo_cons, eb_none, eb_some, ec_none, ec_some, b_ok, b_ex, t_ok, t_ex, st_nx, st_rt, st_ex, o_some, v_some, o_add, o_sub, o_fdiv, o_mod, o_pow, c_lt, c_le, c_gt, c_ge, l_max, l_min, asgL, asg_nm, asg_tp, asg_fq, itr_fq, len_fq, isi_fq, ix_neg, sub_f0, sub_f1, List.length_cons, List.length_nil, List.length_set, List.getElem?_cons_zero, List.getElem?_cons_succ, List.set_cons_zero, List.set_cons_succ, Option.map_some, if_true, if_false, decide_true, decide_false, Bool.not_true, Bool.not_false, Nat.zero_add, Nat.reduceAdd, Nat.reduceLT, Nat.zero_lt_succ, Bool.false_eq_true, reduceIte, reduceCtorEq, thn_bind, bind_bind, thn_thn, rthn_thn, sat_nx, sat_rt, rsat_ok, get_new_ne, get_new_eq, nx_new, nx_set, get_set_ne, mk_new, mk_get, mk_set, mk_nx, setL_cons, mth_append, mth_extend, rcv_append, rcv_extend, rcv_count, it_tup, it_loc, len_tup, len_loc, tup_loc, list_tup, sub_tup, sub_at, lget_at, sto_at, aug_add, aug_sub, neg_int, itr_tup, itr_loc, itr_enuT, itr_enuL, itr_zipT, lock_nil, lock_one, unlock_nil, unlock_one, add_tup, c_eqI, c_neI, lim_eq, wipeD, forF, lcF, List.map_cons, List.map_nil, rtr_r1, rtr_r2, enum_range, get_range, len_range, ix_ok, List.getElem?_nil, List.nil_append, List.cons_append, Int.reduceLT, Int.reduceLE, Int.reduceBEq, Int.reduceAdd, Int.reduceSub, Int.reduceMul, Int.reduceToNat, beq_self_eq_true, itp]
    refine sat_lcF (xs := pack) (enc := D.int) (fun x => if had ≤ x then some (.int x) else none) rfl (by omega) (fun x hx => ?_) ?_
    · by_cases z : had ≤ x
      · simp (disch := (first | (with_reducible assumption) | omega | ((repeat first | rw [nx_new] | rw [nx_set] | rw [List.length_map] | rw [List.length_replicate] | rw [List.length_range] | rw [List.length_append] | rw [List.length_cons] | rw [List.length_nil]) <;> omega) | fail)) only [s_nil, s_cons, s_asg, s_unp, s_par, s_sto, s_aug, s_aus, s_exp, s_ret, s_ife, s_for, s_whi, s_rai, s_tryw, e_cst, e_var, e_fnv, e_glb, e_bin, e_neg, e_cmp, e_chn, e_and, e_or, e_not, e_ite, e_cal, e_cax, e_blt, e_isi, e_mth, e_tup, e_lst, e_sub, e_slc, e_lc, es_nil, es_cons, ea_nil, ea_cons, eo_nil, eo_cons, eb_none, eb_some, ec_none, ec_some, b_ok, b_ex, t_ok, t_ex, st_nx, st_rt, st_ex, o_some, v_some, o_add, o_sub, o_fdiv, o_mod, o_pow, c_lt, c_le, c_gt, c_ge, l_max, l_min, asgL, asg_nm, asg_tp, asg_fq, itr_fq, len_fq, isi_fq, ix_neg, sub_f0, sub_f1, List.length_cons, List.length_nil, List.length_set, List.getElem?_cons_zero, List.getElem?_cons_succ, List.set_cons_zero, List.set_cons_succ, Option.map_some, if_true, if_false, decide_true, decide_false, Bool.not_true, Bool.not_false, Nat.zero_add, Nat.reduceAdd, Nat.reduceLT, Nat.zero_lt_succ, Bool.false_eq_true, reduceIte, reduceCtorEq, thn_bind, bind_bind, thn_thn, rthn_thn, sat_nx, sat_rt, rsat_ok, get_new_ne, get_new_eq, nx_new, nx_set, get_set_ne, mk_new, mk_get, mk_set, mk_nx, setL_cons, mth_append, mth_extend, rcv_append, rcv_extend, rcv_count, it_tup, it_loc, len_tup, len_loc, tup_loc, list_tup, sub_tup, sub_at, lget_at, sto_at, aug_add, aug_sub, neg_int, itr_tup, itr_loc, itr_enuT, itr_enuL, itr_zipT, lock_nil, lock_one, unlock_nil, unlock_one, add_tup, c_eqI, c_neI, lim_eq, wipeD, forF, lcF, List.map_cons, List.map_nil, rtr_r1, rtr_r2, enum_range, get_range, len_range, ix_ok, List.getElem?_nil, List.nil_append, List.cons_append, Int.reduceLT, Int.reduceLE, Int.reduceBEq, Int.reduceAdd, Int.reduceSub, Int.reduceMul, Int.reduceToNat, beq_self_eq_true, z]
      · simp (disch := (first | (with_reducible assumption) | omega | ((repeat first | rw [nx_new] | rw [nx_set] | rw [List.length_map] | rw [List.length_replicate] | rw [List.length_range] | rw [List.length_append] | rw [List.length_cons] | rw [List.length_nil]) <;> omega) | fail)) only [s_nil, s_cons, s_asg, s_unp, s_par, s_sto, s_aug, s_aus, s_exp, s_ret, s_ife, s_for, s_whi, s_rai, s_tryw, e_cst, e_var, e_fnv, e_glb, e_bin, e_neg, e_cmp, e_chn, e_and, e_or, e_not, e_ite, e_cal, e_cax, e_blt, e_isi, e_mth, e_tup, e_lst, e_sub, e_slc, e_lc, es_nil, es_cons, ea_nil, ea_cons, eo_nil, eo_cons, eb_none, eb_some, ec_none, ec_some, b_ok, b_ex, t_ok, t_ex, st_nx, st_rt, st_ex, o_some, v_some, o_add, o_sub, o_fdiv, o_mod, o_pow, c_lt, c_le, c_gt, c_ge, l_max, l_min, asgL, asg_nm, asg_tp, asg_fq, itr_fq, len_fq, isi_fq, ix_neg, sub_f0, sub_f1, List.length_cons, List.length_nil, List.length_set, List.getElem?_cons_zero, List.getElem?_cons_succ, List.set_cons_zero, List.set_cons_succ, Option.map_some, if_true, if_false, decide_true, decide_false, Bool.not_true, Bool.not_false, Nat.zero_add, Nat.reduceAdd, Nat.reduceLT, Nat.zero_lt_succ, Bool.false_eq_true, reduceIte, reduceCtorEq, thn_bind, bind_bind, thn_thn, rthn_thn, sat_nx, sat_rt, rsat_ok, get_new_ne, get_new_eq, nx_new, nx_set, get_set_ne, mk_new, mk_get, mk_set, mk_nx, setL_cons, mth_append, mth_extend, rcv_append, rcv_extend, rcv_count, it_tup, it_loc, len_tup, len_loc, tup_loc, list_tup, sub_tup, sub_at, lget_at, sto_at, aug_add, aug_sub, neg_int, itr_tup, itr_loc, itr_enuT, itr_enuL, itr_zipT, lock_nil, lock_one, unlock_nil, unlock_one, add_tup, c_eqI, c_neI, lim_eq, wipeD, forF, lcF, List.map_cons, List.map_nil, rtr_r1, rtr_r2, enum_range, get_range, len_range, ix_ok, List.getElem?_nil, List.nil_append, List.cons_append, Int.reduceLT, Int.reduceLE, Int.reduceBEq, Int.reduceAdd, Int.reduceSub, Int.reduceMul, Int.reduceToNat, beq_self_eq_true, z]
    rw [filter_enc]
    have ln := cnt_len (had := had) ((setsM n s.toNat).take j) (List.replicate (n + 1).toNat 0)
    rw [List.length_replicate] at ln
    have hi : hitI had pack = (had + ((pack.filter fun x => decide (had ≤ x)).length : Int)).toNat := rfl
    have hlt : hitI had pack < ((((setsM n s.toNat).take j).foldl (cntI had) (List.replicate (n + 1).toNat 0))).length := by omega
    have ixx : ixN (n + 1).toNat (had + ((pack.filter fun x => decide (had ≤ x)).length : Int)) = some (hitI had pack) := by
      rw [hi]
      exact ix_ok (by omega) (by omega)
    simp (disch := (first | (with_reducible assumption) | omega | ((repeat first | rw [nx_new] | rw [nx_set] | rw [List.length_map] | rw [List.length_replicate] | rw [List.length_range] | rw [List.length_append] | rw [List.length_cons] | rw [List.length_nil]) <;> omega) | fail)) only [s_nil, s_cons, s_asg, s_unp, s_par, s_sto, s_aug, s_aus, s_exp, s_ret, s_ife, s_for, s_whi, s_rai, s_tryw, e_cst, e_var, e_fnv, e_glb, e_bin, e_neg, e_cmp, e_chn, e_and, e_or, e_not, e_ite, e_cal, e_cax, e_blt, e_isi, e_mth, e_tup, e_lst, e_sub, e_slc, e_lc, es_nil, es_cons, ea_nil, ea_cons, eo_nil, eo_cons, eb_none, eb_some, ec_none, ec_some, b_ok, b_ex, t_ok, t_ex, st_nx, st_rt, st_ex, o_some, v_some, o_add, o_sub, o_fdiv, o_mod, o_pow, c_lt, c_le, c_gt, c_ge, l_max, l_min, asgL, asg_nm, asg_tp, asg_fq, itr_fq, len_fq, isi_fq, ix_neg, sub_f0, sub_f1, List.length_cons, List.length_nil, List.length_set, List.getElem?_cons_zero, List.getElem?_cons_succ, List.set_cons_zero, List.set_cons_succ, Option.map_some, if_true, if_false, decide_true, decide_false, Bool.not_true, Bool.not_false, Nat.zero_add, Nat.reduceAdd, Nat.reduceLT, Nat.zero_lt_succ, Bool.false_eq_true, reduceIte, reduceCtorEq, thn_bind, bind_bind, thn_thn, rthn_thn, sat_nx, sat_rt, rsat_ok, get_new_ne, get_new_eq, nx_new, nx_set, get_set_ne, mk_new, mk_get, mk_set, mk_nx, setL_cons, mth_append, mth_extend, rcv_append, rcv_extend, rcv_count, it_tup, it_loc, len_tup, len_loc, tup_loc, list_tup, sub_tup, sub_at, lget_at, sto_at, aug_add, aug_sub, neg_int, itr_tup, itr_loc, itr_enuT, itr_enuL, itr_zipT, lock_nil, lock_one, unlock_nil, unlock_one, add_tup, c_eqI, c_neI, lim_eq, wipeD, forF, lcF, List.map_cons, List.map_nil, rtr_r1, rtr_r2, enum_range, get_range, len_range, ix_ok, List.getElem?_nil, List.nil_append, List.cons_append, Int.reduceLT, Int.reduceLE, Int.reduceBEq, Int.reduceAdd, Int.reduceSub, Int.reduceMul, Int.reduceToNat, beq_self_eq_true, List.length_map, g1, ln, hi.symm, List.getElem?_map, List.getElem?_eq_getElem hlt]
    refine ⟨_, rfl, by omega, g2, ?_⟩
    rw [get_set_eq (o' := .lst ((((setsM n s.toNat).take j).foldl (cntI had) (List.replicate (n + 1).toNat 0)).map D.int)) (by rw [get_new_ne (by omega)]; exact g1), take_one hj, List.foldl_append]
    congr 2
    simp only [List.foldl_cons, List.foldl_nil, cntI, List.map_set]
    congr 2
    simp [List.getD, List.getElem?_eq_getElem hlt]
  · obtain ⟨v, rfl, hx, g2, g1⟩ := hv
    rw [List.take_length, c1, List.map_map] at g1
    have W0 := WN_bn a
    have W1 := WN_pos a
    simp (disch := (first | (with_reducible assumption) | omega | ((repeat first | rw [nx_new] | rw [nx_set] | rw [List.length_map] | rw [List.length_replicate] | rw [List.length_range] | rw [List.length_append] | rw [List.length_cons] | rw [List.length_nil]) <;> omega) | fail)) only [s_nil, s_cons, s_asg, s_unp, s_par, s_sto, s_aug, s_aus, s_exp, s_ret, s_ife, s_for, s_whi, s_rai, s_tryw, e_cst, e_var, e_fnv, e_glb, e_bin, e_neg, e_cmp, e_chn, e_and, e_or, e_not, e_ite, e_cal, e_cax, e_blt, e_isi, e_mth, e_tup, e_lst, e_sub, e_slc, e_lc, es_nil, es_cons, ea_nil, ea_cons, eo_nil, eo_cons, eb_none, eb_some, ec_none, ec_some, b_ok, b_ex, t_ok, t_ex, st_nx, st_rt, st_ex, o_some, v_some, o_add, o_sub, o_fdiv, o_mod, o_pow, c_lt, c_le, c_gt, c_ge, l_max, l_min, asgL, asg_nm, asg_tp, asg_fq, itr_fq, len_fq, isi_fq, ix_neg, sub_f0, sub_f1, List.length_cons, List.length_nil, List.length_set, List.getElem?_cons_zero, List.getElem?_cons_succ, List.set_cons_zero, List.set_cons_succ, Option.map_some, if_true, if_false, decide_true, decide_false, Bool.not_true, Bool.not_false, Nat.zero_add, Nat.reduceAdd, Nat.reduceLT, Nat.zero_lt_succ, Bool.false_eq_true, reduceIte, reduceCtorEq, thn_bind, bind_bind, thn_thn, rthn_thn, sat_nx, sat_rt, rsat_ok, get_new_ne, get_new_eq, nx_new, nx_set, get_set_ne, mk_new, mk_get, mk_set, mk_nx, setL_cons, mth_append, mth_extend, rcv_append, rcv_extend, rcv_count, it_tup, it_loc, len_tup, len_loc, tup_loc, list_tup, sub_tup, sub_at, lget_at, sto_at, aug_add, aug_sub, neg_int, itr_tup, itr_loc, itr_enuT, itr_enuL, itr_zipT, lock_nil, lock_one, unlock_nil, unlock_one, add_tup, c_eqI, c_neI, lim_eq, wipeD, forF, lcF, List.map_cons, List.map_nil, rtr_r1, rtr_r2, enum_range, get_range, len_range, ix_ok, List.getElem?_nil, List.nil_append, List.cons_append, Int.reduceLT, Int.reduceLE, Int.reduceBEq, Int.reduceAdd, Int.reduceSub, Int.reduceMul, Int.reduceToNat, beq_self_eq_true, g1]
    have H1 : (h.set 2 (.lst ((setsM n s.toNat).map tupI))).get 1 = some (.lst ((List.range (n + 1).toNat).map (D.int ∘ aB n s had.toNat))) := by
      rw [get_set_ne (by decide)]
      exact g1
    have H2 : (h.set 2 (.lst ((setsM n s.toNat).map tupI))).get 2 = some (.lst ((setsM n s.toNat).map tupI)) := get_set_eq g2
    generalize h.set 2 (.lst ((setsM n s.toNat).map tupI)) = H at H1 H2
    have hW : ((setsM n s.toNat).length : Int).toNat = WN n s := by omega
    have h9 : ((setsM n s.toNat).length : Int).toNat < 2 ^ 9000 := Nat.lt_of_le_of_lt (by omega : _ ≤ 70) (Nat.lt_of_lt_of_le (by decide : 70 < 2 ^ 7) (Nat.pow_le_pow_right (by decide) (by decide)))
    refine sat_lcR (fun j => fq (A n s had.toNat j)) (unlock_lock H1) (by omega) (fun j hj => ?_) ?_
    · simp (disch := (first | (with_reducible assumption) | omega | ((repeat first | rw [nx_new] | rw [nx_set] | rw [List.length_map] | rw [List.length_replicate] | rw [List.length_range] | rw [List.length_append] | rw [List.length_cons] | rw [List.length_nil]) <;> omega) | fail)) only [s_nil, s_cons, s_asg, s_unp, s_par, s_sto, s_aug, s_aus, s_exp, s_ret, s_ife, s_for, s_whi, s_rai, s_tryw, e_cst, e_var, e_fnv, e_glb, e_bin, e_neg, e_cmp, e_chn, e_and, e_or, e_not, e_ite, e_cal, e_cax, e_blt, e_isi, e_mth, e_tup, e_lst, e_sub, e_slc, e_lc, es_nil, es_cons, ea_nil, ea_cons, eo_nil, eo_cons, eb_none, eb_some, ec_none, ec_some, b_ok, b_ex, t_ok, t_ex, st_nx, st_rt, st_ex, o_some, v_some, o_add, o_sub, o_fdiv, o_mod, o_pow, c_lt, c_le, c_gt, c_ge, l_max, l_min, asgL, asg_nm, asg_tp, asg_fq, itr_fq, len_fq, isi_fq, ix_neg, sub_f0, sub_f1, List.length_cons, List.length_nil, List.length_set, List.getElem?_cons_zero, List.getElem?_cons_succ, List.set_cons_zero, List.set_cons_succ, Option.map_some, if_true, if_false, decide_true, decide_false, Bool.not_true, Bool.not_false, Nat.zero_add, Nat.reduceAdd, Nat.reduceLT, Nat.zero_lt_succ, Bool.false_eq_true, reduceIte, reduceCtorEq, thn_bind, bind_bind, thn_thn, rthn_thn, sat_nx, sat_rt, rsat_ok, get_new_ne, get_new_eq, nx_new, nx_set, get_set_ne, mk_new, mk_get, mk_set, mk_nx, setL_cons, mth_append, mth_extend, rcv_append, rcv_extend, rcv_count, it_tup, it_loc, len_tup, len_loc, tup_loc, list_tup, sub_tup, sub_at, lget_at, sto_at, aug_add, aug_sub, neg_int, itr_tup, itr_loc, itr_enuT, itr_enuL, itr_zipT, lock_nil, lock_one, unlock_nil, unlock_one, add_tup, c_eqI, c_neI, lim_eq, wipeD, forF, lcF, List.map_cons, List.map_nil, rtr_r1, rtr_r2, enum_range, get_range, len_range, ix_ok, List.getElem?_nil, List.nil_append, List.cons_append, Int.reduceLT, Int.reduceLE, Int.reduceBEq, Int.reduceAdd, Int.reduceSub, Int.reduceMul, Int.reduceToNat, beq_self_eq_true, H2, List.length_map, Function.comp, rr_part (by omega : (0 : Int) < (setsM n s.toNat).length) h9, hW, A_aB a (i := had.toNat) (by omega) hj]
    · simp (disch := (first | (with_reducible assumption) | omega | ((repeat first | rw [nx_new] | rw [nx_set] | rw [List.length_map] | rw [List.length_replicate] | rw [List.length_range] | rw [List.length_append] | rw [List.length_cons] | rw [List.length_nil]) <;> omega) | fail)) only [s_nil, s_cons, s_asg, s_unp, s_par, s_sto, s_aug, s_aus, s_exp, s_ret, s_ife, s_for, s_whi, s_rai, s_tryw, e_cst, e_var, e_fnv, e_glb, e_bin, e_neg, e_cmp, e_chn, e_and, e_or, e_not, e_ite, e_cal, e_cax, e_blt, e_isi, e_mth, e_tup, e_lst, e_sub, e_slc, e_lc, es_nil, es_cons, ea_nil, ea_cons, eo_nil, eo_cons, eb_none, eb_some, ec_none, ec_some, b_ok, b_ex, t_ok, t_ex, st_nx, st_rt, st_ex, o_some, v_some, o_add, o_sub, o_fdiv, o_mod, o_pow, c_lt, c_le, c_gt, c_ge, l_max, l_min, asgL, asg_nm, asg_tp, asg_fq, itr_fq, len_fq, isi_fq, ix_neg, sub_f0, sub_f1, List.length_cons, List.length_nil, List.length_set, List.getElem?_cons_zero, List.getElem?_cons_succ, List.set_cons_zero, List.set_cons_succ, Option.map_some, if_true, if_false, decide_true, decide_false, Bool.not_true, Bool.not_false, Nat.zero_add, Nat.reduceAdd, Nat.reduceLT, Nat.zero_lt_succ, Bool.false_eq_true, reduceIte, reduceCtorEq, thn_bind, bind_bind, thn_thn, rthn_thn, sat_nx, sat_rt, rsat_ok, get_new_ne, get_new_eq, nx_new, nx_set, get_set_ne, mk_new, mk_get, mk_set, mk_nx, setL_cons, mth_append, mth_extend, rcv_append, rcv_extend, rcv_count, it_tup, it_loc, len_tup, len_loc, tup_loc, list_tup, sub_tup, sub_at, lget_at, sto_at, aug_add, aug_sub, neg_int, itr_tup, itr_loc, itr_enuT, itr_enuL, itr_zipT, lock_nil, lock_one, unlock_nil, unlock_one, add_tup, c_eqI, c_neI, lim_eq, wipeD, forF, lcF, List.map_cons, List.map_nil, rtr_r1, rtr_r2, enum_range, get_range, len_range, ix_ok, List.getElem?_nil, List.nil_append, List.cons_append, Int.reduceLT, Int.reduceLE, Int.reduceBEq, Int.reduceAdd, Int.reduceSub, Int.reduceMul, Int.reduceToNat, beq_self_eq_true]
      exact ⟨_, rfl, get_new_eq rfl⟩
end Alb.Rn
set_option Elab.async false
set_option linter.all false
set_option maxRecDepth 100000
set_option maxHeartbeats 1000000
set_option pp.deepTerms false
set_option pp.deepTerms.threshold 8
/-! Exceptions told as tuples; rows cut; loops over a few given items. -/
namespace Alb.Rn
open PySem Alb
/-- what a law tells of an exception -/
def rsd (c : Int) : D := .tup [.str raised, .int c]
theorem rsd_lit {c : Int} : D.tup [.str (Str.ofString "raised"), .int c] = rsd c := rfl
theorem rsd_lit' {c : Int} : D.tup [.str raised, .int c] = rsd c := rfl
theorem raised_ok : strOk raised = true := by decide +kernel
def vR : Vw Int := ⟨rsd, fun c => .tuple [.str raised, .int c], 2, fun n h c => by
    show (match mapO (viewP (n + 1) h) [.str raised, .int c] with
      | some ys => some (PyData.tuple ys)
      | none => none) = _
    simp only [mapO, viewP, raised_ok, if_true], fun x y => by
    have : (raised == raised) = true := by decide +kernel
    by_cases e : x = y <;> simp [eqP, eqPL, this, e]⟩
theorem c_neR {c d : Int} {h : Hh} : cmpD .ne (rsd c) (rsd d) h = some (!decide (c = d)) := c_neV vR (by decide)
theorem c_eqR {c d : Int} {h : Hh} : cmpD .eq (rsd c) (rsd d) h = some (decide (c = d)) := c_eqV vR (by decide)
theorem pure_rsd {c : Int} : (rsd c).pure = true := rfl
/-! ### loops over given items -/
def unl (lk : List (Nat × List D)) (s : SR) : SR := match s with
  | .nx r h => .nx r (unlockH lk h)
  | .rt d h => .rt d (unlockH lk h)
  | .ex c h => .ex c (unlockH lk h)
  | .bad => .bad
theorem unl_nx {lk : List (Nat × List D)} {r : Env} {h : Hh} : unl lk (.nx r h) = .nx r (unlockH lk h) := rfl
theorem fork_eq {cl : Cl} {t : Tg} {b : Ss} {r : Env} {items : List D} {lk : List (Nat × List D)} {h : Hh} : forK cl t b r (some (items, lk)) h = unl lk (forGo (forF cl t b) items r (lockH lk h)) := by
  simp only [forK]
  cases forGo (forF cl t b) items r (lockH lk h) <;> rfl
theorem fgo_nil {f : D → Env → Hh → SR} {r : Env} {h : Hh} : forGo f [] r h = .nx r h := rfl
theorem fgo_cons {f : D → Env → Hh → SR} {x : D} {xs : List D} {r : Env} {h : Hh} : forGo f (x :: xs) r h = (f x r h).thn fun r h => forGo f xs r h := by
  simp only [forGo]
  cases f x r h <;> rfl
/-! ### comprehensions over given items -/
theorem lck_eq {cl : Cl} {own : List Nat} {t : Tg} {c : Oe} {e : E} {r : Env} {items : List D} {lk : List (Nat × List D)} {h : Hh} : lcK cl own t c e r (some (items, lk)) h = (compGo (lcF cl own t c e r) items [] (lockH lk h)).bind fun acc h => .ok (.loc (unlockH lk h).nx) ((unlockH lk h).new (.lst acc)) := rfl
theorem cgo_nil {f : D → Hh → R (Option D)} {acc : List D} {h : Hh} : compGo f [] acc h = .ok acc h := rfl
theorem cgo_cons {f : D → Hh → R (Option D)} {x : D} {xs acc : List D} {h : Hh} : compGo f (x :: xs) acc h = (match f x h with
    | .ok (some y) h1 => if acc.length < lim then compGo f xs (acc ++ [y]) h1 else .bad
    | .ok none h1 => compGo f xs acc h1
    | _ => .bad) := rfl
/-! ### rows cut -/
theorem cut_to {α : Type} {f : Nat → α} {k : Nat} {j : Int} (h0 : 0 ≤ j) (h1 : j ≤ k) : cut ((List.range k).map f) none (some j) = (List.range j.toNat).map f := by
  unfold cut
  have e1 : sIx ((List.range k).map f).length 0 none = 0 := rfl
  have e2 : sIx ((List.range k).map f).length ((List.range k).map f).length (some j) = j.toNat := by
    unfold sIx
    simp only
    rw [if_neg (by omega), len_range]
    omega
  rw [e1, e2, List.drop_zero, Nat.sub_zero, ← List.map_take]
  congr 1
  rw [List.take_range]
  congr 1
  omega
theorem cut_from {α : Type} {f : Nat → α} {k : Nat} {j : Int} (h0 : 0 ≤ j) (h1 : j ≤ k) : cut ((List.range k).map f) (some j) none = (List.range (k - j.toNat)).map fun i => f (j.toNat + i) := by
  unfold cut
  have e1 : sIx ((List.range k).map f).length 0 (some j) = j.toNat := by
    unfold sIx
    simp only
    rw [if_neg (by omega), len_range]
    omega
  have e2 : sIx ((List.range k).map f).length ((List.range k).map f).length none = k := by
    unfold sIx
    simp
  rw [e1, e2]
  refine List.ext_getElem ?_ fun i h1 h2 => ?_
  · simp
  · simp
theorem slc_loc {a : Nat} {lo hi : Option Int} {h : Hh} : slcD (.loc a) lo hi h = (match itemsD (.loc a) h with
    | some xs => some (.loc h.nx, h.new (.lst (cut xs lo hi)))
    | none => none) := rfl
/-! ### equal lists -/
theorem c_neLL {α : Type} [DecidableEq α] (V : Vw α) {k k' : Nat} {f g : Nat → α} {a b : Nat} {h : Hh} (hf : V.fu ≤ 9) (ha : h.get a = some (.lst ((List.range k).map fun i => V.enc (f i)))) (hb : h.get b = some (.lst ((List.range k').map fun i => V.enc (g i)))) : cmpD .ne (.loc a) (.loc b) h = some (!decide ((List.range k).map f = (List.range k').map g)) := by
  refine c_neVL V hf ?_ ?_
  · rw [ha, List.map_map]; rfl
  · rw [hb, List.map_map]; rfl
/-! ### packs with wrong arguments -/
theorem rr_pack_x {m : Nat} {h : Hh} {n s had f : D} (hn : plainV n = true) (hs : plainV s = true) (hh : plainV had = true) (hf : plainV f = true) {c : Nat} (e : sizeM n s = some c) : (clOf TT (m + 4)).f 8 [n, s, had, f] h = .ex c h := by
  refine own_exc (fd := b_pack_chance) rfl rfl (by simp [pureL, plain_pure hn, plain_pure hs, plain_pure hh, plain_pure hf]) rfl ⟨⟨0, []⟩, ?_⟩
  simp only [b_pack_chance, stEnv, List.map, List.length, List.replicate, Nat.reduceAdd, Nat.reduceSub, List.cons_append, List.nil_append]
  simp (disch := (first | (with_reducible assumption) | omega | ((repeat first | rw [nx_new] | rw [nx_set] | rw [List.length_map] | rw [List.length_replicate] | rw [List.length_range] | rw [List.length_append] | rw [List.length_cons] | rw [List.length_nil]) <;> omega) | fail)) only [s_nil, s_cons, s_asg, s_unp, s_par, s_sto, s_aug, s_aus, s_exp, s_ret, s_ife, s_for, s_whi, s_rai, s_tryw, e_cst, e_var, e_fnv, e_glb, e_bin, e_neg, e_cmp, e_chn, e_and, e_or, e_not, e_ite, e_cal, e_cax, e_blt, e_isi, e_mth, e_tup, e_lst, e_sub, e_slc, e_lc, es_nil, es_cons, ea_nil, ea_cons, eo_nil, eo_cons, eb_none, eb_some, ec_none, ec_some, b_ok, b_ex, t_ok, t_ex, st_nx, st_rt, st_ex, o_some, v_some, o_add, o_sub, o_fdiv, o_mod, o_pow, c_lt, c_le, c_gt, c_ge, l_max, l_min, asgL, asg_nm, asg_tp, asg_fq, itr_fq, len_fq, isi_fq, ix_neg, sub_f0, sub_f1, List.length_cons, List.length_nil, List.length_set, List.getElem?_cons_zero, List.getElem?_cons_succ, List.set_cons_zero, List.set_cons_succ, Option.map_some, if_true, if_false, decide_true, decide_false, Bool.not_true, Bool.not_false, Nat.zero_add, Nat.reduceAdd, Nat.reduceLT, Nat.zero_lt_succ, Bool.false_eq_true, reduceIte, reduceCtorEq, thn_bind, bind_bind, thn_thn, rthn_thn, sat_nx, sat_rt, rsat_ok, get_new_ne, get_new_eq, nx_new, nx_set, get_set_ne, mk_new, mk_get, mk_set, mk_nx, setL_cons, mth_append, mth_extend, rcv_append, rcv_extend, rcv_count, it_tup, it_loc, len_tup, len_loc, tup_loc, list_tup, sub_tup, sub_at, lget_at, sto_at, aug_add, aug_sub, neg_int, itr_tup, itr_loc, itr_enuT, itr_enuL, itr_zipT, lock_nil, lock_one, unlock_nil, unlock_one, add_tup, c_eqI, c_neI, lim_eq, wipeD, forF, lcF, List.map_cons, List.map_nil, rtr_r1, rtr_r2, enum_range, get_range, len_range, ix_ok, List.getElem?_nil, List.nil_append, List.cons_append, Int.reduceLT, Int.reduceLE, Int.reduceBEq, Int.reduceAdd, Int.reduceSub, Int.reduceMul, Int.reduceToNat, beq_self_eq_true, r_size hn hs, e]
theorem sizeM_ok {n s : Int} (a : Alm n s) : sizeM (.int n) (.int s) = none := by
  obtain ⟨n1, n8, s1, sn⟩ := a
  simp [sizeM, isIntM, n1, n8, s1, sn]
theorem rr_pack_x2 {m : Nat} {h : Hh} {n s : Int} {had f : D} (a : Alm n s) (hh : plainV had = true) (hf : plainV f = true) (e : isIntM had 0 n = false) : (clOf TT (m + 4)).f 8 [.int n, .int s, had, f] h = .ex 2 h := by
  refine own_exc (fd := b_pack_chance) rfl rfl (by simp [pureL, D.pure, plain_pure hh, plain_pure hf]) rfl ⟨⟨0, []⟩, ?_⟩
  simp only [b_pack_chance, stEnv, List.map, List.length, List.replicate, Nat.reduceAdd, Nat.reduceSub, List.cons_append, List.nil_append]
  simp (disch := (first | (with_reducible assumption) | omega | ((repeat first | rw [nx_new] | rw [nx_set] | rw [List.length_map] | rw [List.length_replicate] | rw [List.length_range] | rw [List.length_append] | rw [List.length_cons] | rw [List.length_nil]) <;> omega) | fail)) only [s_nil, s_cons, s_asg, s_unp, s_par, s_sto, s_aug, s_aus, s_exp, s_ret, s_ife, s_for, s_whi, s_rai, s_tryw, e_cst, e_var, e_fnv, e_glb, e_bin, e_neg, e_cmp, e_chn, e_and, e_or, e_not, e_ite, e_cal, e_cax, e_blt, e_isi, e_mth, e_tup, e_lst, e_sub, e_slc, e_lc, es_nil, es_cons, ea_nil, ea_cons, eo_nil, eo_cons, eb_none, eb_some, ec_none, ec_some, b_ok, b_ex, t_ok, t_ex, st_nx, st_rt, st_ex, o_some, v_some, o_add, o_sub, o_fdiv, o_mod, o_pow, c_lt, c_le, c_gt, c_ge, l_max, l_min, asgL, asg_nm, asg_tp, asg_fq, itr_fq, len_fq, isi_fq, ix_neg, sub_f0, sub_f1, List.length_cons, List.length_nil, List.length_set, List.getElem?_cons_zero, List.getElem?_cons_succ, List.set_cons_zero, List.set_cons_succ, Option.map_some, if_true, if_false, decide_true, decide_false, Bool.not_true, Bool.not_false, Nat.zero_add, Nat.reduceAdd, Nat.reduceLT, Nat.zero_lt_succ, Bool.false_eq_true, reduceIte, reduceCtorEq, thn_bind, bind_bind, thn_thn, rthn_thn, sat_nx, sat_rt, rsat_ok, get_new_ne, get_new_eq, nx_new, nx_set, get_set_ne, mk_new, mk_get, mk_set, mk_nx, setL_cons, mth_append, mth_extend, rcv_append, rcv_extend, rcv_count, it_tup, it_loc, len_tup, len_loc, tup_loc, list_tup, sub_tup, sub_at, lget_at, sto_at, aug_add, aug_sub, neg_int, itr_tup, itr_loc, itr_enuT, itr_enuL, itr_zipT, lock_nil, lock_one, unlock_nil, unlock_one, add_tup, c_eqI, c_neI, lim_eq, wipeD, forF, lcF, List.map_cons, List.map_nil, rtr_r1, rtr_r2, enum_range, get_range, len_range, ix_ok, List.getElem?_nil, List.nil_append, List.cons_append, Int.reduceLT, Int.reduceLE, Int.reduceBEq, Int.reduceAdd, Int.reduceSub, Int.reduceMul, Int.reduceToNat, beq_self_eq_true, r_size (n := .int n) (s := .int s) rfl rfl, sizeM_ok a, r_number hh, e]
theorem rr_pack_x3 {m : Nat} {h : Hh} {n s had : Int} {f : D} (a : Alm n s) (h0 : 0 ≤ had) (h1 : had ≤ n) (hf : plainV f = true) (e : isIntM f 0 n = false) : (clOf TT (m + 4)).f 8 [.int n, .int s, .int had, f] h = .ex 2 h := by
  refine own_exc (fd := b_pack_chance) rfl rfl (by simp [pureL, D.pure, plain_pure hf]) rfl ⟨⟨0, []⟩, ?_⟩
  simp only [b_pack_chance, stEnv, List.map, List.length, List.replicate, Nat.reduceAdd, Nat.reduceSub, List.cons_append, List.nil_append]
  simp (disch := (first | (with_reducible assumption) | omega | ((repeat first | rw [nx_new] | rw [nx_set] | rw [List.length_map] | rw [List.length_replicate] | rw [List.length_range] | rw [List.length_append] | rw [List.length_cons] | rw [List.length_nil]) <;> omega) | fail)) only [s_nil, s_cons, s_asg, s_unp, s_par, s_sto, s_aug, s_aus, s_exp, s_ret, s_ife, s_for, s_whi, s_rai, s_tryw, e_cst, e_var, e_fnv, e_glb, e_bin, e_neg, e_cmp, e_chn, e_and, e_or, e_not, e_ite, e_cal, e_cax, e_blt, e_isi, e_mth, e_tup, e_lst, e_sub, e_slc, e_lc, es_nil, es_cons, ea_nil, ea_cons, eo_nil, eo_cons, eb_none, eb_some, ec_none, ec_some, b_ok, b_ex, t_ok, t_ex, st_nx, st_rt, st_ex, o_some, v_some, o_add, o_sub, o_fdiv, o_mod, o_pow, c_lt, c_le, c_gt, c_ge, l_max, l_min, asgL, asg_nm, asg_tp, asg_fq, itr_fq, len_fq, isi_fq, ix_neg, sub_f0, sub_f1, List.length_cons, List.length_nil, List.length_set, List.getElem?_cons_zero, List.getElem?_cons_succ, List.set_cons_zero, List.set_cons_succ, Option.map_some, if_true, if_false, decide_true, decide_false, Bool.not_true, Bool.not_false, Nat.zero_add, Nat.reduceAdd, Nat.reduceLT, Nat.zero_lt_succ, Bool.false_eq_true, reduceIte, reduceCtorEq, thn_bind, bind_bind, thn_thn, rthn_thn, sat_nx, sat_rt, rsat_ok, get_new_ne, get_new_eq, nx_new, nx_set, get_set_ne, mk_new, mk_get, mk_set, mk_nx, setL_cons, mth_append, mth_extend, rcv_append, rcv_extend, rcv_count, it_tup, it_loc, len_tup, len_loc, tup_loc, list_tup, sub_tup, sub_at, lget_at, sto_at, aug_add, aug_sub, neg_int, itr_tup, itr_loc, itr_enuT, itr_enuL, itr_zipT, lock_nil, lock_one, unlock_nil, unlock_one, add_tup, c_eqI, c_neI, lim_eq, wipeD, forF, lcF, List.map_cons, List.map_nil, rtr_r1, rtr_r2, enum_range, get_range, len_range, ix_ok, List.getElem?_nil, List.nil_append, List.cons_append, Int.reduceLT, Int.reduceLE, Int.reduceBEq, Int.reduceAdd, Int.reduceSub, Int.reduceMul, Int.reduceToNat, beq_self_eq_true, r_size (n := .int n) (s := .int s) rfl rfl, sizeM_ok a, r_number (v := .int had) (k := n) rfl, num_ok h0 h1, r_number hf, e]
theorem sizeM_x0 {n s : D} (e : isIntM n 1 8 = false) : sizeM n s = some 0 := by
  simp [sizeM, e]
theorem sizeM_x1 {n : Int} {s : D} (h0 : 1 ≤ n) (h1 : n ≤ 8) (e : isIntM s 1 n = false) : sizeM (.int n) s = some 1 := by
  have e2 : isIntM (.int n) 1 8 = true := int_in h0 h1
  simp only [sizeM, e2, if_true, e, Bool.false_eq_true, if_false]
theorem int_hi {n lo : Int} : isIntM (.int (n + 1)) lo n = false := by simp [isIntM]; omega
/-! ### what a try tells -/
theorem try_ex {cl : Cl} {i : Nat} {b : Ss} {r : Env} {h h' : Hh} {c : Nat} (e : exs cl b r h = .ex c h') (hc : c < 10) (hi : i < r.length) : ex cl (.tryw i b) r h = .rt (rsd c) h' := by
  simp only [s_tryw, e]
  rw [if_pos ⟨hc, hi⟩]
  rfl
theorem try_rt {cl : Cl} {i : Nat} {b : Ss} {r : Env} {h h' : Hh} {d : D} (e : exs cl b r h = .rt d h') : ex cl (.tryw i b) r h = .rt d h' := by
  simp only [s_tryw, e]
theorem ask_ok {m : Nat} {h : Hh} {v0 v1 v2 v3 d : D} (hp : pureL [v0, v1, v2, v3] = true) (hd : d.pure = true) (e : (clOf TT m).f 8 [v0, v1, v2, v3] ⟨0, []⟩ = .ok d ⟨0, []⟩) : (clOf TT (m + 1)).f 17 [v0, v1, v2, v3] h = .ok d h := by
  refine own_val (fd := b_law_ask) rfl rfl hp rfl hd ?_
  simp only [b_law_ask, stEnv, List.map, List.length, List.replicate, Nat.reduceAdd, Nat.reduceSub, List.cons_append, List.nil_append]
  simp (disch := (first | (with_reducible assumption) | omega | ((repeat first | rw [nx_new] | rw [nx_set] | rw [List.length_map] | rw [List.length_replicate] | rw [List.length_range] | rw [List.length_append] | rw [List.length_cons] | rw [List.length_nil]) <;> omega) | fail)) only [s_nil, s_cons, s_asg, s_unp, s_par, s_sto, s_aug, s_aus, s_exp, s_ret, s_ife, s_for, s_whi, s_rai, s_tryw, e_cst, e_var, e_fnv, e_glb, e_bin, e_neg, e_cmp, e_chn, e_and, e_or, e_not, e_ite, e_cal, e_cax, e_blt, e_isi, e_mth, e_tup, e_lst, e_sub, e_slc, e_lc, es_nil, es_cons, ea_nil, ea_cons, eo_nil, eo_cons, eb_none, eb_some, ec_none, ec_some, b_ok, b_ex, t_ok, t_ex, st_nx, st_rt, st_ex, o_some, v_some, o_add, o_sub, o_fdiv, o_mod, o_pow, c_lt, c_le, c_gt, c_ge, l_max, l_min, asgL, asg_nm, asg_tp, asg_fq, itr_fq, len_fq, isi_fq, ix_neg, sub_f0, sub_f1, List.length_cons, List.length_nil, List.length_set, List.getElem?_cons_zero, List.getElem?_cons_succ, List.set_cons_zero, List.set_cons_succ, Option.map_some, if_true, if_false, decide_true, decide_false, Bool.not_true, Bool.not_false, Nat.zero_add, Nat.reduceAdd, Nat.reduceLT, Nat.zero_lt_succ, Bool.false_eq_true, reduceIte, reduceCtorEq, thn_bind, bind_bind, thn_thn, rthn_thn, sat_nx, sat_rt, rsat_ok, get_new_ne, get_new_eq, nx_new, nx_set, get_set_ne, mk_new, mk_get, mk_set, mk_nx, setL_cons, mth_append, mth_extend, rcv_append, rcv_extend, rcv_count, it_tup, it_loc, len_tup, len_loc, tup_loc, list_tup, sub_tup, sub_at, lget_at, sto_at, aug_add, aug_sub, neg_int, itr_tup, itr_loc, itr_enuT, itr_enuL, itr_zipT, lock_nil, lock_one, unlock_nil, unlock_one, add_tup, c_eqI, c_neI, lim_eq, wipeD, forF, lcF, List.map_cons, List.map_nil, rtr_r1, rtr_r2, enum_range, get_range, len_range, ix_ok, List.getElem?_nil, List.nil_append, List.cons_append, Int.reduceLT, Int.reduceLE, Int.reduceBEq, Int.reduceAdd, Int.reduceSub, Int.reduceMul, Int.reduceToNat, beq_self_eq_true, e]
theorem ask_x {m : Nat} {h : Hh} {v0 v1 v2 v3 : D} {c : Nat} (hc : c < 10) (hp : pureL [v0, v1, v2, v3] = true) (e : (clOf TT m).f 8 [v0, v1, v2, v3] ⟨0, []⟩ = .ex c ⟨0, []⟩) : (clOf TT (m + 1)).f 17 [v0, v1, v2, v3] h = .ok (rsd c) h := by
  refine own_val (fd := b_law_ask) rfl rfl hp rfl rfl ?_
  simp only [b_law_ask, stEnv, List.map, List.length, List.replicate, Nat.reduceAdd, Nat.reduceSub, List.cons_append, List.nil_append]
  rw [s_cons, try_ex (c := c) (h' := ⟨0, []⟩) (by simp (disch := (first | (with_reducible assumption) | omega | ((repeat first | rw [nx_new] | rw [nx_set] | rw [List.length_map] | rw [List.length_replicate] | rw [List.length_range] | rw [List.length_append] | rw [List.length_cons] | rw [List.length_nil]) <;> omega) | fail)) only [s_nil, s_cons, s_asg, s_unp, s_par, s_sto, s_aug, s_aus, s_exp, s_ret, s_ife, s_for, s_whi, s_rai, s_tryw, e_cst, e_var, e_fnv, e_glb, e_bin, e_neg, e_cmp, e_chn, e_and, e_or, e_not, e_ite, e_cal, e_cax, e_blt, e_isi, e_mth, e_tup, e_lst, e_sub, e_slc, e_lc, es_nil, es_cons, ea_nil, ea_cons, eo_nil, eo_cons, eb_none, eb_some, ec_none, ec_some, b_ok, b_ex, t_ok, t_ex, st_nx, st_rt, st_ex, o_some, v_some, o_add, o_sub, o_fdiv, o_mod, o_pow, c_lt, c_le, c_gt, c_ge, l_max, l_min, asgL, asg_nm, asg_tp, asg_fq, itr_fq, len_fq, isi_fq, ix_neg, sub_f0, sub_f1, List.length_cons, List.length_nil, List.length_set, List.getElem?_cons_zero, List.getElem?_cons_succ, List.set_cons_zero, List.set_cons_succ, Option.map_some, if_true, if_false, decide_true, decide_false, Bool.not_true, Bool.not_false, Nat.zero_add, Nat.reduceAdd, Nat.reduceLT, Nat.zero_lt_succ, Bool.false_eq_true, reduceIte, reduceCtorEq, thn_bind, bind_bind, thn_thn, rthn_thn, sat_nx, sat_rt, rsat_ok, get_new_ne, get_new_eq, nx_new, nx_set, get_set_ne, mk_new, mk_get, mk_set, mk_nx, setL_cons, mth_append, mth_extend, rcv_append, rcv_extend, rcv_count, it_tup, it_loc, len_tup, len_loc, tup_loc, list_tup, sub_tup, sub_at, lget_at, sto_at, aug_add, aug_sub, neg_int, itr_tup, itr_loc, itr_enuT, itr_enuL, itr_zipT, lock_nil, lock_one, unlock_nil, unlock_one, add_tup, c_eqI, c_neI, lim_eq, wipeD, forF, lcF, List.map_cons, List.map_nil, rtr_r1, rtr_r2, enum_range, get_range, len_range, ix_ok, List.getElem?_nil, List.nil_append, List.cons_append, Int.reduceLT, Int.reduceLE, Int.reduceBEq, Int.reduceAdd, Int.reduceSub, Int.reduceMul, Int.reduceToNat, beq_self_eq_true, e]) hc (by simp)]
  rfl
theorem ask_x0 {m : Nat} {h : Hh} {n s had f : D} (hn : plainV n = true) (hs : plainV s = true) (hh : plainV had = true) (hf : plainV f = true) (e : isIntM n 1 8 = false) : (clOf TT (m + 5)).f 17 [n, s, had, f] h = .ok (rsd 0) h :=
  ask_x (by decide) (by simp [pureL, plain_pure hn, plain_pure hs, plain_pure hh, plain_pure hf]) (rr_pack_x hn hs hh hf (sizeM_x0 e))
theorem ask_x1 {m : Nat} {h : Hh} {n : Int} {s had f : D} (h0 : 1 ≤ n) (h1 : n ≤ 8) (hs : plainV s = true) (hh : plainV had = true) (hf : plainV f = true) (e : isIntM s 1 n = false) : (clOf TT (m + 5)).f 17 [.int n, s, had, f] h = .ok (rsd 1) h :=
  ask_x (by decide) (by simp [pureL, D.pure, plain_pure hs, plain_pure hh, plain_pure hf]) (rr_pack_x rfl hs hh hf (sizeM_x1 h0 h1 e))
theorem ask_x2 {m : Nat} {h : Hh} {n s : Int} {had f : D} (a : Alm n s) (hh : plainV had = true) (hf : plainV f = true) (e : isIntM had 0 n = false) : (clOf TT (m + 5)).f 17 [.int n, .int s, had, f] h = .ok (rsd 2) h :=
  ask_x (by decide) (by simp [pureL, D.pure, plain_pure hh, plain_pure hf]) (rr_pack_x2 a hh hf e)
theorem ask_x3 {m : Nat} {h : Hh} {n s had : Int} {f : D} (a : Alm n s) (h0 : 0 ≤ had) (h1 : had ≤ n) (hf : plainV f = true) (e : isIntM f 0 n = false) : (clOf TT (m + 5)).f 17 [.int n, .int s, .int had, f] h = .ok (rsd 2) h :=
  ask_x (by decide) (by simp [pureL, D.pure, plain_pure hf]) (rr_pack_x3 a h0 h1 hf e)
end Alb.Rn
set_option Elab.async false
set_option linter.all false
set_option maxRecDepth 100000
set_option maxHeartbeats 1000000
set_option pp.deepTerms false
set_option pp.deepTerms.threshold 8
/-! Spreads and means with wrong arguments; rows set. -/
namespace Alb.Rn
open PySem Alb
theorem c_neNil {a b : Nat} {h : Hh} (ha : h.get a = some (.lst [])) (hb : h.get b = some (.lst [])) : cmpD .ne (.loc a) (.loc b) h = some false := by
  have := c_neVL vInt (l := []) (l' := []) (a := a) (b := b) (h := h) (by decide) ha hb
  simpa using this
theorem c_eqNil {a b : Nat} {h : Hh} (ha : h.get a = some (.lst [])) (hb : h.get b = some (.lst [])) : cmpD .eq (.loc a) (.loc b) h = some true := by
  have := c_eqVL vInt (l := []) (l' := []) (a := a) (b := b) (h := h) (by decide) ha hb
  simpa using this
theorem rr_join2 {m : Nat} {h : Hh} {a : Nat} {r s : Rat} (hr : Sk 4000 r) (hs : Sk 4000 s) (ha : a = h.nx) : (clOf TT (m + 2)).f 10 [.loc a] (h.new (.lst [fq r, fq s])) = .ok (fq (r + s)) (h.new (.lst [fq r, fq s])) := by
  have := rr_joinL (m := m) (h := h.new (.lst [fq r, fq s])) (a := a) (l := [r, s]) (get_new_eq ha) ⟨sk_zero (by decide), hr, by rw [Rat.zero_add]; exact hr, hs, trivial⟩
  simp only [List.sum_cons, List.sum_nil, Rat.add_zero] at this
  exact this
theorem rep_range {α : Type} {x : α} {k : Nat} : List.replicate k x = (List.range k).map fun _ => x := by
  refine List.ext_getElem (by simp) fun i h1 h2 => ?_
  simp
theorem set_range {α : Type} {f : Nat → α} {k j : Nat} {x : α} : ((List.range k).map f).set j x = (List.range k).map fun i => if i = j then x else f i := by
  refine List.ext_getElem (by simp) fun i h1 h2 => ?_
  simp only [List.getElem_set, List.getElem_map, List.getElem_range]
  by_cases e : j = i
  · subst e
    simp
  · have : ¬ i = j := fun z => e z.symm
    simp [e, this]
theorem map_range_congr {α : Type} {f g : Nat → α} {k : Nat} (h : ∀ i, i < k → f i = g i) : (List.range k).map f = (List.range k).map g :=
  List.map_congr_left fun i hi => h i (List.mem_range.mp hi)
theorem sk_pow {k : Nat} {r : Rat} (h : Sk k r) : ∀ i : Nat, Sk (k * i + 1) (r ^ i)
  | 0 => by
    rw [Rat.pow_zero]
    exact sk_int (a := 1) (by simp) (by omega)
  | i + 1 => by
    rw [Rat.pow_succ]
    exact (sk_mul (sk_pow h i) h).mono (by rw [Nat.mul_add]; omega)
section
variable {m : Nat} {h : Hh} {n s had : Int}
theorem rr_spread_x {v0 v1 v2 v3 : D} (h0 : plainV v0 = true) (h1 : plainV v1 = true) (h2 : plainV v2 = true) (h3 : plainV v3 = true) {c : Nat} (e : sizeM v0 v1 = some c) : (clOf TT (m + 4)).f 23 [v0, v1, v2, v3] h = .ex c h := by
  refine own_exc (fd := b_spread) rfl rfl (by simp [pureL, plain_pure h0, plain_pure h1, plain_pure h2, plain_pure h3]) rfl ⟨⟨0, []⟩, ?_⟩
  simp only [b_spread, stEnv, List.map, List.length, List.replicate, Nat.reduceAdd, Nat.reduceSub, List.cons_append, List.nil_append]
  simp (disch := (first | (with_reducible assumption) | omega | ((repeat first | rw [nx_new] | rw [nx_set] | rw [List.length_map] | rw [List.length_replicate] | rw [List.length_range] | rw [List.length_append] | rw [List.length_cons] | rw [List.length_nil]) <;> omega) | fail)) only [s_nil, s_cons, s_asg, s_unp, s_par, s_sto, s_aug, s_aus, s_exp, s_ret, s_ife, s_for, s_whi, s_rai, s_tryw, e_cst, e_var, e_fnv, e_glb, e_bin, e_neg, e_cmp, e_chn, e_and, e_or, e_not, e_ite, e_cal, e_cax, e_blt, e_isi, e_mth, e_tup, e_lst, e_sub, e_slc, e_lc, es_nil, es_cons, ea_nil, ea_cons, eo_nil, eo_cons, eb_none, eb_some, ec_none, ec_some, b_ok, b_ex, t_ok, t_ex, st_nx, st_rt, st_ex, o_some, v_some, o_add, o_sub, o_fdiv, o_mod, o_pow, c_lt, c_le, c_gt, c_ge, l_max, l_min, asgL, asg_nm, asg_tp, asg_fq, itr_fq, len_fq, isi_fq, ix_neg, sub_f0, sub_f1, List.length_cons, List.length_nil, List.length_set, List.getElem?_cons_zero, List.getElem?_cons_succ, List.set_cons_zero, List.set_cons_succ, Option.map_some, if_true, if_false, decide_true, decide_false, Bool.not_true, Bool.not_false, Nat.zero_add, Nat.reduceAdd, Nat.reduceLT, Nat.zero_lt_succ, Bool.false_eq_true, reduceIte, reduceCtorEq, thn_bind, bind_bind, thn_thn, rthn_thn, sat_nx, sat_rt, rsat_ok, get_new_ne, get_new_eq, nx_new, nx_set, get_set_ne, mk_new, mk_get, mk_set, mk_nx, setL_cons, mth_append, mth_extend, rcv_append, rcv_extend, rcv_count, it_tup, it_loc, len_tup, len_loc, tup_loc, list_tup, sub_tup, sub_at, lget_at, sto_at, aug_add, aug_sub, neg_int, itr_tup, itr_loc, itr_enuT, itr_enuL, itr_zipT, lock_nil, lock_one, unlock_nil, unlock_one, add_tup, c_eqI, c_neI, lim_eq, wipeD, forF, lcF, List.map_cons, List.map_nil, rtr_r1, rtr_r2, enum_range, get_range, len_range, ix_ok, List.getElem?_nil, List.nil_append, List.cons_append, Int.reduceLT, Int.reduceLE, Int.reduceBEq, Int.reduceAdd, Int.reduceSub, Int.reduceMul, Int.reduceToNat, beq_self_eq_true, r_size h0 h1, e]
theorem rr_spread_x2 {v2 v3 : D} (a : Alm n s) (h2 : plainV v2 = true) (h3 : plainV v3 = true) (e : isIntM v2 0 n = false) : (clOf TT (m + 4)).f 23 [.int n, .int s, v2, v3] h = .ex 2 h := by
  refine own_exc (fd := b_spread) rfl rfl (by simp [pureL, D.pure, plain_pure h2, plain_pure h3]) rfl ⟨⟨0, []⟩, ?_⟩
  simp only [b_spread, stEnv, List.map, List.length, List.replicate, Nat.reduceAdd, Nat.reduceSub, List.cons_append, List.nil_append]
  simp (disch := (first | (with_reducible assumption) | omega | ((repeat first | rw [nx_new] | rw [nx_set] | rw [List.length_map] | rw [List.length_replicate] | rw [List.length_range] | rw [List.length_append] | rw [List.length_cons] | rw [List.length_nil]) <;> omega) | fail)) only [s_nil, s_cons, s_asg, s_unp, s_par, s_sto, s_aug, s_aus, s_exp, s_ret, s_ife, s_for, s_whi, s_rai, s_tryw, e_cst, e_var, e_fnv, e_glb, e_bin, e_neg, e_cmp, e_chn, e_and, e_or, e_not, e_ite, e_cal, e_cax, e_blt, e_isi, e_mth, e_tup, e_lst, e_sub, e_slc, e_lc, es_nil, es_cons, ea_nil, ea_cons, eo_nil, eo_cons, eb_none, eb_some, ec_none, ec_some, b_ok, b_ex, t_ok, t_ex, st_nx, st_rt, st_ex, o_some, v_some, o_add, o_sub, o_fdiv, o_mod, o_pow, c_lt, c_le, c_gt, c_ge, l_max, l_min, asgL, asg_nm, asg_tp, asg_fq, itr_fq, len_fq, isi_fq, ix_neg, sub_f0, sub_f1, List.length_cons, List.length_nil, List.length_set, List.getElem?_cons_zero, List.getElem?_cons_succ, List.set_cons_zero, List.set_cons_succ, Option.map_some, if_true, if_false, decide_true, decide_false, Bool.not_true, Bool.not_false, Nat.zero_add, Nat.reduceAdd, Nat.reduceLT, Nat.zero_lt_succ, Bool.false_eq_true, reduceIte, reduceCtorEq, thn_bind, bind_bind, thn_thn, rthn_thn, sat_nx, sat_rt, rsat_ok, get_new_ne, get_new_eq, nx_new, nx_set, get_set_ne, mk_new, mk_get, mk_set, mk_nx, setL_cons, mth_append, mth_extend, rcv_append, rcv_extend, rcv_count, it_tup, it_loc, len_tup, len_loc, tup_loc, list_tup, sub_tup, sub_at, lget_at, sto_at, aug_add, aug_sub, neg_int, itr_tup, itr_loc, itr_enuT, itr_enuL, itr_zipT, lock_nil, lock_one, unlock_nil, unlock_one, add_tup, c_eqI, c_neI, lim_eq, wipeD, forF, lcF, List.map_cons, List.map_nil, rtr_r1, rtr_r2, enum_range, get_range, len_range, ix_ok, List.getElem?_nil, List.nil_append, List.cons_append, Int.reduceLT, Int.reduceLE, Int.reduceBEq, Int.reduceAdd, Int.reduceSub, Int.reduceMul, Int.reduceToNat, beq_self_eq_true, r_size (n := .int n) (s := .int s) rfl rfl, sizeM_ok a, r_number h2, e]
theorem rr_spread_x3 {v3 : D} (a : Alm n s) (h0 : 0 ≤ had) (h1 : had ≤ n) (h3 : plainV v3 = true) (e : isIntM v3 0 30 = false) : (clOf TT (m + 4)).f 23 [.int n, .int s, .int had, v3] h = .ex 2 h := by
  refine own_exc (fd := b_spread) rfl rfl (by simp [pureL, D.pure, plain_pure h3]) rfl ⟨⟨0, []⟩, ?_⟩
  simp only [b_spread, stEnv, List.map, List.length, List.replicate, Nat.reduceAdd, Nat.reduceSub, List.cons_append, List.nil_append]
  simp (disch := (first | (with_reducible assumption) | omega | ((repeat first | rw [nx_new] | rw [nx_set] | rw [List.length_map] | rw [List.length_replicate] | rw [List.length_range] | rw [List.length_append] | rw [List.length_cons] | rw [List.length_nil]) <;> omega) | fail)) only [s_nil, s_cons, s_asg, s_unp, s_par, s_sto, s_aug, s_aus, s_exp, s_ret, s_ife, s_for, s_whi, s_rai, s_tryw, e_cst, e_var, e_fnv, e_glb, e_bin, e_neg, e_cmp, e_chn, e_and, e_or, e_not, e_ite, e_cal, e_cax, e_blt, e_isi, e_mth, e_tup, e_lst, e_sub, e_slc, e_lc, es_nil, es_cons, ea_nil, ea_cons, eo_nil, eo_cons, eb_none, eb_some, ec_none, ec_some, b_ok, b_ex, t_ok, t_ex, st_nx, st_rt, st_ex, o_some, v_some, o_add, o_sub, o_fdiv, o_mod, o_pow, c_lt, c_le, c_gt, c_ge, l_max, l_min, asgL, asg_nm, asg_tp, asg_fq, itr_fq, len_fq, isi_fq, ix_neg, sub_f0, sub_f1, List.length_cons, List.length_nil, List.length_set, List.getElem?_cons_zero, List.getElem?_cons_succ, List.set_cons_zero, List.set_cons_succ, Option.map_some, if_true, if_false, decide_true, decide_false, Bool.not_true, Bool.not_false, Nat.zero_add, Nat.reduceAdd, Nat.reduceLT, Nat.zero_lt_succ, Bool.false_eq_true, reduceIte, reduceCtorEq, thn_bind, bind_bind, thn_thn, rthn_thn, sat_nx, sat_rt, rsat_ok, get_new_ne, get_new_eq, nx_new, nx_set, get_set_ne, mk_new, mk_get, mk_set, mk_nx, setL_cons, mth_append, mth_extend, rcv_append, rcv_extend, rcv_count, it_tup, it_loc, len_tup, len_loc, tup_loc, list_tup, sub_tup, sub_at, lget_at, sto_at, aug_add, aug_sub, neg_int, itr_tup, itr_loc, itr_enuT, itr_enuL, itr_zipT, lock_nil, lock_one, unlock_nil, unlock_one, add_tup, c_eqI, c_neI, lim_eq, wipeD, forF, lcF, List.map_cons, List.map_nil, rtr_r1, rtr_r2, enum_range, get_range, len_range, ix_ok, List.getElem?_nil, List.nil_append, List.cons_append, Int.reduceLT, Int.reduceLE, Int.reduceBEq, Int.reduceAdd, Int.reduceSub, Int.reduceMul, Int.reduceToNat, beq_self_eq_true, r_size (n := .int n) (s := .int s) rfl rfl, sizeM_ok a, r_number (v := .int had) (k := n) rfl, num_ok h0 h1, g_most, r_number h3, e]
theorem rr_diff_x {v0 v1 v2 v3 : D} (h0 : plainV v0 = true) (h1 : plainV v1 = true) (h2 : plainV v2 = true) (h3 : plainV v3 = true) {c : Nat} (e : sizeM v0 v1 = some c) : (clOf TT (m + 4)).f 24 [v0, v1, v2, v3] h = .ex c h := by
  refine own_exc (fd := b_mean_different) rfl rfl (by simp [pureL, plain_pure h0, plain_pure h1, plain_pure h2, plain_pure h3]) rfl ⟨⟨0, []⟩, ?_⟩
  simp only [b_mean_different, stEnv, List.map, List.length, List.replicate, Nat.reduceAdd, Nat.reduceSub, List.cons_append, List.nil_append]
  simp (disch := (first | (with_reducible assumption) | omega | ((repeat first | rw [nx_new] | rw [nx_set] | rw [List.length_map] | rw [List.length_replicate] | rw [List.length_range] | rw [List.length_append] | rw [List.length_cons] | rw [List.length_nil]) <;> omega) | fail)) only [s_nil, s_cons, s_asg, s_unp, s_par, s_sto, s_aug, s_aus, s_exp, s_ret, s_ife, s_for, s_whi, s_rai, s_tryw, e_cst, e_var, e_fnv, e_glb, e_bin, e_neg, e_cmp, e_chn, e_and, e_or, e_not, e_ite, e_cal, e_cax, e_blt, e_isi, e_mth, e_tup, e_lst, e_sub, e_slc, e_lc, es_nil, es_cons, ea_nil, ea_cons, eo_nil, eo_cons, eb_none, eb_some, ec_none, ec_some, b_ok, b_ex, t_ok, t_ex, st_nx, st_rt, st_ex, o_some, v_some, o_add, o_sub, o_fdiv, o_mod, o_pow, c_lt, c_le, c_gt, c_ge, l_max, l_min, asgL, asg_nm, asg_tp, asg_fq, itr_fq, len_fq, isi_fq, ix_neg, sub_f0, sub_f1, List.length_cons, List.length_nil, List.length_set, List.getElem?_cons_zero, List.getElem?_cons_succ, List.set_cons_zero, List.set_cons_succ, Option.map_some, if_true, if_false, decide_true, decide_false, Bool.not_true, Bool.not_false, Nat.zero_add, Nat.reduceAdd, Nat.reduceLT, Nat.zero_lt_succ, Bool.false_eq_true, reduceIte, reduceCtorEq, thn_bind, bind_bind, thn_thn, rthn_thn, sat_nx, sat_rt, rsat_ok, get_new_ne, get_new_eq, nx_new, nx_set, get_set_ne, mk_new, mk_get, mk_set, mk_nx, setL_cons, mth_append, mth_extend, rcv_append, rcv_extend, rcv_count, it_tup, it_loc, len_tup, len_loc, tup_loc, list_tup, sub_tup, sub_at, lget_at, sto_at, aug_add, aug_sub, neg_int, itr_tup, itr_loc, itr_enuT, itr_enuL, itr_zipT, lock_nil, lock_one, unlock_nil, unlock_one, add_tup, c_eqI, c_neI, lim_eq, wipeD, forF, lcF, List.map_cons, List.map_nil, rtr_r1, rtr_r2, enum_range, get_range, len_range, ix_ok, List.getElem?_nil, List.nil_append, List.cons_append, Int.reduceLT, Int.reduceLE, Int.reduceBEq, Int.reduceAdd, Int.reduceSub, Int.reduceMul, Int.reduceToNat, beq_self_eq_true, r_size h0 h1, e]
theorem rr_diff_x2 {v2 v3 : D} (a : Alm n s) (h2 : plainV v2 = true) (h3 : plainV v3 = true) (e : isIntM v2 0 n = false) : (clOf TT (m + 4)).f 24 [.int n, .int s, v2, v3] h = .ex 2 h := by
  refine own_exc (fd := b_mean_different) rfl rfl (by simp [pureL, D.pure, plain_pure h2, plain_pure h3]) rfl ⟨⟨0, []⟩, ?_⟩
  simp only [b_mean_different, stEnv, List.map, List.length, List.replicate, Nat.reduceAdd, Nat.reduceSub, List.cons_append, List.nil_append]
  simp (disch := (first | (with_reducible assumption) | omega | ((repeat first | rw [nx_new] | rw [nx_set] | rw [List.length_map] | rw [List.length_replicate] | rw [List.length_range] | rw [List.length_append] | rw [List.length_cons] | rw [List.length_nil]) <;> omega) | fail)) only [s_nil, s_cons, s_asg, s_unp, s_par, s_sto, s_aug, s_aus, s_exp, s_ret, s_ife, s_for, s_whi, s_rai, s_tryw, e_cst, e_var, e_fnv, e_glb, e_bin, e_neg, e_cmp, e_chn, e_and, e_or, e_not, e_ite, e_cal, e_cax, e_blt, e_isi, e_mth, e_tup, e_lst, e_sub, e_slc, e_lc, es_nil, es_cons, ea_nil, ea_cons, eo_nil, eo_cons, eb_none, eb_some, ec_none, ec_some, b_ok, b_ex, t_ok, t_ex, st_nx, st_rt, st_ex, o_some, v_some, o_add, o_sub, o_fdiv, o_mod, o_pow, c_lt, c_le, c_gt, c_ge, l_max, l_min, asgL, asg_nm, asg_tp, asg_fq, itr_fq, len_fq, isi_fq, ix_neg, sub_f0, sub_f1, List.length_cons, List.length_nil, List.length_set, List.getElem?_cons_zero, List.getElem?_cons_succ, List.set_cons_zero, List.set_cons_succ, Option.map_some, if_true, if_false, decide_true, decide_false, Bool.not_true, Bool.not_false, Nat.zero_add, Nat.reduceAdd, Nat.reduceLT, Nat.zero_lt_succ, Bool.false_eq_true, reduceIte, reduceCtorEq, thn_bind, bind_bind, thn_thn, rthn_thn, sat_nx, sat_rt, rsat_ok, get_new_ne, get_new_eq, nx_new, nx_set, get_set_ne, mk_new, mk_get, mk_set, mk_nx, setL_cons, mth_append, mth_extend, rcv_append, rcv_extend, rcv_count, it_tup, it_loc, len_tup, len_loc, tup_loc, list_tup, sub_tup, sub_at, lget_at, sto_at, aug_add, aug_sub, neg_int, itr_tup, itr_loc, itr_enuT, itr_enuL, itr_zipT, lock_nil, lock_one, unlock_nil, unlock_one, add_tup, c_eqI, c_neI, lim_eq, wipeD, forF, lcF, List.map_cons, List.map_nil, rtr_r1, rtr_r2, enum_range, get_range, len_range, ix_ok, List.getElem?_nil, List.nil_append, List.cons_append, Int.reduceLT, Int.reduceLE, Int.reduceBEq, Int.reduceAdd, Int.reduceSub, Int.reduceMul, Int.reduceToNat, beq_self_eq_true, r_size (n := .int n) (s := .int s) rfl rfl, sizeM_ok a, r_number h2, e]
theorem rr_diff_x3 {v3 : D} (a : Alm n s) (h0 : 0 ≤ had) (h1 : had ≤ n) (h3 : plainV v3 = true) (e : isIntM v3 0 30 = false) : (clOf TT (m + 4)).f 24 [.int n, .int s, .int had, v3] h = .ex 2 h := by
  refine own_exc (fd := b_mean_different) rfl rfl (by simp [pureL, D.pure, plain_pure h3]) rfl ⟨⟨0, []⟩, ?_⟩
  simp only [b_mean_different, stEnv, List.map, List.length, List.replicate, Nat.reduceAdd, Nat.reduceSub, List.cons_append, List.nil_append]
  simp (disch := (first | (with_reducible assumption) | omega | ((repeat first | rw [nx_new] | rw [nx_set] | rw [List.length_map] | rw [List.length_replicate] | rw [List.length_range] | rw [List.length_append] | rw [List.length_cons] | rw [List.length_nil]) <;> omega) | fail)) only [s_nil, s_cons, s_asg, s_unp, s_par, s_sto, s_aug, s_aus, s_exp, s_ret, s_ife, s_for, s_whi, s_rai, s_tryw, e_cst, e_var, e_fnv, e_glb, e_bin, e_neg, e_cmp, e_chn, e_and, e_or, e_not, e_ite, e_cal, e_cax, e_blt, e_isi, e_mth, e_tup, e_lst, e_sub, e_slc, e_lc, es_nil, es_cons, ea_nil, ea_cons, eo_nil, eo_cons, eb_none, eb_some, ec_none, ec_some, b_ok, b_ex, t_ok, t_ex, st_nx, st_rt, st_ex, o_some, v_some, o_add, o_sub, o_fdiv, o_mod, o_pow, c_lt, c_le, c_gt, c_ge, l_max, l_min, asgL, asg_nm, asg_tp, asg_fq, itr_fq, len_fq, isi_fq, ix_neg, sub_f0, sub_f1, List.length_cons, List.length_nil, List.length_set, List.getElem?_cons_zero, List.getElem?_cons_succ, List.set_cons_zero, List.set_cons_succ, Option.map_some, if_true, if_false, decide_true, decide_false, Bool.not_true, Bool.not_false, Nat.zero_add, Nat.reduceAdd, Nat.reduceLT, Nat.zero_lt_succ, Bool.false_eq_true, reduceIte, reduceCtorEq, thn_bind, bind_bind, thn_thn, rthn_thn, sat_nx, sat_rt, rsat_ok, get_new_ne, get_new_eq, nx_new, nx_set, get_set_ne, mk_new, mk_get, mk_set, mk_nx, setL_cons, mth_append, mth_extend, rcv_append, rcv_extend, rcv_count, it_tup, it_loc, len_tup, len_loc, tup_loc, list_tup, sub_tup, sub_at, lget_at, sto_at, aug_add, aug_sub, neg_int, itr_tup, itr_loc, itr_enuT, itr_enuL, itr_zipT, lock_nil, lock_one, unlock_nil, unlock_one, add_tup, c_eqI, c_neI, lim_eq, wipeD, forF, lcF, List.map_cons, List.map_nil, rtr_r1, rtr_r2, enum_range, get_range, len_range, ix_ok, List.getElem?_nil, List.nil_append, List.cons_append, Int.reduceLT, Int.reduceLE, Int.reduceBEq, Int.reduceAdd, Int.reduceSub, Int.reduceMul, Int.reduceToNat, beq_self_eq_true, r_size (n := .int n) (s := .int s) rfl rfl, sizeM_ok a, r_number (v := .int had) (k := n) rfl, num_ok h0 h1, g_most, r_number h3, e]
theorem rr_full_x {v0 v1 v2 v3 : D} (h0 : plainV v0 = true) (h1 : plainV v1 = true) (h2 : plainV v2 = true) (h3 : plainV v3 = true) {c : Nat} (e : sizeM v0 v1 = some c) : (clOf TT (m + 4)).f 30 [v0, v1, v2, v3] h = .ex c h := by
  refine own_exc (fd := b_chance_full) rfl rfl (by simp [pureL, plain_pure h0, plain_pure h1, plain_pure h2, plain_pure h3]) rfl ⟨⟨0, []⟩, ?_⟩
  simp only [b_chance_full, stEnv, List.map, List.length, List.replicate, Nat.reduceAdd, Nat.reduceSub, List.cons_append, List.nil_append]
  simp (disch := (first | (with_reducible assumption) | omega | ((repeat first | rw [nx_new] | rw [nx_set] | rw [List.length_map] | rw [List.length_replicate] | rw [List.length_range] | rw [List.length_append] | rw [List.length_cons] | rw [List.length_nil]) <;> omega) | fail)) only [s_nil, s_cons, s_asg, s_unp, s_par, s_sto, s_aug, s_aus, s_exp, s_ret, s_ife, s_for, s_whi, s_rai, s_tryw, e_cst, e_var, e_fnv, e_glb, e_bin, e_neg, e_cmp, e_chn, e_and, e_or, e_not, e_ite, e_cal, e_cax, e_blt, e_isi, e_mth, e_tup, e_lst, e_sub, e_slc, e_lc, es_nil, es_cons, ea_nil, ea_cons, eo_nil, eo_cons, eb_none, eb_some, ec_none, ec_some, b_ok, b_ex, t_ok, t_ex, st_nx, st_rt, st_ex, o_some, v_some, o_add, o_sub, o_fdiv, o_mod, o_pow, c_lt, c_le, c_gt, c_ge, l_max, l_min, asgL, asg_nm, asg_tp, asg_fq, itr_fq, len_fq, isi_fq, ix_neg, sub_f0, sub_f1, List.length_cons, List.length_nil, List.length_set, List.getElem?_cons_zero, List.getElem?_cons_succ, List.set_cons_zero, List.set_cons_succ, Option.map_some, if_true, if_false, decide_true, decide_false, Bool.not_true, Bool.not_false, Nat.zero_add, Nat.reduceAdd, Nat.reduceLT, Nat.zero_lt_succ, Bool.false_eq_true, reduceIte, reduceCtorEq, thn_bind, bind_bind, thn_thn, rthn_thn, sat_nx, sat_rt, rsat_ok, get_new_ne, get_new_eq, nx_new, nx_set, get_set_ne, mk_new, mk_get, mk_set, mk_nx, setL_cons, mth_append, mth_extend, rcv_append, rcv_extend, rcv_count, it_tup, it_loc, len_tup, len_loc, tup_loc, list_tup, sub_tup, sub_at, lget_at, sto_at, aug_add, aug_sub, neg_int, itr_tup, itr_loc, itr_enuT, itr_enuL, itr_zipT, lock_nil, lock_one, unlock_nil, unlock_one, add_tup, c_eqI, c_neI, lim_eq, wipeD, forF, lcF, List.map_cons, List.map_nil, rtr_r1, rtr_r2, enum_range, get_range, len_range, ix_ok, List.getElem?_nil, List.nil_append, List.cons_append, Int.reduceLT, Int.reduceLE, Int.reduceBEq, Int.reduceAdd, Int.reduceSub, Int.reduceMul, Int.reduceToNat, beq_self_eq_true, r_size h0 h1, e]
theorem rr_full_x2 {v2 v3 : D} (a : Alm n s) (h2 : plainV v2 = true) (h3 : plainV v3 = true) (e : isIntM v2 0 n = false) : (clOf TT (m + 4)).f 30 [.int n, .int s, v2, v3] h = .ex 2 h := by
  refine own_exc (fd := b_chance_full) rfl rfl (by simp [pureL, D.pure, plain_pure h2, plain_pure h3]) rfl ⟨⟨0, []⟩, ?_⟩
  simp only [b_chance_full, stEnv, List.map, List.length, List.replicate, Nat.reduceAdd, Nat.reduceSub, List.cons_append, List.nil_append]
  simp (disch := (first | (with_reducible assumption) | omega | ((repeat first | rw [nx_new] | rw [nx_set] | rw [List.length_map] | rw [List.length_replicate] | rw [List.length_range] | rw [List.length_append] | rw [List.length_cons] | rw [List.length_nil]) <;> omega) | fail)) only [s_nil, s_cons, s_asg, s_unp, s_par, s_sto, s_aug, s_aus, s_exp, s_ret, s_ife, s_for, s_whi, s_rai, s_tryw, e_cst, e_var, e_fnv, e_glb, e_bin, e_neg, e_cmp, e_chn, e_and, e_or, e_not, e_ite, e_cal, e_cax, e_blt, e_isi, e_mth, e_tup, e_lst, e_sub, e_slc, e_lc, es_nil, es_cons, ea_nil, ea_cons, eo_nil, eo_cons, eb_none, eb_some, ec_none, ec_some, b_ok, b_ex, t_ok, t_ex, st_nx, st_rt, st_ex, o_some, v_some, o_add, o_sub, o_fdiv, o_mod, o_pow, c_lt, c_le, c_gt, c_ge, l_max, l_min, asgL, asg_nm, asg_tp, asg_fq, itr_fq, len_fq, isi_fq, ix_neg, sub_f0, sub_f1, List.length_cons, List.length_nil, List.length_set, List.getElem?_cons_zero, List.getElem?_cons_succ, List.set_cons_zero, List.set_cons_succ, Option.map_some, if_true, if_false, decide_true, decide_false, Bool.not_true, Bool.not_false, Nat.zero_add, Nat.reduceAdd, Nat.reduceLT, Nat.zero_lt_succ, Bool.false_eq_true, reduceIte, reduceCtorEq, thn_bind, bind_bind, thn_thn, rthn_thn, sat_nx, sat_rt, rsat_ok, get_new_ne, get_new_eq, nx_new, nx_set, get_set_ne, mk_new, mk_get, mk_set, mk_nx, setL_cons, mth_append, mth_extend, rcv_append, rcv_extend, rcv_count, it_tup, it_loc, len_tup, len_loc, tup_loc, list_tup, sub_tup, sub_at, lget_at, sto_at, aug_add, aug_sub, neg_int, itr_tup, itr_loc, itr_enuT, itr_enuL, itr_zipT, lock_nil, lock_one, unlock_nil, unlock_one, add_tup, c_eqI, c_neI, lim_eq, wipeD, forF, lcF, List.map_cons, List.map_nil, rtr_r1, rtr_r2, enum_range, get_range, len_range, ix_ok, List.getElem?_nil, List.nil_append, List.cons_append, Int.reduceLT, Int.reduceLE, Int.reduceBEq, Int.reduceAdd, Int.reduceSub, Int.reduceMul, Int.reduceToNat, beq_self_eq_true, r_size (n := .int n) (s := .int s) rfl rfl, sizeM_ok a, r_number h2, e]
theorem rr_full_x3 {v3 : D} (a : Alm n s) (h0 : 0 ≤ had) (h1 : had ≤ n) (h3 : plainV v3 = true) (e : isIntM v3 0 30 = false) : (clOf TT (m + 4)).f 30 [.int n, .int s, .int had, v3] h = .ex 2 h := by
  refine own_exc (fd := b_chance_full) rfl rfl (by simp [pureL, D.pure, plain_pure h3]) rfl ⟨⟨0, []⟩, ?_⟩
  simp only [b_chance_full, stEnv, List.map, List.length, List.replicate, Nat.reduceAdd, Nat.reduceSub, List.cons_append, List.nil_append]
  simp (disch := (first | (with_reducible assumption) | omega | ((repeat first | rw [nx_new] | rw [nx_set] | rw [List.length_map] | rw [List.length_replicate] | rw [List.length_range] | rw [List.length_append] | rw [List.length_cons] | rw [List.length_nil]) <;> omega) | fail)) only [s_nil, s_cons, s_asg, s_unp, s_par, s_sto, s_aug, s_aus, s_exp, s_ret, s_ife, s_for, s_whi, s_rai, s_tryw, e_cst, e_var, e_fnv, e_glb, e_bin, e_neg, e_cmp, e_chn, e_and, e_or, e_not, e_ite, e_cal, e_cax, e_blt, e_isi, e_mth, e_tup, e_lst, e_sub, e_slc, e_lc, es_nil, es_cons, ea_nil, ea_cons, eo_nil, eo_cons, eb_none, eb_some, ec_none, ec_some, b_ok, b_ex, t_ok, t_ex, st_nx, st_rt, st_ex, o_some, v_some, o_add, o_sub, o_fdiv, o_mod, o_pow, c_lt, c_le, c_gt, c_ge, l_max, l_min, asgL, asg_nm, asg_tp, asg_fq, itr_fq, len_fq, isi_fq, ix_neg, sub_f0, sub_f1, List.length_cons, List.length_nil, List.length_set, List.getElem?_cons_zero, List.getElem?_cons_succ, List.set_cons_zero, List.set_cons_succ, Option.map_some, if_true, if_false, decide_true, decide_false, Bool.not_true, Bool.not_false, Nat.zero_add, Nat.reduceAdd, Nat.reduceLT, Nat.zero_lt_succ, Bool.false_eq_true, reduceIte, reduceCtorEq, thn_bind, bind_bind, thn_thn, rthn_thn, sat_nx, sat_rt, rsat_ok, get_new_ne, get_new_eq, nx_new, nx_set, get_set_ne, mk_new, mk_get, mk_set, mk_nx, setL_cons, mth_append, mth_extend, rcv_append, rcv_extend, rcv_count, it_tup, it_loc, len_tup, len_loc, tup_loc, list_tup, sub_tup, sub_at, lget_at, sto_at, aug_add, aug_sub, neg_int, itr_tup, itr_loc, itr_enuT, itr_enuL, itr_zipT, lock_nil, lock_one, unlock_nil, unlock_one, add_tup, c_eqI, c_neI, lim_eq, wipeD, forF, lcF, List.map_cons, List.map_nil, rtr_r1, rtr_r2, enum_range, get_range, len_range, ix_ok, List.getElem?_nil, List.nil_append, List.cons_append, Int.reduceLT, Int.reduceLE, Int.reduceBEq, Int.reduceAdd, Int.reduceSub, Int.reduceMul, Int.reduceToNat, beq_self_eq_true, r_size (n := .int n) (s := .int s) rfl rfl, sizeM_ok a, r_number (v := .int had) (k := n) rfl, num_ok h0 h1, g_most, r_number h3, e]
theorem rr_mean_x {v0 v1 v2 : D} (h0 : plainV v0 = true) (h1 : plainV v1 = true) (h2 : plainV v2 = true) {c : Nat} (e : sizeM v0 v1 = some c) : (clOf TT (m + 4)).f 29 [v0, v1, v2] h = .ex c h := by
  refine own_exc (fd := b_mean_packs) rfl rfl (by simp [pureL, plain_pure h0, plain_pure h1, plain_pure h2]) rfl ⟨⟨0, []⟩, ?_⟩
  simp only [b_mean_packs, stEnv, List.map, List.length, List.replicate, Nat.reduceAdd, Nat.reduceSub, List.cons_append, List.nil_append]
  simp (disch := (first | (with_reducible assumption) | omega | ((repeat first | rw [nx_new] | rw [nx_set] | rw [List.length_map] | rw [List.length_replicate] | rw [List.length_range] | rw [List.length_append] | rw [List.length_cons] | rw [List.length_nil]) <;> omega) | fail)) only [s_nil, s_cons, s_asg, s_unp, s_par, s_sto, s_aug, s_aus, s_exp, s_ret, s_ife, s_for, s_whi, s_rai, s_tryw, e_cst, e_var, e_fnv, e_glb, e_bin, e_neg, e_cmp, e_chn, e_and, e_or, e_not, e_ite, e_cal, e_cax, e_blt, e_isi, e_mth, e_tup, e_lst, e_sub, e_slc, e_lc, es_nil, es_cons, ea_nil, ea_cons, eo_nil, eo_cons, eb_none, eb_some, ec_none, ec_some, b_ok, b_ex, t_ok, t_ex, st_nx, st_rt, st_ex, o_some, v_some, o_add, o_sub, o_fdiv, o_mod, o_pow, c_lt, c_le, c_gt, c_ge, l_max, l_min, asgL, asg_nm, asg_tp, asg_fq, itr_fq, len_fq, isi_fq, ix_neg, sub_f0, sub_f1, List.length_cons, List.length_nil, List.length_set, List.getElem?_cons_zero, List.getElem?_cons_succ, List.set_cons_zero, List.set_cons_succ, Option.map_some, if_true, if_false, decide_true, decide_false, Bool.not_true, Bool.not_false, Nat.zero_add, Nat.reduceAdd, Nat.reduceLT, Nat.zero_lt_succ, Bool.false_eq_true, reduceIte, reduceCtorEq, thn_bind, bind_bind, thn_thn, rthn_thn, sat_nx, sat_rt, rsat_ok, get_new_ne, get_new_eq, nx_new, nx_set, get_set_ne, mk_new, mk_get, mk_set, mk_nx, setL_cons, mth_append, mth_extend, rcv_append, rcv_extend, rcv_count, it_tup, it_loc, len_tup, len_loc, tup_loc, list_tup, sub_tup, sub_at, lget_at, sto_at, aug_add, aug_sub, neg_int, itr_tup, itr_loc, itr_enuT, itr_enuL, itr_zipT, lock_nil, lock_one, unlock_nil, unlock_one, add_tup, c_eqI, c_neI, lim_eq, wipeD, forF, lcF, List.map_cons, List.map_nil, rtr_r1, rtr_r2, enum_range, get_range, len_range, ix_ok, List.getElem?_nil, List.nil_append, List.cons_append, Int.reduceLT, Int.reduceLE, Int.reduceBEq, Int.reduceAdd, Int.reduceSub, Int.reduceMul, Int.reduceToNat, beq_self_eq_true, r_size h0 h1, e]
theorem rr_mean_x2 {v2 : D} (a : Alm n s) (h2 : plainV v2 = true) (e : isIntM v2 0 n = false) : (clOf TT (m + 4)).f 29 [.int n, .int s, v2] h = .ex 2 h := by
  refine own_exc (fd := b_mean_packs) rfl rfl (by simp [pureL, D.pure, plain_pure h2]) rfl ⟨⟨0, []⟩, ?_⟩
  simp only [b_mean_packs, stEnv, List.map, List.length, List.replicate, Nat.reduceAdd, Nat.reduceSub, List.cons_append, List.nil_append]
  simp (disch := (first | (with_reducible assumption) | omega | ((repeat first | rw [nx_new] | rw [nx_set] | rw [List.length_map] | rw [List.length_replicate] | rw [List.length_range] | rw [List.length_append] | rw [List.length_cons] | rw [List.length_nil]) <;> omega) | fail)) only [s_nil, s_cons, s_asg, s_unp, s_par, s_sto, s_aug, s_aus, s_exp, s_ret, s_ife, s_for, s_whi, s_rai, s_tryw, e_cst, e_var, e_fnv, e_glb, e_bin, e_neg, e_cmp, e_chn, e_and, e_or, e_not, e_ite, e_cal, e_cax, e_blt, e_isi, e_mth, e_tup, e_lst, e_sub, e_slc, e_lc, es_nil, es_cons, ea_nil, ea_cons, eo_nil, eo_cons, eb_none, eb_some, ec_none, ec_some, b_ok, b_ex, t_ok, t_ex, st_nx, st_rt, st_ex, o_some, v_some, o_add, o_sub, o_fdiv, o_mod, o_pow, c_lt, c_le, c_gt, c_ge, l_max, l_min, asgL, asg_nm, asg_tp, asg_fq, itr_fq, len_fq, isi_fq, ix_neg, sub_f0, sub_f1, List.length_cons, List.length_nil, List.length_set, List.getElem?_cons_zero, List.getElem?_cons_succ, List.set_cons_zero, List.set_cons_succ, Option.map_some, if_true, if_false, decide_true, decide_false, Bool.not_true, Bool.not_false, Nat.zero_add, Nat.reduceAdd, Nat.reduceLT, Nat.zero_lt_succ, Bool.false_eq_true, reduceIte, reduceCtorEq, thn_bind, bind_bind, thn_thn, rthn_thn, sat_nx, sat_rt, rsat_ok, get_new_ne, get_new_eq, nx_new, nx_set, get_set_ne, mk_new, mk_get, mk_set, mk_nx, setL_cons, mth_append, mth_extend, rcv_append, rcv_extend, rcv_count, it_tup, it_loc, len_tup, len_loc, tup_loc, list_tup, sub_tup, sub_at, lget_at, sto_at, aug_add, aug_sub, neg_int, itr_tup, itr_loc, itr_enuT, itr_enuL, itr_zipT, lock_nil, lock_one, unlock_nil, unlock_one, add_tup, c_eqI, c_neI, lim_eq, wipeD, forF, lcF, List.map_cons, List.map_nil, rtr_r1, rtr_r2, enum_range, get_range, len_range, ix_ok, List.getElem?_nil, List.nil_append, List.cons_append, Int.reduceLT, Int.reduceLE, Int.reduceBEq, Int.reduceAdd, Int.reduceSub, Int.reduceMul, Int.reduceToNat, beq_self_eq_true, r_size (n := .int n) (s := .int s) rfl rfl, sizeM_ok a, r_number h2, e]
/-! ### the asks of k02 and k03 -/
def faH : Hh := ⟨1, [(0, .lst [.fn 23, .fn 24])]⟩
theorem ask2_0 {v1 v2 v3 v4 d : D} (hp : pureL [v1, v2, v3, v4] = true) (hd : d.pure = true) (e : (clOf TT m).f 23 [v1, v2, v3, v4] faH = .ok d faH) : (clOf TT (m + 1)).f 26 [.int 0, v1, v2, v3, v4] h = .ok d h := by
  refine own_val (fd := b_law_ask_2) rfl rfl (by simpa [pureL, D.pure] using hp) rfl hd ?_
  simp only [b_law_ask_2, stEnv, List.map, List.length, List.replicate, Nat.reduceAdd, Nat.reduceSub, List.cons_append, List.nil_append]
  unfold faH at e
  simp (disch := (first | (with_reducible assumption) | omega | ((repeat first | rw [nx_new] | rw [nx_set] | rw [List.length_map] | rw [List.length_replicate] | rw [List.length_range] | rw [List.length_append] | rw [List.length_cons] | rw [List.length_nil]) <;> omega) | fail)) only [s_nil, s_cons, s_asg, s_unp, s_par, s_sto, s_aug, s_aus, s_exp, s_ret, s_ife, s_for, s_whi, s_rai, s_tryw, e_cst, e_var, e_fnv, e_glb, e_bin, e_neg, e_cmp, e_chn, e_and, e_or, e_not, e_ite, e_cal, e_cax, e_blt, e_isi, e_mth, e_tup, e_lst, e_sub, e_slc, e_lc, es_nil, es_cons, ea_nil, ea_cons, eo_nil, eo_cons, eb_none, eb_some, ec_none, ec_some, b_ok, b_ex, t_ok, t_ex, st_nx, st_rt, st_ex, o_some, v_some, o_add, o_sub, o_fdiv, o_mod, o_pow, c_lt, c_le, c_gt, c_ge, l_max, l_min, asgL, asg_nm, asg_tp, asg_fq, itr_fq, len_fq, isi_fq, ix_neg, sub_f0, sub_f1, List.length_cons, List.length_nil, List.length_set, List.getElem?_cons_zero, List.getElem?_cons_succ, List.set_cons_zero, List.set_cons_succ, Option.map_some, if_true, if_false, decide_true, decide_false, Bool.not_true, Bool.not_false, Nat.zero_add, Nat.reduceAdd, Nat.reduceLT, Nat.zero_lt_succ, Bool.false_eq_true, reduceIte, reduceCtorEq, thn_bind, bind_bind, thn_thn, rthn_thn, sat_nx, sat_rt, rsat_ok, get_new_ne, get_new_eq, nx_new, nx_set, get_set_ne, mk_new, mk_get, mk_set, mk_nx, setL_cons, mth_append, mth_extend, rcv_append, rcv_extend, rcv_count, it_tup, it_loc, len_tup, len_loc, tup_loc, list_tup, sub_tup, sub_at, lget_at, sto_at, aug_add, aug_sub, neg_int, itr_tup, itr_loc, itr_enuT, itr_enuL, itr_zipT, lock_nil, lock_one, unlock_nil, unlock_one, add_tup, c_eqI, c_neI, lim_eq, wipeD, forF, lcF, List.map_cons, List.map_nil, rtr_r1, rtr_r2, enum_range, get_range, len_range, ix_ok, List.getElem?_nil, List.nil_append, List.cons_append, Int.reduceLT, Int.reduceLE, Int.reduceBEq, Int.reduceAdd, Int.reduceSub, Int.reduceMul, Int.reduceToNat, beq_self_eq_true, e]
theorem ask2_1 {v1 v2 v3 v4 d : D} (hp : pureL [v1, v2, v3, v4] = true) (hd : d.pure = true) (e : (clOf TT m).f 24 [v1, v2, v3, v4] faH = .ok d faH) : (clOf TT (m + 1)).f 26 [.int 1, v1, v2, v3, v4] h = .ok d h := by
  refine own_val (fd := b_law_ask_2) rfl rfl (by simpa [pureL, D.pure] using hp) rfl hd ?_
  simp only [b_law_ask_2, stEnv, List.map, List.length, List.replicate, Nat.reduceAdd, Nat.reduceSub, List.cons_append, List.nil_append]
  unfold faH at e
  simp (disch := (first | (with_reducible assumption) | omega | ((repeat first | rw [nx_new] | rw [nx_set] | rw [List.length_map] | rw [List.length_replicate] | rw [List.length_range] | rw [List.length_append] | rw [List.length_cons] | rw [List.length_nil]) <;> omega) | fail)) only [s_nil, s_cons, s_asg, s_unp, s_par, s_sto, s_aug, s_aus, s_exp, s_ret, s_ife, s_for, s_whi, s_rai, s_tryw, e_cst, e_var, e_fnv, e_glb, e_bin, e_neg, e_cmp, e_chn, e_and, e_or, e_not, e_ite, e_cal, e_cax, e_blt, e_isi, e_mth, e_tup, e_lst, e_sub, e_slc, e_lc, es_nil, es_cons, ea_nil, ea_cons, eo_nil, eo_cons, eb_none, eb_some, ec_none, ec_some, b_ok, b_ex, t_ok, t_ex, st_nx, st_rt, st_ex, o_some, v_some, o_add, o_sub, o_fdiv, o_mod, o_pow, c_lt, c_le, c_gt, c_ge, l_max, l_min, asgL, asg_nm, asg_tp, asg_fq, itr_fq, len_fq, isi_fq, ix_neg, sub_f0, sub_f1, List.length_cons, List.length_nil, List.length_set, List.getElem?_cons_zero, List.getElem?_cons_succ, List.set_cons_zero, List.set_cons_succ, Option.map_some, if_true, if_false, decide_true, decide_false, Bool.not_true, Bool.not_false, Nat.zero_add, Nat.reduceAdd, Nat.reduceLT, Nat.zero_lt_succ, Bool.false_eq_true, reduceIte, reduceCtorEq, thn_bind, bind_bind, thn_thn, rthn_thn, sat_nx, sat_rt, rsat_ok, get_new_ne, get_new_eq, nx_new, nx_set, get_set_ne, mk_new, mk_get, mk_set, mk_nx, setL_cons, mth_append, mth_extend, rcv_append, rcv_extend, rcv_count, it_tup, it_loc, len_tup, len_loc, tup_loc, list_tup, sub_tup, sub_at, lget_at, sto_at, aug_add, aug_sub, neg_int, itr_tup, itr_loc, itr_enuT, itr_enuL, itr_zipT, lock_nil, lock_one, unlock_nil, unlock_one, add_tup, c_eqI, c_neI, lim_eq, wipeD, forF, lcF, List.map_cons, List.map_nil, rtr_r1, rtr_r2, enum_range, get_range, len_range, ix_ok, List.getElem?_nil, List.nil_append, List.cons_append, Int.reduceLT, Int.reduceLE, Int.reduceBEq, Int.reduceAdd, Int.reduceSub, Int.reduceMul, Int.reduceToNat, beq_self_eq_true, e]
theorem ask2_0x {v1 v2 v3 v4 : D} {c : Nat} (hc : c < 10) (hp : pureL [v1, v2, v3, v4] = true) (e : (clOf TT m).f 23 [v1, v2, v3, v4] faH = .ex c faH) : (clOf TT (m + 1)).f 26 [.int 0, v1, v2, v3, v4] h = .ok (rsd c) h := by
  refine own_val (fd := b_law_ask_2) rfl rfl (by simpa [pureL, D.pure] using hp) rfl rfl ?_
  simp only [b_law_ask_2, stEnv, List.map, List.length, List.replicate, Nat.reduceAdd, Nat.reduceSub, List.cons_append, List.nil_append]
  unfold faH at e
  rw [s_cons, try_ex (c := c) (h' := faH) (by simp (disch := (first | (with_reducible assumption) | omega | ((repeat first | rw [nx_new] | rw [nx_set] | rw [List.length_map] | rw [List.length_replicate] | rw [List.length_range] | rw [List.length_append] | rw [List.length_cons] | rw [List.length_nil]) <;> omega) | fail)) only [s_nil, s_cons, s_asg, s_unp, s_par, s_sto, s_aug, s_aus, s_exp, s_ret, s_ife, s_for, s_whi, s_rai, s_tryw, e_cst, e_var, e_fnv, e_glb, e_bin, e_neg, e_cmp, e_chn, e_and, e_or, e_not, e_ite, e_cal, e_cax, e_blt, e_isi, e_mth, e_tup, e_lst, e_sub, e_slc, e_lc, es_nil, es_cons, ea_nil, ea_cons, eo_nil, eo_cons, eb_none, eb_some, ec_none, ec_some, b_ok, b_ex, t_ok, t_ex, st_nx, st_rt, st_ex, o_some, v_some, o_add, o_sub, o_fdiv, o_mod, o_pow, c_lt, c_le, c_gt, c_ge, l_max, l_min, asgL, asg_nm, asg_tp, asg_fq, itr_fq, len_fq, isi_fq, ix_neg, sub_f0, sub_f1, List.length_cons, List.length_nil, List.length_set, List.getElem?_cons_zero, List.getElem?_cons_succ, List.set_cons_zero, List.set_cons_succ, Option.map_some, if_true, if_false, decide_true, decide_false, Bool.not_true, Bool.not_false, Nat.zero_add, Nat.reduceAdd, Nat.reduceLT, Nat.zero_lt_succ, Bool.false_eq_true, reduceIte, reduceCtorEq, thn_bind, bind_bind, thn_thn, rthn_thn, sat_nx, sat_rt, rsat_ok, get_new_ne, get_new_eq, nx_new, nx_set, get_set_ne, mk_new, mk_get, mk_set, mk_nx, setL_cons, mth_append, mth_extend, rcv_append, rcv_extend, rcv_count, it_tup, it_loc, len_tup, len_loc, tup_loc, list_tup, sub_tup, sub_at, lget_at, sto_at, aug_add, aug_sub, neg_int, itr_tup, itr_loc, itr_enuT, itr_enuL, itr_zipT, lock_nil, lock_one, unlock_nil, unlock_one, add_tup, c_eqI, c_neI, lim_eq, wipeD, forF, lcF, List.map_cons, List.map_nil, rtr_r1, rtr_r2, enum_range, get_range, len_range, ix_ok, List.getElem?_nil, List.nil_append, List.cons_append, Int.reduceLT, Int.reduceLE, Int.reduceBEq, Int.reduceAdd, Int.reduceSub, Int.reduceMul, Int.reduceToNat, beq_self_eq_true, e]; rfl) hc (by simp)]
  rfl
theorem ask2_1x {v1 v2 v3 v4 : D} {c : Nat} (hc : c < 10) (hp : pureL [v1, v2, v3, v4] = true) (e : (clOf TT m).f 24 [v1, v2, v3, v4] faH = .ex c faH) : (clOf TT (m + 1)).f 26 [.int 1, v1, v2, v3, v4] h = .ok (rsd c) h := by
  refine own_val (fd := b_law_ask_2) rfl rfl (by simpa [pureL, D.pure] using hp) rfl rfl ?_
  simp only [b_law_ask_2, stEnv, List.map, List.length, List.replicate, Nat.reduceAdd, Nat.reduceSub, List.cons_append, List.nil_append]
  unfold faH at e
  rw [s_cons, try_ex (c := c) (h' := faH) (by simp (disch := (first | (with_reducible assumption) | omega | ((repeat first | rw [nx_new] | rw [nx_set] | rw [List.length_map] | rw [List.length_replicate] | rw [List.length_range] | rw [List.length_append] | rw [List.length_cons] | rw [List.length_nil]) <;> omega) | fail)) only [s_nil, s_cons, s_asg, s_unp, s_par, s_sto, s_aug, s_aus, s_exp, s_ret, s_ife, s_for, s_whi, s_rai, s_tryw, e_cst, e_var, e_fnv, e_glb, e_bin, e_neg, e_cmp, e_chn, e_and, e_or, e_not, e_ite, e_cal, e_cax, e_blt, e_isi, e_mth, e_tup, e_lst, e_sub, e_slc, e_lc, es_nil, es_cons, ea_nil, ea_cons, eo_nil, eo_cons, eb_none, eb_some, ec_none, ec_some, b_ok, b_ex, t_ok, t_ex, st_nx, st_rt, st_ex, o_some, v_some, o_add, o_sub, o_fdiv, o_mod, o_pow, c_lt, c_le, c_gt, c_ge, l_max, l_min, asgL, asg_nm, asg_tp, asg_fq, itr_fq, len_fq, isi_fq, ix_neg, sub_f0, sub_f1, List.length_cons, List.length_nil, List.length_set, List.getElem?_cons_zero, List.getElem?_cons_succ, List.set_cons_zero, List.set_cons_succ, Option.map_some, if_true, if_false, decide_true, decide_false, Bool.not_true, Bool.not_false, Nat.zero_add, Nat.reduceAdd, Nat.reduceLT, Nat.zero_lt_succ, Bool.false_eq_true, reduceIte, reduceCtorEq, thn_bind, bind_bind, thn_thn, rthn_thn, sat_nx, sat_rt, rsat_ok, get_new_ne, get_new_eq, nx_new, nx_set, get_set_ne, mk_new, mk_get, mk_set, mk_nx, setL_cons, mth_append, mth_extend, rcv_append, rcv_extend, rcv_count, it_tup, it_loc, len_tup, len_loc, tup_loc, list_tup, sub_tup, sub_at, lget_at, sto_at, aug_add, aug_sub, neg_int, itr_tup, itr_loc, itr_enuT, itr_enuL, itr_zipT, lock_nil, lock_one, unlock_nil, unlock_one, add_tup, c_eqI, c_neI, lim_eq, wipeD, forF, lcF, List.map_cons, List.map_nil, rtr_r1, rtr_r2, enum_range, get_range, len_range, ix_ok, List.getElem?_nil, List.nil_append, List.cons_append, Int.reduceLT, Int.reduceLE, Int.reduceBEq, Int.reduceAdd, Int.reduceSub, Int.reduceMul, Int.reduceToNat, beq_self_eq_true, e]; rfl) hc (by simp)]
  rfl
theorem ask3_ok {v0 v1 v2 d : D} (hp : pureL [v0, v1, v2] = true) (hd : d.pure = true) (e : (clOf TT m).f 29 [v0, v1, v2] ⟨0, []⟩ = .ok d ⟨0, []⟩) : (clOf TT (m + 1)).f 31 [v0, v1, v2] h = .ok d h := by
  refine own_val (fd := b_law_ask_3) rfl rfl hp rfl hd ?_
  simp only [b_law_ask_3, stEnv, List.map, List.length, List.replicate, Nat.reduceAdd, Nat.reduceSub, List.cons_append, List.nil_append]
  simp (disch := (first | (with_reducible assumption) | omega | ((repeat first | rw [nx_new] | rw [nx_set] | rw [List.length_map] | rw [List.length_replicate] | rw [List.length_range] | rw [List.length_append] | rw [List.length_cons] | rw [List.length_nil]) <;> omega) | fail)) only [s_nil, s_cons, s_asg, s_unp, s_par, s_sto, s_aug, s_aus, s_exp, s_ret, s_ife, s_for, s_whi, s_rai, s_tryw, e_cst, e_var, e_fnv, e_glb, e_bin, e_neg, e_cmp, e_chn, e_and, e_or, e_not, e_ite, e_cal, e_cax, e_blt, e_isi, e_mth, e_tup, e_lst, e_sub, e_slc, e_lc, es_nil, es_cons, ea_nil, ea_cons, eo_nil, eo_cons, eb_none, eb_some, ec_none, ec_some, b_ok, b_ex, t_ok, t_ex, st_nx, st_rt, st_ex, o_some, v_some, o_add, o_sub, o_fdiv, o_mod, o_pow, c_lt, c_le, c_gt, c_ge, l_max, l_min, asgL, asg_nm, asg_tp, asg_fq, itr_fq, len_fq, isi_fq, ix_neg, sub_f0, sub_f1, List.length_cons, List.length_nil, List.length_set, List.getElem?_cons_zero, List.getElem?_cons_succ, List.set_cons_zero, List.set_cons_succ, Option.map_some, if_true, if_false, decide_true, decide_false, Bool.not_true, Bool.not_false, Nat.zero_add, Nat.reduceAdd, Nat.reduceLT, Nat.zero_lt_succ, Bool.false_eq_true, reduceIte, reduceCtorEq, thn_bind, bind_bind, thn_thn, rthn_thn, sat_nx, sat_rt, rsat_ok, get_new_ne, get_new_eq, nx_new, nx_set, get_set_ne, mk_new, mk_get, mk_set, mk_nx, setL_cons, mth_append, mth_extend, rcv_append, rcv_extend, rcv_count, it_tup, it_loc, len_tup, len_loc, tup_loc, list_tup, sub_tup, sub_at, lget_at, sto_at, aug_add, aug_sub, neg_int, itr_tup, itr_loc, itr_enuT, itr_enuL, itr_zipT, lock_nil, lock_one, unlock_nil, unlock_one, add_tup, c_eqI, c_neI, lim_eq, wipeD, forF, lcF, List.map_cons, List.map_nil, rtr_r1, rtr_r2, enum_range, get_range, len_range, ix_ok, List.getElem?_nil, List.nil_append, List.cons_append, Int.reduceLT, Int.reduceLE, Int.reduceBEq, Int.reduceAdd, Int.reduceSub, Int.reduceMul, Int.reduceToNat, beq_self_eq_true, e]
theorem ask3_x {v0 v1 v2 : D} {c : Nat} (hc : c < 10) (hp : pureL [v0, v1, v2] = true) (e : (clOf TT m).f 29 [v0, v1, v2] ⟨0, []⟩ = .ex c ⟨0, []⟩) : (clOf TT (m + 1)).f 31 [v0, v1, v2] h = .ok (rsd c) h := by
  refine own_val (fd := b_law_ask_3) rfl rfl hp rfl rfl ?_
  simp only [b_law_ask_3, stEnv, List.map, List.length, List.replicate, Nat.reduceAdd, Nat.reduceSub, List.cons_append, List.nil_append]
  rw [s_cons, try_ex (c := c) (h' := ⟨0, []⟩) (by simp (disch := (first | (with_reducible assumption) | omega | ((repeat first | rw [nx_new] | rw [nx_set] | rw [List.length_map] | rw [List.length_replicate] | rw [List.length_range] | rw [List.length_append] | rw [List.length_cons] | rw [List.length_nil]) <;> omega) | fail)) only [s_nil, s_cons, s_asg, s_unp, s_par, s_sto, s_aug, s_aus, s_exp, s_ret, s_ife, s_for, s_whi, s_rai, s_tryw, e_cst, e_var, e_fnv, e_glb, e_bin, e_neg, e_cmp, e_chn, e_and, e_or, e_not, e_ite, e_cal, e_cax, e_blt, e_isi, e_mth, e_tup, e_lst, e_sub, e_slc, e_lc, es_nil, es_cons, ea_nil, ea_cons, eo_nil, eo_cons, eb_none, eb_some, ec_none, ec_some, b_ok, b_ex, t_ok, t_ex, st_nx, st_rt, st_ex, o_some, v_some, o_add, o_sub, o_fdiv, o_mod, o_pow, c_lt, c_le, c_gt, c_ge, l_max, l_min, asgL, asg_nm, asg_tp, asg_fq, itr_fq, len_fq, isi_fq, ix_neg, sub_f0, sub_f1, List.length_cons, List.length_nil, List.length_set, List.getElem?_cons_zero, List.getElem?_cons_succ, List.set_cons_zero, List.set_cons_succ, Option.map_some, if_true, if_false, decide_true, decide_false, Bool.not_true, Bool.not_false, Nat.zero_add, Nat.reduceAdd, Nat.reduceLT, Nat.zero_lt_succ, Bool.false_eq_true, reduceIte, reduceCtorEq, thn_bind, bind_bind, thn_thn, rthn_thn, sat_nx, sat_rt, rsat_ok, get_new_ne, get_new_eq, nx_new, nx_set, get_set_ne, mk_new, mk_get, mk_set, mk_nx, setL_cons, mth_append, mth_extend, rcv_append, rcv_extend, rcv_count, it_tup, it_loc, len_tup, len_loc, tup_loc, list_tup, sub_tup, sub_at, lget_at, sto_at, aug_add, aug_sub, neg_int, itr_tup, itr_loc, itr_enuT, itr_enuL, itr_zipT, lock_nil, lock_one, unlock_nil, unlock_one, add_tup, c_eqI, c_neI, lim_eq, wipeD, forF, lcF, List.map_cons, List.map_nil, rtr_r1, rtr_r2, enum_range, get_range, len_range, ix_ok, List.getElem?_nil, List.nil_append, List.cons_append, Int.reduceLT, Int.reduceLE, Int.reduceBEq, Int.reduceAdd, Int.reduceSub, Int.reduceMul, Int.reduceToNat, beq_self_eq_true, e]) hc (by simp)]
  rfl
theorem ask3_mean (a : Alm n s) (h0 : 0 ≤ had) (h1 : had ≤ n) : (clOf TT (m + 6)).f 31 [.int n, .int s, .int had] h = .ok (fq (mp n s had)) h :=
  ask3_ok rfl rfl (rr_mean a h0 h1)
theorem ask3_x2 {v2 : D} (a : Alm n s) (h2 : plainV v2 = true) (e : isIntM v2 0 n = false) : (clOf TT (m + 5)).f 31 [.int n, .int s, v2] h = .ok (rsd 2) h :=
  ask3_x (by decide) (by simp [pureL, D.pure, plain_pure h2]) (rr_mean_x2 a h2 e)
end
end Alb.Rn
set_option Elab.async false
set_option linter.all false
set_option maxRecDepth 100000
set_option maxHeartbeats 1000000
/-! The means: by one pack and the means afterwards. -/
namespace Alb.Rn
open PySem Alb
def mpN (n s i : Nat) : Rat := mp n s i
theorem mean_chk2 : alb3 (fun n s i => (if i = n then decide (mpQ n s i = (0, 1)) else decide (1 + sm (fun j => mkRat (aB n s i j) (bn n s).toNat * mp n s j) (n + 1) = mp n s i) && decide ((mpQ n s i).2 ≤ (mpQ n s i).1))
   && decide (sm (fun c => mkRat n (c + 1)) (n - i) = mp n 1 i) && decide (mp n s ((n : Int) - 1) = mkRat n s) && decide (mp n n 0 = 1)) = true := by decide +kernel
section
variable {n s had : Int}
theorem mp_one (a : Alm n s) (h0 : 0 ≤ had) (h1 : had < n) : 1 + sm (fun j => A n s had.toNat j * mp n s j) (n + 1).toNat = mp n s had ∧ 1 ≤ mp n s had := by
  obtain ⟨n1, n8, s1, sn⟩ := a
  have a : Alm n s := ⟨n1, n8, s1, sn⟩
  have h := alb3_of mean_chk2 a (i := had.toNat) (by omega)
  simp only [Bool.and_eq_true] at h
  have h := h.1.1.1
  rw [if_neg (by omega)] at h
  simp only [Bool.and_eq_true, decide_eq_true_eq] at h
  have e1 : ((n.toNat : Nat) : Int) = n := by omega
  have e2 : ((s.toNat : Nat) : Int) = s := by omega
  have e3 : ((had.toNat : Nat) : Int) = had := by omega
  have e4 : n.toNat + 1 = (n + 1).toNat := by omega
  have e5 : (bn n s).toNat = WN n s := by
    have := WN_bn a
    omega
  rw [e1, e2, e3, e4, e5] at h
  refine ⟨?_, ?_⟩
  · rw [← h.1]
    congr 1
    exact sm_congr fun j hj => by rw [A_aB a (by omega) hj]
  · have q := mp_qr a h0 (by omega : had ≤ n)
    rw [q] at h
    rw [Rat.le_iff]
    simp only [Rat.one_num, Rat.one_den]
    have := h.2
    simp only [qr] at this
    omega
theorem mp_full (a : Alm n s) : mp n s n = 0 := by
  obtain ⟨n1, n8, s1, sn⟩ := a
  have a : Alm n s := ⟨n1, n8, s1, sn⟩
  have h := alb3_of mean_chk2 a (i := n.toNat) (by omega)
  simp only [Bool.and_eq_true] at h
  have h := h.1.1.1
  rw [if_pos trivial, decide_eq_true_eq] at h
  have e1 : ((n.toNat : Nat) : Int) = n := by omega
  have e2 : ((s.toNat : Nat) : Int) = s := by omega
  rw [e1, e2] at h
  unfold mp
  rw [h]
  rfl
theorem mp_single (a : Alm n s) (h0 : 0 ≤ had) (h1 : had ≤ n) : mp n 1 had = sm (fun c => mkRat n (c + 1)) (n - had).toNat := by
  obtain ⟨n1, n8, s1, sn⟩ := a
  have a : Alm n s := ⟨n1, n8, s1, sn⟩
  have h := alb3_of mean_chk2 a (i := had.toNat) (by omega)
  simp only [Bool.and_eq_true, decide_eq_true_eq] at h
  have h := h.1.1.2
  have e1 : ((n.toNat : Nat) : Int) = n := by omega
  have e3 : ((had.toNat : Nat) : Int) = had := by omega
  have e4 : n.toNat - had.toNat = (n - had).toNat := by omega
  rw [e1, e3, e4] at h
  exact h.symm
theorem mp_lastone (a : Alm n s) : mp n s (n - 1) = mkRat n s.toNat ∧ mp n n 0 = 1 := by
  obtain ⟨n1, n8, s1, sn⟩ := a
  have a : Alm n s := ⟨n1, n8, s1, sn⟩
  have h := alb3_of mean_chk2 a (i := 0) (by omega)
  simp only [Bool.and_eq_true, decide_eq_true_eq] at h
  have e1 : ((n.toNat : Nat) : Int) = n := by omega
  have e2 : ((s.toNat : Nat) : Int) = s := by omega
  have h1 := h.1.2
  have h2 := h.2
  rw [e1, e2] at h1
  rw [e1] at h2
  exact ⟨h1, h2⟩
/-- the chances to be full grow -/
theorem full_grow (a : Alm n s) (h0 : 0 ≤ had) {p : Nat} (hp : p ≤ 30) : pr n s had p n.toNat ≤ pr n s had (p + 1) n.toNat := by
  have n1 := a.n1
  rw [pr_succ a (by omega) (by omega)]
  have h := sm_le_of (f := fun i => pr n s had p i * A n s i n.toNat) (n := (n + 1).toNat) (fun i hi => Rat.mul_nonneg (pr_nonneg a h0 p (by omega) hi) (A_nonneg a hi (by omega))) n.toNat (by omega)
  have e : A n s n.toNat n.toNat = 1 := by
    rw [← row_sum a (i := n.toNat) (by omega)]
    exact (sm_one (by omega) (fun j hj hij => by
      unfold A
      rw [if_neg (by omega)])).symm
  simp only [e, Rat.mul_one] at h
  exact h
/-- packs in which the album is not yet full, up to a number of packs -/
def wait (n s : Int) (q i : Nat) : Rat := sm (fun c => 1 - pr n s i c n.toNat) q
theorem sm_mono {f g : Nat → Rat} : ∀ {n : Nat}, (∀ i, i < n → f i ≤ g i) → sm f n ≤ sm g n
  | 0, _ => by simp [sm]
  | n + 1, h => by
    have h1 := sm_mono (n := n) fun i hi => h i (by omega)
    have h2 := h n (by omega)
    simp only [sm]
    grind
theorem sm_first (f : Nat → Rat) : ∀ n, sm f (n + 1) = f 0 + sm (fun i => f (i + 1)) n
  | 0 => by simp [sm, Rat.add_zero, Rat.zero_add]
  | n + 1 => by
    rw [sm, sm_first f n, sm]
    grind
theorem wait_le (a : Alm n s) : ∀ q : Nat, q ≤ 30 → ∀ {i : Nat}, i < (n + 1).toNat → wait n s q i ≤ mp n s i
  | 0, _, i, hi => mp_nonneg a (by omega) (by omega)
  | q + 1, hq, i, hi => by
    have n1 := a.n1
    by_cases e : i = n.toNat
    · have en : ((i : Nat) : Int) = n := by omega
      rw [en, mp_full a]
      unfold wait
      have : sm (fun c => 1 - pr n s i c n.toNat) (q + 1) = sm (fun _ => 0) (q + 1) := sm_congr fun c hc => by
        have h1 : pr n s i c n.toNat = 1 := by
          have := pr_le_one a (had := (i : Int)) (by omega) (by omega) (p := c) (by omega) (j := n.toNat) (by omega)
          have h2 : ∀ c : Nat, c ≤ 30 → 1 ≤ pr n s i c n.toNat := by
            intro c
            induction c with
            | zero =>
              intro _
              rw [pr_zero (by omega), if_pos (by omega)]
              exact Rat.le_refl
            | succ c ih =>
              intro hc
              exact Rat.le_trans (ih (by omega)) (full_grow a (by omega) (by omega))
          exact Rat.le_antisymm this (h2 c (by omega))
        rw [h1, Rat.sub_self]
      rw [this, sm_zero]
      exact Rat.le_refl
    · have m1 := (mp_one a (had := (i : Int)) (by omega) (by omega)).1
      have ti : ((i : Int)).toNat = i := by omega
      rw [ti] at m1
      rw [← m1]
      unfold wait
      rw [sm_first]
      have p0 : pr n s i 0 n.toNat = 0 := by rw [pr_zero (by omega), if_neg (by omega)]
      have e1 : sm (fun c => 1 - pr n s i (c + 1) n.toNat) q = sm (fun k => A n s i k * wait n s q k) (n + 1).toNat := by
        have e2 : sm (fun c => 1 - pr n s i (c + 1) n.toNat) q = sm (fun c => sm (fun k => A n s i k * (1 - pr n s k c n.toNat)) (n + 1).toNat) q := sm_congr fun c hc => by
          rw [pr_first a hi (by omega) (by omega)]
          have e3 : sm (fun k => A n s i k * (1 - pr n s k c n.toNat)) (n + 1).toNat = sm (fun k => A n s i k + -1 * (A n s i k * pr n s k c n.toNat)) (n + 1).toNat := sm_congr fun k hk => by grind
          rw [e3, sm_add, sm_mul, row_sum a hi]
          grind
        rw [e2, sm_swap]
        exact sm_congr fun k hk => sm_mul _ _ _
      rw [p0, e1]
      have := sm_mono (f := fun k => A n s i k * wait n s q k) (g := fun k => A n s i k * mp n s k) (n := (n + 1).toNat) fun k hk => Rat.mul_le_mul_of_nonneg_left (wait_le a q (by omega) hk) (A_nonneg a hi hk)
      grind
end
end Alb.Rn
set_option Elab.async false
set_option linter.all false
set_option maxRecDepth 100000
set_option maxHeartbeats 4000000
set_option pp.deepTerms false
set_option pp.deepTerms.threshold 8
namespace Alb.Rn
open PySem Alb
theorem e_chn3 {cl : Cl} {r : Env} {h : Hh} {o p q : COp} {a b c d : E} : ev cl (.chn3 o p q a b c d) r h = (ev cl a r h).bind fun x h => (ev cl b r h).bind fun y h => (match cmpD o x y h with
    | some true => (ev cl c r h).bind fun z h => (match cmpD p y z h with
      | some true => (ev cl d r h).bind fun w h => ofV h ((cmpD q z w h).map D.bl)
      | some false => .ok (.bl false) h
      | none => .bad)
    | some false => .ok (.bl false) h
    | none => .bad) := rfl
theorem chn_mk {a : Int} {b : Nat} (h1 : 1 ≤ a) (h2 : a < b) (h3 : b ≤ 99) : Chn (mkRat a b) := by
  obtain ⟨x, y, g, e, hg, hy, r1, r2⟩ := red_parts a b (by omega)
  rw [red_rat (by omega)] at e
  have e1 : (mkRat a b).num = x := congrArg Prod.fst e
  have e2 : (((mkRat a b).den : Nat) : Int) = y := congrArg Prod.snd e
  have hx : 0 < x := by
    rcases Int.lt_or_le 0 x with z | z
    · exact z
    · have : x * (g : Int) ≤ 0 := Int.mul_nonpos_of_nonpos_of_nonneg z (by omega)
      omega
  have hxy : x < y := by
    rcases Int.lt_or_le x y with z | z
    · exact z
    · have : (y : Int) * g ≤ x * g := Int.mul_le_mul_of_nonneg_right z (by omega)
      rw [← r1] at this
      have : ((b : Nat) : Int) = (y : Int) * g := by rw [r2, Int.natCast_mul]
      omega
  have hyb : y ≤ b := by rw [r2]; exact Nat.le_mul_of_pos_right _ hg
  exact ⟨by omega, by omega, by omega, by omega⟩
section
variable {n s had : Int}
/-- the first number of packs below i at which the chance is reached -/
def fstP (n s had : Int) (c : Rat) (i : Nat) : Option Nat := (List.range i).find? fun q => decide (c ≤ pr n s had q n.toNat)
theorem fst_succ {c : Rat} {i : Nat} : fstP n s had c (i + 1) = match fstP n s had c i with
    | some q => some q
    | none => if c ≤ pr n s had i n.toNat then some i else none := by
  unfold fstP
  rw [List.range_succ, List.find?_append]
  cases (List.range i).find? fun q => decide (c ≤ pr n s had q n.toNat) with
  | some q => rfl
  | none =>
    by_cases z : c ≤ pr n s had i n.toNat
    · simp [z]
    · simp [z]
theorem fst_some {c : Rat} : ∀ {i q : Nat}, fstP n s had c i = some q → q < i ∧ c ≤ pr n s had q n.toNat ∧ ∀ p, p < q → ¬ c ≤ pr n s had p n.toNat
  | 0, q, h => by simp [fstP] at h
  | i + 1, q, h => by
    rw [fst_succ] at h
    cases e : fstP n s had c i with
    | some q' =>
      rw [e] at h
      cases h
      obtain ⟨a1, a2, a3⟩ := fst_some e
      exact ⟨by omega, a2, a3⟩
    | none =>
      rw [e] at h
      simp only at h
      split at h
      · rename_i z
        cases h
        refine ⟨by omega, z, fun p hp => ?_⟩
        unfold fstP at e
        rw [List.find?_eq_none] at e
        have := e p (List.mem_range.mpr hp)
        simpa using this
      · cases h
theorem fst_none {c : Rat} {i : Nat} (h : fstP n s had c i = none) : ∀ p, p < i → ¬ c ≤ pr n s had p n.toNat := fun p hp => by
  unfold fstP at h
  rw [List.find?_eq_none] at h
  have := h p (List.mem_range.mpr hp)
  simpa using this
def encO : Option Nat → D
  | none => .non
  | some q => .int q
theorem ask4_ok {m : Nat} {h : Hh} {v0 v1 v2 v3 d : D} (hp : pureL [v0, v1, v2, v3] = true) (hd : d.pure = true) (e : (clOf TT m).f 34 [v0, v1, v2, v3] ⟨0, []⟩ = .ok d ⟨0, []⟩) : (clOf TT (m + 1)).f 36 [v0, v1, v2, v3] h = .ok d h := by
  refine own_val (fd := b_law_ask_4) rfl rfl hp rfl hd ?_
  simp only [b_law_ask_4, stEnv, List.map, List.length, List.replicate, Nat.reduceAdd, Nat.reduceSub, List.cons_append, List.nil_append]
  simp (disch := (first | (with_reducible assumption) | omega | ((repeat first | rw [nx_new] | rw [nx_set] | rw [List.length_map] | rw [List.length_replicate] | rw [List.length_range] | rw [List.length_append] | rw [List.length_cons] | rw [List.length_nil]) <;> omega) | fail)) only [s_nil, s_cons, s_asg, s_unp, s_par, s_sto, s_aug, s_aus, s_exp, s_ret, s_ife, s_for, s_whi, s_rai, s_tryw, e_cst, e_var, e_fnv, e_glb, e_bin, e_neg, e_cmp, e_chn, e_and, e_or, e_not, e_ite, e_cal, e_cax, e_blt, e_isi, e_mth, e_tup, e_lst, e_sub, e_slc, e_lc, es_nil, es_cons, ea_nil, ea_cons, eo_nil, eo_cons, eb_none, eb_some, ec_none, ec_some, b_ok, b_ex, t_ok, t_ex, st_nx, st_rt, st_ex, o_some, v_some, o_add, o_sub, o_fdiv, o_mod, o_pow, c_lt, c_le, c_gt, c_ge, l_max, l_min, asgL, asg_nm, asg_tp, asg_fq, itr_fq, len_fq, isi_fq, ix_neg, sub_f0, sub_f1, List.length_cons, List.length_nil, List.length_set, List.getElem?_cons_zero, List.getElem?_cons_succ, List.set_cons_zero, List.set_cons_succ, Option.map_some, if_true, if_false, decide_true, decide_false, Bool.not_true, Bool.not_false, Nat.zero_add, Nat.reduceAdd, Nat.reduceLT, Nat.zero_lt_succ, Bool.false_eq_true, reduceIte, reduceCtorEq, thn_bind, bind_bind, thn_thn, rthn_thn, sat_nx, sat_rt, rsat_ok, get_new_ne, get_new_eq, nx_new, nx_set, get_set_ne, mk_new, mk_get, mk_set, mk_nx, setL_cons, mth_append, mth_extend, rcv_append, rcv_extend, rcv_count, it_tup, it_loc, len_tup, len_loc, tup_loc, list_tup, sub_tup, sub_at, lget_at, sto_at, aug_add, aug_sub, neg_int, itr_tup, itr_loc, itr_enuT, itr_enuL, itr_zipT, lock_nil, lock_one, unlock_nil, unlock_one, add_tup, c_eqI, c_neI, lim_eq, wipeD, forF, lcF, List.map_cons, List.map_nil, rtr_r1, rtr_r2, enum_range, get_range, len_range, ix_ok, List.getElem?_nil, List.nil_append, List.cons_append, Int.reduceLT, Int.reduceLE, Int.reduceBEq, Int.reduceAdd, Int.reduceSub, Int.reduceMul, Int.reduceToNat, beq_self_eq_true, e]
theorem ask4_x {m : Nat} {h : Hh} {v0 v1 v2 v3 : D} {c : Nat} (hc : c < 10) (hp : pureL [v0, v1, v2, v3] = true) (e : (clOf TT m).f 34 [v0, v1, v2, v3] ⟨0, []⟩ = .ex c ⟨0, []⟩) : (clOf TT (m + 1)).f 36 [v0, v1, v2, v3] h = .ok (rsd c) h := by
  refine own_val (fd := b_law_ask_4) rfl rfl hp rfl rfl ?_
  simp only [b_law_ask_4, stEnv, List.map, List.length, List.replicate, Nat.reduceAdd, Nat.reduceSub, List.cons_append, List.nil_append]
  rw [s_cons, try_ex (c := c) (h' := ⟨0, []⟩) (by simp (disch := (first | (with_reducible assumption) | omega | ((repeat first | rw [nx_new] | rw [nx_set] | rw [List.length_map] | rw [List.length_replicate] | rw [List.length_range] | rw [List.length_append] | rw [List.length_cons] | rw [List.length_nil]) <;> omega) | fail)) only [s_nil, s_cons, s_asg, s_unp, s_par, s_sto, s_aug, s_aus, s_exp, s_ret, s_ife, s_for, s_whi, s_rai, s_tryw, e_cst, e_var, e_fnv, e_glb, e_bin, e_neg, e_cmp, e_chn, e_and, e_or, e_not, e_ite, e_cal, e_cax, e_blt, e_isi, e_mth, e_tup, e_lst, e_sub, e_slc, e_lc, es_nil, es_cons, ea_nil, ea_cons, eo_nil, eo_cons, eb_none, eb_some, ec_none, ec_some, b_ok, b_ex, t_ok, t_ex, st_nx, st_rt, st_ex, o_some, v_some, o_add, o_sub, o_fdiv, o_mod, o_pow, c_lt, c_le, c_gt, c_ge, l_max, l_min, asgL, asg_nm, asg_tp, asg_fq, itr_fq, len_fq, isi_fq, ix_neg, sub_f0, sub_f1, List.length_cons, List.length_nil, List.length_set, List.getElem?_cons_zero, List.getElem?_cons_succ, List.set_cons_zero, List.set_cons_succ, Option.map_some, if_true, if_false, decide_true, decide_false, Bool.not_true, Bool.not_false, Nat.zero_add, Nat.reduceAdd, Nat.reduceLT, Nat.zero_lt_succ, Bool.false_eq_true, reduceIte, reduceCtorEq, thn_bind, bind_bind, thn_thn, rthn_thn, sat_nx, sat_rt, rsat_ok, get_new_ne, get_new_eq, nx_new, nx_set, get_set_ne, mk_new, mk_get, mk_set, mk_nx, setL_cons, mth_append, mth_extend, rcv_append, rcv_extend, rcv_count, it_tup, it_loc, len_tup, len_loc, tup_loc, list_tup, sub_tup, sub_at, lget_at, sto_at, aug_add, aug_sub, neg_int, itr_tup, itr_loc, itr_enuT, itr_enuL, itr_zipT, lock_nil, lock_one, unlock_nil, unlock_one, add_tup, c_eqI, c_neI, lim_eq, wipeD, forF, lcF, List.map_cons, List.map_nil, rtr_r1, rtr_r2, enum_range, get_range, len_range, ix_ok, List.getElem?_nil, List.nil_append, List.cons_append, Int.reduceLT, Int.reduceLE, Int.reduceBEq, Int.reduceAdd, Int.reduceSub, Int.reduceMul, Int.reduceToNat, beq_self_eq_true, e]) hc (by simp)]
  rfl
def gotD : Option Nat → D
  | none => rsd 7
  | some q => .int q
theorem ask4_pf {m : Nat} {h : Hh} {c : Rat} (a : Alm n s) (hc : Chn c) (h0 : 0 ≤ had) (h1 : had ≤ n) : (clOf TT (m + 7)).f 36 [.int n, .int s, .int had, fq c] h = .ok (gotD (fstP n s had c 31)) h := by
  cases e : fstP n s had c 31 with
  | some q =>
    obtain ⟨a1, a2, a3⟩ := fst_some e
    exact ask4_ok rfl rfl (rr_pf a hc h0 h1 (by omega) a2 a3)
  | none => exact ask4_x (by decide) rfl (rr_pfx a hc h0 h1 fun q hq => fst_none e q (by omega))
theorem rr_pf_x2 {m : Nat} {h : Hh} {v2 v3 : D} (a : Alm n s) (h2 : plainV v2 = true) (h3 : plainV v3 = true) (e : isIntM v2 0 n = false) : (clOf TT (m + 4)).f 34 [.int n, .int s, v2, v3] h = .ex 2 h := by
  refine own_exc (fd := b_packs_for) rfl rfl (by simp [pureL, D.pure, plain_pure h2, plain_pure h3]) rfl ⟨⟨0, []⟩, ?_⟩
  simp only [b_packs_for, stEnv, List.map, List.length, List.replicate, Nat.reduceAdd, Nat.reduceSub, List.cons_append, List.nil_append]
  simp (disch := (first | (with_reducible assumption) | omega | ((repeat first | rw [nx_new] | rw [nx_set] | rw [List.length_map] | rw [List.length_replicate] | rw [List.length_range] | rw [List.length_append] | rw [List.length_cons] | rw [List.length_nil]) <;> omega) | fail)) only [s_nil, s_cons, s_asg, s_unp, s_par, s_sto, s_aug, s_aus, s_exp, s_ret, s_ife, s_for, s_whi, s_rai, s_tryw, e_cst, e_var, e_fnv, e_glb, e_bin, e_neg, e_cmp, e_chn, e_and, e_or, e_not, e_ite, e_cal, e_cax, e_blt, e_isi, e_mth, e_tup, e_lst, e_sub, e_slc, e_lc, es_nil, es_cons, ea_nil, ea_cons, eo_nil, eo_cons, eb_none, eb_some, ec_none, ec_some, b_ok, b_ex, t_ok, t_ex, st_nx, st_rt, st_ex, o_some, v_some, o_add, o_sub, o_fdiv, o_mod, o_pow, c_lt, c_le, c_gt, c_ge, l_max, l_min, asgL, asg_nm, asg_tp, asg_fq, itr_fq, len_fq, isi_fq, ix_neg, sub_f0, sub_f1, List.length_cons, List.length_nil, List.length_set, List.getElem?_cons_zero, List.getElem?_cons_succ, List.set_cons_zero, List.set_cons_succ, Option.map_some, if_true, if_false, decide_true, decide_false, Bool.not_true, Bool.not_false, Nat.zero_add, Nat.reduceAdd, Nat.reduceLT, Nat.zero_lt_succ, Bool.false_eq_true, reduceIte, reduceCtorEq, thn_bind, bind_bind, thn_thn, rthn_thn, sat_nx, sat_rt, rsat_ok, get_new_ne, get_new_eq, nx_new, nx_set, get_set_ne, mk_new, mk_get, mk_set, mk_nx, setL_cons, mth_append, mth_extend, rcv_append, rcv_extend, rcv_count, it_tup, it_loc, len_tup, len_loc, tup_loc, list_tup, sub_tup, sub_at, lget_at, sto_at, aug_add, aug_sub, neg_int, itr_tup, itr_loc, itr_enuT, itr_enuL, itr_zipT, lock_nil, lock_one, unlock_nil, unlock_one, add_tup, c_eqI, c_neI, lim_eq, wipeD, forF, lcF, List.map_cons, List.map_nil, rtr_r1, rtr_r2, enum_range, get_range, len_range, ix_ok, List.getElem?_nil, List.nil_append, List.cons_append, Int.reduceLT, Int.reduceLE, Int.reduceBEq, Int.reduceAdd, Int.reduceSub, Int.reduceMul, Int.reduceToNat, beq_self_eq_true, r_size (n := .int n) (s := .int s) rfl rfl, sizeM_ok a, r_number h2, e]
theorem rr_pf_x3 {m : Nat} {h : Hh} {v3 : D} (a : Alm n s) (h0 : 0 ≤ had) (h1 : had ≤ n) (hp : v3.pure = true) (e : (clOf TT (m + 3)).f 33 [v3] ⟨0, []⟩ = .ex 3 ⟨0, []⟩) : (clOf TT (m + 4)).f 34 [.int n, .int s, .int had, v3] h = .ex 3 h := by
  refine own_exc (fd := b_packs_for) rfl rfl (by simp [pureL, D.pure, hp]) rfl ⟨⟨0, []⟩, ?_⟩
  simp only [b_packs_for, stEnv, List.map, List.length, List.replicate, Nat.reduceAdd, Nat.reduceSub, List.cons_append, List.nil_append]
  simp (disch := (first | (with_reducible assumption) | omega | ((repeat first | rw [nx_new] | rw [nx_set] | rw [List.length_map] | rw [List.length_replicate] | rw [List.length_range] | rw [List.length_append] | rw [List.length_cons] | rw [List.length_nil]) <;> omega) | fail)) only [s_nil, s_cons, s_asg, s_unp, s_par, s_sto, s_aug, s_aus, s_exp, s_ret, s_ife, s_for, s_whi, s_rai, s_tryw, e_cst, e_var, e_fnv, e_glb, e_bin, e_neg, e_cmp, e_chn, e_and, e_or, e_not, e_ite, e_cal, e_cax, e_blt, e_isi, e_mth, e_tup, e_lst, e_sub, e_slc, e_lc, es_nil, es_cons, ea_nil, ea_cons, eo_nil, eo_cons, eb_none, eb_some, ec_none, ec_some, b_ok, b_ex, t_ok, t_ex, st_nx, st_rt, st_ex, o_some, v_some, o_add, o_sub, o_fdiv, o_mod, o_pow, c_lt, c_le, c_gt, c_ge, l_max, l_min, asgL, asg_nm, asg_tp, asg_fq, itr_fq, len_fq, isi_fq, ix_neg, sub_f0, sub_f1, List.length_cons, List.length_nil, List.length_set, List.getElem?_cons_zero, List.getElem?_cons_succ, List.set_cons_zero, List.set_cons_succ, Option.map_some, if_true, if_false, decide_true, decide_false, Bool.not_true, Bool.not_false, Nat.zero_add, Nat.reduceAdd, Nat.reduceLT, Nat.zero_lt_succ, Bool.false_eq_true, reduceIte, reduceCtorEq, thn_bind, bind_bind, thn_thn, rthn_thn, sat_nx, sat_rt, rsat_ok, get_new_ne, get_new_eq, nx_new, nx_set, get_set_ne, mk_new, mk_get, mk_set, mk_nx, setL_cons, mth_append, mth_extend, rcv_append, rcv_extend, rcv_count, it_tup, it_loc, len_tup, len_loc, tup_loc, list_tup, sub_tup, sub_at, lget_at, sto_at, aug_add, aug_sub, neg_int, itr_tup, itr_loc, itr_enuT, itr_enuL, itr_zipT, lock_nil, lock_one, unlock_nil, unlock_one, add_tup, c_eqI, c_neI, lim_eq, wipeD, forF, lcF, List.map_cons, List.map_nil, rtr_r1, rtr_r2, enum_range, get_range, len_range, ix_ok, List.getElem?_nil, List.nil_append, List.cons_append, Int.reduceLT, Int.reduceLE, Int.reduceBEq, Int.reduceAdd, Int.reduceSub, Int.reduceMul, Int.reduceToNat, beq_self_eq_true, r_size (n := .int n) (s := .int s) rfl rfl, sizeM_ok a, r_number (v := .int had) (k := n) rfl, num_ok h0 h1, e]
end
/-- chances that are none -/
theorem bad_chance : ((clOf TT 9).f 33 [.non] ⟨0, []⟩ = .ex 3 ⟨0, []⟩) ∧ ((clOf TT 9).f 33 [.int 5] ⟨0, []⟩ = .ex 3 ⟨0, []⟩) ∧ ((clOf TT 9).f 33 [.tup [.int 1]] ⟨0, []⟩ = .ex 3 ⟨0, []⟩) ∧ ((clOf TT 9).f 33 [.tup [.int 0, .int 1]] ⟨0, []⟩ = .ex 3 ⟨0, []⟩)
    ∧ ((clOf TT 9).f 33 [.tup [.int 1, .int 1]] ⟨0, []⟩ = .ex 3 ⟨0, []⟩) ∧ ((clOf TT 9).f 33 [.tup [.int 2, .int 1]] ⟨0, []⟩ = .ex 3 ⟨0, []⟩) ∧ ((clOf TT 9).f 33 [.tup [.int 2, .int 4]] ⟨0, []⟩ = .ex 3 ⟨0, []⟩)
    ∧ ((clOf TT 9).f 33 [.tup [.int 1, .int 100]] ⟨0, []⟩ = .ex 3 ⟨0, []⟩) ∧ ((clOf TT 9).f 33 [.tup [.bl true, .int 2]] ⟨0, []⟩ = .ex 3 ⟨0, []⟩) ∧ ((clOf TT 9).f 33 [.tup [.int 1, .int 2, .int 3]] ⟨0, []⟩ = .ex 3 ⟨0, []⟩) := by
  refine ⟨rfl, rfl, rfl, rfl, rfl, rfl, rfl, rfl, rfl, rfl⟩
theorem far_chk : (itI 8 1 30 (stI 8 0)).getD 8 0 * 99 < 98 * 8 ^ 30 := by decide +kernel
end Alb.Rn
set_option Elab.async false
set_option linter.all false
set_option maxRecDepth 100000
set_option maxHeartbeats 4000000
set_option pp.deepTerms false
set_option pp.deepTerms.threshold 8
namespace Alb.Rn
open PySem Alb
theorem all_chk4 : alb3 (fun n s i => decide (aB n n i n = 1) && decide (bn n n = 1)) = true := by decide +kernel
theorem A_all {n had : Int} (n1 : 1 ≤ n) (n8 : n ≤ 8) (h0 : 0 ≤ had) (h1 : had ≤ n) : A n n had.toNat n.toNat = 1 := by
  have a : Alm n n := ⟨n1, n8, n1, Int.le_refl n⟩
  have h := alb3_of all_chk4 a (i := had.toNat) (by omega)
  simp only [Bool.and_eq_true, decide_eq_true_eq] at h
  have e1 : ((n.toNat : Nat) : Int) = n := by omega
  rw [e1] at h
  have e2 : WN n n = 1 := by
    have := WN_bn a
    rw [h.2] at this
    omega
  rw [A_aB a (by omega) (by omega), h.1, e2]
  rfl
theorem sat_pick {m : Nat} {N : Env → Hh → Prop} {P : D → Hh → Prop} {ns : List Int} {a b : Nat} {zs xs : List D} {h : Hh} {k : D → Hh → SR} (hg : h.get a = some (.lst zs)) (hb : h.get b = some (.lst xs)) (hab : b ≠ a) (hl : zs.length < 99999) (hx : 0 < xs.length)
    (hk : ∀ d, d ∈ xs → Sat (k d (h.set a (.lst (zs ++ [.int 0])))) N P) : Sat (((clOf TT (m + 4)).f 35 [.scr ns, .loc a, .loc b] h).thn k) N P := by
  obtain ⟨v, v0, v1, e⟩ := r_draw (m := m) (ns := ns) (many := (xs.length : Int)) hg hl (by omega)
  have hlt : v.toNat < xs.length := by omega
  have e2 : exs (clOf TT (m + 3)) b_law_pick.body [some (.scr ns), some (.loc a), some (.loc b)] h = .rt xs[v.toNat] (h.set a (.lst (zs ++ [.int 0]))) := by
    unfold b_law_pick
    simp (disch := (first | (with_reducible assumption) | omega | ((repeat first | rw [nx_new] | rw [nx_set] | rw [List.length_map] | rw [List.length_replicate] | rw [List.length_range] | rw [List.length_append] | rw [List.length_cons] | rw [List.length_nil]) <;> omega) | fail)) only [s_nil, s_cons, s_asg, s_unp, s_par, s_sto, s_aug, s_aus, s_exp, s_ret, s_ife, s_for, s_whi, s_rai, s_tryw, e_cst, e_var, e_fnv, e_glb, e_bin, e_neg, e_cmp, e_chn, e_and, e_or, e_not, e_ite, e_cal, e_cax, e_blt, e_isi, e_mth, e_tup, e_lst, e_sub, e_slc, e_lc, es_nil, es_cons, ea_nil, ea_cons, eo_nil, eo_cons, eb_none, eb_some, ec_none, ec_some, b_ok, b_ex, t_ok, t_ex, st_nx, st_rt, st_ex, o_some, v_some, o_add, o_sub, o_fdiv, o_mod, o_pow, c_lt, c_le, c_gt, c_ge, l_max, l_min, asgL, asg_nm, asg_tp, asg_fq, itr_fq, len_fq, isi_fq, ix_neg, sub_f0, sub_f1, List.length_cons, List.length_nil, List.length_set, List.getElem?_cons_zero, List.getElem?_cons_succ, List.set_cons_zero, List.set_cons_succ, Option.map_some, if_true, if_false, decide_true, decide_false, Bool.not_true, Bool.not_false, Nat.zero_add, Nat.reduceAdd, Nat.reduceLT, Nat.zero_lt_succ, Bool.false_eq_true, reduceIte, reduceCtorEq, thn_bind, bind_bind, thn_thn, rthn_thn, sat_nx, sat_rt, rsat_ok, get_new_ne, get_new_eq, nx_new, nx_set, get_set_ne, mk_new, mk_get, mk_set, mk_nx, setL_cons, mth_append, mth_extend, rcv_append, rcv_extend, rcv_count, it_tup, it_loc, len_tup, len_loc, tup_loc, list_tup, sub_tup, sub_at, lget_at, sto_at, aug_add, aug_sub, neg_int, itr_tup, itr_loc, itr_enuT, itr_enuL, itr_zipT, lock_nil, lock_one, unlock_nil, unlock_one, add_tup, c_eqI, c_neI, lim_eq, wipeD, forF, lcF, List.map_cons, List.map_nil, rtr_r1, rtr_r2, enum_range, get_range, len_range, ix_ok, List.getElem?_nil, List.nil_append, List.cons_append, Int.reduceLT, Int.reduceLE, Int.reduceBEq, Int.reduceAdd, Int.reduceSub, Int.reduceMul, Int.reduceToNat, beq_self_eq_true, hb, e, List.getElem?_eq_getElem hlt]
  rw [clf']
  show Sat (((exs (clOf TT (m + 3)) b_law_pick.body [some (.scr ns), some (.loc a), some (.loc b)] h).r).thn k) N P
  rw [e2]
  exact hk _ (List.getElem_mem hlt)
def smlR (n s had : Int) : List Rat := (List.range 31).filterMap fun i => if 0 < (pr n s had i n.toNat).num ∧ (pr n s had i n.toNat).num < (pr n s had i n.toNat).den ∧ ((pr n s had i n.toNat).den : Int) ≤ 99 then some (pr n s had i n.toNat) else none
theorem smlR_chn {n s had : Int} {c : Rat} (h : c ∈ smlR n s had) : Chn c := by
  unfold smlR at h
  obtain ⟨i, _, e⟩ := List.mem_filterMap.mp h
  split at e
  · rename_i z
    cases e
    exact ⟨by omega, by omega, z.2.2, z.2.1⟩
  · cases e
theorem law04a {ns : List Int} (K : Ss) (hK : ∀ (n s had : Int) (c : Rat) (b : Int) (u : Option D) (h : Hh) (x : Nat), 1 ≤ n → n ≤ 6 → 1 ≤ s → s ≤ n → 0 ≤ had → had ≤ n → Chn c → x < h.nx → h.get x = some (.lst ((List.range 31).map fun i => fq (pr n s had i n.toNat))) →
      Sat (exs (clOf TT 11) K [some (.scr ns), some (.loc 0), some (.int b), some (fq c), some (.loc x), u, none, none, none, some (.int n), some (.int s), some (.int had), none, none, none, none] h) (fun _ _ => False) (fun d _ => d = .bl true)) :
    Sat (exs (clOf TT 11) (.cons k04_0 (.cons k04_1 (.cons k04_2 (.cons k04_3 (.cons k04_4 (.cons k04_5 (.cons k04_6 K))))))) [some (.scr ns), none, none, none, none, none, none, none, none, none, none, none, none, none, none, none] ⟨0, []⟩) (fun _ _ => False) (fun d _ => d = .bl true) := by
  simp (disch := (first | (with_reducible assumption) | omega | ((repeat first | rw [nx_new] | rw [nx_set] | rw [List.length_map] | rw [List.length_replicate] | rw [List.length_range] | rw [List.length_append] | rw [List.length_cons] | rw [List.length_nil]) <;> omega) | fail)) only [s_nil, s_cons, s_asg, s_unp, s_par, s_sto, s_aug, s_aus, s_exp, s_ret, s_ife, s_for, s_whi, s_rai, s_tryw, e_cst, e_var, e_fnv, e_glb, e_bin, e_neg, e_cmp, e_chn, e_and, e_or, e_not, e_ite, e_cal, e_cax, e_blt, e_isi, e_mth, e_tup, e_lst, e_sub, e_slc, e_lc, es_nil, es_cons, ea_nil, ea_cons, eo_nil, eo_cons, eb_none, eb_some, ec_none, ec_some, b_ok, b_ex, t_ok, t_ex, st_nx, st_rt, st_ex, o_some, v_some, o_add, o_sub, o_fdiv, o_mod, o_pow, c_lt, c_le, c_gt, c_ge, l_max, l_min, asgL, asg_nm, asg_tp, asg_fq, itr_fq, len_fq, isi_fq, ix_neg, sub_f0, sub_f1, List.length_cons, List.length_nil, List.length_set, List.getElem?_cons_zero, List.getElem?_cons_succ, List.set_cons_zero, List.set_cons_succ, Option.map_some, if_true, if_false, decide_true, decide_false, Bool.not_true, Bool.not_false, Nat.zero_add, Nat.reduceAdd, Nat.reduceLT, Nat.zero_lt_succ, Bool.false_eq_true, reduceIte, reduceCtorEq, thn_bind, bind_bind, thn_thn, rthn_thn, sat_nx, sat_rt, rsat_ok, get_new_ne, get_new_eq, nx_new, nx_set, get_set_ne, mk_new, mk_get, mk_set, mk_nx, setL_cons, mth_append, mth_extend, rcv_append, rcv_extend, rcv_count, it_tup, it_loc, len_tup, len_loc, tup_loc, list_tup, sub_tup, sub_at, lget_at, sto_at, aug_add, aug_sub, neg_int, itr_tup, itr_loc, itr_enuT, itr_enuL, itr_zipT, lock_nil, lock_one, unlock_nil, unlock_one, add_tup, c_eqI, c_neI, lim_eq, wipeD, forF, lcF, List.map_cons, List.map_nil, rtr_r1, rtr_r2, enum_range, get_range, len_range, ix_ok, List.getElem?_nil, List.nil_append, List.cons_append, Int.reduceLT, Int.reduceLE, Int.reduceBEq, Int.reduceAdd, Int.reduceSub, Int.reduceMul, Int.reduceToNat, beq_self_eq_true, k04_0, k04_1]
  refine sat_some (m := 7) (xs := []) rfl (by decide) (by decide) (by decide) fun n s had n1 n6 s1 sn h0 hn => ?_
  have a : Alm n s := ⟨n1, by omega, s1, sn⟩
  simp (disch := (first | (with_reducible assumption) | omega | ((repeat first | rw [nx_new] | rw [nx_set] | rw [List.length_map] | rw [List.length_replicate] | rw [List.length_range] | rw [List.length_append] | rw [List.length_cons] | rw [List.length_nil]) <;> omega) | fail)) only [s_nil, s_cons, s_asg, s_unp, s_par, s_sto, s_aug, s_aus, s_exp, s_ret, s_ife, s_for, s_whi, s_rai, s_tryw, e_cst, e_var, e_fnv, e_glb, e_bin, e_neg, e_cmp, e_chn, e_and, e_or, e_not, e_ite, e_cal, e_cax, e_blt, e_isi, e_mth, e_tup, e_lst, e_sub, e_slc, e_lc, es_nil, es_cons, ea_nil, ea_cons, eo_nil, eo_cons, eb_none, eb_some, ec_none, ec_some, b_ok, b_ex, t_ok, t_ex, st_nx, st_rt, st_ex, o_some, v_some, o_add, o_sub, o_fdiv, o_mod, o_pow, c_lt, c_le, c_gt, c_ge, l_max, l_min, asgL, asg_nm, asg_tp, asg_fq, itr_fq, len_fq, isi_fq, ix_neg, sub_f0, sub_f1, List.length_cons, List.length_nil, List.length_set, List.getElem?_cons_zero, List.getElem?_cons_succ, List.set_cons_zero, List.set_cons_succ, Option.map_some, if_true, if_false, decide_true, decide_false, Bool.not_true, Bool.not_false, Nat.zero_add, Nat.reduceAdd, Nat.reduceLT, Nat.zero_lt_succ, Bool.false_eq_true, reduceIte, reduceCtorEq, thn_bind, bind_bind, thn_thn, rthn_thn, sat_nx, sat_rt, rsat_ok, get_new_ne, get_new_eq, nx_new, nx_set, get_set_ne, mk_new, mk_get, mk_set, mk_nx, setL_cons, mth_append, mth_extend, rcv_append, rcv_extend, rcv_count, it_tup, it_loc, len_tup, len_loc, tup_loc, list_tup, sub_tup, sub_at, lget_at, sto_at, aug_add, aug_sub, neg_int, itr_tup, itr_loc, itr_enuT, itr_enuL, itr_zipT, lock_nil, lock_one, unlock_nil, unlock_one, add_tup, c_eqI, c_neI, lim_eq, wipeD, forF, lcF, List.map_cons, List.map_nil, rtr_r1, rtr_r2, enum_range, get_range, len_range, ix_ok, List.getElem?_nil, List.nil_append, List.cons_append, Int.reduceLT, Int.reduceLE, Int.reduceBEq, Int.reduceAdd, Int.reduceSub, Int.reduceMul, Int.reduceToNat, beq_self_eq_true, k04_2]
  refine sat_draw (m := 8) (xs := [.int 0, .int 0, .int 0]) rfl (by decide) (by decide) fun b b0 b1 => ?_
  simp (disch := (first | (with_reducible assumption) | omega | ((repeat first | rw [nx_new] | rw [nx_set] | rw [List.length_map] | rw [List.length_replicate] | rw [List.length_range] | rw [List.length_append] | rw [List.length_cons] | rw [List.length_nil]) <;> omega) | fail)) only [s_nil, s_cons, s_asg, s_unp, s_par, s_sto, s_aug, s_aus, s_exp, s_ret, s_ife, s_for, s_whi, s_rai, s_tryw, e_cst, e_var, e_fnv, e_glb, e_bin, e_neg, e_cmp, e_chn, e_and, e_or, e_not, e_ite, e_cal, e_cax, e_blt, e_isi, e_mth, e_tup, e_lst, e_sub, e_slc, e_lc, es_nil, es_cons, ea_nil, ea_cons, eo_nil, eo_cons, eb_none, eb_some, ec_none, ec_some, b_ok, b_ex, t_ok, t_ex, st_nx, st_rt, st_ex, o_some, v_some, o_add, o_sub, o_fdiv, o_mod, o_pow, c_lt, c_le, c_gt, c_ge, l_max, l_min, asgL, asg_nm, asg_tp, asg_fq, itr_fq, len_fq, isi_fq, ix_neg, sub_f0, sub_f1, List.length_cons, List.length_nil, List.length_set, List.getElem?_cons_zero, List.getElem?_cons_succ, List.set_cons_zero, List.set_cons_succ, Option.map_some, if_true, if_false, decide_true, decide_false, Bool.not_true, Bool.not_false, Nat.zero_add, Nat.reduceAdd, Nat.reduceLT, Nat.zero_lt_succ, Bool.false_eq_true, reduceIte, reduceCtorEq, thn_bind, bind_bind, thn_thn, rthn_thn, sat_nx, sat_rt, rsat_ok, get_new_ne, get_new_eq, nx_new, nx_set, get_set_ne, mk_new, mk_get, mk_set, mk_nx, setL_cons, mth_append, mth_extend, rcv_append, rcv_extend, rcv_count, it_tup, it_loc, len_tup, len_loc, tup_loc, list_tup, sub_tup, sub_at, lget_at, sto_at, aug_add, aug_sub, neg_int, itr_tup, itr_loc, itr_enuT, itr_enuL, itr_zipT, lock_nil, lock_one, unlock_nil, unlock_one, add_tup, c_eqI, c_neI, lim_eq, wipeD, forF, lcF, List.map_cons, List.map_nil, rtr_r1, rtr_r2, enum_range, get_range, len_range, ix_ok, List.getElem?_nil, List.nil_append, List.cons_append, Int.reduceLT, Int.reduceLE, Int.reduceBEq, Int.reduceAdd, Int.reduceSub, Int.reduceMul, Int.reduceToNat, beq_self_eq_true, k04_3]
  refine sat_draw (m := 8) rfl (by decide) (by omega) fun t t0 t1 => ?_
  have n0 : (2 + b).toNat < 2 ^ 9000 := Nat.lt_of_le_of_lt (by omega : (2 + b).toNat ≤ 99) (Nat.lt_of_lt_of_le (by decide : 99 < 2 ^ 7) (Nat.pow_le_pow_right (by decide) (by decide)))
  have c0 : Chn (mkRat (1 + t) (2 + b).toNat) := chn_mk (by omega) (by omega) (by omega)
  simp (disch := (first | (with_reducible assumption) | omega | ((repeat first | rw [nx_new] | rw [nx_set] | rw [List.length_map] | rw [List.length_replicate] | rw [List.length_range] | rw [List.length_append] | rw [List.length_cons] | rw [List.length_nil]) <;> omega) | fail)) only [s_nil, s_cons, s_asg, s_unp, s_par, s_sto, s_aug, s_aus, s_exp, s_ret, s_ife, s_for, s_whi, s_rai, s_tryw, e_cst, e_var, e_fnv, e_glb, e_bin, e_neg, e_cmp, e_chn, e_and, e_or, e_not, e_ite, e_cal, e_cax, e_blt, e_isi, e_mth, e_tup, e_lst, e_sub, e_slc, e_lc, es_nil, es_cons, ea_nil, ea_cons, eo_nil, eo_cons, eb_none, eb_some, ec_none, ec_some, b_ok, b_ex, t_ok, t_ex, st_nx, st_rt, st_ex, o_some, v_some, o_add, o_sub, o_fdiv, o_mod, o_pow, c_lt, c_le, c_gt, c_ge, l_max, l_min, asgL, asg_nm, asg_tp, asg_fq, itr_fq, len_fq, isi_fq, ix_neg, sub_f0, sub_f1, List.length_cons, List.length_nil, List.length_set, List.getElem?_cons_zero, List.getElem?_cons_succ, List.set_cons_zero, List.set_cons_succ, Option.map_some, if_true, if_false, decide_true, decide_false, Bool.not_true, Bool.not_false, Nat.zero_add, Nat.reduceAdd, Nat.reduceLT, Nat.zero_lt_succ, Bool.false_eq_true, reduceIte, reduceCtorEq, thn_bind, bind_bind, thn_thn, rthn_thn, sat_nx, sat_rt, rsat_ok, get_new_ne, get_new_eq, nx_new, nx_set, get_set_ne, mk_new, mk_get, mk_set, mk_nx, setL_cons, mth_append, mth_extend, rcv_append, rcv_extend, rcv_count, it_tup, it_loc, len_tup, len_loc, tup_loc, list_tup, sub_tup, sub_at, lget_at, sto_at, aug_add, aug_sub, neg_int, itr_tup, itr_loc, itr_enuT, itr_enuL, itr_zipT, lock_nil, lock_one, unlock_nil, unlock_one, add_tup, c_eqI, c_neI, lim_eq, wipeD, forF, lcF, List.map_cons, List.map_nil, rtr_r1, rtr_r2, enum_range, get_range, len_range, ix_ok, List.getElem?_nil, List.nil_append, List.cons_append, Int.reduceLT, Int.reduceLE, Int.reduceBEq, Int.reduceAdd, Int.reduceSub, Int.reduceMul, Int.reduceToNat, beq_self_eq_true, rr_part (by omega : 0 < 2 + b) n0]
  generalize hh : Hh.mk _ _ = h
  have g0 : h.get 0 = some (.lst [.int 0, .int 0, .int 0, .int 0, .int 0]) := by rw [← hh]; rfl
  have x0 : 0 < h.nx := by rw [← hh]; exact Nat.zero_lt_one
  clear hh
  simp (disch := (first | (with_reducible assumption) | omega | ((repeat first | rw [nx_new] | rw [nx_set] | rw [List.length_map] | rw [List.length_replicate] | rw [List.length_range] | rw [List.length_append] | rw [List.length_cons] | rw [List.length_nil]) <;> omega) | fail)) only [s_nil, s_cons, s_asg, s_unp, s_par, s_sto, s_aug, s_aus, s_exp, s_ret, s_ife, s_for, s_whi, s_rai, s_tryw, e_cst, e_var, e_fnv, e_glb, e_bin, e_neg, e_cmp, e_chn, e_and, e_or, e_not, e_ite, e_cal, e_cax, e_blt, e_isi, e_mth, e_tup, e_lst, e_sub, e_slc, e_lc, es_nil, es_cons, ea_nil, ea_cons, eo_nil, eo_cons, eb_none, eb_some, ec_none, ec_some, b_ok, b_ex, t_ok, t_ex, st_nx, st_rt, st_ex, o_some, v_some, o_add, o_sub, o_fdiv, o_mod, o_pow, c_lt, c_le, c_gt, c_ge, l_max, l_min, asgL, asg_nm, asg_tp, asg_fq, itr_fq, len_fq, isi_fq, ix_neg, sub_f0, sub_f1, List.length_cons, List.length_nil, List.length_set, List.getElem?_cons_zero, List.getElem?_cons_succ, List.set_cons_zero, List.set_cons_succ, Option.map_some, if_true, if_false, decide_true, decide_false, Bool.not_true, Bool.not_false, Nat.zero_add, Nat.reduceAdd, Nat.reduceLT, Nat.zero_lt_succ, Bool.false_eq_true, reduceIte, reduceCtorEq, thn_bind, bind_bind, thn_thn, rthn_thn, sat_nx, sat_rt, rsat_ok, get_new_ne, get_new_eq, nx_new, nx_set, get_set_ne, mk_new, mk_get, mk_set, mk_nx, setL_cons, mth_append, mth_extend, rcv_append, rcv_extend, rcv_count, it_tup, it_loc, len_tup, len_loc, tup_loc, list_tup, sub_tup, sub_at, lget_at, sto_at, aug_add, aug_sub, neg_int, itr_tup, itr_loc, itr_enuT, itr_enuL, itr_zipT, lock_nil, lock_one, unlock_nil, unlock_one, add_tup, c_eqI, c_neI, lim_eq, wipeD, forF, lcF, List.map_cons, List.map_nil, rtr_r1, rtr_r2, enum_range, get_range, len_range, ix_ok, List.getElem?_nil, List.nil_append, List.cons_append, Int.reduceLT, Int.reduceLE, Int.reduceBEq, Int.reduceAdd, Int.reduceSub, Int.reduceMul, Int.reduceToNat, beq_self_eq_true, k04_4]
  refine sat_lcR (fun i => fq (pr n s had i n.toNat)) rfl (by decide) (fun i hi => ?_) ?_
  · simp (disch := (first | (with_reducible assumption) | omega | ((repeat first | rw [nx_new] | rw [nx_set] | rw [List.length_map] | rw [List.length_replicate] | rw [List.length_range] | rw [List.length_append] | rw [List.length_cons] | rw [List.length_nil]) <;> omega) | fail)) only [s_nil, s_cons, s_asg, s_unp, s_par, s_sto, s_aug, s_aus, s_exp, s_ret, s_ife, s_for, s_whi, s_rai, s_tryw, e_cst, e_var, e_fnv, e_glb, e_bin, e_neg, e_cmp, e_chn, e_and, e_or, e_not, e_ite, e_cal, e_cax, e_blt, e_isi, e_mth, e_tup, e_lst, e_sub, e_slc, e_lc, es_nil, es_cons, ea_nil, ea_cons, eo_nil, eo_cons, eb_none, eb_some, ec_none, ec_some, b_ok, b_ex, t_ok, t_ex, st_nx, st_rt, st_ex, o_some, v_some, o_add, o_sub, o_fdiv, o_mod, o_pow, c_lt, c_le, c_gt, c_ge, l_max, l_min, asgL, asg_nm, asg_tp, asg_fq, itr_fq, len_fq, isi_fq, ix_neg, sub_f0, sub_f1, List.length_cons, List.length_nil, List.length_set, List.getElem?_cons_zero, List.getElem?_cons_succ, List.set_cons_zero, List.set_cons_succ, Option.map_some, if_true, if_false, decide_true, decide_false, Bool.not_true, Bool.not_false, Nat.zero_add, Nat.reduceAdd, Nat.reduceLT, Nat.zero_lt_succ, Bool.false_eq_true, reduceIte, reduceCtorEq, thn_bind, bind_bind, thn_thn, rthn_thn, sat_nx, sat_rt, rsat_ok, get_new_ne, get_new_eq, nx_new, nx_set, get_set_ne, mk_new, mk_get, mk_set, mk_nx, setL_cons, mth_append, mth_extend, rcv_append, rcv_extend, rcv_count, it_tup, it_loc, len_tup, len_loc, tup_loc, list_tup, sub_tup, sub_at, lget_at, sto_at, aug_add, aug_sub, neg_int, itr_tup, itr_loc, itr_enuT, itr_enuL, itr_zipT, lock_nil, lock_one, unlock_nil, unlock_one, add_tup, c_eqI, c_neI, lim_eq, wipeD, forF, lcF, List.map_cons, List.map_nil, rtr_r1, rtr_r2, enum_range, get_range, len_range, ix_ok, List.getElem?_nil, List.nil_append, List.cons_append, Int.reduceLT, Int.reduceLE, Int.reduceBEq, Int.reduceAdd, Int.reduceSub, Int.reduceMul, Int.reduceToNat, beq_self_eq_true, rr_full a h0 hn, Int.toNat_natCast]
  simp (disch := (first | (with_reducible assumption) | omega | ((repeat first | rw [nx_new] | rw [nx_set] | rw [List.length_map] | rw [List.length_replicate] | rw [List.length_range] | rw [List.length_append] | rw [List.length_cons] | rw [List.length_nil]) <;> omega) | fail)) only [s_nil, s_cons, s_asg, s_unp, s_par, s_sto, s_aug, s_aus, s_exp, s_ret, s_ife, s_for, s_whi, s_rai, s_tryw, e_cst, e_var, e_fnv, e_glb, e_bin, e_neg, e_cmp, e_chn, e_and, e_or, e_not, e_ite, e_cal, e_cax, e_blt, e_isi, e_mth, e_tup, e_lst, e_sub, e_slc, e_lc, es_nil, es_cons, ea_nil, ea_cons, eo_nil, eo_cons, eb_none, eb_some, ec_none, ec_some, b_ok, b_ex, t_ok, t_ex, st_nx, st_rt, st_ex, o_some, v_some, o_add, o_sub, o_fdiv, o_mod, o_pow, c_lt, c_le, c_gt, c_ge, l_max, l_min, asgL, asg_nm, asg_tp, asg_fq, itr_fq, len_fq, isi_fq, ix_neg, sub_f0, sub_f1, List.length_cons, List.length_nil, List.length_set, List.getElem?_cons_zero, List.getElem?_cons_succ, List.set_cons_zero, List.set_cons_succ, Option.map_some, if_true, if_false, decide_true, decide_false, Bool.not_true, Bool.not_false, Nat.zero_add, Nat.reduceAdd, Nat.reduceLT, Nat.zero_lt_succ, Bool.false_eq_true, reduceIte, reduceCtorEq, thn_bind, bind_bind, thn_thn, rthn_thn, sat_nx, sat_rt, rsat_ok, get_new_ne, get_new_eq, nx_new, nx_set, get_set_ne, mk_new, mk_get, mk_set, mk_nx, setL_cons, mth_append, mth_extend, rcv_append, rcv_extend, rcv_count, it_tup, it_loc, len_tup, len_loc, tup_loc, list_tup, sub_tup, sub_at, lget_at, sto_at, aug_add, aug_sub, neg_int, itr_tup, itr_loc, itr_enuT, itr_enuL, itr_zipT, lock_nil, lock_one, unlock_nil, unlock_one, add_tup, c_eqI, c_neI, lim_eq, wipeD, forF, lcF, List.map_cons, List.map_nil, rtr_r1, rtr_r2, enum_range, get_range, len_range, ix_ok, List.getElem?_nil, List.nil_append, List.cons_append, Int.reduceLT, Int.reduceLE, Int.reduceBEq, Int.reduceAdd, Int.reduceSub, Int.reduceMul, Int.reduceToNat, beq_self_eq_true, k04_5]
  generalize hx : h.nx = x
  refine sat_lcF (xs := List.range 31) (fun i => (if 0 < (pr n s had i n.toNat).num ∧ (pr n s had i n.toNat).num < (pr n s had i n.toNat).den ∧ ((pr n s had i n.toNat).den : Int) ≤ 99 then some (pr n s had i n.toNat) else none).map fq) (unlock_lock (get_new_eq hx.symm)) (by simp) (fun i hi => ?_) ?_
  · by_cases z1 : 0 < (pr n s had i n.toNat).num
    · by_cases z2 : (pr n s had i n.toNat).num < (pr n s had i n.toNat).den
      · by_cases z3 : ((pr n s had i n.toNat).den : Int) ≤ 99
        · simp (disch := (first | (with_reducible assumption) | omega | ((repeat first | rw [nx_new] | rw [nx_set] | rw [List.length_map] | rw [List.length_replicate] | rw [List.length_range] | rw [List.length_append] | rw [List.length_cons] | rw [List.length_nil]) <;> omega) | fail)) only [s_nil, s_cons, s_asg, s_unp, s_par, s_sto, s_aug, s_aus, s_exp, s_ret, s_ife, s_for, s_whi, s_rai, s_tryw, e_cst, e_var, e_fnv, e_glb, e_bin, e_neg, e_cmp, e_chn, e_and, e_or, e_not, e_ite, e_cal, e_cax, e_blt, e_isi, e_mth, e_tup, e_lst, e_sub, e_slc, e_lc, es_nil, es_cons, ea_nil, ea_cons, eo_nil, eo_cons, eb_none, eb_some, ec_none, ec_some, b_ok, b_ex, t_ok, t_ex, st_nx, st_rt, st_ex, o_some, v_some, o_add, o_sub, o_fdiv, o_mod, o_pow, c_lt, c_le, c_gt, c_ge, l_max, l_min, asgL, asg_nm, asg_tp, asg_fq, itr_fq, len_fq, isi_fq, ix_neg, sub_f0, sub_f1, List.length_cons, List.length_nil, List.length_set, List.getElem?_cons_zero, List.getElem?_cons_succ, List.set_cons_zero, List.set_cons_succ, Option.map_some, if_true, if_false, decide_true, decide_false, Bool.not_true, Bool.not_false, Nat.zero_add, Nat.reduceAdd, Nat.reduceLT, Nat.zero_lt_succ, Bool.false_eq_true, reduceIte, reduceCtorEq, thn_bind, bind_bind, thn_thn, rthn_thn, sat_nx, sat_rt, rsat_ok, get_new_ne, get_new_eq, nx_new, nx_set, get_set_ne, mk_new, mk_get, mk_set, mk_nx, setL_cons, mth_append, mth_extend, rcv_append, rcv_extend, rcv_count, it_tup, it_loc, len_tup, len_loc, tup_loc, list_tup, sub_tup, sub_at, lget_at, sto_at, aug_add, aug_sub, neg_int, itr_tup, itr_loc, itr_enuT, itr_enuL, itr_zipT, lock_nil, lock_one, unlock_nil, unlock_one, add_tup, c_eqI, c_neI, lim_eq, wipeD, forF, lcF, List.map_cons, List.map_nil, rtr_r1, rtr_r2, enum_range, get_range, len_range, ix_ok, List.getElem?_nil, List.nil_append, List.cons_append, Int.reduceLT, Int.reduceLE, Int.reduceBEq, Int.reduceAdd, Int.reduceSub, Int.reduceMul, Int.reduceToNat, beq_self_eq_true, e_chn3, z1, z2, z3, and_self]
        · simp (disch := (first | (with_reducible assumption) | omega | ((repeat first | rw [nx_new] | rw [nx_set] | rw [List.length_map] | rw [List.length_replicate] | rw [List.length_range] | rw [List.length_append] | rw [List.length_cons] | rw [List.length_nil]) <;> omega) | fail)) only [s_nil, s_cons, s_asg, s_unp, s_par, s_sto, s_aug, s_aus, s_exp, s_ret, s_ife, s_for, s_whi, s_rai, s_tryw, e_cst, e_var, e_fnv, e_glb, e_bin, e_neg, e_cmp, e_chn, e_and, e_or, e_not, e_ite, e_cal, e_cax, e_blt, e_isi, e_mth, e_tup, e_lst, e_sub, e_slc, e_lc, es_nil, es_cons, ea_nil, ea_cons, eo_nil, eo_cons, eb_none, eb_some, ec_none, ec_some, b_ok, b_ex, t_ok, t_ex, st_nx, st_rt, st_ex, o_some, v_some, o_add, o_sub, o_fdiv, o_mod, o_pow, c_lt, c_le, c_gt, c_ge, l_max, l_min, asgL, asg_nm, asg_tp, asg_fq, itr_fq, len_fq, isi_fq, ix_neg, sub_f0, sub_f1, List.length_cons, List.length_nil, List.length_set, List.getElem?_cons_zero, List.getElem?_cons_succ, List.set_cons_zero, List.set_cons_succ, Option.map_some, if_true, if_false, decide_true, decide_false, Bool.not_true, Bool.not_false, Nat.zero_add, Nat.reduceAdd, Nat.reduceLT, Nat.zero_lt_succ, Bool.false_eq_true, reduceIte, reduceCtorEq, thn_bind, bind_bind, thn_thn, rthn_thn, sat_nx, sat_rt, rsat_ok, get_new_ne, get_new_eq, nx_new, nx_set, get_set_ne, mk_new, mk_get, mk_set, mk_nx, setL_cons, mth_append, mth_extend, rcv_append, rcv_extend, rcv_count, it_tup, it_loc, len_tup, len_loc, tup_loc, list_tup, sub_tup, sub_at, lget_at, sto_at, aug_add, aug_sub, neg_int, itr_tup, itr_loc, itr_enuT, itr_enuL, itr_zipT, lock_nil, lock_one, unlock_nil, unlock_one, add_tup, c_eqI, c_neI, lim_eq, wipeD, forF, lcF, List.map_cons, List.map_nil, rtr_r1, rtr_r2, enum_range, get_range, len_range, ix_ok, List.getElem?_nil, List.nil_append, List.cons_append, Int.reduceLT, Int.reduceLE, Int.reduceBEq, Int.reduceAdd, Int.reduceSub, Int.reduceMul, Int.reduceToNat, beq_self_eq_true, e_chn3, z1, z2, z3, and_false, Option.map_none]
      · simp (disch := (first | (with_reducible assumption) | omega | ((repeat first | rw [nx_new] | rw [nx_set] | rw [List.length_map] | rw [List.length_replicate] | rw [List.length_range] | rw [List.length_append] | rw [List.length_cons] | rw [List.length_nil]) <;> omega) | fail)) only [s_nil, s_cons, s_asg, s_unp, s_par, s_sto, s_aug, s_aus, s_exp, s_ret, s_ife, s_for, s_whi, s_rai, s_tryw, e_cst, e_var, e_fnv, e_glb, e_bin, e_neg, e_cmp, e_chn, e_and, e_or, e_not, e_ite, e_cal, e_cax, e_blt, e_isi, e_mth, e_tup, e_lst, e_sub, e_slc, e_lc, es_nil, es_cons, ea_nil, ea_cons, eo_nil, eo_cons, eb_none, eb_some, ec_none, ec_some, b_ok, b_ex, t_ok, t_ex, st_nx, st_rt, st_ex, o_some, v_some, o_add, o_sub, o_fdiv, o_mod, o_pow, c_lt, c_le, c_gt, c_ge, l_max, l_min, asgL, asg_nm, asg_tp, asg_fq, itr_fq, len_fq, isi_fq, ix_neg, sub_f0, sub_f1, List.length_cons, List.length_nil, List.length_set, List.getElem?_cons_zero, List.getElem?_cons_succ, List.set_cons_zero, List.set_cons_succ, Option.map_some, if_true, if_false, decide_true, decide_false, Bool.not_true, Bool.not_false, Nat.zero_add, Nat.reduceAdd, Nat.reduceLT, Nat.zero_lt_succ, Bool.false_eq_true, reduceIte, reduceCtorEq, thn_bind, bind_bind, thn_thn, rthn_thn, sat_nx, sat_rt, rsat_ok, get_new_ne, get_new_eq, nx_new, nx_set, get_set_ne, mk_new, mk_get, mk_set, mk_nx, setL_cons, mth_append, mth_extend, rcv_append, rcv_extend, rcv_count, it_tup, it_loc, len_tup, len_loc, tup_loc, list_tup, sub_tup, sub_at, lget_at, sto_at, aug_add, aug_sub, neg_int, itr_tup, itr_loc, itr_enuT, itr_enuL, itr_zipT, lock_nil, lock_one, unlock_nil, unlock_one, add_tup, c_eqI, c_neI, lim_eq, wipeD, forF, lcF, List.map_cons, List.map_nil, rtr_r1, rtr_r2, enum_range, get_range, len_range, ix_ok, List.getElem?_nil, List.nil_append, List.cons_append, Int.reduceLT, Int.reduceLE, Int.reduceBEq, Int.reduceAdd, Int.reduceSub, Int.reduceMul, Int.reduceToNat, beq_self_eq_true, e_chn3, z1, z2, false_and, and_false, Option.map_none]
    · simp (disch := (first | (with_reducible assumption) | omega | ((repeat first | rw [nx_new] | rw [nx_set] | rw [List.length_map] | rw [List.length_replicate] | rw [List.length_range] | rw [List.length_append] | rw [List.length_cons] | rw [List.length_nil]) <;> omega) | fail)) only [s_nil, s_cons, s_asg, s_unp, s_par, s_sto, s_aug, s_aus, s_exp, s_ret, s_ife, s_for, s_whi, s_rai, s_tryw, e_cst, e_var, e_fnv, e_glb, e_bin, e_neg, e_cmp, e_chn, e_and, e_or, e_not, e_ite, e_cal, e_cax, e_blt, e_isi, e_mth, e_tup, e_lst, e_sub, e_slc, e_lc, es_nil, es_cons, ea_nil, ea_cons, eo_nil, eo_cons, eb_none, eb_some, ec_none, ec_some, b_ok, b_ex, t_ok, t_ex, st_nx, st_rt, st_ex, o_some, v_some, o_add, o_sub, o_fdiv, o_mod, o_pow, c_lt, c_le, c_gt, c_ge, l_max, l_min, asgL, asg_nm, asg_tp, asg_fq, itr_fq, len_fq, isi_fq, ix_neg, sub_f0, sub_f1, List.length_cons, List.length_nil, List.length_set, List.getElem?_cons_zero, List.getElem?_cons_succ, List.set_cons_zero, List.set_cons_succ, Option.map_some, if_true, if_false, decide_true, decide_false, Bool.not_true, Bool.not_false, Nat.zero_add, Nat.reduceAdd, Nat.reduceLT, Nat.zero_lt_succ, Bool.false_eq_true, reduceIte, reduceCtorEq, thn_bind, bind_bind, thn_thn, rthn_thn, sat_nx, sat_rt, rsat_ok, get_new_ne, get_new_eq, nx_new, nx_set, get_set_ne, mk_new, mk_get, mk_set, mk_nx, setL_cons, mth_append, mth_extend, rcv_append, rcv_extend, rcv_count, it_tup, it_loc, len_tup, len_loc, tup_loc, list_tup, sub_tup, sub_at, lget_at, sto_at, aug_add, aug_sub, neg_int, itr_tup, itr_loc, itr_enuT, itr_enuL, itr_zipT, lock_nil, lock_one, unlock_nil, unlock_one, add_tup, c_eqI, c_neI, lim_eq, wipeD, forF, lcF, List.map_cons, List.map_nil, rtr_r1, rtr_r2, enum_range, get_range, len_range, ix_ok, List.getElem?_nil, List.nil_append, List.cons_append, Int.reduceLT, Int.reduceLE, Int.reduceBEq, Int.reduceAdd, Int.reduceSub, Int.reduceMul, Int.reduceToNat, beq_self_eq_true, e_chn3, z1, false_and, Option.map_none]
  have es : (List.range 31).filterMap (fun i => (if 0 < (pr n s had i n.toNat).num ∧ (pr n s had i n.toNat).num < (pr n s had i n.toNat).den ∧ ((pr n s had i n.toNat).den : Int) ≤ 99 then some (pr n s had i n.toNat) else none).map fq) = (smlR n s had).map fq := by
    unfold smlR
    rw [List.map_filterMap]
  rw [es]
  simp (disch := (first | (with_reducible assumption) | omega | ((repeat first | rw [nx_new] | rw [nx_set] | rw [List.length_map] | rw [List.length_replicate] | rw [List.length_range] | rw [List.length_append] | rw [List.length_cons] | rw [List.length_nil]) <;> omega) | fail)) only [s_nil, s_cons, s_asg, s_unp, s_par, s_sto, s_aug, s_aus, s_exp, s_ret, s_ife, s_for, s_whi, s_rai, s_tryw, e_cst, e_var, e_fnv, e_glb, e_bin, e_neg, e_cmp, e_chn, e_and, e_or, e_not, e_ite, e_cal, e_cax, e_blt, e_isi, e_mth, e_tup, e_lst, e_sub, e_slc, e_lc, es_nil, es_cons, ea_nil, ea_cons, eo_nil, eo_cons, eb_none, eb_some, ec_none, ec_some, b_ok, b_ex, t_ok, t_ex, st_nx, st_rt, st_ex, o_some, v_some, o_add, o_sub, o_fdiv, o_mod, o_pow, c_lt, c_le, c_gt, c_ge, l_max, l_min, asgL, asg_nm, asg_tp, asg_fq, itr_fq, len_fq, isi_fq, ix_neg, sub_f0, sub_f1, List.length_cons, List.length_nil, List.length_set, List.getElem?_cons_zero, List.getElem?_cons_succ, List.set_cons_zero, List.set_cons_succ, Option.map_some, if_true, if_false, decide_true, decide_false, Bool.not_true, Bool.not_false, Nat.zero_add, Nat.reduceAdd, Nat.reduceLT, Nat.zero_lt_succ, Bool.false_eq_true, reduceIte, reduceCtorEq, thn_bind, bind_bind, thn_thn, rthn_thn, sat_nx, sat_rt, rsat_ok, get_new_ne, get_new_eq, nx_new, nx_set, get_set_ne, mk_new, mk_get, mk_set, mk_nx, setL_cons, mth_append, mth_extend, rcv_append, rcv_extend, rcv_count, it_tup, it_loc, len_tup, len_loc, tup_loc, list_tup, sub_tup, sub_at, lget_at, sto_at, aug_add, aug_sub, neg_int, itr_tup, itr_loc, itr_enuT, itr_enuL, itr_zipT, lock_nil, lock_one, unlock_nil, unlock_one, add_tup, c_eqI, c_neI, lim_eq, wipeD, forF, lcF, List.map_cons, List.map_nil, rtr_r1, rtr_r2, enum_range, get_range, len_range, ix_ok, List.getElem?_nil, List.nil_append, List.cons_append, Int.reduceLT, Int.reduceLE, Int.reduceBEq, Int.reduceAdd, Int.reduceSub, Int.reduceMul, Int.reduceToNat, beq_self_eq_true, hx]
  generalize hH : (h.new _).new _ = H
  have G0 : H.get 0 = some (.lst [.int 0, .int 0, .int 0, .int 0, .int 0]) := by
    rw [← hH, get_new_ne (by rw [nx_new]; omega), get_new_ne (by omega)]
    exact g0
  have G1 : H.get x = some (.lst ((List.range 31).map fun i => fq (pr n s had i n.toNat))) := by
    rw [← hH, get_new_ne (by rw [nx_new]; omega), get_new_eq hx.symm]
  have G2 : H.get (x + 1) = some (.lst ((smlR n s had).map fq)) := by
    rw [← hH, get_new_eq (by rw [nx_new, hx])]
  have G3 : H.nx = x + 1 + 1 := by rw [← hH, nx_new, nx_new, hx]
  refine sat_cut (fun r h => ∃ c, Chn c ∧ r = [some (.scr ns), some (.loc 0), some (.int (2 + b)), some (fq c), some (.loc x), some (.loc (x + 1)), none, none, none, some (.int n), some (.int s), some (.int had), none, none, none, none] ∧ x < h.nx ∧ h.get x = some (.lst ((List.range 31).map fun i => fq (pr n s had i n.toNat)))) ?_ fun r h hv => ?_
  · simp (disch := (first | (with_reducible assumption) | omega | ((repeat first | rw [nx_new] | rw [nx_set] | rw [List.length_map] | rw [List.length_replicate] | rw [List.length_range] | rw [List.length_append] | rw [List.length_cons] | rw [List.length_nil]) <;> omega) | fail)) only [s_nil, s_cons, s_asg, s_unp, s_par, s_sto, s_aug, s_aus, s_exp, s_ret, s_ife, s_for, s_whi, s_rai, s_tryw, e_cst, e_var, e_fnv, e_glb, e_bin, e_neg, e_cmp, e_chn, e_and, e_or, e_not, e_ite, e_cal, e_cax, e_blt, e_isi, e_mth, e_tup, e_lst, e_sub, e_slc, e_lc, es_nil, es_cons, ea_nil, ea_cons, eo_nil, eo_cons, eb_none, eb_some, ec_none, ec_some, b_ok, b_ex, t_ok, t_ex, st_nx, st_rt, st_ex, o_some, v_some, o_add, o_sub, o_fdiv, o_mod, o_pow, c_lt, c_le, c_gt, c_ge, l_max, l_min, asgL, asg_nm, asg_tp, asg_fq, itr_fq, len_fq, isi_fq, ix_neg, sub_f0, sub_f1, List.length_cons, List.length_nil, List.length_set, List.getElem?_cons_zero, List.getElem?_cons_succ, List.set_cons_zero, List.set_cons_succ, Option.map_some, if_true, if_false, decide_true, decide_false, Bool.not_true, Bool.not_false, Nat.zero_add, Nat.reduceAdd, Nat.reduceLT, Nat.zero_lt_succ, Bool.false_eq_true, reduceIte, reduceCtorEq, thn_bind, bind_bind, thn_thn, rthn_thn, sat_nx, sat_rt, rsat_ok, get_new_ne, get_new_eq, nx_new, nx_set, get_set_ne, mk_new, mk_get, mk_set, mk_nx, setL_cons, mth_append, mth_extend, rcv_append, rcv_extend, rcv_count, it_tup, it_loc, len_tup, len_loc, tup_loc, list_tup, sub_tup, sub_at, lget_at, sto_at, aug_add, aug_sub, neg_int, itr_tup, itr_loc, itr_enuT, itr_enuL, itr_zipT, lock_nil, lock_one, unlock_nil, unlock_one, add_tup, c_eqI, c_neI, lim_eq, wipeD, forF, lcF, List.map_cons, List.map_nil, rtr_r1, rtr_r2, enum_range, get_range, len_range, ix_ok, List.getElem?_nil, List.nil_append, List.cons_append, Int.reduceLT, Int.reduceLE, Int.reduceBEq, Int.reduceAdd, Int.reduceSub, Int.reduceMul, Int.reduceToNat, beq_self_eq_true, k04_6]
    rw [c_neVL vRat (l := smlR n s had) (l' := []) (by decide) (by rw [get_new_ne (by omega)]; exact G2) (by rw [get_new_eq rfl]; rfl)]
    by_cases z : smlR n s had = []
    · simp (disch := (first | (with_reducible assumption) | omega | ((repeat first | rw [nx_new] | rw [nx_set] | rw [List.length_map] | rw [List.length_replicate] | rw [List.length_range] | rw [List.length_append] | rw [List.length_cons] | rw [List.length_nil]) <;> omega) | fail)) only [s_nil, s_cons, s_asg, s_unp, s_par, s_sto, s_aug, s_aus, s_exp, s_ret, s_ife, s_for, s_whi, s_rai, s_tryw, e_cst, e_var, e_fnv, e_glb, e_bin, e_neg, e_cmp, e_chn, e_and, e_or, e_not, e_ite, e_cal, e_cax, e_blt, e_isi, e_mth, e_tup, e_lst, e_sub, e_slc, e_lc, es_nil, es_cons, ea_nil, ea_cons, eo_nil, eo_cons, eb_none, eb_some, ec_none, ec_some, b_ok, b_ex, t_ok, t_ex, st_nx, st_rt, st_ex, o_some, v_some, o_add, o_sub, o_fdiv, o_mod, o_pow, c_lt, c_le, c_gt, c_ge, l_max, l_min, asgL, asg_nm, asg_tp, asg_fq, itr_fq, len_fq, isi_fq, ix_neg, sub_f0, sub_f1, List.length_cons, List.length_nil, List.length_set, List.getElem?_cons_zero, List.getElem?_cons_succ, List.set_cons_zero, List.set_cons_succ, Option.map_some, if_true, if_false, decide_true, decide_false, Bool.not_true, Bool.not_false, Nat.zero_add, Nat.reduceAdd, Nat.reduceLT, Nat.zero_lt_succ, Bool.false_eq_true, reduceIte, reduceCtorEq, thn_bind, bind_bind, thn_thn, rthn_thn, sat_nx, sat_rt, rsat_ok, get_new_ne, get_new_eq, nx_new, nx_set, get_set_ne, mk_new, mk_get, mk_set, mk_nx, setL_cons, mth_append, mth_extend, rcv_append, rcv_extend, rcv_count, it_tup, it_loc, len_tup, len_loc, tup_loc, list_tup, sub_tup, sub_at, lget_at, sto_at, aug_add, aug_sub, neg_int, itr_tup, itr_loc, itr_enuT, itr_enuL, itr_zipT, lock_nil, lock_one, unlock_nil, unlock_one, add_tup, c_eqI, c_neI, lim_eq, wipeD, forF, lcF, List.map_cons, List.map_nil, rtr_r1, rtr_r2, enum_range, get_range, len_range, ix_ok, List.getElem?_nil, List.nil_append, List.cons_append, Int.reduceLT, Int.reduceLE, Int.reduceBEq, Int.reduceAdd, Int.reduceSub, Int.reduceMul, Int.reduceToNat, beq_self_eq_true, z]
      exact ⟨_, c0, rfl, by omega, G1⟩
    · simp (disch := (first | (with_reducible assumption) | omega | ((repeat first | rw [nx_new] | rw [nx_set] | rw [List.length_map] | rw [List.length_replicate] | rw [List.length_range] | rw [List.length_append] | rw [List.length_cons] | rw [List.length_nil]) <;> omega) | fail)) only [s_nil, s_cons, s_asg, s_unp, s_par, s_sto, s_aug, s_aus, s_exp, s_ret, s_ife, s_for, s_whi, s_rai, s_tryw, e_cst, e_var, e_fnv, e_glb, e_bin, e_neg, e_cmp, e_chn, e_and, e_or, e_not, e_ite, e_cal, e_cax, e_blt, e_isi, e_mth, e_tup, e_lst, e_sub, e_slc, e_lc, es_nil, es_cons, ea_nil, ea_cons, eo_nil, eo_cons, eb_none, eb_some, ec_none, ec_some, b_ok, b_ex, t_ok, t_ex, st_nx, st_rt, st_ex, o_some, v_some, o_add, o_sub, o_fdiv, o_mod, o_pow, c_lt, c_le, c_gt, c_ge, l_max, l_min, asgL, asg_nm, asg_tp, asg_fq, itr_fq, len_fq, isi_fq, ix_neg, sub_f0, sub_f1, List.length_cons, List.length_nil, List.length_set, List.getElem?_cons_zero, List.getElem?_cons_succ, List.set_cons_zero, List.set_cons_succ, Option.map_some, if_true, if_false, decide_true, decide_false, Bool.not_true, Bool.not_false, Nat.zero_add, Nat.reduceAdd, Nat.reduceLT, Nat.zero_lt_succ, Bool.false_eq_true, reduceIte, reduceCtorEq, thn_bind, bind_bind, thn_thn, rthn_thn, sat_nx, sat_rt, rsat_ok, get_new_ne, get_new_eq, nx_new, nx_set, get_set_ne, mk_new, mk_get, mk_set, mk_nx, setL_cons, mth_append, mth_extend, rcv_append, rcv_extend, rcv_count, it_tup, it_loc, len_tup, len_loc, tup_loc, list_tup, sub_tup, sub_at, lget_at, sto_at, aug_add, aug_sub, neg_int, itr_tup, itr_loc, itr_enuT, itr_enuL, itr_zipT, lock_nil, lock_one, unlock_nil, unlock_one, add_tup, c_eqI, c_neI, lim_eq, wipeD, forF, lcF, List.map_cons, List.map_nil, rtr_r1, rtr_r2, enum_range, get_range, len_range, ix_ok, List.getElem?_nil, List.nil_append, List.cons_append, Int.reduceLT, Int.reduceLE, Int.reduceBEq, Int.reduceAdd, Int.reduceSub, Int.reduceMul, Int.reduceToNat, beq_self_eq_true, z]
      refine sat_draw (m := 8) (xs := [.int 0, .int 0, .int 0, .int 0, .int 0]) (by rw [get_new_ne (by omega)]; exact G0) (by decide) (by decide) fun v v0 v1 => ?_
      by_cases y : v = 0
      · have y' : (v == 0) = true := by simpa using y
        simp (disch := (first | (with_reducible assumption) | omega | ((repeat first | rw [nx_new] | rw [nx_set] | rw [List.length_map] | rw [List.length_replicate] | rw [List.length_range] | rw [List.length_append] | rw [List.length_cons] | rw [List.length_nil]) <;> omega) | fail)) only [s_nil, s_cons, s_asg, s_unp, s_par, s_sto, s_aug, s_aus, s_exp, s_ret, s_ife, s_for, s_whi, s_rai, s_tryw, e_cst, e_var, e_fnv, e_glb, e_bin, e_neg, e_cmp, e_chn, e_and, e_or, e_not, e_ite, e_cal, e_cax, e_blt, e_isi, e_mth, e_tup, e_lst, e_sub, e_slc, e_lc, es_nil, es_cons, ea_nil, ea_cons, eo_nil, eo_cons, eb_none, eb_some, ec_none, ec_some, b_ok, b_ex, t_ok, t_ex, st_nx, st_rt, st_ex, o_some, v_some, o_add, o_sub, o_fdiv, o_mod, o_pow, c_lt, c_le, c_gt, c_ge, l_max, l_min, asgL, asg_nm, asg_tp, asg_fq, itr_fq, len_fq, isi_fq, ix_neg, sub_f0, sub_f1, List.length_cons, List.length_nil, List.length_set, List.getElem?_cons_zero, List.getElem?_cons_succ, List.set_cons_zero, List.set_cons_succ, Option.map_some, if_true, if_false, decide_true, decide_false, Bool.not_true, Bool.not_false, Nat.zero_add, Nat.reduceAdd, Nat.reduceLT, Nat.zero_lt_succ, Bool.false_eq_true, reduceIte, reduceCtorEq, thn_bind, bind_bind, thn_thn, rthn_thn, sat_nx, sat_rt, rsat_ok, get_new_ne, get_new_eq, nx_new, nx_set, get_set_ne, mk_new, mk_get, mk_set, mk_nx, setL_cons, mth_append, mth_extend, rcv_append, rcv_extend, rcv_count, it_tup, it_loc, len_tup, len_loc, tup_loc, list_tup, sub_tup, sub_at, lget_at, sto_at, aug_add, aug_sub, neg_int, itr_tup, itr_loc, itr_enuT, itr_enuL, itr_zipT, lock_nil, lock_one, unlock_nil, unlock_one, add_tup, c_eqI, c_neI, lim_eq, wipeD, forF, lcF, List.map_cons, List.map_nil, rtr_r1, rtr_r2, enum_range, get_range, len_range, ix_ok, List.getElem?_nil, List.nil_append, List.cons_append, Int.reduceLT, Int.reduceLE, Int.reduceBEq, Int.reduceAdd, Int.reduceSub, Int.reduceMul, Int.reduceToNat, beq_self_eq_true, y']
        refine sat_pick (m := 7) (zs := [.int 0, .int 0, .int 0, .int 0, .int 0] ++ [.int 0]) (xs := (smlR n s had).map fq) (get_set_eq (o' := .lst [.int 0, .int 0, .int 0, .int 0, .int 0]) (by rw [get_new_ne (by omega)]; exact G0)) (by rw [get_set_ne (by omega), get_new_ne (by omega)]; exact G2) (by omega) (by decide) (by rw [List.length_map]; exact List.length_pos_iff.mpr z) fun d hd => ?_
        obtain ⟨c, hc, rfl⟩ := List.mem_map.mp hd
        simp (disch := (first | (with_reducible assumption) | omega | ((repeat first | rw [nx_new] | rw [nx_set] | rw [List.length_map] | rw [List.length_replicate] | rw [List.length_range] | rw [List.length_append] | rw [List.length_cons] | rw [List.length_nil]) <;> omega) | fail)) only [s_nil, s_cons, s_asg, s_unp, s_par, s_sto, s_aug, s_aus, s_exp, s_ret, s_ife, s_for, s_whi, s_rai, s_tryw, e_cst, e_var, e_fnv, e_glb, e_bin, e_neg, e_cmp, e_chn, e_and, e_or, e_not, e_ite, e_cal, e_cax, e_blt, e_isi, e_mth, e_tup, e_lst, e_sub, e_slc, e_lc, es_nil, es_cons, ea_nil, ea_cons, eo_nil, eo_cons, eb_none, eb_some, ec_none, ec_some, b_ok, b_ex, t_ok, t_ex, st_nx, st_rt, st_ex, o_some, v_some, o_add, o_sub, o_fdiv, o_mod, o_pow, c_lt, c_le, c_gt, c_ge, l_max, l_min, asgL, asg_nm, asg_tp, asg_fq, itr_fq, len_fq, isi_fq, ix_neg, sub_f0, sub_f1, List.length_cons, List.length_nil, List.length_set, List.getElem?_cons_zero, List.getElem?_cons_succ, List.set_cons_zero, List.set_cons_succ, Option.map_some, if_true, if_false, decide_true, decide_false, Bool.not_true, Bool.not_false, Nat.zero_add, Nat.reduceAdd, Nat.reduceLT, Nat.zero_lt_succ, Bool.false_eq_true, reduceIte, reduceCtorEq, thn_bind, bind_bind, thn_thn, rthn_thn, sat_nx, sat_rt, rsat_ok, get_new_ne, get_new_eq, nx_new, nx_set, get_set_ne, mk_new, mk_get, mk_set, mk_nx, setL_cons, mth_append, mth_extend, rcv_append, rcv_extend, rcv_count, it_tup, it_loc, len_tup, len_loc, tup_loc, list_tup, sub_tup, sub_at, lget_at, sto_at, aug_add, aug_sub, neg_int, itr_tup, itr_loc, itr_enuT, itr_enuL, itr_zipT, lock_nil, lock_one, unlock_nil, unlock_one, add_tup, c_eqI, c_neI, lim_eq, wipeD, forF, lcF, List.map_cons, List.map_nil, rtr_r1, rtr_r2, enum_range, get_range, len_range, ix_ok, List.getElem?_nil, List.nil_append, List.cons_append, Int.reduceLT, Int.reduceLE, Int.reduceBEq, Int.reduceAdd, Int.reduceSub, Int.reduceMul, Int.reduceToNat, beq_self_eq_true]
        exact ⟨c, smlR_chn hc, rfl, by omega, G1⟩
      · have y' : (v == 0) = false := by simpa using y
        simp (disch := (first | (with_reducible assumption) | omega | ((repeat first | rw [nx_new] | rw [nx_set] | rw [List.length_map] | rw [List.length_replicate] | rw [List.length_range] | rw [List.length_append] | rw [List.length_cons] | rw [List.length_nil]) <;> omega) | fail)) only [s_nil, s_cons, s_asg, s_unp, s_par, s_sto, s_aug, s_aus, s_exp, s_ret, s_ife, s_for, s_whi, s_rai, s_tryw, e_cst, e_var, e_fnv, e_glb, e_bin, e_neg, e_cmp, e_chn, e_and, e_or, e_not, e_ite, e_cal, e_cax, e_blt, e_isi, e_mth, e_tup, e_lst, e_sub, e_slc, e_lc, es_nil, es_cons, ea_nil, ea_cons, eo_nil, eo_cons, eb_none, eb_some, ec_none, ec_some, b_ok, b_ex, t_ok, t_ex, st_nx, st_rt, st_ex, o_some, v_some, o_add, o_sub, o_fdiv, o_mod, o_pow, c_lt, c_le, c_gt, c_ge, l_max, l_min, asgL, asg_nm, asg_tp, asg_fq, itr_fq, len_fq, isi_fq, ix_neg, sub_f0, sub_f1, List.length_cons, List.length_nil, List.length_set, List.getElem?_cons_zero, List.getElem?_cons_succ, List.set_cons_zero, List.set_cons_succ, Option.map_some, if_true, if_false, decide_true, decide_false, Bool.not_true, Bool.not_false, Nat.zero_add, Nat.reduceAdd, Nat.reduceLT, Nat.zero_lt_succ, Bool.false_eq_true, reduceIte, reduceCtorEq, thn_bind, bind_bind, thn_thn, rthn_thn, sat_nx, sat_rt, rsat_ok, get_new_ne, get_new_eq, nx_new, nx_set, get_set_ne, mk_new, mk_get, mk_set, mk_nx, setL_cons, mth_append, mth_extend, rcv_append, rcv_extend, rcv_count, it_tup, it_loc, len_tup, len_loc, tup_loc, list_tup, sub_tup, sub_at, lget_at, sto_at, aug_add, aug_sub, neg_int, itr_tup, itr_loc, itr_enuT, itr_enuL, itr_zipT, lock_nil, lock_one, unlock_nil, unlock_one, add_tup, c_eqI, c_neI, lim_eq, wipeD, forF, lcF, List.map_cons, List.map_nil, rtr_r1, rtr_r2, enum_range, get_range, len_range, ix_ok, List.getElem?_nil, List.nil_append, List.cons_append, Int.reduceLT, Int.reduceLE, Int.reduceBEq, Int.reduceAdd, Int.reduceSub, Int.reduceMul, Int.reduceToNat, beq_self_eq_true, y']
        exact ⟨_, c0, rfl, by omega, G1⟩
  · obtain ⟨c, hc, rfl, hx', hg⟩ := hv
    exact hK n s had c (2 + b) _ h x n1 n6 s1 sn h0 hn hc hx' hg
theorem isx_non {h : Hh} : cmpD .isx .non .non h = some true := rfl
theorem isx_int {i : Int} {h : Hh} : cmpD .isx (.int i) .non h = some false := rfl
theorem nis_non {h : Hh} : cmpD .nis .non .non h = some false := rfl
theorem nis_int {i : Int} {h : Hh} : cmpD .nis (.int i) .non h = some true := rfl
theorem c_ltF {c : Rat} (hc : Chn c) : 0 < c ∧ c ≤ 1 := by
  obtain ⟨q1, q2, d1, lt⟩ := hc
  constructor
  · rw [Rat.lt_iff]
    simp
    omega
  · rw [Rat.le_iff]
    simp
    omega
theorem far_ex {h : Hh} : (clOf TT 11).f 36 [.int 8, .int 1, .int 0, fq (mkRat 98 99)] h = .ok (rsd 7) h := by
  have a : Alm 8 1 := ⟨by decide, by decide, by decide, by decide⟩
  refine ask4_x (m := 10) (by decide) rfl (rr_pfx a ⟨by decide, by decide, by decide, by decide⟩ (by decide) (by decide) fun q hq => ?_)
  have up : ∀ k : Nat, k ≤ 30 → pr 8 1 0 (30 - k) (8 : Int).toNat ≤ pr 8 1 0 30 (8 : Int).toNat := by
    intro k
    induction k with
    | zero => exact fun _ => Rat.le_refl
    | succ k ih =>
      intro hk
      have := full_grow a (Int.le_refl 0) (p := 30 - (k + 1)) (by omega)
      have e : 30 - (k + 1) + 1 = 30 - k := by omega
      rw [e] at this
      exact Rat.le_trans this (ih (by omega))
  have h1 := up (30 - q) (by omega)
  have e : 30 - (30 - q) = q := by omega
  rw [e] at h1
  have h2 : pr 8 1 0 30 (8 : Int).toNat < mkRat 98 99 := by
    have e1 : WN 8 1 = 8 := by
      have := WN_bn a
      have e2 : bn 8 1 = 8 := by decide
      omega
    unfold pr
    rw [e1]
    have w : (8 : Int).toNat = 8 := rfl
    rw [w, Rat.lt_iff_sub_pos, Rat.sub_eq_add_neg, Rat.neg_mkRat, Rat.mkRat_add_mkRat _ _ (by decide) (by decide)]
    have nn : 0 < 98 * (((8 : Nat) ^ 30 : Nat) : Int) + -(itI 8 1 30 (stI 8 0)).getD 8 0 * ((99 : Nat) : Int) := by
      have := far_chk
      have e3 : (((8 : Nat) ^ 30 : Nat) : Int) = 8 ^ 30 := by decide
      rw [e3]
      omega
    refine Rat.lt_of_le_of_ne (mk_nonneg (by omega)) fun z => ?_
    have := (Rat.mkRat_eq_zero (by decide)).mp z.symm
    omega
  intro z
  exact absurd (Rat.le_trans z h1) (Rat.not_le.mpr h2)
theorem imp_snoc {ds : List D} {y : Nat} {xs : List D} {h : Hh} (hp : pureL ds = true) (hx : pureL xs = true) (hg : h.get y = some (.lst xs) ∨ h.get y = some (.ro xs)) : impD (ds ++ [.loc y]) h = some (ds.map .val ++ [.lst xs]) := by
  induction ds with
  | nil =>
    rcases hg with hg | hg <;> simp [impD, locsOf, hg, hx]
  | cons d ds ih =>
    simp only [pureL, Bool.and_eq_true] at hp
    have := ih hp.2
    cases d <;> simp_all [impD, D.pure]
theorem lay_snoc {ds : List D} {xs : List D} : layA (ds.map .val ++ [.lst xs]) 0 = (ds ++ [.loc 0], [(0, .ro xs)]) ∧ cntA (ds.map .val ++ [.lst xs]) = 1 := by
  induction ds with
  | nil => exact ⟨rfl, rfl⟩
  | cons d ds ih => simp [layA, cntA, ih]
theorem own1_exc {m f : Nat} {fd : Fd} {ds : List D} {y : Nat} {xs : List D} {h : Hh} {c : Nat} (hf : TT.fd f = some fd) (ho : fd.own = true) (hp : pureL ds = true) (hx : pureL xs = true) (hg : h.get y = some (.lst xs) ∨ h.get y = some (.ro xs)) (hn : ds.length + 1 = fd.np)
    (hs : ∃ h', exs (clOf TT m) fd.body (stEnv fd.ns (ds ++ [.loc 0])) ⟨1, [(0, .ro xs)]⟩ = .ex c h') : (clOf TT (m + 1)).f f (ds ++ [.loc y]) h = .ex c h := by
  obtain ⟨h', e⟩ := hs
  rw [clf', hf]
  simp only [ho, if_true, imp_snoc hp hx hg, runP, lay_snoc, List.length_append, List.length_map, List.length_singleton, hn, e]
  rfl
theorem own1_val {m f : Nat} {fd : Fd} {ds : List D} {y : Nat} {xs : List D} {h : Hh} {v : D} (hf : TT.fd f = some fd) (ho : fd.own = true) (hp : pureL ds = true) (hx : pureL xs = true) (hg : h.get y = some (.lst xs) ∨ h.get y = some (.ro xs)) (hn : ds.length + 1 = fd.np) (hd : v.pure = true)
    (hs : ∃ h', exs (clOf TT m) fd.body (stEnv fd.ns (ds ++ [.loc 0])) ⟨1, [(0, .ro xs)]⟩ = .rt v h') : (clOf TT (m + 1)).f f (ds ++ [.loc y]) h = .ok v h := by
  obtain ⟨h', e⟩ := hs
  rw [clf', hf]
  simp only [ho, if_true, imp_snoc hp hx hg, runP, lay_snoc, List.length_append, List.length_map, List.length_singleton, hn, e]
  cases v <;> simp_all [expD, ResP.r, D.pure]
theorem list_chance {m : Nat} {y : Nat} {xs : List D} {h : Hh} (hx : pureL xs = true) (hg : h.get y = some (.lst xs) ∨ h.get y = some (.ro xs)) : (clOf TT (m + 1)).f 33 [.loc y] h = .ex 3 h := by
  refine own1_exc (fd := b_check_chance) (ds := []) rfl rfl rfl hx hg rfl ⟨⟨1, [(0, .ro xs)]⟩, ?_⟩
  simp only [b_check_chance, stEnv, List.map, List.length, List.replicate, Nat.reduceAdd, Nat.reduceSub, List.cons_append, List.nil_append]
  have : isiD .tuple (.loc 0) ⟨1, [(0, .ro xs)]⟩ = some false := rfl
  simp (disch := (first | (with_reducible assumption) | omega | ((repeat first | rw [nx_new] | rw [nx_set] | rw [List.length_map] | rw [List.length_replicate] | rw [List.length_range] | rw [List.length_append] | rw [List.length_cons] | rw [List.length_nil]) <;> omega) | fail)) only [s_nil, s_cons, s_asg, s_unp, s_par, s_sto, s_aug, s_aus, s_exp, s_ret, s_ife, s_for, s_whi, s_rai, s_tryw, e_cst, e_var, e_fnv, e_glb, e_bin, e_neg, e_cmp, e_chn, e_and, e_or, e_not, e_ite, e_cal, e_cax, e_blt, e_isi, e_mth, e_tup, e_lst, e_sub, e_slc, e_lc, es_nil, es_cons, ea_nil, ea_cons, eo_nil, eo_cons, eb_none, eb_some, ec_none, ec_some, b_ok, b_ex, t_ok, t_ex, st_nx, st_rt, st_ex, o_some, v_some, o_add, o_sub, o_fdiv, o_mod, o_pow, c_lt, c_le, c_gt, c_ge, l_max, l_min, asgL, asg_nm, asg_tp, asg_fq, itr_fq, len_fq, isi_fq, ix_neg, sub_f0, sub_f1, List.length_cons, List.length_nil, List.length_set, List.getElem?_cons_zero, List.getElem?_cons_succ, List.set_cons_zero, List.set_cons_succ, Option.map_some, if_true, if_false, decide_true, decide_false, Bool.not_true, Bool.not_false, Nat.zero_add, Nat.reduceAdd, Nat.reduceLT, Nat.zero_lt_succ, Bool.false_eq_true, reduceIte, reduceCtorEq, thn_bind, bind_bind, thn_thn, rthn_thn, sat_nx, sat_rt, rsat_ok, get_new_ne, get_new_eq, nx_new, nx_set, get_set_ne, mk_new, mk_get, mk_set, mk_nx, setL_cons, mth_append, mth_extend, rcv_append, rcv_extend, rcv_count, it_tup, it_loc, len_tup, len_loc, tup_loc, list_tup, sub_tup, sub_at, lget_at, sto_at, aug_add, aug_sub, neg_int, itr_tup, itr_loc, itr_enuT, itr_enuL, itr_zipT, lock_nil, lock_one, unlock_nil, unlock_one, add_tup, c_eqI, c_neI, lim_eq, wipeD, forF, lcF, List.map_cons, List.map_nil, rtr_r1, rtr_r2, enum_range, get_range, len_range, ix_ok, List.getElem?_nil, List.nil_append, List.cons_append, Int.reduceLT, Int.reduceLE, Int.reduceBEq, Int.reduceAdd, Int.reduceSub, Int.reduceMul, Int.reduceToNat, beq_self_eq_true, this]
theorem list_pf {m : Nat} {n s had : Int} {y : Nat} {xs : List D} {h : Hh} (a : Alm n s) (h0 : 0 ≤ had) (h1 : had ≤ n) (hx : pureL xs = true) (hg : h.get y = some (.lst xs) ∨ h.get y = some (.ro xs)) : (clOf TT (m + 4)).f 34 [.int n, .int s, .int had, .loc y] h = .ex 3 h := by
  refine own1_exc (fd := b_packs_for) (ds := [.int n, .int s, .int had]) rfl rfl rfl hx hg rfl ⟨⟨1, [(0, .ro xs)]⟩, ?_⟩
  simp only [b_packs_for, stEnv, List.map, List.length, List.replicate, Nat.reduceAdd, Nat.reduceSub, List.cons_append, List.nil_append]
  simp (disch := (first | (with_reducible assumption) | omega | ((repeat first | rw [nx_new] | rw [nx_set] | rw [List.length_map] | rw [List.length_replicate] | rw [List.length_range] | rw [List.length_append] | rw [List.length_cons] | rw [List.length_nil]) <;> omega) | fail)) only [s_nil, s_cons, s_asg, s_unp, s_par, s_sto, s_aug, s_aus, s_exp, s_ret, s_ife, s_for, s_whi, s_rai, s_tryw, e_cst, e_var, e_fnv, e_glb, e_bin, e_neg, e_cmp, e_chn, e_and, e_or, e_not, e_ite, e_cal, e_cax, e_blt, e_isi, e_mth, e_tup, e_lst, e_sub, e_slc, e_lc, es_nil, es_cons, ea_nil, ea_cons, eo_nil, eo_cons, eb_none, eb_some, ec_none, ec_some, b_ok, b_ex, t_ok, t_ex, st_nx, st_rt, st_ex, o_some, v_some, o_add, o_sub, o_fdiv, o_mod, o_pow, c_lt, c_le, c_gt, c_ge, l_max, l_min, asgL, asg_nm, asg_tp, asg_fq, itr_fq, len_fq, isi_fq, ix_neg, sub_f0, sub_f1, List.length_cons, List.length_nil, List.length_set, List.getElem?_cons_zero, List.getElem?_cons_succ, List.set_cons_zero, List.set_cons_succ, Option.map_some, if_true, if_false, decide_true, decide_false, Bool.not_true, Bool.not_false, Nat.zero_add, Nat.reduceAdd, Nat.reduceLT, Nat.zero_lt_succ, Bool.false_eq_true, reduceIte, reduceCtorEq, thn_bind, bind_bind, thn_thn, rthn_thn, sat_nx, sat_rt, rsat_ok, get_new_ne, get_new_eq, nx_new, nx_set, get_set_ne, mk_new, mk_get, mk_set, mk_nx, setL_cons, mth_append, mth_extend, rcv_append, rcv_extend, rcv_count, it_tup, it_loc, len_tup, len_loc, tup_loc, list_tup, sub_tup, sub_at, lget_at, sto_at, aug_add, aug_sub, neg_int, itr_tup, itr_loc, itr_enuT, itr_enuL, itr_zipT, lock_nil, lock_one, unlock_nil, unlock_one, add_tup, c_eqI, c_neI, lim_eq, wipeD, forF, lcF, List.map_cons, List.map_nil, rtr_r1, rtr_r2, enum_range, get_range, len_range, ix_ok, List.getElem?_nil, List.nil_append, List.cons_append, Int.reduceLT, Int.reduceLE, Int.reduceBEq, Int.reduceAdd, Int.reduceSub, Int.reduceMul, Int.reduceToNat, beq_self_eq_true, r_size (n := .int n) (s := .int s) rfl rfl, sizeM_ok a, r_number (v := .int had) (k := n) rfl, num_ok h0 h1, list_chance (m := m + 2) (y := 0) (h := ⟨1, [(0, .ro xs)]⟩) hx (.inr rfl)]
theorem list_ask4 {m : Nat} {n s had : Int} {y : Nat} {xs : List D} {h : Hh} (a : Alm n s) (h0 : 0 ≤ had) (h1 : had ≤ n) (hx : pureL xs = true) (hg : h.get y = some (.lst xs) ∨ h.get y = some (.ro xs)) : (clOf TT (m + 5)).f 36 [.int n, .int s, .int had, .loc y] h = .ok (rsd 3) h := by
  refine own1_val (fd := b_law_ask_4) (ds := [.int n, .int s, .int had]) rfl rfl rfl hx hg rfl rfl ⟨⟨1, [(0, .ro xs)]⟩, ?_⟩
  simp only [b_law_ask_4, stEnv, List.map, List.length, List.replicate, Nat.reduceAdd, Nat.reduceSub, List.cons_append, List.nil_append]
  have := list_pf (m := m) (y := 0) (h := ⟨1, [(0, .ro xs)]⟩) a h0 h1 hx (.inr rfl)
  rw [s_cons, try_ex (c := 3) (h' := ⟨1, [(0, .ro xs)]⟩) (by simp (disch := (first | (with_reducible assumption) | omega | ((repeat first | rw [nx_new] | rw [nx_set] | rw [List.length_map] | rw [List.length_replicate] | rw [List.length_range] | rw [List.length_append] | rw [List.length_cons] | rw [List.length_nil]) <;> omega) | fail)) only [s_nil, s_cons, s_asg, s_unp, s_par, s_sto, s_aug, s_aus, s_exp, s_ret, s_ife, s_for, s_whi, s_rai, s_tryw, e_cst, e_var, e_fnv, e_glb, e_bin, e_neg, e_cmp, e_chn, e_and, e_or, e_not, e_ite, e_cal, e_cax, e_blt, e_isi, e_mth, e_tup, e_lst, e_sub, e_slc, e_lc, es_nil, es_cons, ea_nil, ea_cons, eo_nil, eo_cons, eb_none, eb_some, ec_none, ec_some, b_ok, b_ex, t_ok, t_ex, st_nx, st_rt, st_ex, o_some, v_some, o_add, o_sub, o_fdiv, o_mod, o_pow, c_lt, c_le, c_gt, c_ge, l_max, l_min, asgL, asg_nm, asg_tp, asg_fq, itr_fq, len_fq, isi_fq, ix_neg, sub_f0, sub_f1, List.length_cons, List.length_nil, List.length_set, List.getElem?_cons_zero, List.getElem?_cons_succ, List.set_cons_zero, List.set_cons_succ, Option.map_some, if_true, if_false, decide_true, decide_false, Bool.not_true, Bool.not_false, Nat.zero_add, Nat.reduceAdd, Nat.reduceLT, Nat.zero_lt_succ, Bool.false_eq_true, reduceIte, reduceCtorEq, thn_bind, bind_bind, thn_thn, rthn_thn, sat_nx, sat_rt, rsat_ok, get_new_ne, get_new_eq, nx_new, nx_set, get_set_ne, mk_new, mk_get, mk_set, mk_nx, setL_cons, mth_append, mth_extend, rcv_append, rcv_extend, rcv_count, it_tup, it_loc, len_tup, len_loc, tup_loc, list_tup, sub_tup, sub_at, lget_at, sto_at, aug_add, aug_sub, neg_int, itr_tup, itr_loc, itr_enuT, itr_enuL, itr_zipT, lock_nil, lock_one, unlock_nil, unlock_one, add_tup, c_eqI, c_neI, lim_eq, wipeD, forF, lcF, List.map_cons, List.map_nil, rtr_r1, rtr_r2, enum_range, get_range, len_range, ix_ok, List.getElem?_nil, List.nil_append, List.cons_append, Int.reduceLT, Int.reduceLE, Int.reduceBEq, Int.reduceAdd, Int.reduceSub, Int.reduceMul, Int.reduceToNat, beq_self_eq_true, this]) (by decide) (by simp)]
  rfl
theorem ev_far {r : Env} {h : Hh} : ev (clOf TT 11) (.cal 36 (.cons (.cst (.int 8)) (.cons (.cst (.int 1)) (.cons (.cst (.int 0)) (.cons (.tup (.cons (.cst (.int 98)) (.cons (.cst (.int 99)) .nil))) .nil))))) r h = .ok (rsd 7) h := by
  have e1 : evs (clOf TT 11) (.cons (.cst (.int 8)) (.cons (.cst (.int 1)) (.cons (.cst (.int 0)) (.cons (.tup (.cons (.cst (.int 98)) (.cons (.cst (.int 99)) .nil))) .nil)))) r h = .ok [.int 8, .int 1, .int 0, fq (mkRat 98 99)] h := rfl
  rw [e_cal, e1, b_ok, far_ex]
theorem k04_end {ns : List Int} {n s had : Int} (a : Alm n s) (h0 : 0 ≤ had) (hn : had ≤ n) {v1 v2 v3 v4 v5 v6 v7 v8 v9 v10 v11 : Option D} {h : Hh} :
    Sat (exs (clOf TT 11) (.cons k04_13 (.cons k04_14 .nil)) [some (.scr ns), some (.loc 0), v1, v2, v3, v4, v5, v6, v7, some (.int n), some (.int s), some (.int had), v8, v9, v10, v11] h) (fun _ _ => False) (fun d _ => d = .bl true) := by
  have n1 := a.n1
  simp (disch := (first | (with_reducible assumption) | omega | ((repeat first | rw [nx_new] | rw [nx_set] | rw [List.length_map] | rw [List.length_replicate] | rw [List.length_range] | rw [List.length_append] | rw [List.length_cons] | rw [List.length_nil]) <;> omega) | fail)) only [s_nil, s_cons, s_asg, s_unp, s_par, s_sto, s_aug, s_aus, s_exp, s_ret, s_ife, s_for, s_whi, s_rai, s_tryw, e_cst, e_var, e_fnv, e_glb, e_bin, e_neg, e_cmp, e_chn, e_and, e_or, e_not, e_ite, e_cal, e_cax, e_blt, e_isi, e_mth, e_tup, e_lst, e_sub, e_slc, e_lc, es_nil, es_cons, ea_nil, ea_cons, eo_nil, eo_cons, eb_none, eb_some, ec_none, ec_some, b_ok, b_ex, t_ok, t_ex, st_nx, st_rt, st_ex, o_some, v_some, o_add, o_sub, o_fdiv, o_mod, o_pow, c_lt, c_le, c_gt, c_ge, l_max, l_min, asgL, asg_nm, asg_tp, asg_fq, itr_fq, len_fq, isi_fq, ix_neg, sub_f0, sub_f1, List.length_cons, List.length_nil, List.length_set, List.getElem?_cons_zero, List.getElem?_cons_succ, List.set_cons_zero, List.set_cons_succ, Option.map_some, if_true, if_false, decide_true, decide_false, Bool.not_true, Bool.not_false, Nat.zero_add, Nat.reduceAdd, Nat.reduceLT, Nat.zero_lt_succ, Bool.false_eq_true, reduceIte, reduceCtorEq, thn_bind, bind_bind, thn_thn, rthn_thn, sat_nx, sat_rt, rsat_ok, get_new_ne, get_new_eq, nx_new, nx_set, get_set_ne, mk_new, mk_get, mk_set, mk_nx, setL_cons, mth_append, mth_extend, rcv_append, rcv_extend, rcv_count, it_tup, it_loc, len_tup, len_loc, tup_loc, list_tup, sub_tup, sub_at, lget_at, sto_at, aug_add, aug_sub, neg_int, itr_tup, itr_loc, itr_enuT, itr_enuL, itr_zipT, lock_nil, lock_one, unlock_nil, unlock_one, add_tup, c_eqI, c_neI, lim_eq, wipeD, forF, lcF, List.map_cons, List.map_nil, rtr_r1, rtr_r2, enum_range, get_range, len_range, ix_ok, List.getElem?_nil, List.nil_append, List.cons_append, Int.reduceLT, Int.reduceLE, Int.reduceBEq, Int.reduceAdd, Int.reduceSub, Int.reduceMul, Int.reduceToNat, beq_self_eq_true, k04_13]
  have bl : ∀ (v : D) (h : Hh), v.pure = true → (clOf TT 9).f 33 [v] ⟨0, []⟩ = .ex 3 ⟨0, []⟩ → (clOf TT 11).f 36 [.int n, .int s, .int had, v] h = .ok (rsd 3) h := fun v h hp e =>
    ask4_x (m := 10) (by decide) (by simp [pureL, D.pure, hp]) (rr_pf_x3 (m := 6) a h0 hn hp e)
  obtain ⟨b1, b2, b3, b4, b5, b6, b7, b8, b9, b10⟩ := bad_chance
  refine sat_for (fun i r h' => ∃ w : Option D, r = [some (.scr ns), some (.loc 0), v1, v2, v3, v4, v5, v6, w, some (.int n), some (.int s), some (.int had), v8, v9, v10, v11] ∧ h'.get h.nx = some (.lst [.int 1, .int 2])) ⟨_, rfl, ?_⟩ (fun i y r h' hy hv => ?_) (fun r h' hv => ?_)
  · rw [lock_one, get_set_ne (by omega), get_new_ne (by rw [nx_new]; omega), get_new_eq rfl]
  · obtain ⟨w, rfl, hg⟩ := hv
    have key : (clOf TT 11).f 36 [.int n, .int s, .int had, y] h' = .ok (rsd 3) h' := by
      have := List.mem_of_getElem? hy
      simp only [List.mem_cons, List.not_mem_nil, or_false] at this
      rcases this with rfl | rfl | rfl | rfl | rfl | rfl | rfl | rfl | rfl | rfl | rfl
      · exact bl _ _ rfl b1
      · exact bl _ _ rfl b2
      · exact bl _ _ rfl b3
      · exact list_ask4 (m := 6) a h0 hn rfl (.inl hg)
      · exact bl _ _ rfl b4
      · exact bl _ _ rfl b5
      · exact bl _ _ rfl b6
      · exact bl _ _ rfl b7
      · exact bl _ _ rfl b8
      · exact bl _ _ rfl b9
      · exact bl _ _ rfl b10
    simp (disch := (first | (with_reducible assumption) | omega | ((repeat first | rw [nx_new] | rw [nx_set] | rw [List.length_map] | rw [List.length_replicate] | rw [List.length_range] | rw [List.length_append] | rw [List.length_cons] | rw [List.length_nil]) <;> omega) | fail)) only [s_nil, s_cons, s_asg, s_unp, s_par, s_sto, s_aug, s_aus, s_exp, s_ret, s_ife, s_for, s_whi, s_rai, s_tryw, e_cst, e_var, e_fnv, e_glb, e_bin, e_neg, e_cmp, e_chn, e_and, e_or, e_not, e_ite, e_cal, e_cax, e_blt, e_isi, e_mth, e_tup, e_lst, e_sub, e_slc, e_lc, es_nil, es_cons, ea_nil, ea_cons, eo_nil, eo_cons, eb_none, eb_some, ec_none, ec_some, b_ok, b_ex, t_ok, t_ex, st_nx, st_rt, st_ex, o_some, v_some, o_add, o_sub, o_fdiv, o_mod, o_pow, c_lt, c_le, c_gt, c_ge, l_max, l_min, asgL, asg_nm, asg_tp, asg_fq, itr_fq, len_fq, isi_fq, ix_neg, sub_f0, sub_f1, List.length_cons, List.length_nil, List.length_set, List.getElem?_cons_zero, List.getElem?_cons_succ, List.set_cons_zero, List.set_cons_succ, Option.map_some, if_true, if_false, decide_true, decide_false, Bool.not_true, Bool.not_false, Nat.zero_add, Nat.reduceAdd, Nat.reduceLT, Nat.zero_lt_succ, Bool.false_eq_true, reduceIte, reduceCtorEq, thn_bind, bind_bind, thn_thn, rthn_thn, sat_nx, sat_rt, rsat_ok, get_new_ne, get_new_eq, nx_new, nx_set, get_set_ne, mk_new, mk_get, mk_set, mk_nx, setL_cons, mth_append, mth_extend, rcv_append, rcv_extend, rcv_count, it_tup, it_loc, len_tup, len_loc, tup_loc, list_tup, sub_tup, sub_at, lget_at, sto_at, aug_add, aug_sub, neg_int, itr_tup, itr_loc, itr_enuT, itr_enuL, itr_zipT, lock_nil, lock_one, unlock_nil, unlock_one, add_tup, c_eqI, c_neI, lim_eq, wipeD, forF, lcF, List.map_cons, List.map_nil, rtr_r1, rtr_r2, enum_range, get_range, len_range, ix_ok, List.getElem?_nil, List.nil_append, List.cons_append, Int.reduceLT, Int.reduceLE, Int.reduceBEq, Int.reduceAdd, Int.reduceSub, Int.reduceMul, Int.reduceToNat, beq_self_eq_true, k04_13b, key, rsd_lit, c_neR]
    exact ⟨_, rfl, hg⟩
  · obtain ⟨w, rfl, hg⟩ := hv
    have q2 : ∀ h, (clOf TT 11).f 36 [.int n, .int s, .int (n + 1), .non] h = .ok (rsd 2) h := fun h => ask4_x (m := 10) (h := h) (c := 2) (v0 := .int n) (v1 := .int s) (v2 := .int (n + 1)) (v3 := .non) (by decide) rfl (rr_pf_x2 (m := 6) a rfl rfl int_hi)
    simp (disch := (first | (with_reducible assumption) | omega | ((repeat first | rw [nx_new] | rw [nx_set] | rw [List.length_map] | rw [List.length_replicate] | rw [List.length_range] | rw [List.length_append] | rw [List.length_cons] | rw [List.length_nil]) <;> omega) | fail)) only [s_nil, s_cons, s_asg, s_unp, s_par, s_sto, s_aug, s_aus, s_exp, s_ret, s_ife, s_for, s_whi, s_rai, s_tryw, e_cst, e_var, e_fnv, e_glb, e_bin, e_neg, e_cmp, e_chn, e_and, e_or, e_not, e_ite, e_cal, e_cax, e_blt, e_isi, e_mth, e_tup, e_lst, e_sub, e_slc, e_lc, es_nil, es_cons, ea_nil, ea_cons, eo_nil, eo_cons, eb_none, eb_some, ec_none, ec_some, b_ok, b_ex, t_ok, t_ex, st_nx, st_rt, st_ex, o_some, v_some, o_add, o_sub, o_fdiv, o_mod, o_pow, c_lt, c_le, c_gt, c_ge, l_max, l_min, asgL, asg_nm, asg_tp, asg_fq, itr_fq, len_fq, isi_fq, ix_neg, sub_f0, sub_f1, List.length_cons, List.length_nil, List.length_set, List.getElem?_cons_zero, List.getElem?_cons_succ, List.set_cons_zero, List.set_cons_succ, Option.map_some, if_true, if_false, decide_true, decide_false, Bool.not_true, Bool.not_false, Nat.zero_add, Nat.reduceAdd, Nat.reduceLT, Nat.zero_lt_succ, Bool.false_eq_true, reduceIte, reduceCtorEq, thn_bind, bind_bind, thn_thn, rthn_thn, sat_nx, sat_rt, rsat_ok, get_new_ne, get_new_eq, nx_new, nx_set, get_set_ne, mk_new, mk_get, mk_set, mk_nx, setL_cons, mth_append, mth_extend, rcv_append, rcv_extend, rcv_count, it_tup, it_loc, len_tup, len_loc, tup_loc, list_tup, sub_tup, sub_at, lget_at, sto_at, aug_add, aug_sub, neg_int, itr_tup, itr_loc, itr_enuT, itr_enuL, itr_zipT, lock_nil, lock_one, unlock_nil, unlock_one, add_tup, c_eqI, c_neI, lim_eq, wipeD, forF, lcF, List.map_cons, List.map_nil, rtr_r1, rtr_r2, enum_range, get_range, len_range, ix_ok, List.getElem?_nil, List.nil_append, List.cons_append, Int.reduceLT, Int.reduceLE, Int.reduceBEq, Int.reduceAdd, Int.reduceSub, Int.reduceMul, Int.reduceToNat, beq_self_eq_true, k04_14, ↓ev_far, q2, rsd_lit, c_eqR]
theorem law04 (ns : List Int) (h63 : ns.length ≤ 63) : ∃ h', callF TT 12 37 [.scr ns] ⟨0, []⟩ = .ok (.bl true) h' := by
  refine law_of (fd := b_law_k04) rfl rfl rfl ?_
  simp only [b_law_k04, stEnv, List.map, List.length, List.replicate, Nat.reduceAdd, Nat.reduceSub, List.cons_append, List.nil_append]
  refine law04a _ fun n s had c b u h x n1 n6 s1 sn h0 hn hc hx hg => ?_
  have a : Alm n s := ⟨n1, by omega, s1, sn⟩
  have sc : Sk 4000 c := by
    obtain ⟨q1, q2, d1, lt⟩ := hc
    exact ⟨Nat.lt_of_le_of_lt (by omega : c.num.natAbs ≤ 99) (Nat.lt_of_lt_of_le (by decide : 99 < 2 ^ 7) (Nat.pow_le_pow_right (by decide) (by decide))), Nat.lt_of_le_of_lt (by omega : c.den ≤ 99) (Nat.lt_of_lt_of_le (by decide : 99 < 2 ^ 7) (Nat.pow_le_pow_right (by decide) (by decide)))⟩
  simp (disch := (first | (with_reducible assumption) | omega | ((repeat first | rw [nx_new] | rw [nx_set] | rw [List.length_map] | rw [List.length_replicate] | rw [List.length_range] | rw [List.length_append] | rw [List.length_cons] | rw [List.length_nil]) <;> omega) | fail)) only [s_nil, s_cons, s_asg, s_unp, s_par, s_sto, s_aug, s_aus, s_exp, s_ret, s_ife, s_for, s_whi, s_rai, s_tryw, e_cst, e_var, e_fnv, e_glb, e_bin, e_neg, e_cmp, e_chn, e_and, e_or, e_not, e_ite, e_cal, e_cax, e_blt, e_isi, e_mth, e_tup, e_lst, e_sub, e_slc, e_lc, es_nil, es_cons, ea_nil, ea_cons, eo_nil, eo_cons, eb_none, eb_some, ec_none, ec_some, b_ok, b_ex, t_ok, t_ex, st_nx, st_rt, st_ex, o_some, v_some, o_add, o_sub, o_fdiv, o_mod, o_pow, c_lt, c_le, c_gt, c_ge, l_max, l_min, asgL, asg_nm, asg_tp, asg_fq, itr_fq, len_fq, isi_fq, ix_neg, sub_f0, sub_f1, List.length_cons, List.length_nil, List.length_set, List.getElem?_cons_zero, List.getElem?_cons_succ, List.set_cons_zero, List.set_cons_succ, Option.map_some, if_true, if_false, decide_true, decide_false, Bool.not_true, Bool.not_false, Nat.zero_add, Nat.reduceAdd, Nat.reduceLT, Nat.zero_lt_succ, Bool.false_eq_true, reduceIte, reduceCtorEq, thn_bind, bind_bind, thn_thn, rthn_thn, sat_nx, sat_rt, rsat_ok, get_new_ne, get_new_eq, nx_new, nx_set, get_set_ne, mk_new, mk_get, mk_set, mk_nx, setL_cons, mth_append, mth_extend, rcv_append, rcv_extend, rcv_count, it_tup, it_loc, len_tup, len_loc, tup_loc, list_tup, sub_tup, sub_at, lget_at, sto_at, aug_add, aug_sub, neg_int, itr_tup, itr_loc, itr_enuT, itr_enuL, itr_zipT, lock_nil, lock_one, unlock_nil, unlock_one, add_tup, c_eqI, c_neI, lim_eq, wipeD, forF, lcF, List.map_cons, List.map_nil, rtr_r1, rtr_r2, enum_range, get_range, len_range, ix_ok, List.getElem?_nil, List.nil_append, List.cons_append, Int.reduceLT, Int.reduceLE, Int.reduceBEq, Int.reduceAdd, Int.reduceSub, Int.reduceMul, Int.reduceToNat, beq_self_eq_true, k04_7, k04_8, hg]
  refine sat_forR (fun i r h' => ∃ v : Option D × Option D, r = [some (.scr ns), some (.loc 0), some (.int b), some (fq c), some (.loc x), u, some (encO (fstP n s had c i)), none, none, some (.int n), some (.int s), some (.int had), v.1, v.2, none, none] ∧ h' = h.set x (.ro ((List.range 31).map fun i => fq (pr n s had i n.toNat)))) ⟨(_, _), rfl, rfl⟩ (fun i r h' hi hv => ?_) (fun r h' hv => ?_)
  · obtain ⟨v, rfl, rfl⟩ := hv
    have sk := sk_pr' (had := had) a (p := i) (by omega) n.toNat
    rw [fst_succ]
    cases e : fstP n s had c i with
    | some q =>
      unfold encO
      simp (disch := (first | (with_reducible assumption) | omega | ((repeat first | rw [nx_new] | rw [nx_set] | rw [List.length_map] | rw [List.length_replicate] | rw [List.length_range] | rw [List.length_append] | rw [List.length_cons] | rw [List.length_nil]) <;> omega) | fail)) only [s_nil, s_cons, s_asg, s_unp, s_par, s_sto, s_aug, s_aus, s_exp, s_ret, s_ife, s_for, s_whi, s_rai, s_tryw, e_cst, e_var, e_fnv, e_glb, e_bin, e_neg, e_cmp, e_chn, e_and, e_or, e_not, e_ite, e_cal, e_cax, e_blt, e_isi, e_mth, e_tup, e_lst, e_sub, e_slc, e_lc, es_nil, es_cons, ea_nil, ea_cons, eo_nil, eo_cons, eb_none, eb_some, ec_none, ec_some, b_ok, b_ex, t_ok, t_ex, st_nx, st_rt, st_ex, o_some, v_some, o_add, o_sub, o_fdiv, o_mod, o_pow, c_lt, c_le, c_gt, c_ge, l_max, l_min, asgL, asg_nm, asg_tp, asg_fq, itr_fq, len_fq, isi_fq, ix_neg, sub_f0, sub_f1, List.length_cons, List.length_nil, List.length_set, List.getElem?_cons_zero, List.getElem?_cons_succ, List.set_cons_zero, List.set_cons_succ, Option.map_some, if_true, if_false, decide_true, decide_false, Bool.not_true, Bool.not_false, Nat.zero_add, Nat.reduceAdd, Nat.reduceLT, Nat.zero_lt_succ, Bool.false_eq_true, reduceIte, reduceCtorEq, thn_bind, bind_bind, thn_thn, rthn_thn, sat_nx, sat_rt, rsat_ok, get_new_ne, get_new_eq, nx_new, nx_set, get_set_ne, mk_new, mk_get, mk_set, mk_nx, setL_cons, mth_append, mth_extend, rcv_append, rcv_extend, rcv_count, it_tup, it_loc, len_tup, len_loc, tup_loc, list_tup, sub_tup, sub_at, lget_at, sto_at, aug_add, aug_sub, neg_int, itr_tup, itr_loc, itr_enuT, itr_enuL, itr_zipT, lock_nil, lock_one, unlock_nil, unlock_one, add_tup, c_eqI, c_neI, lim_eq, wipeD, forF, lcF, List.map_cons, List.map_nil, rtr_r1, rtr_r2, enum_range, get_range, len_range, ix_ok, List.getElem?_nil, List.nil_append, List.cons_append, Int.reduceLT, Int.reduceLE, Int.reduceBEq, Int.reduceAdd, Int.reduceSub, Int.reduceMul, Int.reduceToNat, beq_self_eq_true, k04_8b, isx_int]
      exact ⟨(_, _), rfl, trivial⟩
    | none =>
      unfold encO
      by_cases z : c ≤ pr n s had i n.toNat
      · simp (disch := (first | (with_reducible assumption) | omega | ((repeat first | rw [nx_new] | rw [nx_set] | rw [List.length_map] | rw [List.length_replicate] | rw [List.length_range] | rw [List.length_append] | rw [List.length_cons] | rw [List.length_nil]) <;> omega) | fail)) only [s_nil, s_cons, s_asg, s_unp, s_par, s_sto, s_aug, s_aus, s_exp, s_ret, s_ife, s_for, s_whi, s_rai, s_tryw, e_cst, e_var, e_fnv, e_glb, e_bin, e_neg, e_cmp, e_chn, e_and, e_or, e_not, e_ite, e_cal, e_cax, e_blt, e_isi, e_mth, e_tup, e_lst, e_sub, e_slc, e_lc, es_nil, es_cons, ea_nil, ea_cons, eo_nil, eo_cons, eb_none, eb_some, ec_none, ec_some, b_ok, b_ex, t_ok, t_ex, st_nx, st_rt, st_ex, o_some, v_some, o_add, o_sub, o_fdiv, o_mod, o_pow, c_lt, c_le, c_gt, c_ge, l_max, l_min, asgL, asg_nm, asg_tp, asg_fq, itr_fq, len_fq, isi_fq, ix_neg, sub_f0, sub_f1, List.length_cons, List.length_nil, List.length_set, List.getElem?_cons_zero, List.getElem?_cons_succ, List.set_cons_zero, List.set_cons_succ, Option.map_some, if_true, if_false, decide_true, decide_false, Bool.not_true, Bool.not_false, Nat.zero_add, Nat.reduceAdd, Nat.reduceLT, Nat.zero_lt_succ, Bool.false_eq_true, reduceIte, reduceCtorEq, thn_bind, bind_bind, thn_thn, rthn_thn, sat_nx, sat_rt, rsat_ok, get_new_ne, get_new_eq, nx_new, nx_set, get_set_ne, mk_new, mk_get, mk_set, mk_nx, setL_cons, mth_append, mth_extend, rcv_append, rcv_extend, rcv_count, it_tup, it_loc, len_tup, len_loc, tup_loc, list_tup, sub_tup, sub_at, lget_at, sto_at, aug_add, aug_sub, neg_int, itr_tup, itr_loc, itr_enuT, itr_enuL, itr_zipT, lock_nil, lock_one, unlock_nil, unlock_one, add_tup, c_eqI, c_neI, lim_eq, wipeD, forF, lcF, List.map_cons, List.map_nil, rtr_r1, rtr_r2, enum_range, get_range, len_range, ix_ok, List.getElem?_nil, List.nil_append, List.cons_append, Int.reduceLT, Int.reduceLE, Int.reduceBEq, Int.reduceAdd, Int.reduceSub, Int.reduceMul, Int.reduceToNat, beq_self_eq_true, k04_8b, isx_non, mul_nd sk sc, mul_nd sc sk, ← Rat.le_iff, z]
        exact ⟨(_, _), rfl, trivial⟩
      · simp (disch := (first | (with_reducible assumption) | omega | ((repeat first | rw [nx_new] | rw [nx_set] | rw [List.length_map] | rw [List.length_replicate] | rw [List.length_range] | rw [List.length_append] | rw [List.length_cons] | rw [List.length_nil]) <;> omega) | fail)) only [s_nil, s_cons, s_asg, s_unp, s_par, s_sto, s_aug, s_aus, s_exp, s_ret, s_ife, s_for, s_whi, s_rai, s_tryw, e_cst, e_var, e_fnv, e_glb, e_bin, e_neg, e_cmp, e_chn, e_and, e_or, e_not, e_ite, e_cal, e_cax, e_blt, e_isi, e_mth, e_tup, e_lst, e_sub, e_slc, e_lc, es_nil, es_cons, ea_nil, ea_cons, eo_nil, eo_cons, eb_none, eb_some, ec_none, ec_some, b_ok, b_ex, t_ok, t_ex, st_nx, st_rt, st_ex, o_some, v_some, o_add, o_sub, o_fdiv, o_mod, o_pow, c_lt, c_le, c_gt, c_ge, l_max, l_min, asgL, asg_nm, asg_tp, asg_fq, itr_fq, len_fq, isi_fq, ix_neg, sub_f0, sub_f1, List.length_cons, List.length_nil, List.length_set, List.getElem?_cons_zero, List.getElem?_cons_succ, List.set_cons_zero, List.set_cons_succ, Option.map_some, if_true, if_false, decide_true, decide_false, Bool.not_true, Bool.not_false, Nat.zero_add, Nat.reduceAdd, Nat.reduceLT, Nat.zero_lt_succ, Bool.false_eq_true, reduceIte, reduceCtorEq, thn_bind, bind_bind, thn_thn, rthn_thn, sat_nx, sat_rt, rsat_ok, get_new_ne, get_new_eq, nx_new, nx_set, get_set_ne, mk_new, mk_get, mk_set, mk_nx, setL_cons, mth_append, mth_extend, rcv_append, rcv_extend, rcv_count, it_tup, it_loc, len_tup, len_loc, tup_loc, list_tup, sub_tup, sub_at, lget_at, sto_at, aug_add, aug_sub, neg_int, itr_tup, itr_loc, itr_enuT, itr_enuL, itr_zipT, lock_nil, lock_one, unlock_nil, unlock_one, add_tup, c_eqI, c_neI, lim_eq, wipeD, forF, lcF, List.map_cons, List.map_nil, rtr_r1, rtr_r2, enum_range, get_range, len_range, ix_ok, List.getElem?_nil, List.nil_append, List.cons_append, Int.reduceLT, Int.reduceLE, Int.reduceBEq, Int.reduceAdd, Int.reduceSub, Int.reduceMul, Int.reduceToNat, beq_self_eq_true, k04_8b, isx_non, mul_nd sk sc, mul_nd sc sk, ← Rat.le_iff, z]
        exact ⟨(_, _), rfl, trivial⟩
  · obtain ⟨v, rfl, rfl⟩ := hv
    rw [unlock_one, unlock_lock hg]
    simp (disch := (first | (with_reducible assumption) | omega | ((repeat first | rw [nx_new] | rw [nx_set] | rw [List.length_map] | rw [List.length_replicate] | rw [List.length_range] | rw [List.length_append] | rw [List.length_cons] | rw [List.length_nil]) <;> omega) | fail)) only [s_nil, s_cons, s_asg, s_unp, s_par, s_sto, s_aug, s_aus, s_exp, s_ret, s_ife, s_for, s_whi, s_rai, s_tryw, e_cst, e_var, e_fnv, e_glb, e_bin, e_neg, e_cmp, e_chn, e_and, e_or, e_not, e_ite, e_cal, e_cax, e_blt, e_isi, e_mth, e_tup, e_lst, e_sub, e_slc, e_lc, es_nil, es_cons, ea_nil, ea_cons, eo_nil, eo_cons, eb_none, eb_some, ec_none, ec_some, b_ok, b_ex, t_ok, t_ex, st_nx, st_rt, st_ex, o_some, v_some, o_add, o_sub, o_fdiv, o_mod, o_pow, c_lt, c_le, c_gt, c_ge, l_max, l_min, asgL, asg_nm, asg_tp, asg_fq, itr_fq, len_fq, isi_fq, ix_neg, sub_f0, sub_f1, List.length_cons, List.length_nil, List.length_set, List.getElem?_cons_zero, List.getElem?_cons_succ, List.set_cons_zero, List.set_cons_succ, Option.map_some, if_true, if_false, decide_true, decide_false, Bool.not_true, Bool.not_false, Nat.zero_add, Nat.reduceAdd, Nat.reduceLT, Nat.zero_lt_succ, Bool.false_eq_true, reduceIte, reduceCtorEq, thn_bind, bind_bind, thn_thn, rthn_thn, sat_nx, sat_rt, rsat_ok, get_new_ne, get_new_eq, nx_new, nx_set, get_set_ne, mk_new, mk_get, mk_set, mk_nx, setL_cons, mth_append, mth_extend, rcv_append, rcv_extend, rcv_count, it_tup, it_loc, len_tup, len_loc, tup_loc, list_tup, sub_tup, sub_at, lget_at, sto_at, aug_add, aug_sub, neg_int, itr_tup, itr_loc, itr_enuT, itr_enuL, itr_zipT, lock_nil, lock_one, unlock_nil, unlock_one, add_tup, c_eqI, c_neI, lim_eq, wipeD, forF, lcF, List.map_cons, List.map_nil, rtr_r1, rtr_r2, enum_range, get_range, len_range, ix_ok, List.getElem?_nil, List.nil_append, List.cons_append, Int.reduceLT, Int.reduceLE, Int.reduceBEq, Int.reduceAdd, Int.reduceSub, Int.reduceMul, Int.reduceToNat, beq_self_eq_true, k04_9, ask4_pf a hc h0 hn]
    obtain ⟨c0, c1⟩ := c_ltF hc
    have p0 : had = n → c ≤ pr n s had 0 n.toNat := fun z => by
      rw [pr_zero (by omega), if_pos (by omega)]
      exact c1
    have p1 : had < n → ¬ c ≤ pr n s had 0 n.toNat := fun z => by
      rw [pr_zero (by omega), if_neg (by omega)]
      exact Rat.not_le.mpr c0
    have p2 : s = n → c ≤ pr n s had 1 n.toNat := fun z => by
      have := pr_one a (i := had.toNat) (k := n.toNat) (by omega) (by omega)
      rw [show ((had.toNat : Nat) : Int) = had by omega] at this
      rw [this, z, A_all n1 (by omega) h0 hn]
      exact c1
    cases e : fstP n s had c 31 with
    | some q =>
      obtain ⟨f1, f2, f3⟩ := fst_some e
      unfold encO gotD
      have zg : ∀ {h : Hh}, True := trivial
      have k12 : ∀ {h : Hh} {w1 w2 : Option D}, h.get x = some (.lst ((List.range 31).map fun i => fq (pr n s had i n.toNat))) → Sat (exs (clOf TT 11) (.cons k04_12 (.cons k04_13 (.cons k04_14 .nil))) [some (.scr ns), some (.loc 0), some (.int b), some (fq c), some (.loc x), u, some (.int q), some (.int q), none, some (.int n), some (.int s), some (.int had), w1, w2, none, none] h) (fun _ _ => False) (fun d _ => d = .bl true) := by
        intro h w1 w2 hg
        by_cases z : (0 : Int) < q
        · have qn : ((q : Int) - 1).toNat = q - 1 := by omega
          have sk := sk_pr' (had := had) a (p := q - 1) (by omega) n.toNat
          have ff : ¬ c ≤ pr n s had (q - 1) n.toNat := f3 (q - 1) (by omega)
          simp (disch := (first | (with_reducible assumption) | omega | ((repeat first | rw [nx_new] | rw [nx_set] | rw [List.length_map] | rw [List.length_replicate] | rw [List.length_range] | rw [List.length_append] | rw [List.length_cons] | rw [List.length_nil]) <;> omega) | fail)) only [s_nil, s_cons, s_asg, s_unp, s_par, s_sto, s_aug, s_aus, s_exp, s_ret, s_ife, s_for, s_whi, s_rai, s_tryw, e_cst, e_var, e_fnv, e_glb, e_bin, e_neg, e_cmp, e_chn, e_and, e_or, e_not, e_ite, e_cal, e_cax, e_blt, e_isi, e_mth, e_tup, e_lst, e_sub, e_slc, e_lc, es_nil, es_cons, ea_nil, ea_cons, eo_nil, eo_cons, eb_none, eb_some, ec_none, ec_some, b_ok, b_ex, t_ok, t_ex, st_nx, st_rt, st_ex, o_some, v_some, o_add, o_sub, o_fdiv, o_mod, o_pow, c_lt, c_le, c_gt, c_ge, l_max, l_min, asgL, asg_nm, asg_tp, asg_fq, itr_fq, len_fq, isi_fq, ix_neg, sub_f0, sub_f1, List.length_cons, List.length_nil, List.length_set, List.getElem?_cons_zero, List.getElem?_cons_succ, List.set_cons_zero, List.set_cons_succ, Option.map_some, if_true, if_false, decide_true, decide_false, Bool.not_true, Bool.not_false, Nat.zero_add, Nat.reduceAdd, Nat.reduceLT, Nat.zero_lt_succ, Bool.false_eq_true, reduceIte, reduceCtorEq, thn_bind, bind_bind, thn_thn, rthn_thn, sat_nx, sat_rt, rsat_ok, get_new_ne, get_new_eq, nx_new, nx_set, get_set_ne, mk_new, mk_get, mk_set, mk_nx, setL_cons, mth_append, mth_extend, rcv_append, rcv_extend, rcv_count, it_tup, it_loc, len_tup, len_loc, tup_loc, list_tup, sub_tup, sub_at, lget_at, sto_at, aug_add, aug_sub, neg_int, itr_tup, itr_loc, itr_enuT, itr_enuL, itr_zipT, lock_nil, lock_one, unlock_nil, unlock_one, add_tup, c_eqI, c_neI, lim_eq, wipeD, forF, lcF, List.map_cons, List.map_nil, rtr_r1, rtr_r2, enum_range, get_range, len_range, ix_ok, List.getElem?_nil, List.nil_append, List.cons_append, Int.reduceLT, Int.reduceLE, Int.reduceBEq, Int.reduceAdd, Int.reduceSub, Int.reduceMul, Int.reduceToNat, beq_self_eq_true, k04_12, nis_int, z, hg, qn, mul_nd sk sc, mul_nd sc sk, ← Rat.le_iff, ff]
          exact k04_end a h0 hn
        · simp (disch := (first | (with_reducible assumption) | omega | ((repeat first | rw [nx_new] | rw [nx_set] | rw [List.length_map] | rw [List.length_replicate] | rw [List.length_range] | rw [List.length_append] | rw [List.length_cons] | rw [List.length_nil]) <;> omega) | fail)) only [s_nil, s_cons, s_asg, s_unp, s_par, s_sto, s_aug, s_aus, s_exp, s_ret, s_ife, s_for, s_whi, s_rai, s_tryw, e_cst, e_var, e_fnv, e_glb, e_bin, e_neg, e_cmp, e_chn, e_and, e_or, e_not, e_ite, e_cal, e_cax, e_blt, e_isi, e_mth, e_tup, e_lst, e_sub, e_slc, e_lc, es_nil, es_cons, ea_nil, ea_cons, eo_nil, eo_cons, eb_none, eb_some, ec_none, ec_some, b_ok, b_ex, t_ok, t_ex, st_nx, st_rt, st_ex, o_some, v_some, o_add, o_sub, o_fdiv, o_mod, o_pow, c_lt, c_le, c_gt, c_ge, l_max, l_min, asgL, asg_nm, asg_tp, asg_fq, itr_fq, len_fq, isi_fq, ix_neg, sub_f0, sub_f1, List.length_cons, List.length_nil, List.length_set, List.getElem?_cons_zero, List.getElem?_cons_succ, List.set_cons_zero, List.set_cons_succ, Option.map_some, if_true, if_false, decide_true, decide_false, Bool.not_true, Bool.not_false, Nat.zero_add, Nat.reduceAdd, Nat.reduceLT, Nat.zero_lt_succ, Bool.false_eq_true, reduceIte, reduceCtorEq, thn_bind, bind_bind, thn_thn, rthn_thn, sat_nx, sat_rt, rsat_ok, get_new_ne, get_new_eq, nx_new, nx_set, get_set_ne, mk_new, mk_get, mk_set, mk_nx, setL_cons, mth_append, mth_extend, rcv_append, rcv_extend, rcv_count, it_tup, it_loc, len_tup, len_loc, tup_loc, list_tup, sub_tup, sub_at, lget_at, sto_at, aug_add, aug_sub, neg_int, itr_tup, itr_loc, itr_enuT, itr_enuL, itr_zipT, lock_nil, lock_one, unlock_nil, unlock_one, add_tup, c_eqI, c_neI, lim_eq, wipeD, forF, lcF, List.map_cons, List.map_nil, rtr_r1, rtr_r2, enum_range, get_range, len_range, ix_ok, List.getElem?_nil, List.nil_append, List.cons_append, Int.reduceLT, Int.reduceLE, Int.reduceBEq, Int.reduceAdd, Int.reduceSub, Int.reduceMul, Int.reduceToNat, beq_self_eq_true, k04_12, nis_int, z]
          exact k04_end a h0 hn
      by_cases z1 : had = n
      · have q0 : q = 0 := by
          rcases Nat.eq_zero_or_pos q with z | z
          · exact z
          · exact absurd (p0 z1) (f3 0 z)
        have z1' : (had == n) = true := by simpa using z1
        have lt : ¬ had < n := by omega
        subst q0
        have e00 : (((0 : Nat) : Int) == 0) = true := rfl
        by_cases z2 : s = n
        · have z2' : (s == n) = true := by simpa using z2
          simp (disch := (first | (with_reducible assumption) | omega | ((repeat first | rw [nx_new] | rw [nx_set] | rw [List.length_map] | rw [List.length_replicate] | rw [List.length_range] | rw [List.length_append] | rw [List.length_cons] | rw [List.length_nil]) <;> omega) | fail)) only [s_nil, s_cons, s_asg, s_unp, s_par, s_sto, s_aug, s_aus, s_exp, s_ret, s_ife, s_for, s_whi, s_rai, s_tryw, e_cst, e_var, e_fnv, e_glb, e_bin, e_neg, e_cmp, e_chn, e_and, e_or, e_not, e_ite, e_cal, e_cax, e_blt, e_isi, e_mth, e_tup, e_lst, e_sub, e_slc, e_lc, es_nil, es_cons, ea_nil, ea_cons, eo_nil, eo_cons, eb_none, eb_some, ec_none, ec_some, b_ok, b_ex, t_ok, t_ex, st_nx, st_rt, st_ex, o_some, v_some, o_add, o_sub, o_fdiv, o_mod, o_pow, c_lt, c_le, c_gt, c_ge, l_max, l_min, asgL, asg_nm, asg_tp, asg_fq, itr_fq, len_fq, isi_fq, ix_neg, sub_f0, sub_f1, List.length_cons, List.length_nil, List.length_set, List.getElem?_cons_zero, List.getElem?_cons_succ, List.set_cons_zero, List.set_cons_succ, Option.map_some, if_true, if_false, decide_true, decide_false, Bool.not_true, Bool.not_false, Nat.zero_add, Nat.reduceAdd, Nat.reduceLT, Nat.zero_lt_succ, Bool.false_eq_true, reduceIte, reduceCtorEq, thn_bind, bind_bind, thn_thn, rthn_thn, sat_nx, sat_rt, rsat_ok, get_new_ne, get_new_eq, nx_new, nx_set, get_set_ne, mk_new, mk_get, mk_set, mk_nx, setL_cons, mth_append, mth_extend, rcv_append, rcv_extend, rcv_count, it_tup, it_loc, len_tup, len_loc, tup_loc, list_tup, sub_tup, sub_at, lget_at, sto_at, aug_add, aug_sub, neg_int, itr_tup, itr_loc, itr_enuT, itr_enuL, itr_zipT, lock_nil, lock_one, unlock_nil, unlock_one, add_tup, c_eqI, c_neI, lim_eq, wipeD, forF, lcF, List.map_cons, List.map_nil, rtr_r1, rtr_r2, enum_range, get_range, len_range, ix_ok, List.getElem?_nil, List.nil_append, List.cons_append, Int.reduceLT, Int.reduceLE, Int.reduceBEq, Int.reduceAdd, Int.reduceSub, Int.reduceMul, Int.reduceToNat, beq_self_eq_true, k04_10, nis_int, k04_11, z1', z2', lt, e00]
          exact k12 hg
        · have z2' : (s == n) = false := by simpa using z2
          simp (disch := (first | (with_reducible assumption) | omega | ((repeat first | rw [nx_new] | rw [nx_set] | rw [List.length_map] | rw [List.length_replicate] | rw [List.length_range] | rw [List.length_append] | rw [List.length_cons] | rw [List.length_nil]) <;> omega) | fail)) only [s_nil, s_cons, s_asg, s_unp, s_par, s_sto, s_aug, s_aus, s_exp, s_ret, s_ife, s_for, s_whi, s_rai, s_tryw, e_cst, e_var, e_fnv, e_glb, e_bin, e_neg, e_cmp, e_chn, e_and, e_or, e_not, e_ite, e_cal, e_cax, e_blt, e_isi, e_mth, e_tup, e_lst, e_sub, e_slc, e_lc, es_nil, es_cons, ea_nil, ea_cons, eo_nil, eo_cons, eb_none, eb_some, ec_none, ec_some, b_ok, b_ex, t_ok, t_ex, st_nx, st_rt, st_ex, o_some, v_some, o_add, o_sub, o_fdiv, o_mod, o_pow, c_lt, c_le, c_gt, c_ge, l_max, l_min, asgL, asg_nm, asg_tp, asg_fq, itr_fq, len_fq, isi_fq, ix_neg, sub_f0, sub_f1, List.length_cons, List.length_nil, List.length_set, List.getElem?_cons_zero, List.getElem?_cons_succ, List.set_cons_zero, List.set_cons_succ, Option.map_some, if_true, if_false, decide_true, decide_false, Bool.not_true, Bool.not_false, Nat.zero_add, Nat.reduceAdd, Nat.reduceLT, Nat.zero_lt_succ, Bool.false_eq_true, reduceIte, reduceCtorEq, thn_bind, bind_bind, thn_thn, rthn_thn, sat_nx, sat_rt, rsat_ok, get_new_ne, get_new_eq, nx_new, nx_set, get_set_ne, mk_new, mk_get, mk_set, mk_nx, setL_cons, mth_append, mth_extend, rcv_append, rcv_extend, rcv_count, it_tup, it_loc, len_tup, len_loc, tup_loc, list_tup, sub_tup, sub_at, lget_at, sto_at, aug_add, aug_sub, neg_int, itr_tup, itr_loc, itr_enuT, itr_enuL, itr_zipT, lock_nil, lock_one, unlock_nil, unlock_one, add_tup, c_eqI, c_neI, lim_eq, wipeD, forF, lcF, List.map_cons, List.map_nil, rtr_r1, rtr_r2, enum_range, get_range, len_range, ix_ok, List.getElem?_nil, List.nil_append, List.cons_append, Int.reduceLT, Int.reduceLE, Int.reduceBEq, Int.reduceAdd, Int.reduceSub, Int.reduceMul, Int.reduceToNat, beq_self_eq_true, k04_10, nis_int, k04_11, z1', z2', e00]
          exact k12 hg
      · have z1' : (had == n) = false := by simpa using z1
        by_cases z2 : s = n
        · have z2' : (s == n) = true := by simpa using z2
          have lt : had < n := by omega
          have q1 : q = 1 := by
            rcases Nat.lt_or_ge q 1 with z | z
            · have : q = 0 := by omega
              subst this
              exact absurd f2 (p1 lt)
            · rcases Nat.lt_or_ge 1 q with y | y
              · exact absurd (p2 z2) (f3 1 y)
              · omega
          subst q1
          have e11 : (((1 : Nat) : Int) == 1) = true := rfl
          simp (disch := (first | (with_reducible assumption) | omega | ((repeat first | rw [nx_new] | rw [nx_set] | rw [List.length_map] | rw [List.length_replicate] | rw [List.length_range] | rw [List.length_append] | rw [List.length_cons] | rw [List.length_nil]) <;> omega) | fail)) only [s_nil, s_cons, s_asg, s_unp, s_par, s_sto, s_aug, s_aus, s_exp, s_ret, s_ife, s_for, s_whi, s_rai, s_tryw, e_cst, e_var, e_fnv, e_glb, e_bin, e_neg, e_cmp, e_chn, e_and, e_or, e_not, e_ite, e_cal, e_cax, e_blt, e_isi, e_mth, e_tup, e_lst, e_sub, e_slc, e_lc, es_nil, es_cons, ea_nil, ea_cons, eo_nil, eo_cons, eb_none, eb_some, ec_none, ec_some, b_ok, b_ex, t_ok, t_ex, st_nx, st_rt, st_ex, o_some, v_some, o_add, o_sub, o_fdiv, o_mod, o_pow, c_lt, c_le, c_gt, c_ge, l_max, l_min, asgL, asg_nm, asg_tp, asg_fq, itr_fq, len_fq, isi_fq, ix_neg, sub_f0, sub_f1, List.length_cons, List.length_nil, List.length_set, List.getElem?_cons_zero, List.getElem?_cons_succ, List.set_cons_zero, List.set_cons_succ, Option.map_some, if_true, if_false, decide_true, decide_false, Bool.not_true, Bool.not_false, Nat.zero_add, Nat.reduceAdd, Nat.reduceLT, Nat.zero_lt_succ, Bool.false_eq_true, reduceIte, reduceCtorEq, thn_bind, bind_bind, thn_thn, rthn_thn, sat_nx, sat_rt, rsat_ok, get_new_ne, get_new_eq, nx_new, nx_set, get_set_ne, mk_new, mk_get, mk_set, mk_nx, setL_cons, mth_append, mth_extend, rcv_append, rcv_extend, rcv_count, it_tup, it_loc, len_tup, len_loc, tup_loc, list_tup, sub_tup, sub_at, lget_at, sto_at, aug_add, aug_sub, neg_int, itr_tup, itr_loc, itr_enuT, itr_enuL, itr_zipT, lock_nil, lock_one, unlock_nil, unlock_one, add_tup, c_eqI, c_neI, lim_eq, wipeD, forF, lcF, List.map_cons, List.map_nil, rtr_r1, rtr_r2, enum_range, get_range, len_range, ix_ok, List.getElem?_nil, List.nil_append, List.cons_append, Int.reduceLT, Int.reduceLE, Int.reduceBEq, Int.reduceAdd, Int.reduceSub, Int.reduceMul, Int.reduceToNat, beq_self_eq_true, k04_10, nis_int, k04_11, z1', z2', lt, e11]
          exact k12 hg
        · have z2' : (s == n) = false := by simpa using z2
          simp (disch := (first | (with_reducible assumption) | omega | ((repeat first | rw [nx_new] | rw [nx_set] | rw [List.length_map] | rw [List.length_replicate] | rw [List.length_range] | rw [List.length_append] | rw [List.length_cons] | rw [List.length_nil]) <;> omega) | fail)) only [s_nil, s_cons, s_asg, s_unp, s_par, s_sto, s_aug, s_aus, s_exp, s_ret, s_ife, s_for, s_whi, s_rai, s_tryw, e_cst, e_var, e_fnv, e_glb, e_bin, e_neg, e_cmp, e_chn, e_and, e_or, e_not, e_ite, e_cal, e_cax, e_blt, e_isi, e_mth, e_tup, e_lst, e_sub, e_slc, e_lc, es_nil, es_cons, ea_nil, ea_cons, eo_nil, eo_cons, eb_none, eb_some, ec_none, ec_some, b_ok, b_ex, t_ok, t_ex, st_nx, st_rt, st_ex, o_some, v_some, o_add, o_sub, o_fdiv, o_mod, o_pow, c_lt, c_le, c_gt, c_ge, l_max, l_min, asgL, asg_nm, asg_tp, asg_fq, itr_fq, len_fq, isi_fq, ix_neg, sub_f0, sub_f1, List.length_cons, List.length_nil, List.length_set, List.getElem?_cons_zero, List.getElem?_cons_succ, List.set_cons_zero, List.set_cons_succ, Option.map_some, if_true, if_false, decide_true, decide_false, Bool.not_true, Bool.not_false, Nat.zero_add, Nat.reduceAdd, Nat.reduceLT, Nat.zero_lt_succ, Bool.false_eq_true, reduceIte, reduceCtorEq, thn_bind, bind_bind, thn_thn, rthn_thn, sat_nx, sat_rt, rsat_ok, get_new_ne, get_new_eq, nx_new, nx_set, get_set_ne, mk_new, mk_get, mk_set, mk_nx, setL_cons, mth_append, mth_extend, rcv_append, rcv_extend, rcv_count, it_tup, it_loc, len_tup, len_loc, tup_loc, list_tup, sub_tup, sub_at, lget_at, sto_at, aug_add, aug_sub, neg_int, itr_tup, itr_loc, itr_enuT, itr_enuL, itr_zipT, lock_nil, lock_one, unlock_nil, unlock_one, add_tup, c_eqI, c_neI, lim_eq, wipeD, forF, lcF, List.map_cons, List.map_nil, rtr_r1, rtr_r2, enum_range, get_range, len_range, ix_ok, List.getElem?_nil, List.nil_append, List.cons_append, Int.reduceLT, Int.reduceLE, Int.reduceBEq, Int.reduceAdd, Int.reduceSub, Int.reduceMul, Int.reduceToNat, beq_self_eq_true, k04_10, nis_int, k04_11, z1', z2']
          exact k12 hg
    | none =>
      have f3 := fst_none e
      have z1 : (had == n) = false := by
        have : ¬ had = n := fun z => f3 0 (by decide) (p0 z)
        simpa using this
      have z2 : (s == n) = false := by
        have : ¬ s = n := fun z => f3 1 (by decide) (p2 z)
        simpa using this
      unfold encO gotD
      simp (disch := (first | (with_reducible assumption) | omega | ((repeat first | rw [nx_new] | rw [nx_set] | rw [List.length_map] | rw [List.length_replicate] | rw [List.length_range] | rw [List.length_append] | rw [List.length_cons] | rw [List.length_nil]) <;> omega) | fail)) only [s_nil, s_cons, s_asg, s_unp, s_par, s_sto, s_aug, s_aus, s_exp, s_ret, s_ife, s_for, s_whi, s_rai, s_tryw, e_cst, e_var, e_fnv, e_glb, e_bin, e_neg, e_cmp, e_chn, e_and, e_or, e_not, e_ite, e_cal, e_cax, e_blt, e_isi, e_mth, e_tup, e_lst, e_sub, e_slc, e_lc, es_nil, es_cons, ea_nil, ea_cons, eo_nil, eo_cons, eb_none, eb_some, ec_none, ec_some, b_ok, b_ex, t_ok, t_ex, st_nx, st_rt, st_ex, o_some, v_some, o_add, o_sub, o_fdiv, o_mod, o_pow, c_lt, c_le, c_gt, c_ge, l_max, l_min, asgL, asg_nm, asg_tp, asg_fq, itr_fq, len_fq, isi_fq, ix_neg, sub_f0, sub_f1, List.length_cons, List.length_nil, List.length_set, List.getElem?_cons_zero, List.getElem?_cons_succ, List.set_cons_zero, List.set_cons_succ, Option.map_some, if_true, if_false, decide_true, decide_false, Bool.not_true, Bool.not_false, Nat.zero_add, Nat.reduceAdd, Nat.reduceLT, Nat.zero_lt_succ, Bool.false_eq_true, reduceIte, reduceCtorEq, thn_bind, bind_bind, thn_thn, rthn_thn, sat_nx, sat_rt, rsat_ok, get_new_ne, get_new_eq, nx_new, nx_set, get_set_ne, mk_new, mk_get, mk_set, mk_nx, setL_cons, mth_append, mth_extend, rcv_append, rcv_extend, rcv_count, it_tup, it_loc, len_tup, len_loc, tup_loc, list_tup, sub_tup, sub_at, lget_at, sto_at, aug_add, aug_sub, neg_int, itr_tup, itr_loc, itr_enuT, itr_enuL, itr_zipT, lock_nil, lock_one, unlock_nil, unlock_one, add_tup, c_eqI, c_neI, lim_eq, wipeD, forF, lcF, List.map_cons, List.map_nil, rtr_r1, rtr_r2, enum_range, get_range, len_range, ix_ok, List.getElem?_nil, List.nil_append, List.cons_append, Int.reduceLT, Int.reduceLE, Int.reduceBEq, Int.reduceAdd, Int.reduceSub, Int.reduceMul, Int.reduceToNat, beq_self_eq_true, k04_10, nis_non, rsd_lit, c_neR, k04_11, z1, z2, k04_12]
      exact k04_end a h0 hn
end Alb.Rn
namespace Alb
open PySem PySem.Spec PyProof.Rows L2
namespace K04
def topS (i : Nat) : Stmt := PySem.Challenge.pw_albumpacks_k04_whole_packs_for.main.body.getD i (.Pass ⟨0, 0, 0, 0⟩)
def row : Row := ⟨[
  (0, ⟨("is_integer" : Str), topS 13, [("value" : Str), ("low" : Str), ("high" : Str)], [("value" : Str), ("low" : Str), ("high" : Str)]⟩),
  (1, ⟨("divisor_of" : Str), topS 14, [("one" : Str), ("other" : Str)], [("one" : Str), ("other" : Str)]⟩),
  (2, ⟨("lowest" : Str), topS 15, [("top" : Str), ("bottom" : Str)], [("top" : Str), ("bottom" : Str), ("shared" : Str)]⟩),
  (19, ⟨("plus" : Str), topS 16, [("one" : Str), ("other" : Str)], [("one" : Str), ("other" : Str)]⟩),
  (20, ⟨("times" : Str), topS 17, [("one" : Str), ("other" : Str)], [("one" : Str), ("other" : Str)]⟩),
  (3, ⟨("ways" : Str), topS 18, [("many" : Str), ("some" : Str)], [("many" : Str), ("some" : Str), ("result" : Str), ("at" : Str)]⟩),
  (4, ⟨("check_album" : Str), topS 21, [("stickers" : Str)], [("stickers" : Str)]⟩),
  (5, ⟨("check_size" : Str), topS 22, [("stickers" : Str), ("size" : Str)], [("stickers" : Str), ("size" : Str)]⟩),
  (6, ⟨("check_number" : Str), topS 23, [("number" : Str), ("most" : Str)], [("number" : Str), ("most" : Str)]⟩),
  (7, ⟨("fresh_chance" : Str), topS 24, [("stickers" : Str), ("size" : Str), ("had" : Str), ("fresh" : Str)], [("stickers" : Str), ("size" : Str), ("had" : Str), ("fresh" : Str), ("good" : Str)]⟩),
  (21, ⟨("step" : Str), topS 25, [("stickers" : Str), ("size" : Str), ("chances" : Str)], [("stickers" : Str), ("size" : Str), ("chances" : Str), ("found" : Str), ("had" : Str), ("chance" : Str), ("fresh" : Str), ("more" : Str)]⟩),
  (22, ⟨("spread_after" : Str), topS 26, [("stickers" : Str), ("size" : Str), ("had" : Str), ("packs" : Str)], [("stickers" : Str), ("size" : Str), ("had" : Str), ("packs" : Str), ("chances" : Str), ("again" : Str), ("number" : Str)]⟩),
  (30, ⟨("chance_full" : Str), topS 28, [("stickers" : Str), ("size" : Str), ("had" : Str), ("packs" : Str)], [("stickers" : Str), ("size" : Str), ("had" : Str), ("packs" : Str)]⟩),
  (33, ⟨("check_chance" : Str), topS 29, [("chance" : Str)], [("chance" : Str), ("one" : Str)]⟩),
  (34, ⟨("packs_for" : Str), topS 30, [("stickers" : Str), ("size" : Str), ("had" : Str), ("chance" : Str)], [("stickers" : Str), ("size" : Str), ("had" : Str), ("chance" : Str), ("chances" : Str), ("packs" : Str), ("top" : Str), ("bottom" : Str)]⟩),
  (11, ⟨("_law_cell_at" : Str), topS 32, [("script" : Str), ("k" : Str)], [("script" : Str), ("k" : Str), ("spare" : Str), ("again" : Str)]⟩),
  (12, ⟨("_law_mixed" : Str), topS 33, [("script" : Str), ("k" : Str), ("many" : Str)], [("script" : Str), ("k" : Str), ("many" : Str), ("spun" : Str)]⟩),
  (13, ⟨("_law_draw" : Str), topS 34, [("script" : Str), ("town" : Str), ("many" : Str)], [("script" : Str), ("town" : Str), ("many" : Str)]⟩),
  (9, ⟨("_law_part" : Str), topS 35, [("top" : Str), ("bottom" : Str)], [("top" : Str), ("bottom" : Str), ("one" : Str), ("other" : Str)]⟩),
  (14, ⟨("_law_some_album" : Str), topS 36, [("script" : Str), ("town" : Str), ("most" : Str)], [("script" : Str), ("town" : Str), ("most" : Str), ("n" : Str)]⟩),
  (35, ⟨("_law_pick" : Str), topS 38, [("script" : Str), ("town" : Str), ("some" : Str)], [("script" : Str), ("town" : Str), ("some" : Str)]⟩),
  (36, ⟨("_law_ask" : Str), topS 39, [("n" : Str), ("size" : Str), ("had" : Str), ("chance" : Str)], [("n" : Str), ("size" : Str), ("had" : Str), ("chance" : Str), ("e" : Str)]⟩),
  (37, ⟨("law" : Str), topS 40, [("script" : Str)], [("script" : Str), ("town" : Str), ("bottom" : Str), ("chance" : Str), ("fulls" : Str), ("small" : Str), ("due" : Str), ("got" : Str), ("off" : Str), ("n" : Str), ("size" : Str), ("had" : Str), ("packs" : Str), ("here" : Str), ("before_it" : Str), ("one" : Str)]⟩)], [(0, ("MOST" : Str))], [0, 1, 2, 3, 4, 5, 6, 7, 8, 9], true, topS 37⟩
theorem row_txt : row.txt TT = true := by decide +kernel
theorem law_ev (ns : List Int) (h : ns.length ≤ 63) : ∃ h', callF TT 12 37 [.scr ns] ⟨0, []⟩ = .ok (.bl true) h' := Alb.Rn.law04 ns h
end K04
end Alb
open PySem PySem.W PyProof.Rows Alb
set_option maxHeartbeats 0 in
theorem PySem.Challenge.cw_albumpacks_k04_whole_packs_for_holds : PySem.Challenge.rw_albumpacks_k04_whole_packs_for.Holds := by
  w_on; o_law; k_head; (case hw => w_witness2)
  k_fill
  refine L2.walk_of (l := PySem.Challenge.rw_albumpacks_k04_whole_packs_for) (n := 63) (k := 13) (x := "script") (CX := fun w => L2N.CX (PySem.Challenge.rw_albumpacks_k04_whole_packs_for).prog w) (sp := fun w => Alb.spLaw Alb.K04.row Alb.TT 12 37 _) rfl (by decide) rfl ⟨rfl, by decide, by decide⟩ (fun w h Y => PySem.W.kIn_of Y) ?F (fun _ => Alb.law_sp Alb.K04.law_ev _) (fun _ _ _ _ _ h => Alb.cx_no h)
  case F =>
    intro w mg fa h KX G hmg
    refine Alb.row_mk (R := Alb.K04.row) (T := Alb.TT) (n := 12) (lf := 37) KX G hmg rfl rfl rfl Alb.K04.row_txt (by kernel_rfl) ?facts ?wh
    case facts =>
      refine' Facts.cons ?a0 ?l0 ?c0 ?k0 (fun _ _ _ _ _ _ us hl => match us, hl with | [_, _, _], _ => rfl) (Facts.cons ?a1 ?l1 ?c1 ?k1 (fun _ _ _ _ _ _ us hl => match us, hl with | [_, _], _ => rfl) (Facts.cons ?a2 ?l2 ?c2 ?k2 (fun _ _ _ _ _ _ us hl => match us, hl with | [_, _], _ => rfl) (Facts.cons ?a3 ?l3 ?c3 ?k3 (fun _ _ _ _ _ _ us hl => match us, hl with | [_, _], _ => rfl) (Facts.cons ?a4 ?l4 ?c4 ?k4 (fun _ _ _ _ _ _ us hl => match us, hl with | [_, _], _ => rfl) (Facts.cons ?a5 ?l5 ?c5 ?k5 (fun _ _ _ _ _ _ us hl => match us, hl with | [_, _], _ => rfl) (Facts.cons ?a6 ?l6 ?c6 ?k6 (fun _ _ _ _ _ _ us hl => match us, hl with | [_], _ => rfl) (Facts.cons ?a7 ?l7 ?c7 ?k7 (fun _ _ _ _ _ _ us hl => match us, hl with | [_, _], _ => rfl) (Facts.cons ?a8 ?l8 ?c8 ?k8 (fun _ _ _ _ _ _ us hl => match us, hl with | [_, _], _ => rfl) (Facts.cons ?a9 ?l9 ?c9 ?k9 (fun _ _ _ _ _ _ us hl => match us, hl with | [_, _, _, _], _ => rfl) (Facts.cons ?a10 ?l10 ?c10 ?k10 (fun _ _ _ _ _ _ us hl => match us, hl with | [_, _, _], _ => rfl) (Facts.cons ?a11 ?l11 ?c11 ?k11 (fun _ _ _ _ _ _ us hl => match us, hl with | [_, _, _, _], _ => rfl) (Facts.cons ?a12 ?l12 ?c12 ?k12 (fun _ _ _ _ _ _ us hl => match us, hl with | [_, _, _, _], _ => rfl) (Facts.cons ?a13 ?l13 ?c13 ?k13 (fun _ _ _ _ _ _ us hl => match us, hl with | [_], _ => rfl) (Facts.cons ?a14 ?l14 ?c14 ?k14 (fun _ _ _ _ _ _ us hl => match us, hl with | [_, _, _, _], _ => rfl) (Facts.cons ?a15 ?l15 ?c15 ?k15 (fun _ _ _ _ _ _ us hl => match us, hl with | [_, _], _ => rfl) (Facts.cons ?a16 ?l16 ?c16 ?k16 (fun _ _ _ _ _ _ us hl => match us, hl with | [_, _, _], _ => rfl) (Facts.cons ?a17 ?l17 ?c17 ?k17 (fun _ _ _ _ _ _ us hl => match us, hl with | [_, _, _], _ => rfl) (Facts.cons ?a18 ?l18 ?c18 ?k18 (fun _ _ _ _ _ _ us hl => match us, hl with | [_, _], _ => rfl) (Facts.cons ?a19 ?l19 ?c19 ?k19 (fun _ _ _ _ _ _ us hl => match us, hl with | [_, _, _], _ => rfl) (Facts.cons ?a20 ?l20 ?c20 ?k20 (fun _ _ _ _ _ _ us hl => match us, hl with | [_, _, _], _ => rfl) (Facts.cons ?a21 ?l21 ?c21 ?k21 (fun _ _ _ _ _ _ us hl => match us, hl with | [_, _, _, _], _ => rfl) (Facts.cons ?a22 ?l22 ?c22 ?k22 (fun _ _ _ _ _ _ us hl => match us, hl with | [_], _ => rfl) (Facts.nil)))))))))))))))))))))))
      (case a0 => k_is); (case l0 => k_is); (case c0 => k_is); (case k0 => k_is); (case a1 => k_is); (case l1 => k_is); (case c1 => k_is); (case k1 => k_is); (case a2 => k_is); (case l2 => k_is); (case c2 => k_is); (case k2 => k_is); (case a3 => k_is); (case l3 => k_is); (case c3 => k_is); (case k3 => k_is); (case a4 => k_is); (case l4 => k_is); (case c4 => k_is); (case k4 => k_is); (case a5 => k_is); (case l5 => k_is); (case c5 => k_is); (case k5 => k_is); (case a6 => k_is); (case l6 => k_is); (case c6 => k_is); (case k6 => k_is); (case a7 => k_is); (case l7 => k_is); (case c7 => k_is); (case k7 => k_is); (case a8 => k_is); (case l8 => k_is); (case c8 => k_is); (case k8 => k_is); (case a9 => k_is); (case l9 => k_is); (case c9 => k_is); (case k9 => k_is); (case a10 => k_is); (case l10 => k_is); (case c10 => k_is); (case k10 => k_is); (case a11 => k_is); (case l11 => k_is); (case c11 => k_is); (case k11 => k_is); (case a12 => k_is); (case l12 => k_is); (case c12 => k_is); (case k12 => k_is); (case a13 => k_is); (case l13 => k_is); (case c13 => k_is); (case k13 => k_is); (case a14 => k_is); (case l14 => k_is); (case c14 => k_is); (case k14 => k_is); (case a15 => k_is); (case l15 => k_is); (case c15 => k_is); (case k15 => k_is); (case a16 => k_is); (case l16 => k_is); (case c16 => k_is); (case k16 => k_is); (case a17 => k_is); (case l17 => k_is); (case c17 => k_is); (case k17 => k_is); (case a18 => k_is); (case l18 => k_is); (case c18 => k_is); (case k18 => k_is); (case a19 => k_is); (case l19 => k_is); (case c19 => k_is); (case k19 => k_is); (case a20 => k_is); (case l20 => k_is); (case c20 => k_is); (case k20 => k_is); (case a21 => k_is); (case l21 => k_is); (case c21 => k_is); (case k21 => k_is); (case a22 => k_is); (case l22 => k_is); (case c22 => k_is); (case k22 => k_is)
    case wh =>
      intro _
      refine' Alb.wh_mk ?a ?l ?c ?k (fun _ _ _ _ _ _ us hl => match us, hl with | [_], _ => rfl)
      (case a => k_is); (case l => k_is); (case c => k_is); (case k => k_is)
