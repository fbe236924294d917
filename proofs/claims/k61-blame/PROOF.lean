import PyProof.Rows.All
import Wide.All
import OpenK.AllK
import Wide.FinOn
import HandS.ForMost
import HandS.Wide
import HandS.TupAny
import HandS.StrMore
import HandS.Gcd
import HandS.Lambda
import HandS.Deep
import HandS.IsInst
import HandS.TupMul
import HandS.Sort
import HandS.SortRule
import HandS.Conv
import HandS.Iter
import HandS.Style
import HandS.Strs
import HandS.SetFor
import HandS.TupSets
import HandS.SetBool
import KE.GoesEnum
import PyProof.SeqIndex
import HandS.SortInts
import HandS.Small
import KE.KSortedM
import HandS.CallSlots
import HandS.ForExc
import HandS.More
import HandS.AnyAll
import HandS.GenList
import PyProof.ConsumeS
import HandS.SortKw
import HandS.ExcOwn
import HandS.HeadWalk
import HandS.WordsExc
import HandS.Codes
import HandS.EndTab
import PySem.Challenge.RW_ontoworks_k61_blame
set_option Elab.async false
set_option linter.all false
set_option maxRecDepth 100000
section
/-! Zy, part A: a small core syntax, its meaning by values, and the reading of Python's trees into it. -/
namespace Zy
open PySem

/-- data that never changes -/
inductive D where
  | non | bl (b : Bool) | int (i : Int) | str (x : Str) | tup (l : List D)
  deriving Repr

mutual
def D.beq : D → D → Bool
  | .non, .non => true
  | .bl a, .bl b => a == b
  | .int a, .int b => a == b
  | .str a, .str b => decide (a = b)
  | .tup a, .tup b => D.beqs a b
  | _, _ => false
def D.beqs : List D → List D → Bool
  | [], [] => true
  | a :: r, b :: s => D.beq a b && D.beqs r s
  | _, _ => false
end
mutual
theorem D.beq_iff : ∀ a b : D, D.beq a b = true ↔ a = b
  | .non, b => by cases b <;> simp [D.beq]
  | .bl x, b => by cases b <;> simp [D.beq]
  | .int x, b => by cases b <;> simp [D.beq]
  | .str x, b => by cases b <;> simp [D.beq]
  | .tup x, b => by
    cases b with
    | tup y => simp only [D.beq, D.beqs_iff x y, D.tup.injEq]
    | _ => simp [D.beq]
theorem D.beqs_iff : ∀ a b : List D, D.beqs a b = true ↔ a = b
  | [], b => by cases b <;> simp [D.beqs]
  | x :: r, b => by
    cases b with
    | nil => simp [D.beqs]
    | cons y s => simp only [D.beqs, Bool.and_eq_true, D.beq_iff x y, D.beqs_iff r s, List.cons.injEq]
end
instance : DecidableEq D := fun a b => decidable_of_iff _ (D.beq_iff a b)

/-- values, with those that change, each owned at one place -/
inductive M where
  | hole
  | i (d : D)
  | lst (l : List D)
  | rol (l : List D)
  | kc (l : List D)
  | mls (l : List M)
  | rg (lo hi : Int)
  | ftp (l : List D)
  | mtp (l : List M)
  | dic (t : Bool) (l : List (D × D))
  | ins (c : Nat) (fs : List (Nat × M))
  deriving Repr
abbrev Env := List M

mutual
/-- as the library's data -/
def D.pd : D → PyData
  | .non => .none
  | .bl b => .bool b
  | .int i => .int i
  | .str x => .str x
  | .tup l => .tuple (D.pds l)
def D.pds : List D → List PyData
  | [] => []
  | d :: l => D.pd d :: D.pds l
end
theorem D.pds_map : ∀ l : List D, D.pds l = l.map D.pd
  | [] => rfl
  | d :: l => by rw [D.pds, D.pds_map l]; rfl
def D.shp (d : D) : Bool := SeqAt.shaped d.pd
/-- == -/
def D.deq (a b : D) : Bool := PyData.eqv a.pd b.pd

inductive Bop where | add | sub | mul | fdiv | mod | pow
  deriving DecidableEq, Repr
inductive Cop where | eq | ne | lt | le | gt | ge | isin | nin | isn | ntn
  deriving DecidableEq, Repr
inductive Blt where | len | int | min | max | tuple | list | all | any | sorted | sum | range | ftup | abs
  deriving DecidableEq, Repr
inductive Smt where | count | rfind | upper | split | index | join
  deriving DecidableEq, Repr
inductive Ty where | int | bool | str | tuple | list
  deriving DecidableEq, Repr

/-- a target -/
inductive Tg where | nm (i : Nat) | tp (l : List Nat)
  deriving Repr
/-- a place: a slot, then fields that are set once -/
structure Pl where
  i : Nat
  fs : List Nat
  deriving Repr, DecidableEq

mutual
/-- expressions that change nothing -/
inductive Px where
  | var (i : Nat)
  | lit (d : D)
  | cst (n : Nat) (d : D)
  | tup (es : List Px)
  | lst (es : List Px)
  | dnew (t : Bool)
  | disp (ks : List D) (es : List Px)
  | bop (op : Bop) (a b : Px)
  | neg (a : Px)
  | cmp (op : Cop) (a b : Px)
  | chn (op op2 : Cop) (a b c : Px)
  | and (a b : Px)
  | or (a b : Px)
  | not (a : Px)
  | ife (c : Pt) (a b : Px)
  | idx (a b : Px)
  | sl (a : Px) (lo hi : Option Px)
  | fld (a : Px) (f : Nat)
  | call (f : Nat) (es : List Px)
  | blt (b : Blt) (es : List Px)
  | smt (m : Smt) (o : Px) (es : List Px)
  | isi (a : Px) (t : Ty)
  | lc (own : List Nat) (t : Tg) (it : Ti) (c : Pt) (e : Px)
  | rev (a : Px)
  | ro (e : Px)
  | idm (o x : Px)
  | kdi (kvs : List (Str × D)) (b : Px)
  | cd (d : D)
  | sset (e : Px)
  | ssc (own : List Nat) (t : Tg) (it : Ti) (c : Pt) (e : Px)
  | stp (e : Px) (lo st : Int)
  | gcd (a b : Px)
  | gen (b : Bool) (own : List Nat) (t : Tg) (it : Ti) (e : Px)
  | srt (f : Nat) (e : Px)
  | srl (own : List Nat) (i : Nat) (b e : Px)
/-- tests -/
inductive Pt where
  | yes
  | v (e : Px)
  | and (a b : Pt)
  | or (a b : Pt)
  | not (a : Pt)
/-- what is walked -/
inductive Ti where
  | e (x : Px)
  | rng1 (a : Px) | rng2 (a b : Px)
end

/-- expressions that may change what the slots own -/
inductive Ix where
  | p (e : Px)
  | pl (q : Pl)
  | call (f : Nat) (es : List Ix)
  | meth (q : Pl) (m : Nat) (es : List Ix)
  | mk (c : Nat) (es : List Ix)
  | pop (q : Pl) (a : Px)
  | tup (es : List Ix)
  | lst (es : List Ix)
  | bop (op : Bop) (a b : Ix)
  | cmp (op : Cop) (a b : Ix)
  | idx (a b : Ix)
  | blt1 (b : Blt) (a : Ix)
  | and (a b : Ix)
  | or (a b : Ix)
  | not (a : Ix)
  | lrng (a : Ix)
  | idxq (q : Pl) (b : Ix)
  | popx (q : Pl) (b : Ix)
  | idxm (q : Pl) (a : Px) (b : Ix)
  | slm (q : Pl) (a : Px) (b : Ix)
  | lcx (own : List Nat) (t : Tg) (it : Ti) (c e : Ix)

/-- what is walked, with effects -/
inductive Wi where
  | e (x : Ix) | rng1 (a : Ix) | rng2 (a b : Ix)

inductive Tx where
  | p (e : Pt)
  | v (e : Ix)
  | and (a b : Tx)
  | or (a b : Tx)
  | not (a : Tx)

inductive Sm where
  | asg (i : Nat) (e : Ix)
  | unp (l : List Nat) (e : Ix)
  | app (q : Pl) (e : Ix)
  | setI (q : Pl) (k : Px) (e : Ix)
  | augI (q : Pl) (k : Px) (b : Bool) (e : Px)
  | setF (q : Pl) (f : Nat) (e : Ix)
  | ex (e : Ix)
  | ret (e : Ix)
  | retN
  | ite (c : Tx) (a b : List Sm)
  | whl (c : Tx) (b : List Sm)
  | for_ (t : Tg) (it : Ti) (k : Option Pl) (b : List Sm)
  | forX (t : Tg) (w : Wi) (b : List Sm)
  | brk | cnt | pass
  | aug (i : Nat) (b : Bool) (e : Px)
  | forE (t : Tg) (x : Px) (b : List Sm)
  | ext (q : Pl) (e : Ix)
  | bad

/-! ### meaning -/
def slot (δ : Env) (i : Nat) : M := (δ[i]?).getD .hole
def isImm : M → Bool
  | .i _ => true
  | _ => false

/-- an exception of the text's own -/
structure Ex where
  c : Nat
  fs : List (Nat × D)
  deriving Repr
/-- the outcome of a def: what it hands back, and its arguments as they stand behind it -/
inductive Fo where
  | ok (m : M) (ms : List M)
  | exc (x : Ex) (ms : List M)
  | bad
  deriving Repr
structure Sg where
  fn : Nat → List M → Fo
  mt : Nat → Nat → Option Nat
  ini : Nat → Option Nat
  wl : Nat

def toPd : M → Option PyData
  | .i d => if d.shp then some d.pd else none
  | .lst l => if SeqAt.shaped (.list (D.pds l)) then some (.list (D.pds l)) else none
  | _ => none

def mulOk (i j : Int) : Prop := L2.CMul i j ∨ L2.CMulW i j
instance (i j : Int) : Decidable (L2.CMul i j) := by unfold L2.CMul; infer_instance
instance (i j : Int) : Decidable (L2.CMulW i j) := by unfold L2.CMulW; infer_instance
instance (i j : Int) : Decidable (L2.CDivW i j) := by unfold L2.CDivW; infer_instance
instance (i j : Int) : Decidable (L2.CPow i j) := by unfold L2.CPow; infer_instance
instance (i j : Int) : Decidable (mulOk i j) := by unfold mulOk; infer_instance

def strMul (x : Str) (n : Int) : Str := ⟨(List.replicate n.toNat x.cps).foldl (· ++ ·) #[]⟩

def bopM : Bop → M → M → Option M
  | .add, .i (.int a), .i (.int b) => some (.i (.int (a + b)))
  | .add, .i (.str a), .i (.str b) => if a.length + b.length ≤ sizeLine then some (.i (.str (a ++ b))) else none
  | .add, .i (.tup a), .i (.tup b) => if a.length + b.length ≤ sizeLine then some (.i (.tup (a ++ b))) else none
  | .add, .lst a, .lst b => if a.length + b.length ≤ sizeLine then some (.lst (a ++ b)) else none
  | .sub, .i (.int a), .i (.int b) => some (.i (.int (a - b)))
  | .mul, .i (.int a), .i (.int b) => if mulOk a b then some (.i (.int (a * b))) else none
  | .mul, .i (.str a), .i (.int b) => if 0 ≤ b ∧ b < 1000 ∧ a.length ≤ 4000 then some (.i (.str (strMul a b))) else none
  | .mul, .i (.tup a), .i (.int b) => if a ≠ [] ∧ 2 ≤ b ∧ b ≤ 1000 ∧ a.length ≤ 1000 then some (.i (.tup (List.replicate b.toNat a).flatten)) else none
  | .fdiv, .i (.int a), .i (.int b) => if L2.CDivW a b then some (.i (.int (a / b))) else none
  | .mod, .i (.int a), .i (.int b) => if 0 < b then some (.i (.int (a % b))) else none
  | .pow, .i (.int a), .i (.int b) => if L2.CPow a b then some (.i (.int (a ^ b.toNat))) else none
  | _, _, _ => none

def strIn (x z : Str) : Bool := match x.cps.toList with
  | [c] => decide (c ∈ z.cps.toList)
  | _ => !(Builtin.Str.occurrences z x 0 z.length 1).isEmpty

def lookD (kvs : List (D × D)) (k : D) : Option D := (kvs.find? fun kv => decide (kv.1 = k)).map (·.2)
def flatK : D → Bool
  | .int _ => true
  | .str _ => true
  | _ => false
/-- what may be a key: an int or a text; a tuple of such -/
def keyOkD : Bool → D → Bool
  | false, d => flatK d
  | true, .tup l => l.all flatK
  | true, _ => false
def inM : M → M → Option Bool
  | .i x, .kc l => if x.shp ∧ l.all D.shp then some (l.any fun z => z.deq x) else none
  | .i x, .i (.tup l) => if x.shp ∧ l.all D.shp then some (l.any fun z => z.deq x) else none
  | .i x, .lst l => if x.shp ∧ l.all D.shp then some (l.any fun z => z.deq x) else none
  | .i x, .rol l => if x.shp ∧ l.all D.shp then some (l.any fun z => z.deq x) else none
  | .i (.int x), .rg lo hi => some (decide (lo ≤ x ∧ x < hi))
  | .i (.str x), .i (.str z) => some (strIn x z)
  | .i x, .dic t kvs => if keyOkD t x then some (lookD kvs x).isSome else none
  | _, _ => none
def ordM (f : Int → Int → Bool) : M → M → Option Bool
  | .i (.int a), .i (.int b) => some (f a b)
  | _, _ => none
def copM : Cop → M → M → Option Bool
  | .eq, a, b => do let x ← toPd a; let y ← toPd b; pure (PyData.eqv x y)
  | .ne, a, b => do let x ← toPd a; let y ← toPd b; pure (!PyData.eqv x y)
  | .lt, a, b => ordM (fun i j => decide (i < j)) a b
  | .le, a, b => ordM (fun i j => decide (i ≤ j)) a b
  | .gt, a, b => ordM (fun i j => decide (j < i)) a b
  | .ge, a, b => ordM (fun i j => decide (j ≤ i)) a b
  | .isin, a, b => inM a b
  | .nin, a, b => (inM a b).map (!·)
  | .isn, .i a, .i .non => some (decide (a = .non))
  | .ntn, .i a, .i .non => some (!decide (a = .non))
  | .isn, .i (.bl a), .i (.bl b) => some (a == b)
  | .ntn, .i (.bl a), .i (.bl b) => some (a != b)
  | _, _, _ => none

def putD (kvs : List (D × D)) (k v : D) : List (D × D) :=
  if (kvs.any fun kv => decide (kv.1 = k)) = true then kvs.map (fun kv => if kv.1 = k then (kv.1, v) else kv) else kvs ++ [(k, v)]
/-- the pairs of a display, one put behind another -/
def dispD : List D → List D → List (D × D) → List (D × D)
  | k :: ks, d :: ds, kvs => dispD ks ds (putD kvs k d)
  | _, _, kvs => kvs
def idxM : M → M → Option M
  | .i (.tup l), .i (.int k) => (L2.atI l k).map .i
  | .lst l, .i (.int k) => (L2.atI l k).map .i
  | .rol l, .i (.int k) => (L2.atI l k).map .i
  | .mls l, .i (.int k) => L2.atI l k
  | .mtp l, .i (.int k) => L2.atI l k
  | .i (.str x), .i (.int k) => if x.length ≤ sizeLine then (L2.atI x.cps.toList k).map fun c => .i (.str ⟨#[c]⟩) else none
  | .kc l, .i (.int k) => (L2.atI l k).map .i
  | .dic t kvs, .i k => if keyOkD t k then (lookD kvs k).map .i else none
  | _, _ => none
def cutD (l : List D) (lo hi : Option Int) : List D := (l.drop (HT.sIx l.length 0 lo)).take (HT.sIx l.length l.length hi - HT.sIx l.length 0 lo)
def slM : M → Option Int → Option Int → Option M
  | .i (.tup l), lo, hi => some (.i (.tup (cutD l lo hi)))
  | .lst l, lo, hi => some (.lst (cutD l lo hi))
  | .rol l, lo, hi => some (.lst (cutD l lo hi))
  | .i (.str x), lo, hi => if x.length ≤ sizeLine then some (.i (.str (L2.cutS x lo hi))) else none
  | _, _, _ => none
def truM : M → Option Bool
  | .i .non => some false
  | .i (.bl b) => some b
  | .i (.int k) => some (k != 0)
  | .i (.str x) => if x.length ≤ sizeLine then some (x.length != 0) else none
  | .i (.tup l) => some (!l.isEmpty)
  | .lst l => some (!l.isEmpty)
  | .rol l => some (!l.isEmpty)
  | _ => none
def allB : List D → Option (List Bool)
  | [] => some []
  | .bl b :: r => (allB r).map (b :: ·)
  | _ => none
def allI : List D → Option (List Int)
  | [] => some []
  | .int b :: r => (allI r).map (b :: ·)
  | _ => none
def allS : List D → Option (List Str)
  | [] => some []
  | .str b :: r => (allS r).map (b :: ·)
  | _ => none
def insI (x : Int) : List Int → List Int
  | [] => [x]
  | y :: r => if x ≤ y then x :: y :: r else y :: insI x r
def sortI : List Int → List Int
  | [] => []
  | x :: r => insI x (sortI r)
/-- an int or a bool, as an int -/
def numD : D → Option Int
  | .int i => some i
  | .bl b => some (if b then 1 else 0)
  | _ => none
def numsD : List D → Option (List Int)
  | [] => some []
  | d :: r => (match numD d, numsD r with | some x, some xs => some (x :: xs) | _, _ => none)
/-- a row of ints and bools, an int ahead -/
def rowD : D → Option (List Int)
  | .tup (.int i :: r) => (numsD r).map (i :: ·)
  | _ => none
def lexI : List Int → List Int → Bool
  | [], [] => false
  | [], _ :: _ => true
  | _ :: _, [] => false
  | x :: r, y :: q => if x = y then lexI r q else decide (x < y)
def rowK (d : D) : List Int := (rowD d).getD []
/-- laid in behind those that it is not below -/
def insR (x : D) : List D → List D
  | [] => [x]
  | y :: r => if lexI (rowK y) (rowK x) then y :: insR x r else x :: y :: r
def sortR : List D → List D
  | [] => []
  | x :: r => insR x (sortR r)
def isBlD : D → Bool
  | .bl _ => true
  | _ => false
/-- which places are bools -/
def rowS : D → List Bool
  | .tup l => l.map isBlD
  | _ => []
def rowOk (l : List D) : Bool := l.all fun d => (rowD d).isSome && decide (rowS d = rowS (l.headD .non))
def sortM (l : List D) : Option M := match allI l with
  | some ns => some (.lst ((sortI ns).map .int))
  | none => if rowOk l then some (.lst (sortR l)) else none
/-- the items, each behind its number -/
def enumL : Nat → List D → List D
  | _, [] => []
  | k, d :: r => .tup [.int k, d] :: enumL (k + 1) r
def rngOk (a : Int) : Bool := decide (-(2 ^ 62) ≤ a ∧ a < 2 ^ 62)
def rngL (a : Int) : Nat → List D
  | 0 => []
  | n + 1 => .int a :: rngL (a + 1) n
def rgOk (a b : Int) : Bool := rngOk a && rngOk b && decide (b - a ≤ 16777216)
def bltM : Blt → List M → Option M
  | .len, [.i (.tup l)] => some (.i (.int l.length))
  | .len, [.i (.str x)] => if x.length ≤ sizeLine then some (.i (.int x.length)) else none
  | .len, [.lst l] => some (.i (.int l.length))
  | .len, [.rol l] => some (.i (.int l.length))
  | .len, [.kc l] => some (.i (.int l.length))
  | .len, [.mls l] => some (.i (.int l.length))
  | .int, [.i (.int k)] => some (.i (.int k))
  | .int, [.i (.bl b)] => some (.i (.int (if b then 1 else 0)))
  | .min, [.i (.int a), .i (.int b)] => some (.i (.int (if b < a then b else a)))
  | .max, [.i (.int a), .i (.int b)] => some (.i (.int (if b > a then b else a)))
  | .tuple, [.lst l] => some (.i (.tup l))
  | .tuple, [.rol l] => some (.i (.tup l))
  | .tuple, [.i (.tup l)] => some (.i (.tup l))
  | .list, [.lst l] => some (.lst l)
  | .list, [.rol l] => some (.lst l)
  | .list, [.i (.tup l)] => some (.lst l)
  | .all, [.lst l] => (allB l).map fun bs => .i (.bl (bs.all id))
  | .any, [.lst l] => (allB l).map fun bs => .i (.bl (bs.any id))
  | .sum, [.lst l] => (allI l).map fun ns => .i (.int ns.sum)
  | .sorted, [.lst l] => sortM l
  | .sorted, [.rol l] => sortM l
  | .sorted, [.i (.tup l)] => (allI l).map fun ns => .lst ((sortI ns).map .int)
  | .range, [.i (.int b)] => some (.rg 0 b)
  | .range, [.i (.int a), .i (.int b)] => some (.rg a b)
  | .ftup, [.lst l] => some (.ftp l)
  | .abs, [.i (.int k)] => some (.i (.int (if k < 0 then -k else k)))
  | .tuple, [.rg a b] => if rgOk a b then some (.i (.tup (rngL a (b - a).toNat))) else none
  | .list, [.rg a b] => if rgOk a b then some (.lst (rngL a (b - a).toNat)) else none
  | _, _ => none
/-- texts, x between them -/
def joinM (x : Str) (l : List D) : Option M := match allS l with
  | some ys => if (ys.map (·.length)).sum + ys.length * x.length ≤ 16777216 then some (.i (.str (Txt.join x ys))) else none
  | none => none
def smtM : Smt → M → List M → Option M
  | .count, .i (.str x), [.i (.str y)] => some (.i (.int (Txt.count x y)))
  | .rfind, .i (.str x), [.i (.str y)] => some (.i (.int (Txt.rfind x y)))
  | .upper, .i (.str x), [] => if x.length ≤ 5592405 then some (.i (.str (Txt.upper x))) else none
  | .split, .i (.str x), [.i (.str y)] => if (y.length == 0) = false ∧ x.length + 2 ≤ sizeLine then some (.lst ((Txt.split x y).map .str)) else none
  | .join, .i (.str x), [.lst l] => joinM x l
  | .join, .i (.str x), [.rol l] => joinM x l
  | .join, .i (.str x), [.i (.tup l)] => joinM x l
  | _, _, _ => none
def isiM : M → Ty → Option Bool
  | .i (.int _), t => some (decide (t = .int))
  | .i (.bl _), t => some (decide (t = .int ∨ t = .bool))
  | .i (.str _), t => some (decide (t = .str))
  | .i (.tup _), t => some (decide (t = .tuple))
  | .i .non, _ => some false
  | .lst _, t => some (decide (t = .list))
  | _, _ => none

def tgSet : Tg → D → Env → Option Env
  | .nm i, d, δ => if i < δ.length then some (δ.set i (.i d)) else none
  | .tp l, .tup ds, δ => if l.length = ds.length ∧ l.all (· < δ.length) then some ((l.zip ds).foldl (fun δ p => δ.set p.1 (.i p.2)) δ) else none
  | _, _, _ => none
def wipeE (δ : Env) : List Nat → Env
  | [] => δ
  | v :: vs => (wipeE δ vs).set v .hole

def roM : M → Bool
  | .i _ => true
  | .rol _ => true
  | .rg _ _ => true
  | .ftp _ => true
  | _ => false
def imms : List M → Option (List D)
  | [] => some []
  | .i d :: r => (imms r).map (d :: ·)
  | _ => none
/-- [f d for d in l if ..] -/
def lcL (f : D → Option (Option D)) : List D → Option (List D)
  | [] => some []
  | d :: r => do
    let x ← f d
    let ys ← lcL f r
    pure (x.toList ++ ys)
def itL : M → Option (List D)
  | .i (.tup l) => some l
  | .i (.str x) => some (x.cps.toList.map fun c => .str ⟨#[c]⟩)
  | .lst l => some l
  | .rol l => some l
  | .kc l => some l
  | .ftp l => some l
  | .rg a b => if rngOk a && rngOk b then some (rngL a (b - a).toNat) else none
  | _ => none
def revM : M → Option M
  | .i (.tup l) => some (.i (.tup l.reverse))
  | .lst l => some (.lst l.reverse)
  | .rol l => some (.lst l.reverse)
  | _ => none
def idxL (l : List D) (x : D) : Option M := if x.shp = true ∧ SeqAt.shaped (.list (D.pds l)) = true then (l.findIdx? fun z => z.deq x).map fun (j : Nat) => M.i (D.int (j : Int)) else none
def idmM : M → M → Option M
  | .lst l, .i x => idxL l x
  | .rol l, .i x => idxL l x
  | .ftp l, .i x => idxL l x
  | _, _ => none
/-- as seen while nothing is written -/
def ro1 : M → M
  | .i d => .i d
  | .rol l => .rol l
  | .kc l => .kc l
  | .ftp l => .ftp l
  | .rg a b => .rg a b
  | .lst l => .rol l
  | _ => .hole
def roE (δ : Env) : Env := δ.map ro1
/-- the value is no part of another one -/
def frs : Px → Bool
  | .var _ | .idx _ _ | .fld _ _ | .and _ _ | .or _ _ | .ife _ _ _ => false
  | .ro e => frs e
  | _ => true
def roR (e : Px) : M → Option M
  | .i d => some (.i d)
  | .lst l => if frs e then some (.lst l) else none
  | _ => none

/-- a dict of the module, looked into -/
def kdM (kvs : List (Str × D)) : M → Option M
  | .i (.str z) => (kvs.lookup z).map .i
  | _ => none
/-- ints, each once, ascending -/
def insU (x : Int) : List Int → List Int
  | [] => [x]
  | y :: r => if x < y then x :: y :: r else if x = y then y :: r else y :: insU x r
def sortU : List Int → List Int
  | [] => []
  | x :: r => insU x (sortU r)
def ssD (l : List D) : Option M := match allI l with
  | some ns => if ns.length < 64 then some (.lst ((sortU ns).map .int)) else none
  | none => none
def ssetM : M → Option M
  | .lst l => ssD l
  | .rol l => ssD l
  | _ => none
/-- what a slice with a step picks -/
def pickL {α : Type} (lo st : Int) (l : List α) : List α := (sliceRange (sliceBounds (some lo) none (some st) l.length).1 (sliceBounds (some lo) none (some st) l.length).2.1 (sliceBounds (some lo) none (some st) l.length).2.2).filterMap fun i => l[i]?
def stpM (lo st : Int) : M → Option M
  | .lst l => if st ≠ 0 then some (.lst (pickL lo st l)) else none
  | .rol l => if st ≠ 0 then some (.lst (pickL lo st l)) else none
  | _ => none
def gcdM : M → M → Option M
  | .i (.int a), .i (.int b) => some (.i (.int (Nat.gcd a.natAbs b.natAbs : Nat)))
  | _, _ => none
/-- any (b), all (not b) of what f says, one after another -/
def anyL (b : Bool) (f : D → Option Bool) : List D → Option Bool
  | [] => some (!b)
  | d :: r => do
    let k ← f d
    if k = b then some b else anyL b f r
def mapL (f : D → Option D) : List D → Option (List D)
  | [] => some []
  | d :: r => do
    let x ← f d
    let ys ← mapL f r
    pure (x :: ys)
/-- a key (n, row of ints), as ints -/
def kyD : D → Option (List Int)
  | .tup [.int n, .tup l] => (allI l).map (n :: ·)
  | _ => none
def kysD : List D → Option (List (List Int))
  | [] => some []
  | d :: r => (match kyD d, kysD r with | some k, some ks => some (k :: ks) | _, _ => none)
def insP (p : List Int × D) : List (List Int × D) → List (List Int × D)
  | [] => [p]
  | q :: r => if lexI q.1 p.1 then q :: insP p r else p :: q :: r
def sortP : List (List Int × D) → List (List Int × D)
  | [] => []
  | p :: r => insP p (sortP r)
def isTupD : D → Bool
  | .tup _ => true
  | _ => false
def srtM (ks l : List D) : Option M := match kysD ks with
  | some kz => if l.all isTupD = true then some (.lst ((sortP (kz.zip l)).map (·.2))) else none
  | none => none
def seqL : M → Option (List D)
  | .lst l => some l
  | .rol l => some l
  | _ => none
def keyF : Fo → Option D
  | .ok (.i k) _ => some k
  | _ => none
def keyM : M → Option D
  | .i k => some k
  | _ => none
def blM : M → Option Bool
  | .i (.bl k) => some k
  | _ => none
def cstM : D → M
  | .tup l => .kc l
  | d => .i d

mutual
def pv (S : Sg) : Px → Env → Option M
  | .var i, δ => match slot δ i with
    | .hole => none
    | m => some m
  | .lit d, _ => some (.i d)
  | .cst _ d, _ => some (cstM d)
  | .tup es, δ => do let ms ← pvs S es δ; let ds ← imms ms; if ds.length ≤ sizeLine then some (.i (.tup ds)) else none
  | .lst es, δ => do let ms ← pvs S es δ; let ds ← imms ms; if ds.length ≤ sizeLine then some (.lst ds) else none
  | .dnew t, _ => some (.dic t [])
  | .disp ks es, δ => do let ms ← pvs S es δ; let ds ← imms ms; if ks.length = ds.length ∧ ks.all flatK = true ∧ ks.length ≤ 15 then some (.dic false (dispD ks ds [])) else none
  | .bop op a b, δ => do let x ← pv S a δ; let y ← pv S b δ; bopM op x y
  | .neg a, δ => do match ← pv S a δ with | .i (.int k) => some (.i (.int (-k))) | _ => none
  | .cmp op a b, δ => do let x ← pv S a δ; let y ← pv S b δ; (copM op x y).map fun b => .i (.bl b)
  | .chn op op2 a b c, δ => do
    let x ← pv S a δ
    let y ← pv S b δ
    let k ← copM op x y
    if k then (do let z ← pv S c δ; (copM op2 y z).map fun b => .i (.bl b)) else some (.i (.bl false))
  | .and a b, δ => do match ← pv S a δ with | .i (.bl k) => if k then pv S b δ else some (.i (.bl false)) | _ => none
  | .or a b, δ => do match ← pv S a δ with | .i (.bl k) => if k then some (.i (.bl true)) else pv S b δ | _ => none
  | .not a, δ => do match ← pv S a δ with | .i (.bl k) => some (.i (.bl (!k))) | _ => none
  | .ife c a b, δ => do let k ← tv S c δ; if k then pv S a δ else pv S b δ
  | .idx a b, δ => do let x ← pv S a δ; let y ← pv S b δ; idxM x y
  | .sl a lo hi, δ => do let x ← pv S a δ; let l ← po S lo δ; let h ← po S hi δ; slM x l h
  | .fld a f, δ => do match ← pv S a δ with | .ins _ fs => (match fs.lookup f with | some .hole => none | r => r) | _ => none
  | .call f es, δ => do
    let ms ← pvs S es δ
    if ms.all roM then (match S.fn f ms with
    | .ok m _ => some m
    | _ => none) else none
  | .blt b es, δ => do let ms ← pvs S es δ; bltM b ms
  | .smt m o es, δ => do let x ← pv S o δ; let ms ← pvs S es δ; smtM m x ms
  | .isi a t, δ => do let x ← pv S a δ; (isiM x t).map fun b => .i (.bl b)
  | .lc own t it c e, δ => do
    let l ← tiL S it δ
    let r ← lcL (fun d => do
      let δ1 ← tgSet t d (wipeE δ own)
      let k ← tv S c δ1
      if k then (do match ← pv S e δ1 with | .i d => some (some d) | _ => none) else some none) l
    if r.length < sizeLine then some (.lst r) else none
  | .rev a, δ => do revM (← pv S a δ)
  | .ro e, δ => do roR e (← pv S e (roE δ))
  | .idm o x, δ => do let m ← pv S o δ; let y ← pv S x δ; idmM m y
  | .kdi kvs b, δ => do kdM kvs (← pv S b δ)
  | .cd d, _ => some (.i d)
  | .sset e, δ => do ssetM (← pv S e δ)
  | .ssc own t it c e, δ => do
    let l ← tiL S it δ
    let r ← lcL (fun d => do
      let δ1 ← tgSet t d (wipeE δ own)
      let k ← tv S c δ1
      if k then (do match ← pv S e δ1 with | .i d => some (some d) | _ => none) else some none) l
    ssD r
  | .stp e lo st, δ => do stpM lo st (← pv S e δ)
  | .gcd a b, δ => do let x ← pv S a δ; let y ← pv S b δ; gcdM x y
  | .gen b own t it e, δ => do
    let l ← tiL S it δ
    let k ← anyL b (fun d => do
      let δ1 ← tgSet t d (wipeE δ own)
      blM (← pv S e δ1)) l
    some (.i (.bl k))
  | .srt f e, δ => do
    let l ← seqL (← pv S e δ)
    let ks ← mapL (fun d => keyF (S.fn f [.i d])) l
    srtM ks l
  | .srl own i b e, δ => do
    let l ← seqL (← pv S e δ)
    let ks ← mapL (fun d => do
      let δ1 ← tgSet (.nm i) d (wipeE δ own)
      keyM (← pv S b δ1)) l
    srtM ks l
def pvs (S : Sg) : List Px → Env → Option (List M)
  | [], _ => some []
  | e :: es, δ => do let m ← pv S e δ; let ms ← pvs S es δ; pure (m :: ms)
def po (S : Sg) : Option Px → Env → Option (Option Int)
  | none, _ => some none
  | some e, δ => do match ← pv S e δ with | .i (.int k) => some (some k) | _ => none
/-- as a test -/
def tv (S : Sg) : Pt → Env → Option Bool
  | .yes, _ => some true
  | .v e, δ => do truM (← pv S e δ)
  | .and a b, δ => do if ← tv S a δ then tv S b δ else some false
  | .or a b, δ => do if ← tv S a δ then some true else tv S b δ
  | .not a, δ => do let k ← tv S a δ; some (!k)
def tiL (S : Sg) : Ti → Env → Option (List D)
  | .e x, δ => do itL (← pv S x δ)
  | .rng1 a, δ => do match ← pv S a δ with | .i (.int n) => if rngOk n then some (rngL 0 n.toNat) else none | _ => none
  | .rng2 a b, δ => do match ← pv S a δ, ← pv S b δ with | .i (.int m), .i (.int n) => if rngOk m && rngOk n then some (rngL m (n - m).toNat) else none | _, _ => none
end

/-! ### what changes -/
inductive R (α : Type) where
  | ok (a : α) (δ : Env)
  | exc (x : Ex) (δ : Env)
  | bad
def R.bnd {α β : Type} (r : R α) (f : α → Env → R β) : R β := match r with
  | .ok a δ => f a δ
  | .exc x δ => .exc x δ
  | .bad => .bad
def R.of {α : Type} (o : Option α) (δ : Env) : R α := match o with
  | some a => .ok a δ
  | none => .bad
def R.of' {α : Type} (o : Option Env) (f : Env → R α) : R α := match o with
  | some a => f a
  | none => .bad
def pathGet : M → List Nat → M
  | m, [] => m
  | .ins _ fs, f :: r => pathGet ((fs.lookup f).getD .hole) r
  | _, _ => .hole
def putFd : List (Nat × M) → Nat → M → List (Nat × M)
  | [], f, m => [(f, m)]
  | kv :: r, f, m => if kv.1 = f then (f, m) :: r else kv :: putFd r f m
def pathSet : M → List Nat → M → M
  | _, [], x => x
  | .ins c fs, f :: r, x => .ins c (putFd fs f (pathSet ((fs.lookup f).getD .hole) r x))
  | m, _, _ => m
def plGet (q : Pl) (δ : Env) : M := pathGet (slot δ q.i) q.fs
def plSet (q : Pl) (x : M) (δ : Env) : Env := δ.set q.i (pathSet (slot δ q.i) q.fs x)
def evP (S : Sg) (e : Px) (δ : Env) : R M := match pv S e δ with
  | some (.i d) => .ok (.i d) δ
  | some m => if frs e then .ok m δ else .bad
  | none => .bad
/-- a place's value, moved out if it is owned -/
def evPl (q : Pl) (δ : Env) : R M := match plGet q δ with
  | .hole => .bad
  | .i d => .ok (.i d) δ
  | .rol l => .ok (.rol l) δ
  | .rg a b => .ok (.rg a b) δ
  | .ftp l => .ok (.ftp l) δ
  | m => if q.fs.isEmpty then .ok m (plSet q .hole δ) else .bad
inductive Ar where
  | v (m : M)
  | q (q : Pl)
def takeAll : List Ar → Env → Option (List M × Env)
  | [], δ => some ([], δ)
  | .v m :: r, δ => do let (ms, δ1) ← takeAll r δ; pure (m :: ms, δ1)
  | .q q :: r, δ => do
    let m := plGet q δ
    match m with
    | .hole => none
    | m => do let (ms, δ1) ← takeAll r (plSet q .hole δ); pure (m :: ms, δ1)
def pathOk : M → List Nat → Bool
  | _, [] => true
  | .ins _ fs, f :: r => (match fs.lookup f with | some m => pathOk m r | none => false)
  | _, _ => false
def plOk (q : Pl) (δ : Env) : Bool := decide (q.i < δ.length) && pathOk (slot δ q.i) q.fs
def putAll : List Ar → List M → Env → Option Env
  | .v _ :: r, _ :: ms, δ => putAll r ms δ
  | .q q :: r, m :: ms, δ => (putAll r ms δ).bind fun δ1 => if plOk q δ1 then some (plSet q m δ1) else none
  | [], _, δ => some δ
  | _, _, _ => none
def callF (S : Sg) (f : Nat) (as : List Ar) (δ : Env) : R M := match takeAll as δ with
  | some (ms, δ1) => (match S.fn f ms with
    | .ok m ms' => R.of' (putAll as ms' δ1) fun δ2 => .ok m δ2
    | .exc x ms' => R.of' (putAll as ms' δ1) fun δ2 => .exc x δ2
    | .bad => .bad)
  | none => .bad
/-- [.. for ..] whose turns change what the slots own -/
def lcxL (body : D → Env → R (Option D)) : List D → Env → R (List D)
  | [], δ => .ok [] δ
  | d :: r, δ => (body d δ).bnd fun x δ1 => (lcxL body r δ1).bnd fun ys δ2 => .ok (x.toList ++ ys) δ2
def roH : M → Bool
  | .hole => true
  | m => roM m
/-- these slots as they were -/
def restE (δ0 δ : Env) : List Nat → Env
  | [] => δ
  | v :: vs => (restE δ0 δ vs).set v (slot δ0 v)
/-- what is walked is not a list of ours -/
def itRo (S : Sg) : Ti → Env → Bool
  | .e x, δ => (match pv S x δ with
    | some (.lst _) => false
    | _ => true)
  | _, _ => true
def dropL (l : List D) (k : Int) : Option (D × List D) := if rngOk k then (L2.ixN l.length k).bind fun j => (l[j]?).map fun d => (d, l.eraseIdx j) else none

mutual
def ev (S : Sg) : Ix → Env → R M
  | .p e, δ => evP S e δ
  | .pl q, δ => evPl q δ
  | .call f es, δ => (eva S es δ).bnd fun as δ1 => callF S f as δ1
  | .meth q m es, δ => match plGet q δ with
    | .ins c _ => (match S.mt c m with | some f => (eva S es δ).bnd fun as δ1 => callF S f (.q q :: as) δ1 | none => .bad)
    | _ => .bad
  | .mk c es, δ => match S.ini c with
    | some f => (eva S es δ).bnd fun as δ1 => (match takeAll as δ1 with
      | some (ms, δ2) => (match S.fn f (.ins c [] :: ms) with
        | .ok (.i .non) (m :: ms') => R.of' (putAll as ms' δ2) fun δ3 => .ok m δ3
        | .exc x (_ :: ms') => R.of' (putAll as ms' δ2) fun δ3 => .exc x δ3
        | _ => .bad)
      | none => .bad)
    | none => .bad
  | .pop q a, δ => match pv S a δ, plGet q δ with
    | some (.i (.int k)), .lst l => (match dropL l k with | some (d, r) => .ok (.i d) (plSet q (.lst r) δ) | none => .bad)
    | _, _ => .bad
  | .tup es, δ => (evs S es δ).bnd fun ms δ1 => match imms ms with
    | some ds => if ds.length ≤ sizeLine then .ok (.i (.tup ds)) δ1 else .bad
    | none => if ms.length ≤ sizeLine then .ok (.mtp ms) δ1 else .bad
  | .lst es, δ => (evs S es δ).bnd fun ms δ1 => if ms.length ≤ sizeLine then (match imms ms with
    | some ds => .ok (.lst ds) δ1
    | none => .ok (.mls ms) δ1) else .bad
  | .bop op a b, δ => (ev S a δ).bnd fun x δ1 => (ev S b δ1).bnd fun y δ2 => R.of (bopM op x y) δ2
  | .cmp op a b, δ => (ev S a δ).bnd fun x δ1 => (ev S b δ1).bnd fun y δ2 => R.of ((copM op x y).map fun b => .i (.bl b)) δ2
  | .idx a b, δ => (ev S a δ).bnd fun x δ1 => (ev S b δ1).bnd fun y δ2 => match idxM x y with
    | some (.i d) => .ok (.i d) δ2
    | _ => .bad
  | .blt1 b a, δ => (ev S a δ).bnd fun x δ1 => R.of (bltM b [x]) δ1
  | .and a b, δ => (ev S a δ).bnd fun x δ1 => match x with
    | .i (.bl k) => if k then ev S b δ1 else .ok (.i (.bl false)) δ1
    | _ => .bad
  | .or a b, δ => (ev S a δ).bnd fun x δ1 => match x with
    | .i (.bl k) => if k then .ok (.i (.bl true)) δ1 else ev S b δ1
    | _ => .bad
  | .lrng a, δ => (ev S a δ).bnd fun x δ1 => match x with
    | .i (.int n) => if rngOk n = true ∧ n ≤ 1000000 then .ok (.lst (rngL 0 n.toNat)) δ1 else .bad
    | _ => .bad
  | .not a, δ => (ev S a δ).bnd fun x δ1 => match x with
    | .i (.bl k) => .ok (.i (.bl (!k))) δ1
    | _ => .bad
  | .lcx own t it c e, δ => match tiL S it δ with
    | some l => if own.all (fun i => roH (slot δ i)) = true ∧ itRo S it δ = true then (match lcxL (fun d δ1 => match tgSet t d (wipeE δ1 own) with
        | some δ2 => (ev S c δ2).bnd fun m δ3 => (R.of (truM m) δ3).bnd fun k δ4 => if k then (ev S e δ4).bnd fun m δ5 => (match m with
          | .i d => .ok (some d) δ5
          | _ => .bad) else .ok none δ4
        | none => .bad) l δ with
      | .ok r δ1 => if r.length < sizeLine then .ok (.lst r) (restE δ δ1 own) else .bad
      | _ => .bad) else .bad
    | none => .bad
  | .popx q b, δ => match plGet q δ with
    | .lst _ => (ev S b δ).bnd fun y δ1 => match y, plGet q δ1 with
      | .i (.int k), .lst l => (match dropL l k with | some (d, r) => .ok (.i d) (plSet q (.lst r) δ1) | none => .bad)
      | _, _ => .bad
    | _ => .bad
  | .idxm q a b, δ => match plGet q δ, pv S a δ with
    | .mls l, some (.i (.int k)) => (match L2.atI l k, takeAll [.q q] δ with
      | some (.lst r), some (ms, δ1) => (ev S b δ1).bnd fun y δ2 => R.of' (putAll [.q q] ms δ2) fun δ3 => match idxM (.lst r) y with
        | some (.i d) => .ok (.i d) δ3
        | _ => .bad
      | _, _ => .bad)
    | _, _ => .bad
  | .slm q a b, δ => match plGet q δ, pv S a δ with
    | .mls l, some (.i (.int k)) => (match L2.atI l k, takeAll [.q q] δ with
      | some (.lst r), some (ms, δ1) => (ev S b δ1).bnd fun y δ2 => R.of' (putAll [.q q] ms δ2) fun δ3 => match y with
        | .i (.int hi) => .ok (.lst (cutD r none (some hi))) δ3
        | _ => .bad
      | _, _ => .bad)
    | _, _ => .bad
  | .idxq q b, δ => match plGet q δ with
    | .hole => .bad
    | _ => (ev S b δ).bnd fun y δ1 => match idxM (plGet q δ1) y with
      | some (.i d) => .ok (.i d) δ1
      | _ => .bad
/-- values one after another, each immutable or new -/
def evs (S : Sg) : List Ix → Env → R (List M)
  | [], δ => .ok [] δ
  | e :: es, δ => (ev S e δ).bnd fun m δ1 => (evs S es δ1).bnd fun ms δ2 => .ok (m :: ms) δ2
/-- arguments: a place that holds what changes is handed in as a place -/
def eva (S : Sg) : List Ix → Env → R (List Ar)
  | [], δ => .ok [] δ
  | e :: es, δ => (match e with
    | .pl q => (match plGet q δ with
      | .hole => R.bad
      | .i d => .ok (Ar.v (.i d)) δ
      | .rol l => .ok (Ar.v (.rol l)) δ
      | .rg a b => .ok (Ar.v (.rg a b)) δ
      | .ftp l => .ok (Ar.v (.ftp l)) δ
      | _ => .ok (Ar.q q) δ)
    | e => (ev S e δ).bnd fun m δ1 => .ok (Ar.v m) δ1).bnd fun a δ1 => (eva S es δ1).bnd fun as δ2 => .ok (a :: as) δ2
end
def evW (S : Sg) : Wi → Env → R (List D)
  | .e x, δ => (ev S x δ).bnd fun m δ1 => R.of (itL m) δ1
  | .rng1 a, δ => (ev S a δ).bnd fun m δ1 => match m with
    | .i (.int n) => if rngOk n then .ok (rngL 0 n.toNat) δ1 else .bad
    | _ => .bad
  | .rng2 a b, δ => (ev S a δ).bnd fun m δ1 => (ev S b δ1).bnd fun m2 δ2 => match m, m2 with
    | .i (.int x), .i (.int y) => if rngOk x && rngOk y then .ok (rngL x (y - x).toNat) δ2 else .bad
    | _, _ => .bad
def tx (S : Sg) : Tx → Env → R Bool
  | .p e, δ => R.of (tv S e δ) δ
  | .v e, δ => (ev S e δ).bnd fun m δ1 => R.of (truM m) δ1
  | .and a b, δ => (tx S a δ).bnd fun k δ1 => if k then tx S b δ1 else .ok false δ1
  | .or a b, δ => (tx S a δ).bnd fun k δ1 => if k then .ok true δ1 else tx S b δ1
  | .not a, δ => (tx S a δ).bnd fun k δ1 => .ok (!k) δ1

/-- how a statement ends -/
inductive Fl where
  | nx (δ : Env)
  | bk (δ : Env)
  | ct (δ : Env)
  | rt (m : M) (δ : Env)
  | exc (x : Ex) (δ : Env)
  | bad
def Fl.of {α : Type} (r : R α) (f : α → Env → Fl) : Fl := match r with
  | .ok a δ => f a δ
  | .exc x δ => .exc x δ
  | .bad => .bad
def Fl.seq (r : Fl) (f : Env → Fl) : Fl := match r with
  | .nx δ => f δ
  | r => r
def isL : M → Bool
  | .lst _ => true
  | .mls _ => true
  | _ => false
/-- one more at the end of a list -/
def appM : M → M → Option M
  | .lst l, .i d => if l.length < sizeLine then some (.lst (l ++ [d])) else none
  | .lst [], m => some (.mls [m])
  | .mls ms, m => if ms.length < sizeLine then some (.mls (ms ++ [m])) else none
  | _, _ => none
/-- a list is made longer by another one -/
def extM : M → M → Option M
  | .lst l, .lst r => if l.length + r.length ≤ sizeLine then some (.lst (l ++ r)) else none
  | _, _ => none
def isLd : M → Bool
  | .lst _ => true
  | _ => false
def isLst (l : List D) : M → Bool
  | .lst l' => decide (l' = l)
  | _ => false
def forL (chk : Env → Bool) (body : D → Env → Fl) : List D → Env → Fl
  | [], δ => .nx δ
  | d :: r, δ => match body d δ with
    | .nx δ1 => if chk δ1 then forL chk body r δ1 else .bad
    | .ct δ1 => if chk δ1 then forL chk body r δ1 else .bad
    | .bk δ1 => .nx δ1
    | x => x
def whlL (c : Env → R Bool) (body : Env → Fl) : Nat → Env → Fl
  | 0, _ => .bad
  | n + 1, δ => Fl.of (c δ) fun k δ1 => if k then (match body δ1 with
    | .nx δ2 => whlL c body n δ2
    | .ct δ2 => whlL c body n δ2
    | .bk δ2 => .nx δ2
    | x => x) else .nx δ1
/-- what a for walks, and whether the list stays -/
def forIt (S : Sg) (it : Ti) (k : Option Pl) (δ : Env) : Option (List D × (Env → Bool)) := match it, k with
  | _, some q => (match plGet q δ with
    | .lst l => some (l, fun δ1 => isLst l (plGet q δ1))
    | .hole => none
    | m => (itL m).map fun l => (l, fun _ => true))
  | .e x, none => (match pv S x δ with
    | some (.lst l) => if frs x then some (l, fun _ => true) else none
    | some m => (itL m).map fun l => (l, fun _ => true)
    | none => none)
  | it, none => (tiL S it δ).map fun l => (l, fun _ => true)

/-- what += and -= do to numbers -/
def augF : Bool → Int → Int → Int
  | true, x, y => x - y
  | false, x, y => x + y
def augO : Operator → Option Bool
  | .Add => some false
  | .Sub => some true
  | _ => none
/-- a number of a list changed -/
def augIM (b : Bool) : M → M → M → Option M
  | .lst l, .i (.int j), .i (.int c) => (match L2.ixN l.length j, L2.atI l j with
    | some n, some (.int a) => some (.lst (l.set n (.int (augF b a c))))
    | _, _ => none)
  | _, _, _ => none
mutual
def exec (S : Sg) : Sm → Env → Fl
  | .asg i e, δ => Fl.of (ev S e δ) fun m δ1 => if i < δ1.length then .nx (δ1.set i m) else .bad
  | .unp l e, δ => Fl.of (ev S e δ) fun m δ1 => match m with
    | .i d => (match tgSet (.tp l) d δ1 with | some δ2 => .nx δ2 | none => .bad)
    | _ => .bad
  | .app q e, δ => if isL (plGet q δ) then Fl.of (ev S e δ) fun m δ1 => (match appM (plGet q δ1) m with
    | some x => .nx (plSet q x δ1)
    | none => .bad) else .bad
  | .setI q k e, δ => Fl.of (ev S e δ) fun m δ1 => match pv S k δ1, plGet q δ1, m with
    | some (.i (.int j)), .lst l, .i d => (match L2.ixN l.length j with | some n => .nx (plSet q (.lst (l.set n d)) δ1) | none => .bad)
    | some (.i (.int j)), .mls l, .i d => (match L2.ixN l.length j with | some n => .nx (plSet q (.mls (l.set n (.i d))) δ1) | none => .bad)
    | some (.i x), .dic t kvs, .i d => if kvs.length < sizeLine ∧ keyOkD t x = true then .nx (plSet q (.dic t (putD kvs x d)) δ1) else .bad
    | _, _, _ => .bad
  | .setF q f e, δ => Fl.of (ev S e δ) fun m δ1 => match plGet q δ1 with
    | .ins c fs => if fs.length < 1000 ∧ (f % 2 = 1 ∨ (fs.lookup f).isNone = true) then .nx (plSet q (.ins c (putFd fs f m)) δ1) else .bad
    | _ => .bad
  | .ex e, δ => Fl.of (ev S e δ) fun _ δ1 => .nx δ1
  | .ret e, δ => Fl.of (ev S e δ) fun m δ1 => .rt m δ1
  | .retN, δ => .rt (.i .non) δ
  | .ite c a b, δ => Fl.of (tx S c δ) fun k δ1 => if k then execs S a δ1 else execs S b δ1
  | .whl c b, δ => whlL (fun δ1 => tx S c δ1) (fun δ1 => execs S b δ1) S.wl δ
  | .for_ t it k b, δ => match forIt S it k δ with
    | some (l, chk) => forL chk (fun d δ1 => match tgSet t d δ1 with | some δ2 => execs S b δ2 | none => .bad) l δ
    | none => .bad
  | .forX t w b, δ => Fl.of (evW S w δ) fun l δ1 => forL (fun _ => true) (fun d δ1 => match tgSet t d δ1 with | some δ2 => execs S b δ2 | none => .bad) l δ1
  | .brk, δ => .bk δ
  | .cnt, δ => .ct δ
  | .pass, δ => .nx δ
  | .aug i b e, δ => match slot δ i, pv S e δ with
    | .i (.int x), some (.i (.int y)) => .nx (δ.set i (.i (.int (augF b x y))))
    | _, _ => .bad
  | .forE t x b, δ => match pv S x δ with
    | some (.i (.tup l)) => forL (fun _ => true) (fun d δ1 => match tgSet t d δ1 with | some δ2 => execs S b δ2 | none => .bad) (enumL 0 l) δ
    | _ => .bad
  | .augI q k b e, δ => match (do let j ← pv S k δ; let c ← pv S e δ; augIM b (plGet q δ) j c) with
    | some x => .nx (plSet q x δ)
    | none => .bad
  | .ext q e, δ => if isLd (plGet q δ) then Fl.of (ev S e δ) fun m δ1 => (match extM (plGet q δ1) m with
    | some x => .nx (plSet q x δ1)
    | none => .bad) else .bad
  | .bad, _ => .bad
def execs (S : Sg) : List Sm → Env → Fl
  | [], δ => .nx δ
  | s :: r, δ => (exec S s δ).seq fun δ1 => execs S r δ1
end

/-- a def: its parameters, its slots, which parameters it never stores to, its body -/
structure Fd where
  np : Nat
  nl : Nat
  keep : List Bool
  body : List Sm
structure Pg where
  fd : List Fd
  mt : List ((Nat × Nat) × Nat)
  ini : List (Nat × Nat)
def backA (d : Fd) (δ : Env) : List M := (List.range d.np).map fun i => if d.keep.getD i false then slot δ i else .hole
def semF (T : Pg) (wl : Nat) : Nat → Nat → List M → Fo
  | 0, _, _ => .bad
  | n + 1, f, ms => match T.fd[f]? with
    | some d => if ms.length = d.np then (match execs ⟨semF T wl n, fun c m => T.mt.lookup (c, m), fun c => T.ini.lookup c, wl⟩ d.body (ms ++ List.replicate (d.nl - d.np) .hole) with
      | .nx δ => .ok (.i .non) (backA d δ)
      | .rt m δ => .ok m (backA d δ)
      | .exc x δ => .exc x (backA d δ)
      | _ => .bad) else .bad
    | none => .bad

/-! ### Python's trees read into the core -/
/-- what is known of the names around a def -/
structure Gm where
  N : List Str
  sc : Scope
  fns : List (Str × Nat × Bool)
  cls : List (Str × Nat)
  mth : List (Str × Nat)
  fld : List (Str × Nat)
  cst : List (Str × D)
  blt : List Str
  tk : List (Nat × Nat)
  pr : List Nat
  fc : Str → Bool
  fz : List Str
  kd : List (Str × List (Str × D))
  kt : Bool
  bf : List (Str × String)
  gx : Bool

def visB (sc : Scope) (x : Str) : Bool := match sc.names.lookup x with
  | some .local => true
  | some .cell => true
  | some .free => true
  | _ => false
def locB (sc : Scope) (x : Str) : Bool := sc.names.lookup x == some .local
def glB (sc : Scope) (x : Str) : Bool := sc.names.lookup x == some .globalImplicit
/-- the slot of a name -/
def slotOf (g : Gm) (x : Str) : Option Nat := if visB g.sc x && x != "__debug__" && x != "__classdict__" then g.N.findIdx? (· == x) else none
def ownOf (g : Gm) (scope : Scope) : List (Str × Nat) := scope.names.filterMap fun (n, k) => if k == .local || k == .cell then (g.N.findIdx? (· == n)).map fun i => (n, i) else none
def glC (g : Gm) (x : Str) : Bool := glB g.sc x && x != "__debug__"
/-- the slots that a target stores to -/
def tgW : Tg → List Nat
  | .nm i => [i]
  | .tp l => l
def bopOf : Operator → Option Bop
  | .Add => some .add
  | .Sub => some .sub
  | .Mult => some .mul
  | .FloorDiv => some .fdiv
  | .Mod => some .mod
  | .Pow => some .pow
  | _ => none
def copOf : CmpOp → Option Cop
  | .Eq => some .eq
  | .NotEq => some .ne
  | .Lt => some .lt
  | .LtE => some .le
  | .Gt => some .gt
  | .GtE => some .ge
  | .In => some .isin
  | .NotIn => some .nin
  | .Is => some .isn
  | .IsNot => some .ntn
def bltOf (x : Str) : Option Blt :=
  if x = "len" then some .len else if x = "int" then some .int else if x = "min" then some .min else if x = "max" then some .max
  else if x = "tuple" then some .tuple else if x = "list" then some .list else if x = "all" then some .all else if x = "any" then some .any
  else if x = "sorted" then some .sorted else if x = "sum" then some .sum else if x = "range" then some .range else if x = "abs" then some .abs else none
/-- tuple(v) of a name whose tuples are laid with all that is known of them -/
def fzArg (g : Gm) : List Expr → Bool
  | [.Name v _] => g.fz.contains v || g.fz.contains "*"
  | _ => g.fz.contains "*"
/-- rows are sorted only where no tuple of the module lies in data -/
def bltK (g : Gm) (x : Str) : Option Blt := if decide (x = "sorted") && g.kt then none else bltOf x
def bltX (g : Gm) (x : Str) (es : List Expr) : Option Blt := if decide (x = "tuple") && fzArg g es then some .ftup else bltK g x
def smtOf (x : Str) : Option Smt :=
  if x = "count" then some .count else if x = "rfind" then some .rfind else if x = "upper" then some .upper else if x = "split" then some .split else if x = "join" then some .join else none
def tyOf (x : Str) : Option Ty :=
  if x = "int" then some .int else if x = "bool" then some .bool else if x = "str" then some .str else if x = "tuple" then some .tuple else if x = "list" then some .list else none
def bltN (g : Gm) (x : Str) : Bool := glB g.sc x && g.blt.contains x
def constD : Const → Option D
  | .none => some .non
  | .bool b => some (.bl b)
  | .int i => some (.int i)
  | .str x => some (.str x)
  | _ => none
/-- the keys of a display: constants -/
def dispK : List (Option Expr) → Option (List D)
  | [] => some []
  | some (.Constant c _ _) :: r => (match constD c, dispK r with | some d, some ds => if flatK d then some (d :: ds) else none | _, _ => none)
  | _ => none
def plainE : Expr → Bool
  | .Starred _ _ => false
  | .Slice _ _ _ _ => false
  | .Set _ _ _ => false
  | _ => true
/-- no call without arguments of a name (super() has its own rule) -/
def noSup : Expr → Bool
  | .Call (.Name _ _) [] _ _ => false
  | _ => true
def tgNm (g : Gm) : Expr → Option Nat
  | .Name x _ => (match slotOf g x with
    | some i => if (locB g.sc x || (g.fc x && g.sc.names.lookup x == some .cell)) && !g.pr.contains i then some i else none
    | none => none)
  | _ => none
def tgOf (g : Gm) : Expr → Option Tg
  | .Tuple es _ _ => (es.mapM (tgNm g)).map .tp
  | e => (tgNm g e).map .nm
/-- a dict of the module -/
def kdOf (g : Gm) : Expr → Option (List (Str × D))
  | .Name x _ => if (slotOf g x).isNone && glC g x then g.kd.lookup x else none
  | _ => none
def relG (g : Gm) (scope : Scope) : Gm := { g with sc := L2.relS scope g.sc, pr := [], fc := fun x => scope.names.lookup x == some .cell }
/-- within a frame of its own: a generator expression, a lambda -/
def genG (g : Gm) (scope : Scope) : Gm := { g with sc := scope, pr := [], fc := fun _ => false, gx := false, mth := [], cls := [] }
def genOB (scope : Scope) : Bool := !scope.isCoroutine && scope.names.all (fun y => !decide (y.2 = .cell)) && decide (scope.names.lookup (".0" : Str) = some NameKind.local)
def isLsE : Expr → Bool
  | .List _ _ => true
  | _ => false
/-- any(.. for ..), all(.. for ..) -/
def genOf (g : Gm) (x : Str) : List Expr → Option (Bool × Expr × Expr × Expr × Scope)
  | [.GeneratorExp elt [⟨tg, it, [], 0⟩] scope _] => if g.gx && (x = "any" || x = "all") && plainE it && !isLsE it && genOB scope then some (decide (x = "any"), elt, tg, it, scope) else none
  | _ => none
/-- a lambda's names: its one parameter, globals -/
def lamOB (scope : Scope) (p : Str) : Bool := decide (scope.kind = .function) && !scope.isCoroutine && !scope.isGenerator && decide (scope.names.lookup p = some .local) && scope.names.all fun y => !decide (y.2 = .cell) && !decide (y.2 = .free) && (!decide (y.2 = .local) || decide (y.1 = p))
def lamOf (g : Gm) : Expr → Option (Str × Nat × Expr × Scope)
  | .Lambda ⟨[], [⟨p, none, _⟩], none, [], [], none, []⟩ body scope _ => if g.gx && lamOB scope p then (g.N.findIdx? (· == p)).map fun i => (p, i, body, scope) else none
  | _ => none

/-- sorted(set(a)) -/
def ssOf (g : Gm) (x : Str) : List Expr → Option Expr
  | [.Call (.Name y _) [a] [] _] => if x = "sorted" && y = "set" && bltN g y && plainE a then some a else none
  | _ => none
/-- sorted({..}) -/
def scOf (x : Str) : List Expr → Option (Expr × Expr × Expr × List Expr × Scope)
  | [.SetComp elt [⟨tg, it, ifs, 0⟩] scope _] => if x = "sorted" && plainE it then some (elt, tg, it, ifs, scope) else none
  | _ => none
mutual
/-- does it look into a field? -/
def fP : Px → Bool
  | .var _ | .lit _ | .cst _ _ | .dnew _ => false
  | .tup es | .lst es | .disp _ es => fPs es
  | .bop _ a b | .cmp _ a b | .and a b | .or a b | .idx a b => fP a || fP b
  | .chn _ _ a b c => fP a || fP b || fP c
  | .neg a | .not a | .isi a _ => fP a
  | .fld _ _ => true
  | .ife _ a b => fP a || fP b
  | .sl a _ _ => fP a
  | .call _ es => fPs es
  | .blt _ es => fPs es
  | .smt _ o es => fP o || fPs es
  | .lc _ _ it _ e => fI it || fP e
  | .rev a => fP a
  | .ro e => fP e
  | .idm a b => fP a || fP b
  | .kdi _ b => fP b
  | .cd _ => false
  | .sset e => fP e
  | .ssc _ _ it _ e => fI it || fP e
  | .stp e _ _ => fP e
  | .gcd a b => fP a || fP b
  | .gen _ _ _ it e => fI it || fP e
  | .srt _ e => fP e
  | .srl _ _ b e => fP b || fP e
def fPs : List Px → Bool
  | [] => false
  | e :: es => fP e || fPs es
def fI : Ti → Bool
  | .e x => fP x
  | .rng1 a => fP a
  | .rng2 a b => fP a || fP b
end
def isVar : Px → Bool
  | .var _ => true
  | _ => false
/-- a call to be run while nothing is written -/
def roW (ys : List Px) : Bool := ys.any isVar && !fPs ys
mutual
def rP : Nat → Gm → Expr → Option Px
  | 0, _, _ => none
  | n + 1, g, e => match e with
    | .Name x _ => (match slotOf g x with
      | some i => some (.var i)
      | none => if glC g x then (match g.cst.findIdx? (·.1 == x), g.cst.lookup x with | some k, some d => some (if g.kt then .cd d else .cst k d) | _, _ => none) else none)
    | .Constant c _ _ => (constD c).map .lit
    | .Tuple es _ _ => (rPs n g es).map .tup
    | .List es _ => (rPs n g es).map .lst
    | .Dict [] [] p => some (.dnew (g.tk.contains (p.line, p.col) && !g.kt))
    | .Dict (k :: ks) es _ => (match dispK (k :: ks), rPs n g es with | some kd, some xs => if (k :: ks).length = es.length then some (.disp kd xs) else none | _, _ => none)
    | .BinOp a op b _ => (match bopOf op, rP n g a, rP n g b with | some o, some x, some y => some (.bop o x y) | _, _, _ => none)
    | .UnaryOp .USub a _ => (rP n g a).map .neg
    | .UnaryOp .Not a _ => (rP n g a).map .not
    | .Compare a [op] [b] _ => if plainE b then (match copOf op, rP n g a, rP n g b with | some o, some x, some y => some (.cmp o x y) | _, _, _ => none) else none
    | .Compare a [op, op2] [b, c] _ => if plainE b && plainE c then (match copOf op, copOf op2, rP n g a, rP n g b, rP n g c with | some o, some o2, some x, some y, some z => some (.chn o o2 x y z) | _, _, _, _, _ => none) else none
    | .BoolOp .And es p => rAnd n g es
    | .BoolOp .Or es p => rOr n g es
    | .IfExp c a b _ => (match rPt n g c, rP n g a, rP n g b with | some x, some y, some z => some (.ife x y z) | _, _, _ => none)
    | .Subscript a (.Slice none none (some (.UnaryOp .USub (.Constant (.int 1) _ _) _)) _) _ => (rP n g a).map .rev
    | .Subscript a (.Slice (some (.Constant (.int lo) _ _)) none (some (.Constant (.int st) _ _)) _) _ => (rP n g a).map fun x => .stp x lo st
    | .Subscript a (.Slice lo hi none _) _ => (match rP n g a, rO n g lo, rO n g hi with | some x, some l, some h => some (.sl x l h) | _, _, _ => none)
    | .Subscript a b _ => if plainE b then (match kdOf g a, rP n g b with | some kvs, some y => some (.kdi kvs y) | _, _ => (match rP n g a, rP n g b with | some x, some y => some (.idx x y) | _, _ => none)) else none
    | .Attribute a f _ => if noSup a then (match rP n g a, g.fld.lookup f with | some x, some k => some (.fld x k) | _, _ => none) else none
    | .Call (.Name x _) es [] _ =>
      if bltN g x then
        (if x = "isinstance" then (match es with | [a, .Name t _] => if bltN g t && plainE a then (match rP n g a, tyOf t with | some y, some k => some (.isi y k) | _, _ => none) else none | _ => none)
        else (match ssOf g x es with
          | some a => (rP n g a).map .sset
          | none => (match scOf x es with
            | some (elt, tg, it, ifs, scope) =>
              let own := ownOf g scope
              let h := relG g scope
              if L2.blkC g.N g.sc scope own && plainE it then
                (match tgOf h tg, rTi n g it, rIf n h ifs, rP n h elt with
                | some t, some i, some c, some e => if (tgW t).all (own.map (·.2)).contains then some (.ssc (own.map (·.2)) t i c e) else none
                | _, _, _, _ => none)
              else none
            | none => (match genOf g x es with
              | some (b, elt, tg, it, scope) =>
                let own := ownOf g scope
                let h := genG g scope
                if L2.blkC g.N g.sc scope own then
                  (match tgOf h tg, rTi n g it, rP n h elt with
                  | some t, some i, some e => if (tgW t).all (own.map (·.2)).contains then some (.gen b (own.map (·.2)) t i e) else none
                  | _, _, _ => none)
                else none
              | none => (match bltX g x es, rPs n g es with | some b, some (y :: ys) => some (.blt b (y :: ys)) | _, _ => none)))))
      else if glC g x then (match g.bf.lookup x, rPs n g es with
        | some id, some [a, b] => if id = "math.gcd" && es.all plainE then some (.gcd a b) else none
        | _, _ => (match g.fns.lookup x, rPs n g es with | some (k, false), some ys => some (if roW ys then .ro (.call k ys) else .call k ys) | _, _ => none)) else none
    | .Call (.Name x _) [a] [⟨some kw, k, _⟩] _ =>
      if x = "sorted" && kw = "key" && bltN g x && plainE a && !g.kt && g.gx then
        (match lamOf g k with
        | some (_, i, body, scope) => (match rP n (genG g scope) body, rP n g a with | some b, some y => some (.srl [i] i b y) | _, _ => none)
        | none => (match k with
          | .Name f _ => if (slotOf g f).isNone && glC g f then (match g.fns.lookup f, rP n g a with | some (j, false), some y => some (.srt j y) | _, _ => none) else none
          | _ => none))
      else none
    | .Call (.Attribute o m ap) [] [] cp => if ap.endLine == cp.line && noSup o && (g.mth.lookup m).isNone then (match smtOf m, rP n g o with | some .upper, some y => some (.smt .upper y []) | _, _ => none) else none
    | .Call (.Attribute o m ap) [a] [] cp => if ap.endLine == cp.line && noSup o && (g.mth.lookup m).isNone && plainE a then (if m = "index" then (match rP n g o, rP n g a with | some y, some z => some (.idm y z) | _, _ => none) else match smtOf m, rP n g o, rP n g a with | some .upper, _, _ => none | some k, some y, some z => some (.smt k y [z]) | _, _, _ => none) else none
    | .ListComp elt [⟨tg, it, ifs, 0⟩] scope _ =>
      let own := ownOf g scope
      let h := relG g scope
      if L2.blkC g.N g.sc scope own && plainE it then
        (match tgOf h tg, rTi n g it, rIf n h ifs, rP n h elt with
        | some t, some i, some c, some e => if (tgW t).all (own.map (·.2)).contains then some (.lc (own.map (·.2)) t i c e) else none
        | _, _, _, _ => none)
      else none
    | _ => none
def rPs : Nat → Gm → List Expr → Option (List Px)
  | _, _, [] => some []
  | 0, _, _ => none
  | n + 1, g, e :: es => if plainE e then (match rP n g e, rPs n g es with | some x, some xs => some (x :: xs) | _, _ => none) else none
def rO : Nat → Gm → Option Expr → Option (Option Px)
  | _, _, none => some none
  | 0, _, _ => none
  | n + 1, g, some e => (rP n g e).map some
def rIf : Nat → Gm → List Expr → Option Pt
  | _, _, [] => some .yes
  | 0, _, _ => none
  | n + 1, g, [e] => rPt n g e
  | _, _, _ => none
/-- a test -/
def rPt : Nat → Gm → Expr → Option Pt
  | 0, _, _ => none
  | n + 1, g, e => match e with
    | .BoolOp .And es _ => rPtA n g es
    | .BoolOp .Or es _ => rPtO n g es
    | .UnaryOp .Not a _ => (rPt n g a).map .not
    | .IfExp _ _ _ _ => none
    | e => (rP n g e).map .v
def rPtA : Nat → Gm → List Expr → Option Pt
  | 0, _, _ => none
  | n + 1, g, [e] => rPt n g e
  | n + 1, g, e :: es => (match rPt n g e, rPtA n g es with | some x, some y => some (.and x y) | _, _ => none)
  | _, _, _ => none
def rPtO : Nat → Gm → List Expr → Option Pt
  | 0, _, _ => none
  | n + 1, g, [e] => rPt n g e
  | n + 1, g, e :: es => (match rPt n g e, rPtO n g es with | some x, some y => some (.or x y) | _, _ => none)
  | _, _, _ => none
def rAnd : Nat → Gm → List Expr → Option Px
  | 0, _, _ => none
  | n + 1, g, [e] => rP n g e
  | n + 1, g, e :: es => (match rP n g e, rAnd n g es with | some x, some y => some (.and x y) | _, _ => none)
  | _, _, _ => none
def rOr : Nat → Gm → List Expr → Option Px
  | 0, _, _ => none
  | n + 1, g, [e] => rP n g e
  | n + 1, g, e :: es => (match rP n g e, rOr n g es with | some x, some y => some (.or x y) | _, _ => none)
  | _, _, _ => none
def rTi : Nat → Gm → Expr → Option Ti
  | 0, _, _ => none
  | n + 1, g, e => match e with
    | .Call (.Name x _) [a] [] _ => if x = "range" && bltN g x && plainE a then (rP n g a).map .rng1 else if plainE e then (rP n g e).map .e else none
    | .Call (.Name x _) [a, b] [] _ => if x = "range" && bltN g x && plainE a && plainE b then (match rP n g a, rP n g b with | some y, some z => some (.rng2 y z) | _, _ => none) else (rP n g e).map .e
    | _ => if plainE e then (rP n g e).map .e else none
end

mutual
/-- does it call a def of the text? -/
def cP : Px → Bool
  | .var _ | .lit _ | .cst _ _ | .dnew _ => false
  | .tup es | .lst es | .disp _ es => cPs es
  | .bop _ a b | .cmp _ a b | .and a b | .or a b | .idx a b => cP a || cP b
  | .chn _ _ a b c => cP a || cP b || cP c
  | .neg a | .not a | .fld a _ | .isi a _ => cP a
  | .ife c a b => cT c || cP a || cP b
  | .sl a lo hi => cP a || cO lo || cO hi
  | .call _ _ => true
  | .blt _ es => cPs es
  | .smt _ o es => cP o || cPs es
  | .lc _ _ it _ _ => cI it
  | .rev a => cP a
  | .ro e => cP e
  | .idm a b => cP a || cP b
  | .kdi _ b => cP b
  | .cd _ => false
  | .sset e => cP e
  | .ssc _ _ it _ _ => cI it
  | .stp e _ _ => cP e
  | .gcd a b => cP a || cP b
  | .gen _ _ _ it _ => cI it
  | .srt _ e => cP e
  | .srl _ _ _ e => cP e
def cPs : List Px → Bool
  | [] => false
  | e :: es => cP e || cPs es
def cO : Option Px → Bool
  | none => false
  | some e => cP e
def cT : Pt → Bool
  | .yes => false
  | .v e => cP e
  | .and a b | .or a b => cT a || cT b
  | .not a => cT a
def cI : Ti → Bool
  | .e x => cP x
  | .rng1 a => cP a
  | .rng2 a b => cP a || cP b
end
/-- a name, or fields that are set once of a name -/
def rPl (g : Gm) : Expr → Option Pl
  | .Name x _ => (slotOf g x).map fun i => ⟨i, []⟩
  | .Attribute a f _ => (match rPl g a, g.fld.lookup f with | some q, some k => if k % 2 = 0 then some ⟨q.i, q.fs ++ [k]⟩ else none | _, _ => none)
  | _ => none

/-- list(range(..)) -/
def lrOf (g : Gm) : Expr → Option Expr
  | .Call (.Name x _) [.Call (.Name r _) [a] [] _] [] _ => if x = "list" && r = "range" && bltN g x && bltN g r && plainE a then some a else none
  | _ => none
/-- a list of lists, looked into -/
def rMl (g : Gm) : Expr → Option (Nat × Expr)
  | .Subscript (.Name v _) c _ => if g.fz.contains v && plainE c then (slotOf g v).map fun i => (i, c) else none
  | _ => none
mutual
def rI : Nat → Gm → Expr → Option Ix
  | 0, _, _ => none
  | n + 1, g, e => match rPl g e with
    | some q => some (.pl q)
    | none => (match rP n g e with
      | some x => if cP x then (match rJ n g e with | some y => some y | none => some (.p x)) else some (.p x)
      | none => rJ n g e)
/-- by its parts -/
def rJ : Nat → Gm → Expr → Option Ix
  | 0, _, _ => none
  | n + 1, g, e => match lrOf g e with
        | some a => (rI n g a).map .lrng
        | none => match e with
        | .Tuple es _ _ => (rIs n g es).map .tup
        | .List es _ => (rIs n g es).map .lst
        | .BinOp a op b _ => (match bopOf op, rI n g a, rI n g b with | some o, some x, some y => some (.bop o x y) | _, _, _ => none)
        | .Compare a [op] [b] _ => if plainE b then (match copOf op, rI n g a, rI n g b with | some o, some x, some y => some (.cmp o x y) | _, _, _ => none) else none
        | .Subscript (.Subscript (.Name v _) c _) (.Slice none (some b) none _) _ => if g.fz.contains v && plainE c && plainE b then (match slotOf g v, rP n g c, rI n g b with | some i, some x, some y => some (.slm ⟨i, []⟩ x y) | _, _, _ => none) else none
        | .Subscript a b _ => if plainE b then (match rMl g a, rI n g b with
          | some (i, c), some y => (rP n g c).map fun x => .idxm ⟨i, []⟩ x y
          | _, _ => match rPl g a, rI n g b with | some q, some y => some (.idxq q y) | none, some y => (rI n g a).map fun x => .idx x y | _, _ => none) else none
        | .BoolOp .And (a :: b :: es) _ => (match rI n g a, rXA n g (b :: es) with | some x, some y => some (.and x y) | _, _ => none)
        | .BoolOp .Or (a :: b :: es) _ => (match rI n g a, rXO n g (b :: es) with | some x, some y => some (.or x y) | _, _ => none)
        | .UnaryOp .Not a _ => (rI n g a).map .not
        | .ListComp elt [⟨tg, iter, ifs, 0⟩] scope _ =>
          let own := ownOf g scope
          let h := relG g scope
          if L2.blkC g.N g.sc scope own && plainE iter && ((rP n h elt).isNone || (rIf n h ifs).isNone) then
            (match tgOf h tg, rTi n g iter, rCd n h ifs, rI n h elt with
            | some t, some i, some c, some e => if (tgW t).all (own.map (·.2)).contains then some (.lcx (own.map (·.2)) t i c e) else none
            | _, _, _, _ => none)
          else none
        | .Call (.Name x _) es [] _ =>
          if bltN g x then (match bltK g x, es with | some b, [a] => if plainE a then (rI n g a).map (.blt1 b) else none | _, _ => none)
          else if glC g x then (match g.fns.lookup x, g.cls.lookup x, rIs n g es with
            | some (k, _), _, some ys => some (.call k ys)
            | none, some c, some ys => some (.mk c ys)
            | _, _, _ => none)
          else none
        | .Call (.Attribute o m ap) es [] cp =>
          (match rPl g o with
          | some q => (match g.mth.lookup m with
            | some k => if ap.endLine == cp.line && decide (es.length < 30) then (rIs n g es).map (.meth q k) else none
            | none => if m = "pop" && ap.endLine == cp.line then (match es with | [a] => if plainE a then (match rP n g a with | some x => some (.pop q x) | none => (rI n g a).map (.popx q)) else none | _ => none) else none)
          | none => none)
        | _ => none
/-- the test of a comprehension -/
def rCd : Nat → Gm → List Expr → Option Ix
  | _, _, [] => some (.p (.lit (.bl true)))
  | 0, _, _ => none
  | n + 1, g, [.Compare a ops cs p] => rI n g (.Compare a ops cs p)
  | _, _, _ => none
def rXA : Nat → Gm → List Expr → Option Ix
  | 0, _, _ => none
  | n + 1, g, [e] => rI n g e
  | n + 1, g, e :: es => (match rI n g e, rXA n g es with | some x, some y => some (.and x y) | _, _ => none)
  | _, _, _ => none
def rXO : Nat → Gm → List Expr → Option Ix
  | 0, _, _ => none
  | n + 1, g, [e] => rI n g e
  | n + 1, g, e :: es => (match rI n g e, rXO n g es with | some x, some y => some (.or x y) | _, _ => none)
  | _, _, _ => none
def rIs : Nat → Gm → List Expr → Option (List Ix)
  | _, _, [] => some []
  | 0, _, _ => none
  | n + 1, g, e :: es => if plainE e then (match rI n g e, rIs n g es with | some x, some xs => some (x :: xs) | _, _ => none) else none
end
mutual
def rT : Nat → Gm → Expr → Option Tx
  | 0, _, _ => none
  | n + 1, g, e => match rPt n g e with
    | some x => if cT x then (match rU n g e with | some y => some y | none => some (.p x)) else some (.p x)
    | none => rU n g e
def rU : Nat → Gm → Expr → Option Tx
  | 0, _, _ => none
  | n + 1, g, e => match e with
      | .BoolOp .And es _ => rTA n g es
      | .BoolOp .Or es _ => rTO n g es
      | .UnaryOp .Not a _ => (rT n g a).map .not
      | .IfExp _ _ _ _ => none
      | e => (rI n g e).map .v
def rTA : Nat → Gm → List Expr → Option Tx
  | 0, _, _ => none
  | n + 1, g, [e] => rT n g e
  | n + 1, g, e :: es => (match rT n g e, rTA n g es with | some x, some y => some (.and x y) | _, _ => none)
  | _, _, _ => none
def rTO : Nat → Gm → List Expr → Option Tx
  | 0, _, _ => none
  | n + 1, g, [e] => rT n g e
  | n + 1, g, e :: es => (match rT n g e, rTO n g es with | some x, some y => some (.or x y) | _, _ => none)
  | _, _, _ => none
end
/-- a comprehension that is stored by its own frame -/
def isLC : Expr → Bool
  | .ListComp _ _ _ _ => true
  | .SetComp _ _ _ _ => true
  | .DictComp _ _ _ _ _ => true
  | _ => false
def rW (n : Nat) (g : Gm) (e : Expr) : Option Wi := match e with
  | .Call (.Name x _) [a] [] _ => if x = "range" && bltN g x && plainE a then (rI n g a).map .rng1 else (rI n g e).map .e
  | .Call (.Name x _) [a, b] [] _ => if x = "range" && bltN g x && plainE a && plainE b then (match rI n g a, rI n g b with | some y, some z => some (.rng2 y z) | _, _ => none) else (rI n g e).map .e
  | _ => (rI n g e).map .e
def lcBad (g : Gm) (x : Str) (py : Pos) : Expr → Bool
  | .ListComp _ _ sc p => locB g.sc x && !(py.line == p.line && !(sc.names.any fun (n, k) => n == x && (k == .local || k == .cell)))
  | e => isLC e
def isTup : Expr → Bool
  | .Tuple _ _ _ => true
  | _ => false
def parB (g : Gm) (x : Str) (px : Pos) (y : Str) (py : Pos) (a b : Expr) : Bool :=
  locB g.sc x && (locB g.sc y && (py.line == px.line && (x != y && (!(foldedForSure 8 a && foldedForSure 8 b) && (!(constantsAlone 8 a && constantsAlone 8 b) && (if g.sc.kind.isAnnotationScope then ScopeKind.function else g.sc.kind) == ScopeKind.function)))))
/-- x, y = a, b -/
def rPar (n : Nat) (g : Gm) : List Expr → Expr → Option Sm
  | [.Name x px, .Name y py], .Tuple [a, b] _ _ => if parB g x px y py a b = true then (match tgNm g (.Name x px), tgNm g (.Name y py), rPs n g [a, b] with | some i, some j, some es => some (.unp [i, j] (.p (.tup es))) | _, _, _ => none) else none
  | _, _ => none
/-- super(..) -/
def isSupC : Expr → Bool
  | .Call (.Name x _) _ _ _ => decide (x = "super")
  | _ => false
/-- a tuple handed back that is read value by value -/
def retT (g : Gm) : Expr → Option (List Expr)
  | .Tuple es _ _ => if (g.fz.contains "*" || g.fz.contains "+") && es.all plainE then some es else none
  | _ => none
/-- what a for enumerates -/
def enumArg (g : Gm) : Expr → Expr → Option Expr
  | .Tuple _ _ _, .Call (.Name f _) [x] [] _ => if f = "enumerate" && bltN g f && plainE x then some x else none
  | _, _ => none
mutual
def rS : Nat → Gm → Stmt → Option Sm
  | 0, _, _ => none
  | n + 1, g, s => match s with
    | .Assign [.Name x py] e p => if lcBad g x py e then none else (match tgNm g (.Name x py), rI n g e with | some i, some y => some (.asg i y) | _, _ => none)
    | .Assign [.Tuple ts _ _] e p => if isTup e then rPar n g ts e else if isLC e then none else (match ts.mapM (tgNm g), rI n g e with | some l, some y => some (.unp l y) | _, _ => none)
    | .Assign [.Subscript o k _] e p => if isLC e || !plainE k then none else (match rPl g o, rP n g k, rI n g e with | some q, some i, some y => some (.setI q i y) | _, _, _ => none)
    | .Assign [.Attribute o f _] e p => if isLC e then none else (match rPl g o, g.fld.lookup f, rI n g e with | some q, some k, some y => some (.setF q k y) | _, _, _ => none)
    | .Expr (.Constant (.str _) _ _) _ => some .pass
    | .Raise _ _ _ => some .bad
    | .Expr (.Call (.Attribute o m ap) [a] [] cp) p => if isSupC o then some .bad else if m = "append" && ap.endLine == cp.line && plainE a then (match rPl g o, rI n g a with | some q, some y => some (.app q y) | _, _ => none) else if m = "extend" && ap.endLine == cp.line && plainE a then (match rPl g o, rI n g a with | some q, some y => some (.ext q y) | _, _ => none) else (rI n g (.Call (.Attribute o m ap) [a] [] cp)).map .ex
    | .Expr e p => if isLC e then none else (rI n g e).map .ex
    | .Return none _ => some .retN
    | .Return (some e) _ => (match retT g e with | some es => (rIs n g es).map fun ys => .ret (.tup ys) | none => (rI n g e).map .ret)
    | .If c a b _ => (match rT n g c, rSs n g a, rSs n g b with | some x, some y, some z => some (.ite x y z) | _, _, _ => none)
    | .While c b [] _ => (match rT n g c, rSs n g b with | some x, some y => some (.whl x y) | _, _ => none)
    | .For t it b [] _ => if plainE it then (match enumArg g t it with
      | some x => (match tgOf g t, rSs n g b, rP n g x with | some y, some z, some u => some (.forE y u z) | _, _, _ => none)
      | none => (match rPl g it with
      | some q => (match tgOf { g with pr := q.i :: g.pr } t, rSs n { g with pr := q.i :: g.pr } b with | some y, some z => some (.for_ y (.rng1 (.lit .non)) (some q) z) | _, _ => none)
      | none => (match tgOf g t, rSs n g b with | some y, some z => (match rTi n g it, rW n g it with | some i, some w => some (if cI i then .forX y w z else .for_ y i none z) | some i, none => some (.for_ y i none z) | none, some w => some (.forX y w z) | none, none => none) | _, _ => none))) else none
    | .Pass _ => some .pass
    | .Break _ => some .brk
    | .Continue _ => some .cnt
    | .AugAssign (.Name x py) op e _ => (match tgNm g (.Name x py), rP n g e, augO op with | some i, some y, some b => some (.aug i b y) | _, _, _ => none)
    | .AugAssign (.Subscript o (.Call cf ca ck cp) _) op e _ => if plainE (.Call cf ca ck cp) && plainE e then (match rPl g o, rP n g (.Call cf ca ck cp), rP n g e, augO op with | some q, some i, some y, some b => some (.augI q i b y) | _, _, _, _ => none) else none
    | _ => none
def rSs : Nat → Gm → List Stmt → Option (List Sm)
  | _, _, [] => some []
  | 0, _, _ => none
  | n + 1, g, s :: r => (match rS n g s, rSs n g r with | some x, some xs => some (x :: xs) | _, _ => none)
end
end Zy
end
section
/-! Zy, part B: how values of the core lie in the abstract heap. -/
namespace Zy
open PySem PySem.Spec PyProof.Rows L2


/-- a list that is never written: frozen, or of the module -/
def Rol (K : PySem.W.Frag) (H : Hp) (a : Addr) (xs : List V) : Prop :=
  (∃ o, H a = some (.frz o (.lst xs))) ∨
    ∃ (o : Obj) (its : Array Value) (n : Nat), K.lookup a = some o ∧ o.cls = .type "list" ∧ o.dict = none ∧ o.data = .seq its n ∧ its.size ≤ sizeLine ∧ Vals xs its.toList
/-- a tuple of the module -/
def Kct (K : PySem.W.Frag) (a : Addr) (xs : List V) : Prop :=
  ∃ (o : Obj) (its : Array Value) (n : Nat), K.lookup a = some o ∧ o.cls = .type "tuple" ∧ o.data = .seq its n ∧ its.size ≤ sizeLine ∧ Vals xs its.toList
/-- tuples of the module that may lie in data -/
abbrev Kc := Addr → List V → Prop
structure Wd where
  K : PySem.W.Frag
  ca : Nat → Addr
  fn : Nat → Str
  fi : Str → Nat
  gc : Nat → Prop
  kk : Kc
  kks : ∀ a xs, kk a xs → Kct K a xs
  /-- tables of code that may grow -/
  tb : List Addr
/-- a tuple of data: in the heap, or of the module -/
def Tp (C : Kc) (H : Hp) (a : Addr) (xs : List V) : Prop := H a = some (.tup xs) ∨ C a xs
theorem Tp.sq {W : Wd} {H : Hp} {a : Addr} {xs : List V} (h : Tp W.kk H a xs) : SqT W.K H a xs := h.elim SqT.of fun h => .inr (W.kks _ _ h)
theorem Tp.sqX {K : PySem.W.Frag} {W : Wd} (e : K = W.K) {H : Hp} {a : Addr} {xs : List V} (h : Tp W.kk H a xs) : SqT K H a xs := by
  rw [e]
  exact h.sq
/-- a tuple of which all is known -/
def Frt (H : Hp) (a : Addr) (xs : List V) : Prop := ∃ o, H a = some (.frz o (.tup xs)) ∧ o.dict = none
theorem Frt.sq {K : PySem.W.Frag} {H : Hp} {a : Addr} {xs : List V} (h : Frt H a xs) : SqT K H a xs := by
  obtain ⟨o, h, _⟩ := h
  exact .inl (.inr ⟨o, h⟩)
theorem Kct.sq {K : PySem.W.Frag} {H : Hp} {a : Addr} {xs : List V} (h : Kct K a xs) : SqT K H a xs := .inr h
theorem Rol.sq {K : PySem.W.Frag} {H : Hp} {a : Addr} {xs : List V} (h : Rol K H a xs) : SqL K H a xs := by
  rcases h with ⟨o, h⟩ | h
  · exact .inl (.inr ⟨o, h⟩)
  · exact .inr h

mutual
inductive RepD (K : Kc) (H : Hp) : V → D → Prop
  | non : RepD K H .non .non
  | bl (b : Bool) : RepD K H (.bl b) (.bl b)
  | int (i : Int) : RepD K H (.int i) (.int i)
  | str (x : Str) : RepD K H (.str x) (.str x)
  | tup {a : Addr} {xs : List V} {ds : List D} : Tp K H a xs → RepDs K H xs ds → RepD K H (.ref a) (.tup ds)
inductive RepDs (K : Kc) (H : Hp) : List V → List D → Prop
  | nil : RepDs K H [] []
  | cons {v : V} {vs : List V} {d : D} {ds : List D} : RepD K H v d → RepDs K H vs ds → RepDs K H (v :: vs) (d :: ds)
end

/-- a key of a dict -/
def keyD : Key → D
  | .inl i => .int i
  | .inr x => .str x
inductive RepK (K : Kc) (H : Hp) : List (Key × V) → List (D × D) → Prop
  | nil : RepK K H [] []
  | cons {k : Key} {v : V} {es : List (Key × V)} {d : D} {kvs : List (D × D)} : RepD K H v d → RepK K H es kvs → RepK K H ((k, v) :: es) ((keyD k, d) :: kvs)
inductive RepT (K : Kc) (H : Hp) : List (List Key × V) → List (D × D) → Prop
  | nil : RepT K H [] []
  | cons {k : List Key} {v : V} {es : List (List Key × V)} {d : D} {kvs : List (D × D)} : RepD K H v d → RepT K H es kvs → RepT K H ((k, v) :: es) ((.tup (k.map keyD), d) :: kvs)

mutual
inductive Rep (W : Wd) (H : Hp) : V → M → List Addr → Prop
  | hole (v : V) : Rep W H v .hole []
  | i {v : V} {d : D} : RepD W.kk H v d → Rep W H v (.i d) []
  | lst {a : Addr} {xs : List V} {ds : List D} : H a = some (.lst xs) → RepDs W.kk H xs ds → Rep W H (.ref a) (.lst ds) [a]
  | rol {a : Addr} {xs : List V} {ds : List D} : Rol W.K H a xs → RepDs W.kk H xs ds → Rep W H (.ref a) (.rol ds) []
  | rg {a : Addr} {lo hi : Int} : H a = some (.rng lo hi) → Rep W H (.ref a) (.rg lo hi) []
  | ftp {a : Addr} {xs : List V} {ds : List D} : Frt H a xs → RepDs W.kk H xs ds → Rep W H (.ref a) (.ftp ds) []
  | kc {a : Addr} {xs : List V} {ds : List D} : Kct W.K a xs → RepDs W.kk H xs ds → Rep W H (.ref a) (.kc ds) []
  | mls {a : Addr} {xs : List V} {ms : List M} {F : List Addr} : H a = some (.lst xs) → Reps W H xs ms F → Rep W H (.ref a) (.mls ms) (a :: F)
  | mtp {a : Addr} {xs : List V} {ms : List M} {F : List Addr} : H a = some (.tup xs) → Reps W H xs ms F → Rep W H (.ref a) (.mtp ms) F
  | dicK {a : Addr} {es : List (Key × V)} {kvs : List (D × D)} : H a = some (.dK es) → RepK W.kk H es kvs → Rep W H (.ref a) (.dic false kvs) [a]
  | dicT {a : Addr} {es : List (List Key × V)} {kvs : List (D × D)} : (∀ b ys, ¬ W.kk b ys) → H a = some (.dT es) → RepT W.kk H es kvs → Rep W H (.ref a) (.dic true kvs) [a]
  | ins {a dx : Addr} {c : Nat} {vs : List (Str × V)} {fs : List (Nat × M)} {F : List Addr} : W.gc c → H a = some (.ins (W.ca c) dx vs) → RepF W H vs fs F → Rep W H (.ref a) (.ins c fs) (a :: F)
inductive Reps (W : Wd) (H : Hp) : List V → List M → List Addr → Prop
  | nil : Reps W H [] [] []
  | cons {v : V} {vs : List V} {m : M} {ms : List M} {G F : List Addr} : Rep W H v m G → Reps W H vs ms F → Reps W H (v :: vs) (m :: ms) (G ++ F)
inductive RepF (W : Wd) (H : Hp) : List (Str × V) → List (Nat × M) → List Addr → Prop
  | nil : RepF W H [] [] []
  | cons {k : Nat} {v : V} {vs : List (Str × V)} {m : M} {fs : List (Nat × M)} {G F : List Addr} : W.fi (W.fn k) = k → Rep W H v m G → RepF W H vs fs F → RepF W H ((W.fn k, v) :: vs) ((k, m) :: fs) (G ++ F)
end

/-! ### heaps: tables of code may grow -/
def NT (o : HO) : Prop := ∀ ps, o ≠ .tbl ps
/-- a table of code: of its objects it is known that they are code -/
structure TbG (H : Hp) (ps : Array Value) : Prop where
  ok : TriplesOk ps.toList
  cd : ∀ (pos : Pos) (cv : Value), codeAmong pos ps.toList = some cv → ∃ c q, cv = .ref c ∧ H c = some (LamX.CodeO c q)
theorem TbG.mono {H H' : Hp} {ps : Array Value} (k : ∀ c q, H c = some (LamX.CodeO c q) → H' c = some (LamX.CodeO c q)) (h : TbG H ps) : TbG H' ps := ⟨h.ok, fun pos cv e => by
  obtain ⟨c, q, e1, e2⟩ := h.cd pos cv e
  exact ⟨c, q, e1, k _ _ e2⟩⟩
theorem TbG.upd {H : Hp} {ps : Array Value} {D : Addr} {o : HO} (no : ∀ c q, H D ≠ some (LamX.CodeO c q)) (h : TbG H ps) : TbG (L2.upd H D o) ps := h.mono fun c q e => by
  rw [upd_ne (fun z => by subst z; exact no _ _ e)]
  exact e
/-- all that was tracked is as it was, but for tables of code, which may have grown -/
structure Same (H H' : Hp) : Prop where
  s : ∀ b o, H b = some o → NT o → H' b = some o
  t : ∀ b ps, H b = some (.tbl ps) → ∃ ps', H' b = some (.tbl ps') ∧ (TbG H ps → TbG H' ps')
theorem Same.of {H H' : Hp} (h : ∀ b o, H b = some o → H' b = some o) : Same H H' := ⟨fun b o e _ => h b o e, fun b ps e => ⟨ps, h b _ e, fun t => t.mono fun c q z => h _ _ z⟩⟩
theorem Same.refl (H : Hp) : Same H H := Same.of fun _ _ h => h
theorem Same.trans {H H1 H2 : Hp} (a : Same H H1) (b : Same H1 H2) : Same H H2 := ⟨fun c o h n => b.s c o (a.s c o h n) n, fun c ps h => by
  obtain ⟨p1, h1, k1⟩ := a.t c ps h
  obtain ⟨p2, h2, k2⟩ := b.t c p1 h1
  exact ⟨p2, h2, k2 ∘ k1⟩⟩
theorem Same.there {H H' : Hp} (e : Same H H') {l : Addr} {o : HO} (h : H l = some o) : ∃ o', H' l = some o' := by
  by_cases n : NT o
  · exact ⟨o, e.s l o h n⟩
  · unfold NT at n
    have n := Classical.not_forall.mp n
    obtain ⟨ps, n⟩ := n
    have n : o = .tbl ps := Classical.not_not.mp n
    subst n
    obtain ⟨ps', h', _⟩ := e.t l ps h
    exact ⟨_, h'⟩
theorem Same.free {H H' : Hp} (e : Same H H') {l : Addr} (h : H' l = Option.none) : H l = Option.none := by
  cases q : H l with
  | none => rfl
  | some o =>
    obtain ⟨o', h'⟩ := e.there q
    rw [h'] at h
    cases h
theorem Same.seq {K : PySem.W.Frag} {H H' : Hp} {a : Addr} {xs : List V} (e : Same H H') (h : SqL K H a xs) : SqL K H' a xs := by
  rcases h with (h | ⟨o, h⟩) | h
  · exact .inl (.inl (e.s _ _ h nofun))
  · exact .inl (.inr ⟨o, e.s _ _ h nofun⟩)
  · exact .inr h
/-- what is never written stays -/
structure Kp (H H' : Hp) : Prop where
  t : ∀ a xs, H a = some (.tup xs) → H' a = some (.tup xs)
  f : ∀ a o u, H a = some (.frz o u) → H' a = some (.frz o u)
  r : ∀ a lo hi, H a = some (.rng lo hi) → H' a = some (.rng lo hi)
  b : ∀ a ps, H a = some (.tbl ps) → ∃ ps', H' a = some (.tbl ps') ∧ (TbG H ps → TbG H' ps')
theorem Kp.refl (H : Hp) : Kp H H := ⟨fun _ _ h => h, fun _ _ _ h => h, fun _ _ _ h => h, (Same.refl H).t⟩
theorem Kp.trans {H H1 H2 : Hp} (a : Kp H H1) (b : Kp H1 H2) : Kp H H2 := ⟨fun c xs h => b.t c xs (a.t c xs h), fun c o u h => b.f c o u (a.f c o u h), fun c o u h => b.r c o u (a.r c o u h), fun c ps h => by
  obtain ⟨p1, h1, k1⟩ := a.b c ps h
  obtain ⟨p2, h2, k2⟩ := b.b c p1 h1
  exact ⟨p2, h2, k2 ∘ k1⟩⟩
theorem Kp.same {H H' : Hp} (h : Same H H') : Kp H H' := ⟨fun a xs e => h.s a _ e nofun, fun a o u e => h.s a _ e nofun, fun a o u e => h.s a _ e nofun, h.t⟩
theorem Kp.sqT {K : PySem.W.Frag} {H H' : Hp} {a : Addr} {xs : List V} (k : Kp H H') (h : SqT K H a xs) : SqT K H' a xs := by
  rcases h with (h | ⟨o, h⟩) | h
  · exact .inl (.inl (k.t _ _ h))
  · exact .inl (.inr ⟨o, k.f _ _ _ h⟩)
  · exact .inr h
theorem Kp.frt {H H' : Hp} {a : Addr} {xs : List V} (k : Kp H H') (h : Frt H a xs) : Frt H' a xs := by
  obtain ⟨o, e, d⟩ := h
  exact ⟨o, k.f _ _ _ e, d⟩
theorem Kp.rol {K : PySem.W.Frag} {H H' : Hp} {a : Addr} {xs : List V} (k : Kp H H') (h : Rol K H a xs) : Rol K H' a xs := by
  rcases h with ⟨o, h⟩ | h
  · exact .inl ⟨o, k.f _ _ _ h⟩
  · exact .inr h

section
variable {K : Kc} {H H' : Hp}
mutual
theorem RepD.monoT (k : ∀ a xs, H a = some (.tup xs) → H' a = some (.tup xs)) : ∀ {v : V} (d : D), RepD K H v d → RepD K H' v d
  | _, .non, h => by cases h; exact .non
  | _, .bl _, h => by cases h; exact .bl _
  | _, .int _, h => by cases h; exact .int _
  | _, .str _, h => by cases h; exact .str _
  | _, .tup ds, h => by
    cases h with
    | tup hs hd => exact .tup (hs.imp (k _ _) id) (RepDs.monoT k ds hd)
theorem RepDs.monoT (k : ∀ a xs, H a = some (.tup xs) → H' a = some (.tup xs)) : ∀ {vs : List V} (ds : List D), RepDs K H vs ds → RepDs K H' vs ds
  | _, [], h => by cases h; exact .nil
  | _, d :: ds, h => by
    cases h with
    | cons h1 h2 => exact .cons (RepD.monoT k d h1) (RepDs.monoT k ds h2)
end
theorem RepD.mono (k : Kp H H') {v : V} (d : D) (h : RepD K H v d) : RepD K H' v d := RepD.monoT k.t d h
theorem RepDs.mono (k : Kp H H') {vs : List V} (ds : List D) (h : RepDs K H vs ds) : RepDs K H' vs ds := RepDs.monoT k.t ds h
mutual
/-- a value is just one -/
theorem RepD.uniq (no : ∀ a xs, ¬ K a xs) : ∀ {v : V} (d e : D), RepD K H v d → RepD K H v e → d = e
  | _, .non, _, h, h' => by cases h; cases h'; rfl
  | _, .bl _, _, h, h' => by cases h; cases h'; rfl
  | _, .int _, _, h, h' => by cases h; cases h'; rfl
  | _, .str _, _, h, h' => by cases h; cases h'; rfl
  | _, .tup ds, _, h, h' => by
    cases h with
    | tup a1 b1 =>
      cases h' with
      | tup a2 b2 =>
        have a1 := Or.resolve_right a1 (no _ _)
        have a2 := Or.resolve_right a2 (no _ _)
        rw [a1] at a2
        cases a2
        rw [RepDs.uniq no ds _ b1 b2]
theorem RepDs.uniq (no : ∀ a xs, ¬ K a xs) : ∀ {v : List V} (d e : List D), RepDs K H v d → RepDs K H v e → d = e
  | _, [], _, h, h' => by cases h; cases h'; rfl
  | _, d :: ds, _, h, h' => by
    cases h with
    | cons a1 b1 =>
      cases h' with
      | cons a2 b2 => rw [RepD.uniq no d _ a1 a2, RepDs.uniq no ds _ b1 b2]
end
theorem RepK.mono (k : Kp H H') {es : List (Key × V)} {kvs : List (D × D)} (h : RepK K H es kvs) : RepK K H' es kvs := by
  induction h with
  | nil => exact .nil
  | cons h1 _ ih => exact .cons (h1.mono k) ih
theorem RepT.mono (k : Kp H H') {es : List (List Key × V)} {kvs : List (D × D)} (h : RepT K H es kvs) : RepT K H' es kvs := by
  induction h with
  | nil => exact .nil
  | cons h1 _ ih => exact .cons (h1.mono k) ih
theorem RepDs.length : ∀ {vs : List V} {ds : List D}, RepDs K H vs ds → vs.length = ds.length
  | _, _, .nil => rfl
  | _, _, .cons _ t => congrArg (· + 1) (RepDs.length t)
end

section
variable {W : Wd} {H H' : Hp}
mutual
theorem Rep.mono (k : Kp H H') : ∀ {v : V} (m : M) {F : List Addr}, Rep W H v m F → (∀ a ∈ F, ∀ o, H a = some o → NT o → H' a = some o) → Rep W H' v m F
  | _, .hole, _, h, _ => by cases h; exact .hole _
  | _, .i d, _, h, _ => by
    cases h with
    | i hd => exact .i (hd.mono k)
  | _, .lst ds, _, h, f => by
    cases h with
    | lst h1 h2 => exact .lst (f _ List.mem_cons_self _ h1 nofun) (h2.mono k)
  | _, .rol ds, _, h, f => by
    cases h with
    | rol h1 h2 => exact .rol (k.rol h1) (h2.mono k)
  | _, .kc ds, _, h, f => by
    cases h with
    | kc h1 h2 => exact .kc h1 (h2.mono k)
  | _, .ftp ds, _, h, f => by
    cases h with
    | ftp h1 h2 => exact .ftp (by obtain ⟨o, e, d⟩ := h1; exact ⟨o, k.f _ _ _ e, d⟩) (h2.mono k)
  | _, .rg _ _, _, h, f => by
    cases h with
    | rg h1 => exact .rg (k.r _ _ _ h1)
  | _, .mls ms, _, h, f => by
    cases h with
    | mls h1 h2 => exact .mls (f _ List.mem_cons_self _ h1 nofun) (Reps.mono k ms h2 fun a ha => f a (List.mem_cons_of_mem _ ha))
  | _, .mtp ms, _, h, f => by
    cases h with
    | mtp h1 h2 => exact .mtp (k.t _ _ h1) (Reps.mono k ms h2 f)
  | _, .dic t kvs, _, h, f => by
    cases h with
    | dicK h1 h2 => exact .dicK (f _ List.mem_cons_self _ h1 nofun) (h2.mono k)
    | dicT h0 h1 h2 => exact .dicT h0 (f _ List.mem_cons_self _ h1 nofun) (h2.mono k)
  | _, .ins c fs, _, h, f => by
    cases h with
    | ins h0 h1 h2 => exact .ins h0 (f _ List.mem_cons_self _ h1 nofun) (RepF.mono k fs h2 fun a ha => f a (List.mem_cons_of_mem _ ha))
theorem Reps.mono (k : Kp H H') : ∀ {vs : List V} (ms : List M) {F : List Addr}, Reps W H vs ms F → (∀ a ∈ F, ∀ o, H a = some o → NT o → H' a = some o) → Reps W H' vs ms F
  | _, [], _, h, _ => by cases h; exact .nil
  | _, m :: ms, _, h, f => by
    cases h with
    | cons h1 h2 => exact .cons (Rep.mono k m h1 fun a ha => f a (List.mem_append_left _ ha)) (Reps.mono k ms h2 fun a ha => f a (List.mem_append_right _ ha))
theorem RepF.mono (k : Kp H H') : ∀ {vs : List (Str × V)} (fs : List (Nat × M)) {F : List Addr}, RepF W H vs fs F → (∀ a ∈ F, ∀ o, H a = some o → NT o → H' a = some o) → RepF W H' vs fs F
  | _, [], _, h, _ => by cases h; exact .nil
  | _, (_, m) :: fs, _, h, f => by
    cases h with
    | cons e h1 h2 => exact .cons e (Rep.mono k m h1 fun a ha => f a (List.mem_append_left _ ha)) (RepF.mono k fs h2 fun a ha => f a (List.mem_append_right _ ha))
end
theorem Rep.same (s : Same H H') {v : V} {m : M} {F : List Addr} (h : Rep W H v m F) : Rep W H' v m F := h.mono (Kp.same s) _ fun a _ o e n => s.s a o e n
theorem Reps.same (s : Same H H') {v : List V} {m : List M} {F : List Addr} (h : Reps W H v m F) : Reps W H' v m F := h.mono (Kp.same s) _ fun a _ o e n => s.s a o e n

/-- what is owned may be written -/
def Own : HO → Prop
  | .lst _ | .dK _ | .dT _ | .ins _ _ _ => True
  | _ => False
mutual
theorem Rep.own : ∀ {v : V} (m : M) {F : List Addr}, Rep W H v m F → ∀ a ∈ F, ∃ o, H a = some o ∧ Own o
  | _, .hole, _, h, a, ha => by cases h; cases ha
  | _, .i d, _, h, a, ha => by cases h; cases ha
  | _, .lst ds, _, h, a, ha => by
    cases h with
    | lst h1 h2 =>
      have e : a = _ := List.mem_singleton.mp ha
      subst e
      exact ⟨_, h1, trivial⟩
  | _, .rol ds, _, h, a, ha => by cases h; cases ha
  | _, .kc ds, _, h, a, ha => by cases h; cases ha
  | _, .rg _ _, _, h, a, ha => by cases h; cases ha
  | _, .ftp _, _, h, a, ha => by cases h; cases ha
  | _, .mls ms, _, h, a, ha => by
    cases h with
    | mls h1 h2 =>
      rcases List.mem_cons.mp ha with e | ha
      · subst e; exact ⟨_, h1, trivial⟩
      · exact Reps.own ms h2 a ha
  | _, .mtp ms, _, h, a, ha => by
    cases h with
    | mtp h1 h2 => exact Reps.own ms h2 a ha
  | _, .dic t kvs, _, h, a, ha => by
    cases h with
    | dicK h1 h2 =>
      have e : a = _ := List.mem_singleton.mp ha
      subst e
      exact ⟨_, h1, trivial⟩
    | dicT h0 h1 h2 =>
      have e : a = _ := List.mem_singleton.mp ha
      subst e
      exact ⟨_, h1, trivial⟩
  | _, .ins c fs, _, h, a, ha => by
    cases h with
    | ins h0 h1 h2 =>
      rcases List.mem_cons.mp ha with e | ha
      · subst e; exact ⟨_, h1, trivial⟩
      · exact RepF.own fs h2 a ha
theorem Reps.own : ∀ {vs : List V} (ms : List M) {F : List Addr}, Reps W H vs ms F → ∀ a ∈ F, ∃ o, H a = some o ∧ Own o
  | _, [], _, h, a, ha => by cases h; cases ha
  | _, m :: ms, _, h, a, ha => by
    cases h with
    | cons h1 h2 =>
      rcases List.mem_append.mp ha with ha | ha
      · exact Rep.own m h1 a ha
      · exact Reps.own ms h2 a ha
theorem RepF.own : ∀ {vs : List (Str × V)} (fs : List (Nat × M)) {F : List Addr}, RepF W H vs fs F → ∀ a ∈ F, ∃ o, H a = some o ∧ Own o
  | _, [], _, h, a, ha => by cases h; cases ha
  | _, (_, m) :: fs, _, h, a, ha => by
    cases h with
    | cons e h1 h2 =>
      rcases List.mem_append.mp ha with ha | ha
      · exact Rep.own m h1 a ha
      · exact RepF.own fs h2 a ha
end

/-! ### the slots -/
def Tbs (W : Wd) (H : Hp) : Prop := ∀ p ∈ W.tb, ∃ ps : Array Value, H p = some (.tbl ps) ∧ TbG H ps
theorem Tbs.kp {W : Wd} {H H' : Hp} (h : Tbs W H) (k : Kp H H') : Tbs W H' := fun p hp => by
  obtain ⟨ps, e, t⟩ := h p hp
  obtain ⟨ps', e', t'⟩ := k.b p ps e
  exact ⟨ps', e', t' t⟩
inductive REnv (W : Wd) (H : Hp) : L2.St → Env → List Addr → Prop
  | nil : Tbs W H → REnv W H [] [] []
  | hole {ov : Option V} {σ : L2.St} {δ : Env} {F : List Addr} : REnv W H σ δ F → REnv W H (ov :: σ) (.hole :: δ) F
  | cons {v : V} {m : M} {σ : L2.St} {δ : Env} {G F : List Addr} : Rep W H v m G → REnv W H σ δ F → REnv W H (some v :: σ) (m :: δ) (G ++ F)
theorem REnv.tbs {W : Wd} {H : Hp} {σ : L2.St} {δ : Env} {F : List Addr} (h : REnv W H σ δ F) : Tbs W H := by
  induction h with
  | nil ht => exact ht
  | hole _ ih => exact ih
  | cons _ _ ih => exact ih
theorem REnv.length {σ : L2.St} {δ : Env} {F : List Addr} (h : REnv W H σ δ F) : σ.length = δ.length := by
  induction h with
  | nil => rfl
  | hole _ ih => exact congrArg (· + 1) ih
  | cons _ _ ih => exact congrArg (· + 1) ih
theorem REnv.own {σ : L2.St} {δ : Env} {F : List Addr} (h : REnv W H σ δ F) : ∀ a ∈ F, ∃ o, H a = some o ∧ Own o := by
  induction h with
  | nil => intro a ha; cases ha
  | hole _ ih => exact ih
  | cons h1 _ ih =>
    intro a ha
    rcases List.mem_append.mp ha with ha | ha
    · exact h1.own _ a ha
    · exact ih a ha
theorem REnv.mono (k : Kp H H') {σ : L2.St} {δ : Env} {F : List Addr} (h : REnv W H σ δ F) (f : ∀ a ∈ F, ∀ o, H a = some o → NT o → H' a = some o) : REnv W H' σ δ F := by
  induction h with
  | nil ht => exact .nil (ht.kp k)
  | hole _ ih => exact .hole (ih f)
  | cons h1 _ ih => exact .cons (h1.mono k _ fun a ha => f a (List.mem_append_left _ ha)) (ih fun a ha => f a (List.mem_append_right _ ha))
theorem REnv.same (s : Same H H') {σ : L2.St} {δ : Env} {F : List Addr} (h : REnv W H σ δ F) : REnv W H' σ δ F := h.mono (Kp.same s) fun a _ o e n => s.s a o e n
/-- a slot's value -/
theorem REnv.get {σ : L2.St} {δ : Env} {F : List Addr} (h : REnv W H σ δ F) : ∀ {i : Nat} {m : M}, slot δ i = m → m ≠ .hole → ∃ v G, σ[i]? = some (some v) ∧ Rep W H v m G ∧ ∀ a ∈ G, a ∈ F := by
  induction h with
  | nil =>
    intro i m e n
    exact absurd (e.symm.trans (by simp [slot])) n
  | hole _ ih =>
    intro i m e n
    cases i with
    | zero => exact absurd (e.symm.trans (by simp [slot])) n
    | succ i => exact ih (i := i) (m := m) e n
  | cons h1 _ ih =>
    intro i m e n
    cases i with
    | zero =>
      obtain rfl : _ = m := e
      exact ⟨_, _, rfl, h1, fun a ha => List.mem_append_left _ ha⟩
    | succ i =>
      obtain ⟨v, G, h2, h3, h4⟩ := ih (i := i) (m := m) e n
      exact ⟨v, G, h2, h3, fun a ha => List.mem_append_right _ (h4 a ha)⟩

/-- the value of a slot, seen apart -/
inductive RepO (W : Wd) (H : Hp) : Option V → M → List Addr → Prop
  | hole (ov : Option V) : RepO W H ov .hole []
  | some {v : V} {m : M} {G : List Addr} : Rep W H v m G → RepO W H (some v) m G
theorem REnv.focus {σ : L2.St} {δ : Env} {F : List Addr} (h : REnv W H σ δ F) : ∀ {i : Nat}, i < δ.length → ∃ A G B ov, F = A ++ (G ++ B) ∧ σ[i]? = some ov ∧ RepO W H ov (slot δ i) G ∧
    ∀ (H' : Hp) (ov' : Option V) (m' : M) (G' : List Addr), Kp H H' → (∀ a, a ∈ A ∨ a ∈ B → ∀ o, H a = some o → NT o → H' a = some o) → RepO W H' ov' m' G' → REnv W H' (σ.set i ov') (δ.set i m') (A ++ (G' ++ B)) := by
  induction h with
  | nil => intro i hi; exact absurd hi (Nat.not_lt_zero i)
  | @hole ov σ δ F h0 ih =>
    intro i hi
    cases i with
    | zero =>
      refine ⟨[], [], F, ov, rfl, rfl, .hole _, fun H' ov' m' G' k f r => ?_⟩
      cases r with
      | hole _ => exact .hole (h0.mono k fun a ha => f a (.inr ha))
      | some r => exact (show REnv W H' (some _ :: σ) (m' :: δ) (G' ++ F) from .cons r (h0.mono k fun a ha => f a (.inr ha)))
    | succ i =>
      obtain ⟨A, G, B, ov1, e, es, r, cl⟩ := ih (i := i) (Nat.lt_of_succ_lt_succ hi)
      exact ⟨A, G, B, ov1, e, es, r, fun H' ov' m' G' k f r' => .hole (cl H' ov' m' G' k f r')⟩
  | @cons v m σ δ G0 F h1 h0 ih =>
    intro i hi
    cases i with
    | zero =>
      refine ⟨[], G0, F, some v, rfl, rfl, .some h1, fun H' ov' m' G' k f r => ?_⟩
      cases r with
      | hole _ => exact .hole (h0.mono k fun a ha => f a (.inr ha))
      | some r => exact (show REnv W H' (some _ :: σ) (m' :: δ) (G' ++ F) from .cons r (h0.mono k fun a ha => f a (.inr ha)))
    | succ i =>
      obtain ⟨A, G, B, ov1, e, es, r, cl⟩ := ih (i := i) (Nat.lt_of_succ_lt_succ hi)
      refine ⟨G0 ++ A, G, B, ov1, by rw [e, List.append_assoc], es, r, fun H' ov' m' G' k f r' => ?_⟩
      have q := cl H' ov' m' G' k (fun a ha => f a (ha.elim (fun z => .inl (List.mem_append_right _ z)) .inr)) r'
      have q2 := REnv.cons (h1.mono k _ fun a ha => f a (.inl (List.mem_append_left _ ha))) q
      rw [← List.append_assoc] at q2
      exact q2
end
end Zy
end
section
/-! Zy, part C: operators, calls of what is built in, subscripts, by values of the core. -/
namespace Zy
open PySem PySem.Spec PyProof.Rows L2

/-! ### what a new object adds -/
def Fresh (H : Hp) (G : List Addr) : Prop := G.Nodup ∧ ∀ a ∈ G, H a = none
theorem Fresh.nil (H : Hp) : Fresh H [] := ⟨List.nodup_nil, fun a h => by cases h⟩
theorem Fresh.one {H : Hp} {p : Addr} (h : H p = none) : Fresh H [p] := ⟨by simp, fun a ha => by rw [List.mem_singleton.mp ha]; exact h⟩
theorem Same.new {H : Hp} {p : Addr} {o : HO} (h : H p = none) : Same H (upd H p o) := Same.of fun b u e => by
  rw [upd_ne (ne_of_none e h)]; exact e
/-- no code object of which is known -/
abbrev NoC (H : Hp) (D : Addr) : Prop := ∀ c q, H D ≠ some (LamX.CodeO c q)
theorem NoC.of {H : Hp} {D : Addr} {o : HO} (h : H D = some o) (n : ∀ c q, o ≠ LamX.CodeO c q) : NoC H D := fun c q e => n c q (by rw [h] at e; exact Option.some.inj e)
theorem NoC.lst {H : Hp} {D : Addr} {l : List V} (h : H D = some (.lst l)) : NoC H D := NoC.of h fun c q z => by
  unfold LamX.CodeO at z
  cases z
theorem Same.upd {H H' : Hp} {p : Addr} {o : HO} (s : Same H H') (h : H p = none) (nc : NoC H' p) : Same H (L2.upd H' p o) :=
  ⟨fun b u e n => by rw [upd_ne (ne_of_none e h)]; exact s.s b u e n, fun b ps e => by
    obtain ⟨ps', h', k⟩ := s.t b ps e
    exact ⟨ps', by rw [upd_ne (ne_of_none e h)]; exact h', fun t => (k t).upd nc⟩⟩
theorem Same.hide {H H' : Hp} {D : Addr} (s : Same H H') (h : H D = none) (nc : NoC H' D) : Same H (fun b => if b = D then none else H' b) :=
  ⟨fun b u e n => by show (if b = D then none else H' b) = _; rw [if_neg (ne_of_none e h)]; exact s.s b u e n, fun b ps e => by
    obtain ⟨ps', h', k⟩ := s.t b ps e
    exact ⟨ps', by show (if b = D then none else H' b) = _; rw [if_neg (ne_of_none e h)]; exact h', fun t => (k t).mono fun c q z => by
      show (if c = D then none else H' c) = _
      rw [if_neg (fun y => by subst y; exact nc _ _ z)]
      exact z⟩⟩
theorem Same.unhide {H H' : Hp} {D : Addr} (s : Same H (fun b => if b = D then none else H' b)) (h : H D = none) : Same H H' :=
  ⟨fun b u e n => by have z : (if b = D then none else H' b) = _ := s.s b u e n; rw [if_neg (ne_of_none e h)] at z; exact z, fun b ps e => by
    obtain ⟨ps', h', k⟩ := s.t b ps e
    have h' : (if b = D then none else H' b) = _ := h'
    rw [if_neg (ne_of_none e h)] at h'
    exact ⟨ps', h', fun t => (k t).mono fun c q z => by
      have z : (if c = D then none else H' c) = _ := z
      by_cases y : c = D
      · rw [if_pos y] at z; cases z
      · rw [if_neg y] at z; exact z⟩⟩
/-- what is wanted behind an operation that changes nothing and gives m -/
def Gv (W : Wd) (H : Hp) (m : M) (Q : VK) : Prop := ∀ v H' G, Rep W H' v m G → Same H H' → Fresh H G → Q v H'

section
variable {W : Wd} {H : Hp} {Q : VK}
theorem Gv.imm {v : V} {d : D} (h : Gv W H (.i d) Q) (r : RepD W.kk H v d) : Q v H := h v H [] (.i r) (Same.refl H) (Fresh.nil H)
theorem Gv.int {i : Int} (h : Gv W H (.i (.int i)) Q) : Q (.int i) H := h.imm (.int i)
theorem Gv.bl {i : Bool} (h : Gv W H (.i (.bl i)) Q) : Q (.bl i) H := h.imm (.bl i)
theorem Gv.str {i : Str} (h : Gv W H (.i (.str i)) Q) : Q (.str i) H := h.imm (.str i)
theorem Gv.tup {xs : List V} {ds : List D} (h : Gv W H (.i (.tup ds)) Q) (r : RepDs W.kk H xs ds) : ∀ p, H p = none → Q (.ref p) (upd H p (.tup xs)) := fun p hp =>
  h _ _ [] (.i (.tup (.inl upd_same) (r.mono (Kp.same (Same.new hp))))) (Same.new hp) (Fresh.nil H)
theorem Gv.rg {a b : Int} (h : Gv W H (.rg a b) Q) : ∀ p, H p = none → Q (.ref p) (upd H p (.rng a b)) := fun p hp =>
  h _ _ [] (.rg upd_same) (Same.new hp) (Fresh.nil H)
theorem Gv.ftp {xs : List V} {ds : List D} (h : Gv W H (.ftp ds) Q) (r : RepDs W.kk H xs ds) : ∀ p o, H p = none → o.dict = none → Q (.ref p) (upd H p (.frz o (.tup xs))) := fun p o hp hd =>
  h _ _ [] (.ftp ⟨o, upd_same, hd⟩ (r.mono (Kp.same (Same.new hp)))) (Same.new hp) (Fresh.nil H)
theorem Gv.lst {xs : List V} {ds : List D} (h : Gv W H (.lst ds) Q) (r : RepDs W.kk H xs ds) : ∀ p, H p = none → Q (.ref p) (upd H p (.lst xs)) := fun p hp =>
  h _ _ [p] (.lst upd_same (r.mono (Kp.same (Same.new hp)))) (Same.new hp) (Fresh.one hp)
end

/-! ### lists of data -/
section
variable {K : Kc} {H : Hp}
theorem RepDs.append : ∀ {xs ys : List V} {ds es : List D}, RepDs K H xs ds → RepDs K H ys es → RepDs K H (xs ++ ys) (ds ++ es)
  | _, _, _, _, .nil, s => s
  | _, _, _, _, .cons r t, s => .cons r (RepDs.append t s)
theorem RepDs.reps {xs : List V} {ds : List D} (h : RepDs K H xs ds) : ∀ n : Nat, RepDs K H (List.replicate n xs).flatten (List.replicate n ds).flatten
  | 0 => .nil
  | n + 1 => by
    rw [List.replicate_succ, List.replicate_succ, List.flatten_cons, List.flatten_cons]
    exact h.append (RepDs.reps h n)
theorem RepDs.rev : ∀ {xs : List V} {ds : List D}, RepDs K H xs ds → RepDs K H xs.reverse ds.reverse
  | _, _, .nil => .nil
  | _, _, .cons r t => by
    rw [List.reverse_cons, List.reverse_cons]
    exact (RepDs.rev t).append (.cons r .nil)
theorem RepDs.get : ∀ {xs : List V} {ds : List D} {i : Nat} {d : D}, RepDs K H xs ds → ds[i]? = some d → ∃ v, xs[i]? = some v ∧ RepD K H v d
  | _, _, _, _, .nil, e => by simp at e
  | _, _, 0, _, .cons r _, e => by simp at e; subst e; exact ⟨_, rfl, r⟩
  | _, _, i + 1, _, .cons _ t, e => by
    obtain ⟨v, h1, h2⟩ := RepDs.get (i := i) t (by simpa using e)
    exact ⟨v, by simpa using h1, h2⟩
theorem RepDs.drop : ∀ (n : Nat) {xs : List V} {ds : List D}, RepDs K H xs ds → RepDs K H (xs.drop n) (ds.drop n)
  | 0, _, _, h => h
  | _ + 1, _, _, .nil => .nil
  | n + 1, _, _, .cons _ t => RepDs.drop n t
theorem RepDs.take : ∀ (n : Nat) {xs : List V} {ds : List D}, RepDs K H xs ds → RepDs K H (xs.take n) (ds.take n)
  | 0, _, _, _ => .nil
  | _ + 1, _, _, .nil => .nil
  | n + 1, _, _, .cons r t => .cons r (RepDs.take n t)
theorem RepDs.set {v : V} {d : D} (r : RepD K H v d) : ∀ (n : Nat) {xs : List V} {ds : List D}, RepDs K H xs ds → RepDs K H (xs.set n v) (ds.set n d)
  | _, _, _, .nil => .nil
  | 0, _, _, .cons _ t => .cons r t
  | n + 1, _, _, .cons q t => .cons q (RepDs.set r n t)
theorem RepDs.erase : ∀ (n : Nat) {xs : List V} {ds : List D}, RepDs K H xs ds → RepDs K H (xs.eraseIdx n) (ds.eraseIdx n)
  | _, _, _, .nil => .nil
  | 0, _, _, .cons _ t => t
  | n + 1, _, _, .cons q t => .cons q (RepDs.erase n t)
theorem RepDs.cut {xs : List V} {ds : List D} (h : RepDs K H xs ds) (lo hi : Option Int) : RepDs K H (cutV xs lo hi) (cutD ds lo hi) := by
  unfold cutV cutD
  rw [h.length]
  exact (h.drop _).take _
theorem RepDs.atI {xs : List V} {ds : List D} {k : Int} {d : D} (h : RepDs K H xs ds) (e : L2.atI ds k = some d) : ∃ v, L2.atI xs k = some v ∧ RepD K H v d := by
  unfold L2.atI at e ⊢
  rw [h.length]
  cases q : ixN ds.length k with
  | none => rw [q] at e; cases e
  | some j =>
    rw [q] at e
    exact h.get e
mutual
theorem RepD.dp {W : Wd} {H : Hp} : ∀ {v : V} (d : D), RepD W.kk H v d → Dp W.K H v d.pd
  | _, .non, h => by cases h; exact .non
  | _, .bl _, h => by cases h; exact .bl _
  | _, .int _, h => by cases h; exact .int _
  | _, .str _, h => by cases h; exact .str _
  | _, .tup ds, h => by
    cases h with
    | tup hs hd => exact .tup hs.sq (RepDs.dp ds hd)
theorem RepDs.dp {W : Wd} {H : Hp} : ∀ {vs : List V} (ds : List D), RepDs W.kk H vs ds → DpAll W.K H vs (D.pds ds)
  | _, [], h => by cases h; exact .nil
  | _, d :: ds, h => by
    cases h with
    | cons h1 h2 => exact .cons (RepD.dp d h1) (RepDs.dp ds h2)
end
end
theorem Rep.dp {W : Wd} {H : Hp} {v : V} {m : M} {G : List Addr} {p : PyData} (r : Rep W H v m G) (e : toPd m = some p) : Dp W.K H v p ∧ SeqAt.shaped p = true := by
  cases r with
  | i h =>
    simp only [toPd] at e
    split at e
    · rename_i hs
      cases e
      exact ⟨h.dp _, hs⟩
    · cases e
  | lst h1 h2 =>
    simp only [toPd] at e
    split at e
    · rename_i hs
      cases e
      exact ⟨.lst (SqL.of h1) (h2.dp _), hs⟩
    · cases e
  | _ => cases e

/-! ### operators -/
def oprOf : Bop → Operator
  | .add => .Add
  | .sub => .Sub
  | .mul => .Mult
  | .fdiv => .FloorDiv
  | .mod => .Mod
  | .pow => .Pow
def rB (W : Wd) (op : Bop) : R2 := fun x y H Q => ∃ m1 m2 G1 G2 m, Rep W H x m1 G1 ∧ Rep W H y m2 G2 ∧ bopM op m1 m2 = some m ∧ Gv W H m Q

theorem strMul_one (x : Str) : strMul x 1 = x := by
  unfold strMul
  show (⟨#[] ++ x.cps⟩ : Str) = x
  rw [Array.empty_append]
theorem strMul_empty {x : Str} (h : x.length = 0) (n : Int) : strMul x n = x := by
  obtain ⟨c⟩ := x
  have e : c = #[] := Array.eq_empty_of_size_eq_zero h
  subst e
  unfold strMul
  generalize n.toNat = k
  induction k with
  | zero => rfl
  | succ k ih => rw [List.replicate_succ, List.foldl_cons]; exact ih

theorem strMul_len (x : Str) (n : Int) : (strMul x n).length = x.length * n.toNat := by
  unfold strMul
  generalize n.toNat = k
  have h : ∀ (k : Nat) (acc : Array Nat), ((List.replicate k x.cps).foldl (· ++ ·) acc).size = acc.size + x.length * k := by
    intro k
    induction k with
    | zero => intro acc; rfl
    | succ k ih =>
      intro acc
      rw [List.replicate_succ, List.foldl_cons, ih, Array.size_append, Nat.mul_succ]
      show acc.size + x.cps.size + x.length * k = acc.size + (x.length * k + x.cps.size)
      omega
  have := h k #[]
  show ((List.replicate k x.cps).foldl (· ++ ·) #[]).size = _
  rw [this]
  show 0 + _ = _
  omega
theorem op_mul_str {X : Cx} : OpR X (binaryOp .Mult) (fun x y H Q => ∃ i j, x = .str i ∧ y = .int j ∧ 0 ≤ j ∧ j < 1000 ∧ i.length ≤ 4000 ∧ Q (.str (strMul i j)) H) := by
  intro pins s σ H x y v u Q I rx ry h
  obtain ⟨i, j, rfl, rfl, h0, h1, h2, q⟩ := h
  obtain ⟨t, rfl⟩ := rx
  obtain ⟨t', rfl⟩ := ry
  have hlen : i.length * j.toNat ≤ 4000000 := by
    have : j.toNat ≤ 1000 := by omega
    calc i.length * j.toNat ≤ 4000 * 1000 := Nat.mul_le_mul h2 this
      _ = 4000000 := by decide
  refine PySem.P.mul_str ?_ (fun hn hz => ?_) (fun hn hz => ?_) ?_
  · rw [decide_eq_false (by omega), decide_eq_false (by omega)]; rfl
  · intro hh
    have hj : (0 : Int) < j := by omega
    have h3 : (4000 : Int) ≤ (2 ^ 63 - 1) / j := by
      rw [Int.le_ediv_iff_mul_le hj]
      omega
    have h4 : (i.length : Int) ≤ 4000 := by exact_mod_cast h2
    omega
  · have e : (sizeLine : Nat) = 16777216 := sizeLine_eq
    unfold Builtin.Str.tooLong
    exact decide_eq_false (by omega)
  · by_cases hn : j < 1
    · rw [if_pos hn]
      have e : j = 0 := by omega
      subst e
      exact ⟨by decide, .str (strMul i 0), H, I.tok _, ⟨_, rfl⟩, q⟩
    · rw [if_neg hn]
      by_cases hz : (j == 1 || i.length == 0) = true
      · rw [if_pos hz]
        have e : strMul i j = i := by
          rcases Bool.or_eq_true_iff.mp hz with e | e
          · rw [eq_of_beq e]; exact strMul_one i
          · exact strMul_empty (eq_of_beq e) j
        rw [e] at q
        exact ⟨.str i, H, I, ⟨_, rfl⟩, q⟩
      · rw [if_neg hz]
        refine ⟨?_, .str (strMul i j), H, I.tok _, ⟨_, rfl⟩, q⟩
        have hl : (strMul i j).length = i.length * j.toNat := strMul_len i j
        have e : (sizeLine : Nat) = 16777216 := sizeLine_eq
        show (strMul i j).length ≤ sizeLine
        omega

theorem op_bop {X : Cx} {W : Wd} (hK : X.K = W.K) : ∀ op, OpR X (binaryOp (oprOf op)) (rB W op) := by
  intro op pins s σ H x y v u Q I rx ry h
  obtain ⟨m1, m2, G1, G2, m, r1, r2, e, q⟩ := h
  unfold bopM at e
  split at e
  · cases e
    cases r1 with | i r1 => cases r1; cases r2 with | i r2 => cases r2; exact op_add pins s σ H _ _ v u Q I rx ry ⟨_, _, rfl, rfl, q.int⟩
  · split at e
    · rename_i hz
      cases e
      cases r1 with | i r1 => cases r1; cases r2 with | i r2 => cases r2; exact op_add_str pins s σ H _ _ v u Q I rx ry ⟨_, _, rfl, rfl, hz, q.str⟩
    · cases e
  · split at e
    · rename_i hz
      cases e
      cases r1 with
      | i r1 =>
        cases r1 with
        | tup s1 d1 =>
          cases r2 with
          | i r2 =>
            cases r2 with
            | tup s2 d2 =>
              refine op_catA pins s σ H _ _ v u Q I rx ry ⟨_, _, _, _, rfl, rfl, s1.sqX hK, s2.sqX hK, by rw [d1.length, d2.length]; exact hz, fun z => ?_, fun _ z => ?_, fun _ _ => q.tup (d1.append d2)⟩
              · subst z
                cases d1
                exact q.imm (.tup s2 d2)
              · subst z
                cases d2
                rw [List.append_nil] at q
                exact q.imm (.tup s1 d1)
    · cases e
  · split at e
    · rename_i hz
      cases e
      cases r1 with
      | lst h1 d1 =>
        cases r2 with
        | lst h2 d2 => exact op_cat pins s σ H _ _ v u Q I rx ry ⟨_, _, _, _, rfl, rfl, h1, h2, by rw [d1.length, d2.length]; exact hz, q.lst (d1.append d2)⟩
    · cases e
  · cases e
    cases r1 with | i r1 => cases r1; cases r2 with | i r2 => cases r2; exact op_sub pins s σ H _ _ v u Q I rx ry ⟨_, _, rfl, rfl, q.int⟩
  · split at e
    · rename_i hz
      cases e
      cases r1 with
      | i r1 =>
        cases r1
        cases r2 with
        | i r2 =>
          cases r2
          rcases hz with hz | hz
          · exact op_mul pins s σ H _ _ v u Q I rx ry ⟨_, _, rfl, rfl, hz, q.int⟩
          · exact op_mulW pins s σ H _ _ v u Q I rx ry ⟨_, _, rfl, rfl, hz, q.int⟩
    · cases e
  · split at e
    · rename_i hz
      cases e
      cases r1 with | i r1 => cases r1; cases r2 with | i r2 => cases r2; exact op_mul_str pins s σ H _ _ v u Q I rx ry ⟨_, _, rfl, rfl, hz.1, hz.2.1, hz.2.2, q.str⟩
    · cases e
  · split at e
    · rename_i hz
      cases e
      cases r1 with
      | i r1 =>
        cases r1 with
        | tup s1 d1 =>
          cases r2 with
          | i r2 =>
            cases r2
            refine op_repT pins s σ H _ _ v u Q I rx ry ⟨_, _, _, rfl, rfl, s1.sqX hK, fun z => ?_, hz.2.1, hz.2.2.1, by rw [d1.length]; exact hz.2.2.2, q.tup (d1.reps _)⟩
            subst z
            cases d1
            exact hz.1 rfl
    · cases e
  · split at e
    · rename_i hz
      cases e
      cases r1 with | i r1 => cases r1; cases r2 with | i r2 => cases r2; exact op_fdivW pins s σ H _ _ v u Q I rx ry ⟨_, _, rfl, rfl, hz, q.int⟩
    · cases e
  · split at e
    · rename_i hz
      cases e
      cases r1 with | i r1 => cases r1; cases r2 with | i r2 => cases r2; exact op_mod pins s σ H _ _ v u Q I rx ry ⟨_, _, rfl, rfl, hz, q.int⟩
    · cases e
  · split at e
    · rename_i hz
      cases e
      cases r1 with | i r1 => cases r1; cases r2 with | i r2 => cases r2; exact op_pow pins s σ H _ _ v u Q I rx ry ⟨_, _, rfl, rfl, hz, q.int⟩
    · cases e
  · cases e
end Zy
end
section
/-! Zy, part D: comparisons, subscripts, truth, calls of what is built in, by values of the core. -/
namespace Zy
open PySem PySem.Spec PyProof.Rows L2

/-! ### dicts by keys of the core -/
theorem keyD_inj : ∀ {a b : Key}, keyD a = keyD b → a = b
  | .inl _, .inl _, h => by cases h; rfl
  | .inr _, .inr _, h => by cases h; rfl
  | .inl _, .inr _, h => by cases h
  | .inr _, .inl _, h => by cases h
theorem keyDs_inj : ∀ {a b : List Key}, a.map keyD = b.map keyD → a = b
  | [], [], _ => rfl
  | [], _ :: _, h => by cases h
  | _ :: _, [], h => by cases h
  | x :: r, y :: s, h => by
    simp only [List.map_cons, List.cons.injEq] at h
    rw [keyD_inj h.1, keyDs_inj h.2]
section
variable {K : Kc} {H : Hp}
def RelD (K : Kc) (H : Hp) : Option V → Option D → Prop
  | some v, some d => RepD K H v d
  | none, none => True
  | _, _ => False
theorem RepK.look {es : List (Key × V)} {kvs : List (D × D)} (h : RepK K H es kvs) (k : Key) : RelD K H (valV es k) (lookD kvs (keyD k)) := by
  induction h with
  | nil => trivial
  | @cons k' v es d kvs r _ ih =>
    unfold valV lookD at ih ⊢
    rw [List.find?_cons, List.find?_cons]
    by_cases e : k' = k
    · subst e
      simp only [decide_true]
      exact r
    · have e2 : ¬ keyD k' = keyD k := fun z => e (keyD_inj z)
      simp only [decide_eq_false e, decide_eq_false e2]
      exact ih
theorem RepT.look {es : List (List Key × V)} {kvs : List (D × D)} (h : RepT K H es kvs) (k : List Key) : RelD K H (valV es k) (lookD kvs (.tup (k.map keyD))) := by
  induction h with
  | nil => trivial
  | @cons k' v es d kvs r _ ih =>
    unfold valV lookD at ih ⊢
    rw [List.find?_cons, List.find?_cons]
    by_cases e : k' = k
    · subst e
      simp only [decide_true]
      exact r
    · have e2 : ¬ D.tup (k'.map keyD) = D.tup (k.map keyD) := fun z => e (keyDs_inj (D.tup.inj z))
      simp only [decide_eq_false e, decide_eq_false e2]
      exact ih
theorem flat_key {v : V} {d : D} (r : RepD K H v d) (f : flatK d = true) : ∃ k, v = kV k ∧ d = keyD k := by
  cases r with
  | int i => exact ⟨.inl i, rfl, rfl⟩
  | str x => exact ⟨.inr x, rfl, rfl⟩
  | _ => cases f
theorem flat_keys : ∀ {vs : List V} {ds : List D}, RepDs K H vs ds → ds.all flatK = true → ∃ ks : List Key, vs = ks.map kV ∧ ds = ks.map keyD
  | _, _, .nil, _ => ⟨[], rfl, rfl⟩
  | _, _, .cons r t, f => by
    rw [List.all_cons, Bool.and_eq_true] at f
    obtain ⟨k, e1, e2⟩ := flat_key r f.1
    obtain ⟨ks, e3, e4⟩ := flat_keys t f.2
    exact ⟨k :: ks, by rw [e1, e3]; rfl, by rw [e2, e4]; rfl⟩
end
theorem Rep.dget {W : Wd} {H : Hp} {a y : V} {t : Bool} {kvs : List (D × D)} {x : D} {G G2 : List Addr} (r : Rep W H a (.dic t kvs) G) (ry : Rep W H y (.i x) G2) (ok : keyOkD t x = true) :
    ∃ (p : Addr) (o : Option V), a = .ref p ∧ DGet H p y o ∧ RelD W.kk H o (lookD kvs x) := by
  cases ry with
  | i ry =>
    cases r with
    | dicK h1 h2 =>
      obtain ⟨k, rfl, rfl⟩ := flat_key ry ok
      exact ⟨_, _, rfl, DGet.k h1, h2.look k⟩
    | dicT h0 h1 h2 =>
      cases ry with
      | tup e1 e2 =>
        have e1 := Or.resolve_right e1 (h0 _ _)
        obtain ⟨ks, rfl, rfl⟩ := flat_keys e2 ok
        exact ⟨_, _, rfl, DGet.t h1 e1, h2.look ks⟩
      | _ => cases ok

/-! ### x in y -/
section
variable {X : Cx}
def rInT (K : PySem.W.Frag) (neg : Bool) : R2 := fun x y H Q => ∃ d ds, Dp K H x d ∧ Dp K H y (.tuple ds) ∧ SeqAt.shaped d = true ∧ PyData.canLayAll0 ds = true ∧ Q (.bl (if neg then !ds.any fun z => PyData.eqv z d else ds.any fun z => PyData.eqv z d)) H
def rInL (K : PySem.W.Frag) (neg : Bool) : R2 := fun x y H Q => ∃ d ds, Dp K H x d ∧ Dp K H y (.list ds) ∧ SeqAt.shaped d = true ∧ PyData.canLayAll0 ds = true ∧ Q (.bl (if neg then !ds.any fun z => PyData.eqv z d else ds.any fun z => PyData.eqv z d)) H
theorem op_inT (hu : X.A.units + 65 < cLine) : OpR X (compareOp .In) (rInT X.K false) := by
  intro pins s σ H x y v u Q I rx ry h
  obtain ⟨d, ds, hd, he, sd, se, q⟩ := h
  obtain ⟨as, r1⟩ := Dp.reads I d x v hd rx
  obtain ⟨bs, r2⟩ := Dp.reads I (.tuple ds) y u he ry
  exact SeqAt.in_tuple_reads r2 r1 se (SeqAt.canLay_of_shaped sd) (room_in_shaped sd hu) ⟨.bl _, H, I, rfl, q⟩
theorem op_notInT (hu : X.A.units + 65 < cLine) : OpR X (compareOp .NotIn) (rInT X.K true) := by
  intro pins s σ H x y v u Q I rx ry h
  obtain ⟨d, ds, hd, he, sd, se, q⟩ := h
  obtain ⟨as, r1⟩ := Dp.reads I d x v hd rx
  obtain ⟨bs, r2⟩ := Dp.reads I (.tuple ds) y u he ry
  exact SeqAt.notIn_tuple_reads r2 r1 se (SeqAt.canLay_of_shaped sd) (room_in_shaped sd hu) ⟨.bl _, H, I, rfl, q⟩
theorem op_inL (hu : X.A.units + 65 < cLine) : OpR X (compareOp .In) (rInL X.K false) := by
  intro pins s σ H x y v u Q I rx ry h
  obtain ⟨d, ds, hd, he, sd, se, q⟩ := h
  obtain ⟨as, r1⟩ := Dp.reads I d x v hd rx
  obtain ⟨bs, r2⟩ := Dp.reads I (.list ds) y u he ry
  exact SeqAt.in_list_reads r2 r1 se (SeqAt.canLay_of_shaped sd) (room_in_shaped sd hu) ⟨.bl _, H, I, rfl, q⟩
theorem op_notInL (hu : X.A.units + 65 < cLine) : OpR X (compareOp .NotIn) (rInL X.K true) := by
  intro pins s σ H x y v u Q I rx ry h
  obtain ⟨d, ds, hd, he, sd, se, q⟩ := h
  obtain ⟨as, r1⟩ := Dp.reads I d x v hd rx
  obtain ⟨bs, r2⟩ := Dp.reads I (.list ds) y u he ry
  exact SeqAt.notIn_list_reads r2 r1 se (SeqAt.canLay_of_shaped sd) (room_in_shaped sd hu) ⟨.bl _, H, I, rfl, q⟩
end
theorem canLays : ∀ {l : List D}, l.all D.shp = true → PyData.canLayAll0 (D.pds l) = true
  | [], _ => rfl
  | d :: l, h => by
    rw [List.all_cons, Bool.and_eq_true] at h
    show (PyData.canLay0 d.pd && PyData.canLayAll0 (D.pds l)) = true
    rw [SeqAt.canLay_of_shaped h.1, canLays h.2]; rfl
theorem any_pds (l : List D) (x : D) : ((D.pds l).any fun z => PyData.eqv z x.pd) = l.any fun z => z.deq x := by
  rw [D.pds_map, List.any_map]; rfl

theorem strIn_one {x z : Str} {c : Nat} (h : x.cps.toList = [c]) : strIn x z = decide (c ∈ z.cps.toList) := by
  unfold strIn
  rw [h]
theorem strIn_ne {x z : Str} (h : ∀ c, x.cps.toList ≠ [c]) : strIn x z = !(Builtin.Str.occurrences z x 0 z.length 1).isEmpty := by
  unfold strIn
  split
  · rename_i c hc
    exact absurd hc (h c)
  · rfl
def cprOf : Cop → CmpOp
  | .eq => .Eq
  | .ne => .NotEq
  | .lt => .Lt
  | .le => .LtE
  | .gt => .Gt
  | .ge => .GtE
  | .isin => .In
  | .nin => .NotIn
  | .isn => .Is
  | .ntn => .IsNot
theorem isn_split {m1 m2 : M} {b : Bool} (e : copM .isn m1 m2 = some b) : (∃ d, m1 = .i d ∧ m2 = .i .non ∧ b = decide (d = .non)) ∨ ∃ k l, m1 = .i (.bl k) ∧ m2 = .i (.bl l) ∧ b = (k == l) := by
  unfold copM at e
  split at e <;> first | cases e; done | skip
  all_goals try (rename_i hh; cases hh; done)
  · cases e; exact .inl ⟨_, rfl, rfl, rfl⟩
  · cases e; exact .inr ⟨_, _, rfl, rfl, rfl⟩
theorem ntn_split {m1 m2 : M} {b : Bool} (e : copM .ntn m1 m2 = some b) : (∃ d, m1 = .i d ∧ m2 = .i .non ∧ b = !decide (d = .non)) ∨ ∃ k l, m1 = .i (.bl k) ∧ m2 = .i (.bl l) ∧ b = (k != l) := by
  unfold copM at e
  split at e <;> first | cases e; done | skip
  all_goals try (rename_i hh; cases hh; done)
  · cases e; exact .inl ⟨_, rfl, rfl, rfl⟩
  · cases e; exact .inr ⟨_, _, rfl, rfl, rfl⟩
def rC (W : Wd) (op : Cop) : R2 := fun x y H Q => ∃ m1 m2 G1 G2 b, Rep W H x m1 G1 ∧ Rep W H y m2 G2 ∧ copM op m1 m2 = some b ∧ Q (.bl b) H

section
variable {X : Cx} {W : Wd}
theorem op_nin_rng : OpR X (compareOp .NotIn) (fun x y H Q => ∃ i a lo hi, x = V.int i ∧ y = V.ref a ∧ H a = some (.rng lo hi) ∧ Q (.bl (!decide (lo ≤ i ∧ i < hi))) H) := by
  intro pins s σ H x y v u Q I rx ry h
  obtain ⟨i, a, lo, hi, rfl, rfl, ha, q⟩ := h
  obtain ⟨k, rfl⟩ := rx
  obtain rfl : u = Value.ref a := ry
  obtain ⟨t1, t2, t3, ho⟩ := I.hok a _ ha
  show wpAny _ _ (do return Value.bool (!(← contains (Value.ref a) (Value.int i k)))) _ _ s
  refine wpAny_bind (wpAny_contains_slot (T := "range") ⟨_, ho, rfl⟩ F.slot_range_contains (call_meets F.slot_range_contains ⟨_, ho, rfl⟩ F.entry_range_contains (F.args_range_contains_2 _ _) (q_contains a lo hi i t1 t2 t3 k)
    ⟨ho, wpAny_truthy_bool (wpAny_pure ⟨.bl _, H, I, rfl, ?_⟩)⟩))
  rw [place1]
  exact q
theorem op_inM (hK : X.K = W.K) (hu : X.A.units + 65 < cLine) (neg : Bool) : OpR X (compareOp (if neg then .NotIn else .In)) (fun x y H Q => ∃ m1 m2 G1 G2 b, Rep W H x m1 G1 ∧ Rep W H y m2 G2 ∧ inM m1 m2 = some b ∧ Q (.bl (if neg then !b else b)) H) := by
  intro pins s σ H x y v u Q I rx ry h
  obtain ⟨m1, m2, G1, G2, b, r1, r2, e, q⟩ := h
  have hu1 : X.A.units + 1 < cLine := by omega
  unfold inM at e
  split at e
  · -- a tuple of the module
    split at e
    · rename_i hz
      cases e
      cases r1 with
      | i r1 =>
        cases r2 with
        | kc s2 d2 =>
          have dx := r1.dp
          have dy : Dp X.K H _ (.tuple (D.pds _)) := .tup (by rw [hK]; exact s2.sq) (by rw [hK]; exact d2.dp _)
          rw [← hK] at dx
          cases neg with
          | false => exact op_inT hu pins s σ H _ _ v u Q I rx ry ⟨_, _, dx, dy, hz.1, canLays hz.2, by rw [any_pds]; exact q⟩
          | true => exact op_notInT hu pins s σ H _ _ v u Q I rx ry ⟨_, _, dx, dy, hz.1, canLays hz.2, by rw [any_pds]; exact q⟩
    · cases e
  · split at e
    · rename_i hz
      cases e
      cases r1 with
      | i r1 =>
        cases r2 with
        | i r2 =>
          have dx := r1.dp
          have dy := r2.dp
          rw [← hK] at dx dy
          cases neg with
          | false => exact op_inT hu pins s σ H _ _ v u Q I rx ry ⟨_, _, dx, dy, hz.1, canLays hz.2, by rw [any_pds]; exact q⟩
          | true => exact op_notInT hu pins s σ H _ _ v u Q I rx ry ⟨_, _, dx, dy, hz.1, canLays hz.2, by rw [any_pds]; exact q⟩
    · cases e
  · split at e
    · rename_i hz
      cases e
      cases r1 with
      | i r1 =>
        cases r2 with
        | lst s2 d2 =>
          have dx := r1.dp
          have dy : Dp X.K H _ (.list (D.pds _)) := .lst (SqL.of s2) (by rw [hK]; exact d2.dp _)
          rw [← hK] at dx
          cases neg with
          | false => exact op_inL hu pins s σ H _ _ v u Q I rx ry ⟨_, _, dx, dy, hz.1, canLays hz.2, by rw [any_pds]; exact q⟩
          | true => exact op_notInL hu pins s σ H _ _ v u Q I rx ry ⟨_, _, dx, dy, hz.1, canLays hz.2, by rw [any_pds]; exact q⟩
    · cases e
  · split at e
    · rename_i hz
      cases e
      cases r1 with
      | i r1 =>
        cases r2 with
        | rol s2 d2 =>
          have dx := r1.dp
          have dy : Dp X.K H _ (.list (D.pds _)) := .lst (by rw [hK]; exact s2.sq) (by rw [hK]; exact d2.dp _)
          rw [← hK] at dx
          cases neg with
          | false => exact op_inL hu pins s σ H _ _ v u Q I rx ry ⟨_, _, dx, dy, hz.1, canLays hz.2, by rw [any_pds]; exact q⟩
          | true => exact op_notInL hu pins s σ H _ _ v u Q I rx ry ⟨_, _, dx, dy, hz.1, canLays hz.2, by rw [any_pds]; exact q⟩
    · cases e
  · cases e
    cases r1 with
    | i r1 =>
      cases r1
      cases r2 with
      | rg s2 =>
        cases neg with
        | false => exact op_in_rng pins s σ H _ _ v u Q I rx ry ⟨_, _, _, _, rfl, rfl, s2, q⟩
        | true => exact op_nin_rng pins s σ H _ _ v u Q I rx ry ⟨_, _, _, _, rfl, rfl, s2, q⟩
  · cases e
    cases r1 with
    | i r1 =>
      cases r1
      cases r2 with
      | i r2 =>
        cases r2
        rename_i xx zz
        by_cases hc : ∃ c, xx.cps.toList = [c]
        · obtain ⟨c, hc⟩ := hc
          have ex : xx = ⟨#[c]⟩ := by
            obtain ⟨a⟩ := xx
            have h1 : a.toList = [c] := hc
            have h2 : a = #[c] := by rw [← Array.toArray_toList (xs := a), h1]
            rw [h2]
          rw [strIn_one hc] at q
          subst ex
          cases neg with
          | false => exact op_in_sign pins s σ H _ _ v u Q I rx ry ⟨_, _, rfl, rfl, q⟩
          | true => exact op_notIn_sign pins s σ H _ _ v u Q I rx ry ⟨_, _, rfl, rfl, q⟩
        · rw [strIn_ne fun c z => hc ⟨c, z⟩] at q
          cases neg with
          | false => exact op_in_str pins s σ H _ _ v u Q I rx ry ⟨_, _, rfl, rfl, q⟩
          | true => exact op_notIn_str pins s σ H _ _ v u Q I rx ry ⟨_, _, rfl, rfl, q⟩
  · split at e
    · rename_i hz
      cases e
      obtain ⟨p, o, rfl, g, rel⟩ := r2.dget r1 hz
      cases ry
      have eo : ∀ {o : Option V} {d : Option D}, RelD W.kk H o d → o.isSome = d.isSome := fun {o d} z => by
        cases o <;> cases d <;> first | rfl | exact z.elim
      rw [← eo rel] at q
      cases neg with
      | false => exact d_in hu1 I g rx fun s' I' => ⟨.bl _, H, I', rfl, q⟩
      | true => exact d_notIn hu1 I g rx fun s' I' => ⟨.bl _, H, I', rfl, q⟩
    · cases e
  · cases e

theorem ord_int {f : Int → Int → Bool} {op : CmpOp} (ho : OpR X (compareOp op) (rI0 fun i j => .bl (f i j))) : OpR X (compareOp op) (fun x y H Q => ∃ m1 m2 G1 G2 b, Rep W H x m1 G1 ∧ Rep W H y m2 G2 ∧ ordM f m1 m2 = some b ∧ Q (.bl b) H) := by
  intro pins s σ H x y v u Q I rx ry h
  obtain ⟨m1, m2, G1, G2, b, r1, r2, e, q⟩ := h
  unfold ordM at e
  split at e
  · cases e
    cases r1 with | i r1 => cases r1; cases r2 with | i r2 => cases r2; exact ho pins s σ H _ _ v u Q I rx ry ⟨_, _, rfl, rfl, q⟩
  · cases e
theorem RepD.isNon {K : Kc} {H : Hp} {v : V} {d : D} (r : RepD K H v d) : decide (v = .non) = decide (d = .non) := by
  cases r <;> rfl
theorem op_cop (hK : X.K = W.K) (hu : X.A.units + 65 < cLine) : ∀ op, OpR X (compareOp (cprOf op)) (rC W op) := by
  intro op
  cases op with
  | eq =>
    intro pins s σ H x y v u Q I rx ry h
    obtain ⟨m1, m2, G1, G2, b, r1, r2, e, q⟩ := h
    cases e1 : toPd m1 with
    | none => rw [show copM .eq m1 m2 = none by simp [copM, e1]] at e; cases e
    | some p1 =>
      cases e2 : toPd m2 with
      | none => rw [show copM .eq m1 m2 = none by simp [copM, e1, e2]] at e; cases e
      | some p2 =>
        rw [show copM .eq m1 m2 = some (PyData.eqv p1 p2) by simp [copM, e1, e2]] at e
        cases e
        obtain ⟨d1, s1⟩ := r1.dp e1
        obtain ⟨d2, s2⟩ := r2.dp e2
        rw [← hK] at d1 d2
        exact op_eqD (by omega) pins s σ H _ _ v u Q I rx ry ⟨_, _, d1, d2, s1, s2, q⟩
  | ne =>
    intro pins s σ H x y v u Q I rx ry h
    obtain ⟨m1, m2, G1, G2, b, r1, r2, e, q⟩ := h
    cases e1 : toPd m1 with
    | none => rw [show copM .ne m1 m2 = none by simp [copM, e1]] at e; cases e
    | some p1 =>
      cases e2 : toPd m2 with
      | none => rw [show copM .ne m1 m2 = none by simp [copM, e1, e2]] at e; cases e
      | some p2 =>
        rw [show copM .ne m1 m2 = some (!PyData.eqv p1 p2) by simp [copM, e1, e2]] at e
        cases e
        obtain ⟨d1, s1⟩ := r1.dp e1
        obtain ⟨d2, s2⟩ := r2.dp e2
        rw [← hK] at d1 d2
        exact op_neD (by omega) pins s σ H _ _ v u Q I rx ry ⟨_, _, d1, d2, s1, s2, q⟩
  | lt => exact ord_int op_lt
  | le => exact ord_int op_le
  | gt => exact ord_int op_gt
  | ge => exact ord_int op_ge
  | isin => exact op_inM hK hu false
  | nin =>
    intro pins s σ H x y v u Q I rx ry h
    obtain ⟨m1, m2, G1, G2, b, r1, r2, e, q⟩ := h
    have e : (inM m1 m2).map (!·) = some b := e
    cases e1 : inM m1 m2 with
    | none => rw [e1] at e; cases e
    | some k =>
      rw [e1] at e
      cases e
      exact op_inM hK hu true pins s σ H _ _ v u Q I rx ry ⟨_, _, _, _, k, r1, r2, e1, q⟩
  | isn =>
    intro pins s σ H x y v u Q I rx ry h
    obtain ⟨m1, m2, G1, G2, b, r1, r2, e, q⟩ := h
    rcases isn_split e with ⟨d, rfl, rfl, rfl⟩ | ⟨k, l, rfl, rfl, rfl⟩
    · cases r1 with
      | i r1 =>
        cases r2 with
        | i r2 =>
          cases r2
          exact op_isN pins s σ H _ _ v u Q I rx ry ⟨rfl, by rw [r1.isNon]; exact q⟩
    · cases r1 with
      | i r1 =>
        cases r2 with
        | i r2 =>
          cases r1
          cases r2
          cases rx
          cases ry
          exact is_bool ⟨.bl _, H, I, rfl, q⟩
  | ntn =>
    intro pins s σ H x y v u Q I rx ry h
    obtain ⟨m1, m2, G1, G2, b, r1, r2, e, q⟩ := h
    rcases ntn_split e with ⟨d, rfl, rfl, rfl⟩ | ⟨k, l, rfl, rfl, rfl⟩
    · cases r1 with
      | i r1 =>
        cases r2 with
        | i r2 =>
          cases r2
          exact op_notN pins s σ H _ _ v u Q I rx ry ⟨rfl, by rw [r1.isNon]; exact q⟩
    · cases r1 with
      | i r1 =>
        cases r2 with
        | i r2 =>
          cases r1
          cases r2
          cases rx
          cases ry
          exact isnot_bool ⟨.bl _, H, I, rfl, q⟩
end
end Zy
end
section
/-! Zy, part Y: rules of the core's own over the kit's layer: turned tuples, places in tuples, ranges as values, rows sorted, reading while nothing is written. -/

namespace HT
open PySem PyProof.Rows
section
variable {prog : Program} {w : World} {A : Around} {E : Value → Shared → Prop} {s : Shared}
/-- the items of a filterMap that never leaves one out -/
theorem fm_all {α β : Type} {f : α → Option β} {g : α → β} : ∀ {l : List α}, (∀ x ∈ l, f x = some (g x)) → l.filterMap f = l.map g
  | [], _ => rfl
  | x :: l, h => by
    rw [List.filterMap_cons_some (h x List.mem_cons_self), List.map_cons, fm_all fun y hy => h y (List.mem_cons_of_mem _ hy)]
/-- from the last place down to the first -/
theorem down_all (xs : Array Value) : ((List.range xs.size).filterMap fun (m : Nat) => xs[((xs.size : Int) - 1 + (m : Int) * (-1)).toNat]?).toArray = xs.toList.reverse.toArray := by
  congr 1
  rw [fm_all (g := fun m => (xs[xs.size - 1 - m]?).getD .none) fun m hm => ?_]
  · apply List.ext_getElem?
    intro i
    rw [List.getElem?_map]
    by_cases hi : i < xs.size
    · rw [List.getElem?_range hi, List.getElem?_reverse (by simpa using hi)]
      simp only [Option.map_some, Array.length_toList]
      rw [Array.getElem?_toList, Array.getElem?_eq_getElem (show xs.size - 1 - i < xs.size by omega)]
      rfl
    · rw [List.getElem?_eq_none (by simp; omega), List.getElem?_eq_none (by simp; omega)]
      rfl
  · have hm := List.mem_range.mp hm
    rw [show ((xs.size : Int) - 1 + (m : Int) * (-1)).toNat = xs.size - 1 - m by omega, Array.getElem?_eq_getElem (show xs.size - 1 - m < xs.size by omega)]
    rfl
/-- the whole of n places, downwards -/
theorem applied_down {sl : Addr} {v1 v2 v3 : Value} {n : Nat} {Q : Int × Int × Nat → Shared → Prop} (h3 : IsPart v3 (some (-1))) (h1 : IsPart v1 none) (h2 : IsPart v2 none) (hs : s.heap.IsSliceOf sl v1 v2 v3)
    (h : Q ((n : Int) - 1, -1, n) s) : wpAny (model prog w) A (Builtin.Slice.sliceApplied (.ref sl) (pure (n : Int))) Q E s := by
  have places : Builtin.Slice.slicePlaces ((n : Int) - 1) (-1) (-1) = n := by
    unfold Builtin.Slice.slicePlaces
    simp only [show ¬ ((-1 : Int) > 0) by decide, if_false, show (-(-1 : Int)) = 1 by decide, Int.ediv_one]
    split <;> omega
  obtain ⟨ob, at_, _, fs⟩ := hs
  unfold Builtin.Slice.sliceApplied
  refine wpAny_bind ?_
  · unfold Builtin.Slice.sliceFields
    refine wpAny_bind (wpAny_field at_ fs (x := v1) rfl ?_)
    refine wpAny_bind (wpAny_field at_ fs (x := v2) rfl ?_)
    refine wpAny_bind (wpAny_field at_ fs (x := v3) rfl ?_)
    apply wpAny_pure
    apply wpAny_bind
    apply slicePart_ h3
    show wpAny (model prog w) A (if ((-1 : Int) == 0) = true then _ else _) _ E s
    rw [if_neg (show ¬ ((-1 : Int) == 0) = true by decide)]
    apply wpAny_bind
    apply slicePart_ h1
    apply wpAny_bind
    apply slicePart_ h2
    apply wpAny_bind
    apply wpAny_pure
    show wpAny (model prog w) A (pure ((n : Int) - 1, (-1 : Int), Builtin.Slice.slicePlaces ((n : Int) - 1) (-1) (-1))) _ E s
    rw [places]
    exact wpAny_pure h
/-- t[::-1] of a tuple: a new one -/
theorem tuple_down {t sl : Addr} {items : Array Value} {v1 v2 v3 : Value} {Q : Value → Shared → Prop} (ht : IsTup s.heap t items) (hz : items.size ≤ sizeLine) (h3 : IsPart v3 (some (-1))) (h1 : IsPart v1 none) (h2 : IsPart v2 none) (hs : s.heap.IsSliceOf sl v1 v2 v3)
    (h : Q (.ref s.heap.objs.size) { s with heap := s.heap.push { cls := .type "tuple", data := .seq items.toList.reverse.toArray } }) : wpAny (model prog w) A (getItem (.ref t) (.ref sl)) Q E s := by
  have fits : sizeOk (.seq items.toList.reverse.toArray) := by
    show items.toList.reverse.toArray.size ≤ sizeLine
    simpa using hz
  have isS : s.TypeIs (.ref sl) "slice" := hs.elim fun ob z => ⟨ob, z.1, z.2.1⟩
  unfold getItem
  try with_reducible apply wpAny_holding
  first | (apply wpAny_bind; apply wpAny_pure) | skip
  apply wpAny_bind
  apply wpAny_sequenceKey ht.typeIs (by decide)
  apply wpAny_bind
  apply wpAny_callSpecial?_slot (name := Str.ofString "__getitem__") ht.typeIs PyProof.Rows.slot_tuple_getitem
  apply wpAny_call_entry PyProof.Rows.slot_tuple_getitem ht.typeIs entry_tuple_getitem _ (args_tuple_getitem _ _)
  show wpAny (model prog w) _ (Builtin.Tuple.tupleItemsOf (.ref t) >>= _) _ _ s
  apply wpAny_bind
  apply tupleItemsOf_ ht
  apply wpAny_bind
  apply wpAny_typeOf isS
  rw [if_pos (by decide)]
  apply wpAny_bind
  apply applied_down h3 h1 h2 hs
  show wpAny (model prog w) _ (if (((items.size : Int) - 1) == 0 && (-1 : Int) == 1 && items.size == items.size) = true then _ else _) _ _ s
  rw [if_neg (by simp), down_all]
  first
    | exact wpAny_bind (m := Builtin.Tuple.tupleExact _) (wpAny_newObj_type (wpAny_pure ⟨_, rfl, wpAny_pure h⟩) fits)
    | exact wpAny_bind (wpAny_bind (m := Builtin.Tuple.tupleExact _) (wpAny_newObj_type (wpAny_pure ⟨_, rfl, wpAny_pure h⟩) fits))
    | exact wpAny_bind (wpAny_bind (m := Builtin.Tuple.tupleExact _) (wpAny_newObj_type (wpAny_pure (wpAny_pure ⟨_, rfl, wpAny_pure h⟩)) fits))
end
end HT

namespace Zy
open PySem PySem.Spec PyProof.Rows L2
section
variable {X : Cx}
/-! ### t[::-1] of a tuple -/
def tRevT (K : PySem.W.Frag) (te : TE) : TE := fun σ H Q => te σ H fun x H1 => ∃ a xs, x = .ref a ∧ SqT K H1 a xs ∧ ∀ p, H1 p = none → Q (.ref p) (upd H1 p (.tup xs.reverse))
theorem pe_revT {e : Expr} {te : TE} {k : Nat} {p1 p2 p3 pos : Pos} (he : PE X e te) : PE X (.Subscript e (.Slice none none (some (.UnaryOp .USub (.Constant (.int 1) k p1) p2)) p3) pos) (tRevT X.K te) := by
  constructor
  intro pins s σ H Q I h
  apply Subscript_
  refine thn (he.run _ _ _ _ _ I h) ?_
  rintro v s1 ⟨_, H1, I1, r1, a, xs, rfl, hx, q⟩
  cases r1
  have none_at : ∀ {s : Shared} {H : Hp} {R : Value → Shared → Prop}, Inv X pins σ H s → (∀ v s', IsPart v none → Inv X pins σ H s' → R v s') → wpAny (model X.prog X.w) X.A (evalPart none X.env) R X.xe s := fun {s H R} I k =>
    thn (po_none.run pins s σ H (fun o H2 => o = none ∧ H2 = H) I ⟨rfl, rfl⟩) (by rintro v s' ⟨_, _, I', p, rfl, rfl⟩; exact k v s' p I')
  apply wpAny_Slice
  refine none_at I1 fun v1 s2 h1 I2 => ?_
  refine none_at I2 fun v2 s3 h2 I3 => ?_
  have minus := po_some (X := X) (pe_un (pos := p2) un_neg (pe_int (X := X) (i := 1) (j := k) (pos := p1)))
  refine thn (minus.run pins s3 σ H1 (fun o H4 => o = some (-1) ∧ H4 = H1) I3 ⟨1, rfl, -1, rfl, rfl, rfl⟩) ?_
  rintro v3 s4 ⟨_, _, I4, h3, rfl, rfl⟩
  have I5 := I4.kept (t' := s4.toks) (h' := s4.heap.push { cls := .type "slice", data := .fields #[v1, v2, v3] }) fun b ob z => Heap.get?_push_of_some _ z
  obtain ⟨its, r, ht, hz⟩ := I5.tuple hx
  refine tail_any (ops := [.ref a, .ref s4.heap.objs.size]) ht.typeIs PyProof.Rows.slot_tuple_getitem.lookup ?_ (by with_unfolding_all rfl)
  refine HT.tuple_down ht (by rw [List.size_toArray, ← r.length]; exact hz) h3 h1 h2 (Heap.IsSliceOf.new _ v1 v2 v3) ?_
  have I6 := I5.laid (t' := s4.toks) (o := .tup xs.reverse) (a := (s4.heap.push { cls := .type "slice", data := .fields #[v1, v2, v3] }).objs.size) (fun b ob z => Heap.get?_push_of_some _ z) (Nat.le_refl _) ⟨by rw [List.length_reverse]; exact hz, its.reverse, r.reverse, IsTup.new _ _⟩
  exact ⟨V.ref _, _, I6, rfl, q _ (I5.hok.fresh (Nat.le_refl _))⟩

/-! ### ranges as values -/
theorem cr_range1 : CallR X (.type "range") (fun vs H Q => ∃ j, vs = [V.int j] ∧ ∀ p, H p = none → Q (.ref p) (upd H p (.rng 0 j))) := by
  intro pins s σ H vs us Q I r h
  obtain ⟨j, rfl, q⟩ := h
  obtain ⟨u1, rfl, ri⟩ := vals1 r
  obtain ⟨t, rfl⟩ := ri
  refine call_range_1 ⟨.ref s.heap.objs.size, upd H s.heap.objs.size (.rng 0 j), I.laid (t' := s.toks + 1 + 1) (fun b o e => Heap.get?_push_of_some _ e) (Nat.le_refl _) ?_, rfl, q _ (I.hok.fresh (Nat.le_refl _))⟩
  exact ⟨_, t, _, Heap.get?_push_size _ rfl⟩
/-- list(r), tuple(r) of a range object that is there -/
theorem cr_listRg (hc : X.calm = true) : CallR X (.type "list") (fun vs H Q => ∃ r a b, vs = [V.ref r] ∧ H r = some (.rng a b) ∧ RgOk a b ∧ ∀ q, H q = none → Q (.ref q) (upd H q (.lst (rgV a b)))) := by
  rintro pins s σ H _ us Q I r ⟨at_, lo, hi, rfl, ha, ⟨b1, b2, b3, b4, few⟩, q⟩
  obtain rfl := Vals.ref1 r
  obtain ⟨t, u, z, ho⟩ := I.hok _ _ ha
  apply call_list_range (I.ok.hd hc) (show IsRange s.heap at_ lo hi 1 t u z from ho) (small_one b1 b2 b3 b4) (rangeSize_nat lo hi) few
  intro h' tk acc c kp new items
  have I1 := I.laid (t' := tk) (o := .lst (rgV lo hi)) kp (Nat.le_refl _) ⟨by rw [rgV_length, sizeLine_eq]; omega, acc.toList, c, vals_rg items, Array.toArray_toList (xs := acc) ▸ new⟩
  exact ⟨V.ref _, _, I1, rfl, q _ (I.hok.fresh (Nat.le_refl _))⟩
theorem cr_tupRg (hc : X.calm = true) : CallR X (.type "tuple") (fun vs H Q => ∃ r a b, vs = [V.ref r] ∧ H r = some (.rng a b) ∧ RgOk a b ∧ ∀ q, H q = none → Q (.ref q) (upd H q (.tup (rgV a b)))) := by
  rintro pins s σ H _ us Q I r ⟨at_, lo, hi, rfl, ha, ⟨b1, b2, b3, b4, few⟩, q⟩
  obtain rfl := Vals.ref1 r
  obtain ⟨t, u, z, ho⟩ := I.hok _ _ ha
  apply call_tuple_range (I.ok.hd hc) (show IsRange s.heap at_ lo hi 1 t u z from ho) (small_one b1 b2 b3 b4) (rangeSize_nat lo hi) few
  intro h' tk acc kp items
  have I1 := I.kept (t' := tk) kp
  have I2 := I1.laid (t' := tk) (o := .tup (rgV lo hi)) (h' := h'.push { cls := .type "tuple", data := .seq acc }) (a := h'.objs.size) (fun _ _ e => Heap.get?_push_of_some _ e) (Nat.le_refl _) ⟨by rw [rgV_length, sizeLine_eq]; omega, acc.toList, vals_rg items, by rw [Array.toArray_toList]; exact IsTup.new _ _⟩
  exact ⟨V.ref _, _, I2, rfl, q _ (I1.hok.fresh (Nat.le_refl _))⟩
/-- a range object, walked -/
def iRngV (tl : TE) : TI := fun σ H R => tl σ H fun x H1 => ∃ a lo hi, x = .ref a ∧ H1 a = some (.rng lo hi) ∧ (-(2 ^ 62) ≤ lo ∧ lo < 2 ^ 62 ∧ -(2 ^ 62) ≤ hi ∧ hi < 2 ^ 62) ∧ R (Itr lo (hi - lo).toNat) H1
theorem pi_rngV {l tg : Expr} {tl : TE} (hl : PE X l tl) : PI X tg l (iRngV tl) := by
  constructor
  intro pins s σ H R I h
  refine thn (hl.run _ _ _ _ _ I h) ?_
  rintro v s1 ⟨_, H1, I1, r1, a, lo, hi, rfl, hq, ⟨h1, h2, h3, h4⟩, q⟩
  cases r1
  obtain ⟨t, u, z, ho⟩ := I1.hok _ _ hq
  apply wpAny_pyIter_range (show IsRange s1.heap a lo hi 1 t u z from ho) (small_one h1 h2 h3 h4)
  have fresh : ∀ b ∈ [s1.heap.objs.size], FpOk X pins H1 b := fun b hb => by
    rw [List.mem_singleton.mp hb]
    exact I1.fpOk (Nat.le_refl _) (I1.hok.fresh (Nat.le_refl _))
  refine ⟨s1.heap.objs.size, [s1.heap.objs.size], _, _, H1, rfl, I1.kept (t' := s1.toks) fun b o e => Heap.get?_push_of_some _ e, turn_range _ lo (hi - lo).toNat, ?_, fresh, q⟩
  show IsRangeIter _ _ (lo + 0 * 1) (((hi - lo).toNat : Int) - 0) 1
  rw [show lo + 0 * 1 = lo by omega, show ((hi - lo).toNat : Int) - 0 = Builtin.Range.rangeSize lo hi 1 by rw [rangeSize_nat]; omega]
  exact Heap.get?_push_size _ rfl

/-! ### many things locked -/
def tLk : Nat → TE → TE
  | 0, t => t
  | n + 1, t => tLockE (tLk n t)
theorem PE.lockN {e : Expr} {t : TE} (h : PE X e t) : ∀ n, PE X e (tLk n t)
  | 0 => h
  | n + 1 => pe_lock (PE.lockN h n)
open Classical in
noncomputable def unl (As : List Addr) (H H2 : Hp) : Hp := fun b => if b ∈ As then H b else H2 b
theorem lock_go {t : TE} {σ : L2.St} : ∀ (As : List Addr) {H : Hp} {Q : VK}, As.Nodup → (∀ a ∈ As, ∃ xs, H a = some (.lst xs)) →
    (∀ H', (∀ b, b ∉ As → H' b = H b) → (∀ a ∈ As, ∃ od u, H a = some u ∧ H' a = some (.frz od u)) → t σ H' fun v H2 => (∀ a ∈ As, H2 a = H' a) ∧ Q v (unl As H H2)) → tLk As.length t σ H Q
  | [], H, Q, _, _, k => by
    have k1 := k H (fun _ _ => rfl) fun a h => by cases h
    have e : (fun v H2 => (∀ a ∈ ([] : List Addr), H2 a = H a) ∧ Q v (unl [] H H2)) = Q := by
      funext v H2
      have e2 : unl [] H H2 = H2 := by funext b; simp [unl]
      rw [e2]
      simp
    rw [e] at k1
    exact k1
  | a :: As, H, Q, nd, hl, k => by
    obtain ⟨na, nd⟩ := List.nodup_cons.mp nd
    obtain ⟨xs, ha⟩ := hl a List.mem_cons_self
    refine ⟨a, .lst xs, ha, trivial, fun od => lock_go As nd (fun b hb => ?_) fun H' ho hi => ?_⟩
    · obtain ⟨ys, hy⟩ := hl b (List.mem_cons_of_mem _ hb)
      exact ⟨ys, by rw [upd_ne fun z : b = a => na (by rw [← z]; exact hb)]; exact hy⟩
    · have h1 : H' a = some (.frz od (.lst xs)) := by rw [ho a na, upd_same]
      have k1 := k H' (fun b hb => ?_) fun b hb => ?_
      · have e : (fun v H2 => (∀ b ∈ a :: As, H2 b = H' b) ∧ Q v (unl (a :: As) H H2)) = fun v H2 => (∀ b ∈ As, H2 b = H' b) ∧ (unl As (upd H a (.frz od (.lst xs))) H2) a = some (.frz od (.lst xs)) ∧ Q v (upd (unl As (upd H a (.frz od (.lst xs))) H2) a (.lst xs)) := by
          funext v H2
          have e1 : unl As (upd H a (.frz od (.lst xs))) H2 a = H2 a := by simp [unl, na]
          have e2 : upd (unl As (upd H a (.frz od (.lst xs))) H2) a (.lst xs) = unl (a :: As) H H2 := by
            funext b
            by_cases hb : b = a
            · subst hb
              rw [upd_same]
              simp [unl, ha]
            · rw [upd_ne hb]
              by_cases hm : b ∈ As
              · simp [unl, hm, upd_ne hb]
              · simp [unl, hm, hb]
          rw [e1, e2, ← h1]
          refine propext ⟨fun ⟨p, q⟩ => ⟨fun b hb => p b (List.mem_cons_of_mem _ hb), p a List.mem_cons_self, q⟩, fun ⟨p, p2, q⟩ => ⟨fun b hb => ?_, q⟩⟩
          rcases List.mem_cons.mp hb with rfl | hb
          · exact p2
          · exact p b hb
        rw [e] at k1
        exact k1
      · rw [List.mem_cons, not_or] at hb
        rw [ho b hb.2, upd_ne hb.1]
      · rcases List.mem_cons.mp hb with rfl | hb
        · exact ⟨od, _, ha, h1⟩
        · obtain ⟨od2, u, h2, h3⟩ := hi b hb
          exact ⟨od2, u, by rw [upd_ne fun z : b = a => na (by rw [← z]; exact hb)] at h2; exact h2, h3⟩
/-- the same members, each once -/
theorem nodup_ex {α : Type} (p : α → Prop) : ∀ l : List α, ∃ m : List α, m.Nodup ∧ ∀ a, a ∈ m ↔ a ∈ l ∧ p a
  | [] => ⟨[], List.nodup_nil, fun a => by simp⟩
  | x :: l => by
    obtain ⟨m, nd, hm⟩ := nodup_ex p l
    by_cases h : x ∈ m ∨ ¬ p x
    · refine ⟨m, nd, fun a => ⟨fun ha => ⟨List.mem_cons_of_mem _ ((hm a).mp ha).1, ((hm a).mp ha).2⟩, fun ⟨ha, pa⟩ => ?_⟩⟩
      rcases List.mem_cons.mp ha with rfl | ha
      · rcases h with h | h
        · exact h
        · exact absurd pa h
      · exact (hm a).mpr ⟨ha, pa⟩
    · rw [not_or, Classical.not_not] at h
      refine ⟨x :: m, List.nodup_cons.mpr ⟨h.1, nd⟩, fun a => ?_⟩
      rw [List.mem_cons, List.mem_cons, hm a]
      constructor
      · rintro (rfl | ⟨h1, h2⟩)
        · exact ⟨.inl rfl, h.2⟩
        · exact ⟨.inr h1, h2⟩
      · rintro ⟨rfl | h1, h2⟩
        · exact .inl rfl
        · exact .inr ⟨h1, h2⟩
end
end Zy

/-! ### rows of ints and bools, sorted -/
namespace SrtO
open PySem PyProof.Rows Srt
theorem int___lt___bool_bool_0 (a b : Bool) : Gives (Builtin.«int.__lt__» ⟨[.bool a, .bool b], []⟩) (.val (Value.bool ((fun x1 x2 => decide (x1 < x2)) (if a = true then (1 : Int) else 0) (if b = true then (1 : Int) else 0)))) :=
  .of_wp fun M A E s Q h => by obtain ⟨hp, g, d, tk, os⟩ := s; wp_walk; exact ⟨_, rfl, h⟩
inductive NumV : Bool → Value → Int → Prop
  | int (i : Int) (t : Tok) : NumV false (.int i t) i
  | bl (b : Bool) : NumV true (.bool b) (if b then 1 else 0)
inductive RowV : List Bool → List Value → List Int → Prop
  | nil : RowV [] [] []
  | cons {b : Bool} {v : Value} {i : Int} {bs : List Bool} {vs : List Value} {is : List Int} : NumV b v i → RowV bs vs is → RowV (b :: bs) (v :: vs) (i :: is)
theorem RowV.len {bs : List Bool} {vs : List Value} {is : List Int} (h : RowV bs vs is) : vs.length = bs.length := by
  induction h with
  | nil => rfl
  | cons _ _ ih => rw [List.length_cons, List.length_cons, ih]
open Zy (lexI)
section
variable {prog : Program} {w : World} {A : Around} {E : Value → Shared → Prop} {s : Shared}
theorem oneLt_ints2 {f : Bool} {a b : Int} {t u : Tok} {Q : Bool → Shared → Prop} (h : Q (decide (a < b)) s) : wpAny (model prog w) A (oneLt' f (.int a t) (.int b u)) Q E s := by
  cases f with
  | true => exact oneLt_int h
  | false =>
    rw [oneLt'_eq]
    simp only [Bool.false_eq_true, if_false]
    exact wpAny_bind (show wpAny (model prog w) A (richCompare .Lt (.int a t) (.int b u)) _ E s from PyProof.Rows.lt_int (wpAny_truthy_bool h))
theorem row_lex {f : Bool} {Q : Bool → Shared → Prop} {sh : List Bool} {ps : List Value} {as : List Int} (h1 : RowV sh ps as) : ∀ {qs : List Value} {bs : List Int} (i : Nat), RowV sh qs bs → ((f && i == 0) = true → sh.head? = some false) → Q (lexI as bs) s → PySem.W.KatLex prog w A f false Q (ps.zip qs) i s := by
  induction h1 with
  | nil =>
    intro qs bs i h2 _ h
    cases h2
    exact PySem.W.kat_nil h
  | @cons b v x sh vs is hv ht ih =>
    intro qs bs i h2 hf h
    have nx : (f && (i + 1) == 0) = true → sh.head? = some false := fun z => by simp at z
    cases h2 with
    | @cons _ u y _ us js hu hr =>
      cases hv with
      | int x t =>
        cases hu with
        | int y u =>
          refine PySem.W.kat_cons (SeqAt.EqAt.int_int x t y u prog w _ _ ?_)
          refine PySem.W.kat_go (fun e1 => ?_) (fun e1 => ?_)
          · have ex : x = y := by simpa using e1
            refine PySem.W.kat_yes (ih (i + 1) hr nx ?_)
            have e3 : lexI (x :: is) (y :: js) = lexI is js := by show (if x = y then _ else _) = _; rw [if_pos ex]
            rw [← e3]
            exact h
          · have ex : ¬ x = y := by simpa using e1
            have e3 : lexI (x :: is) (y :: js) = decide (x < y) := by show (if x = y then _ else _) = _; rw [if_neg ex]
            rw [e3] at h
            exact PySem.W.kat_no (oneLt_ints2 h)
      | bl a =>
        cases hu with
        | bl c =>
          have ff : (f && i == 0) = false := by
            cases e : (f && i == 0) with
            | false => rfl
            | true => cases hf e
          refine PySem.W.kat_cons (SeqAt.EqAt.bool_bool a c prog w _ _ ?_)
          refine PySem.W.kat_go (fun e1 => ?_) (fun e1 => ?_)
          · have ex : a = c := by simpa using e1
            refine PySem.W.kat_yes (ih (i + 1) hr nx ?_)
            have e3 : lexI ((if a then 1 else 0) :: is) ((if c then 1 else 0) :: js) = lexI is js := by rw [ex]; show (if _ = _ then _ else _) = _; rw [if_pos rfl]
            rw [← e3]
            exact h
          · have ex : ¬ a = c := by simpa using e1
            have en : ¬ (if a then (1 : Int) else 0) = (if c then 1 else 0) := by cases a <;> cases c <;> simp at ex ⊢
            have e3 : lexI ((if a then 1 else 0) :: is) ((if c then 1 else 0) :: js) = decide ((if a then (1 : Int) else 0) < (if c then 1 else 0)) := by show (if _ = _ then _ else _) = _; rw [if_neg en]
            rw [e3] at h
            refine PySem.W.kat_no ?_
            rw [ff, oneLt'_eq]
            simp only [Bool.false_eq_true, if_false]
            exact wpAny_bind (richCompare_gives (op := .Lt) (T := "bool") rfl rfl F.slot_bool_lt F.entry_int_lt (F.args_int_lt_2 _ _) (int___lt___bool_bool_0 a c) (fun x => nomatch x) (wpAny_truthy_bool h))
/-- a tuple of ints and bools in the heap -/
def IsRow (h : Heap) (sh : List Bool) (v : Value) (k : List Int) : Prop := ∃ a o its n, v = .ref a ∧ h.get? a = some o ∧ o.cls = .type "tuple" ∧ o.data = .seq its n ∧ RowV sh its.toList k
theorem IsRow.keeps {h h' : Heap} {sh : List Bool} {v : Value} {k : List Int} (p : IsRow h sh v k) (kp : ∀ b o, h.get? b = some o → o.cls = .type "tuple" → h'.get? b = some o) : IsRow h' sh v k := by
  obtain ⟨a, o, its, n, e, ho, hc, hd, hr⟩ := p
  exact ⟨a, o, its, n, e, kp _ _ ho hc, hc, hd, hr⟩
/-- the first items, all of them ints -/
theorem rowFirsts {h : Heap} {sh : List Bool} (vs : List Value) : (∀ v ∈ vs, ∃ k, IsRow h (false :: sh) v k) → ∃ fs : List Value, PySem.W.KatTups h vs fs ∧ fs.length = vs.length ∧ ∀ f ∈ fs, ∃ x t, f = Value.int x t := by
  induction vs with
  | nil => exact fun _ => ⟨[], .nil, rfl, nofun⟩
  | cons v vs ih =>
    intro hp
    obtain ⟨fs, tups, len, intz⟩ := ih fun u hu => hp u (.tail _ hu)
    obtain ⟨k, a, o, ⟨l⟩, n, rfl, ho, hc, hd, hr⟩ := hp v (.head _)
    change RowV (false :: sh) l k at hr
    cases hr with
    | @cons _ _ x0 _ _ _ hv ht =>
      cases hv with
      | int _ t =>
        refine ⟨.int x0 t :: fs, .cons ho hc hd rfl tups, congrArg (· + 1) len, ?_⟩
        rintro f (_ | ⟨_, hf⟩)
        · exact ⟨x0, t, rfl⟩
        · exact intz f hf
theorem row_cmp {vs : List Value} {sh : List Bool} {k : Value → List Int} (hp : ∀ v ∈ vs, IsRow s.heap (false :: sh) v (k v)) : Cmp prog w A s (tuples' true) (fun p => p.1 ∈ vs) (lt2 fun v u => lexI (k v) (k u)) := by
  intro p q hm hm'
  have h1 := hp _ hm
  have h2 := hp _ hm'
  show wpAny (model prog w) A (keyLt' (tuples' true) p.1 q.1) (fun r s' => s' = s ∧ r = lexI (k p.1) (k q.1)) (fun _ _ => False) s
  generalize k p.1 = x at h1 ⊢
  generalize k q.1 = y at h2 ⊢
  obtain ⟨a, o, its, n, e, ho, hc, hd, hr⟩ := h1
  obtain ⟨a', o', its', n', e', ho', hc', hd', hr'⟩ := h2
  rw [e, e']
  refine PySem.W.kat_lt ho hd ho' hd' ?_
  have el : decide (its.size < its'.size) = false := by
    have l1 := hr.len
    have l2 := hr'.len
    rw [Array.length_toList] at l1 l2
    rw [l1, l2]
    exact decide_eq_false (Nat.lt_irrefl _)
  rw [el]
  exact row_lex hr 0 hr' (fun _ => rfl) ⟨rfl, rfl⟩
theorem rows_sortableO {a : Addr} {vs : List Value} {sh : List Bool} {k : Value → List Int} (some_ : 0 < vs.length) (hp : ∀ v ∈ vs, IsRow s.heap (false :: sh) v (k v)) (ha : ∀ o, s.heap.get? a = some o → o.cls ≠ .type "tuple") : SortableO prog w A s a vs fun v u => lexI (k v) (k u) := fun h' keep => by
  have stay : ∀ b o, s.heap.get? b = some o → o.cls = .type "tuple" → h'.get? b = some o := fun b o e c => keep b o (by rintro rfl; exact ha o e c) e
  have there : ∀ v ∈ vs, IsRow h' (false :: sh) v (k v) := fun v hv => (hp v hv).keeps stay
  obtain ⟨fs, tups, len, intz⟩ := rowFirsts vs fun v hv => ⟨_, there v hv⟩
  refine ⟨tuples' true, fun Q E hq => PySem.W.kat_kind (T := .type "int") tups (len ▸ some_) ?_ rfl ?_, row_cmp there⟩
  · intro f hf
    obtain ⟨x, t, rfl⟩ := intz f hf
    exact .now
  · rw [show (Value.type "int" != Value.type "tuple") = true from by first | rfl | decide | decide +kernel]
    exact hq
theorem lexI_asym : ∀ x y : List Int, lexI x y = true → lexI y x = false
  | [], [], h => by cases h
  | [], _ :: _, _ => rfl
  | _ :: _, [], h => by cases h
  | a :: x, b :: y, h => by
    unfold lexI at h ⊢
    by_cases e : a = b
    · rw [if_pos e] at h
      rw [if_pos e.symm]
      exact lexI_asym x y h
    · rw [if_neg e, decide_eq_true_eq] at h
      rw [if_neg (fun z => e z.symm), decide_eq_false_iff_not]
      omega
theorem lexI_tr : ∀ x y z : List Int, lexI y x = false → lexI z y = false → lexI z x = false
  | [], _, [], _, _ => rfl
  | [], _, _ :: _, _, _ => rfl
  | _ :: _, [], _, h, _ => by cases h
  | _ :: _, _ :: _, [], _, h => by cases h
  | a :: x, b :: y, c :: z, h1, h2 => by
    unfold lexI at h1 h2 ⊢
    by_cases e1 : b = a
    · rw [if_pos e1] at h1
      by_cases e2 : c = b
      · rw [if_pos e2] at h2
        rw [if_pos (e2.trans e1)]
        exact lexI_tr x y z h1 h2
      · rw [if_neg e2, decide_eq_false_iff_not] at h2
        rw [if_neg (by omega), decide_eq_false_iff_not]
        omega
    · rw [if_neg e1, decide_eq_false_iff_not] at h1
      by_cases e2 : c = b
      · rw [if_neg (by omega), decide_eq_false_iff_not]
        omega
      · rw [if_neg e2, decide_eq_false_iff_not] at h2
        rw [if_neg (by omega), decide_eq_false_iff_not]
        omega
theorem swo_lexI {α : Type} (k : α → List Int) : Swo fun v u => lexI (k v) (k u) := ⟨fun x y h => lexI_asym _ _ h, fun x y z h1 h2 => lexI_tr _ _ _ h1 h2⟩
end
end SrtO

namespace Zy
open PySem PySem.Spec PyProof.Rows L2
inductive RowH : List Bool → List V → List Int → Prop
  | nil : RowH [] [] []
  | int {i : Int} {bs : List Bool} {vs : List V} {is : List Int} : RowH bs vs is → RowH (false :: bs) (.int i :: vs) (i :: is)
  | bl {b : Bool} {bs : List Bool} {vs : List V} {is : List Int} : RowH bs vs is → RowH (true :: bs) (.bl b :: vs) ((if b then 1 else 0) :: is)
theorem RowH.v {bs : List Bool} {vs : List V} {is : List Int} (h : RowH bs vs is) : ∀ {us : List Value}, Vals vs us → SrtO.RowV bs us is := by
  induction h with
  | nil => intro us r; cases r; exact .nil
  | int _ ih => intro us r; cases r with | cons r t => obtain ⟨k, rfl⟩ := r; exact .cons (.int _ _) (ih t)
  | bl _ ih => intro us r; cases r with | cons r t => cases r; exact .cons (.bl _) (ih t)
def rSortedRows (K : PySem.W.Frag) : List V → Hp → VK → Prop := fun vs H Q => ∃ (a : Addr) (xs : List V) (sh : List Bool) (k : V → List Int), vs = [V.ref a] ∧ SqL K H a xs ∧ (∀ x ∈ xs, ∃ t its, x = V.ref t ∧ H t = some (.tup its) ∧ RowH (false :: sh) its (k x)) ∧
  ∀ ys p, SrtO.Srtd (fun v u => lexI (k v) (k u)) ys → SrtO.Stb (fun v u => lexI (k v) (k u)) ys xs → H p = none → Q (.ref p) (upd H p (.lst ys))
theorem cr_sortedRows {X : Cx} : CallR X (.builtin "sorted") (rSortedRows X.K) := by
  rintro pins s σ H _ us Q I r ⟨a, xs, sh, k, rfl, hs, hx, q⟩
  obtain ⟨its, rv, hl, hz⟩ := I.list hs
  obtain ⟨u, rfl, rfl⟩ := vals1 r
  obtain ⟨back, isRef⟩ := refs_back rv fun x m => (hx x m).elim fun t z => z.elim fun _ z => ⟨t, z.1⟩
  have len : its.length ≤ sizeLine := rv.length ▸ hz
  have rows : ∀ v ∈ its, SrtO.IsRow s.heap (false :: sh) v (k (backV v)) := by
    intro v hv
    obtain ⟨t, rfl⟩ := isRef v hv
    obtain ⟨t', ts, e, ht, hr⟩ := hx (V.ref t) (back ▸ List.mem_map_of_mem (f := backV) hv)
    cases e
    obtain ⟨_, us, ru, o, ho, hc, n, hd⟩ := I.hok _ _ ht
    exact ⟨t, o, us.toArray, n, rfl, ho, hc, hd, show SrtO.RowV (false :: sh) us _ from hr.v ru⟩
  refine SrtO.sorted_ord (SrtO.swo_lexI fun v => k (backV v)) hl.isList len (fun two h1 b hb keep => ?_) fun out srt stb => ?_
  · refine SrtO.rows_sortableO (s := { s with heap := h1 }) (sh := sh) (by omega) (fun v hv => (rows v hv).keeps fun c o e _ => (keep c o e).2) ?_
    intro o e
    cases hb.symm.trans e
    exact fun c => nomatch Value.type.inj c
  · obtain ⟨n, new⟩ := PyProof.Rows.sortedAll_at s.heap its out.toArray
    have stb' : SrtO.Stb (fun v u => lexI (k v) (k u)) (out.map backV) xs := back ▸ SrtO.Stb.map (SrtO.swo_lexI k) backV stb
    have vals := vals_back fun u hu => isRef u (stb.perm.mem_iff.mp hu)
    have I1 := I.laid (t' := s.toks) (h' := PyProof.Rows.sortedAll s.heap its out.toArray) (a := s.heap.objs.size + 1) (o := .lst (out.map backV)) (fun _ _ => PyProof.Rows.sortedAll_old) (Nat.le_succ _) ⟨stb'.len ▸ hz, out, n, vals, new⟩
    exact ⟨V.ref _, _, I1, rfl, q _ _ (SrtO.srtd_map srt) stb' (I.hok.fresh (Nat.le_succ _))⟩

/-! ### by the core's data -/
section
variable {K : Kc} {H : Hp}
theorem row_rep : ∀ {vs : List V} {l : List D} {k : List Int}, RepDs K H vs l → numsD l = some k → RowH (l.map isBlD) vs k
  | _, _, _, .nil, e => by cases e; exact .nil
  | _, _, k, .cons (d := d) (ds := ds) r t, e => by
    simp only [numsD] at e
    split at e
    · rename_i x xs e1 e2
      cases e
      cases r with
      | int i => cases e1; exact .int (row_rep t e2)
      | bl b => cases e1; exact .bl (row_rep t e2)
      | _ => cases e1
    · cases e
theorem rowD_rep (no : ∀ a xs, ¬ K a xs) {v : V} {d : D} {k : List Int} (r : RepD K H v d) (e : rowD d = some k) : ∃ sh t its, rowS d = false :: sh ∧ v = V.ref t ∧ H t = some (.tup its) ∧ RowH (rowS d) its k := by
  cases r with
  | tup h1 h2 =>
    have h1 := Or.resolve_right h1 (no _ _)
    cases h2 with
    | nil => cases e
    | cons r t =>
      cases r with
      | int i =>
        obtain ⟨z, e1, e2⟩ := Option.map_eq_some_iff.mp (show (numsD _).map (i :: ·) = some k from e)
        subst e2
        exact ⟨_, _, _, rfl, rfl, h1, .int (row_rep t e1)⟩
      | _ => cases e
  | _ => cases e
open Classical in
/-- the ints by which a row is laid -/
noncomputable def keyV (K : Kc) (H : Hp) (v : V) : List Int := if h : ∃ d, RepD K H v d then rowK (choose h) else []
theorem keyV_eq (no : ∀ a xs, ¬ K a xs) {v : V} {d : D} (r : RepD K H v d) : keyV K H v = rowK d := by
  have h : ∃ d, RepD K H v d := ⟨d, r⟩
  unfold keyV
  rw [dif_pos h, RepD.uniq no _ _ (Classical.choose_spec h) r]
noncomputable abbrev ltV (K : Kc) (H : Hp) : V → V → Bool := fun v u => lexI (keyV K H v) (keyV K H u)
theorem insR_rep (no : ∀ a xs, ¬ K a xs) {v : V} {d : D} (r : RepD K H v d) : ∀ {zs : List V} {es : List D}, RepDs K H zs es → SrtO.Srtd (ltV K H) zs → ∃ ws, RepDs K H ws (insR d es) ∧ SrtO.Srtd (ltV K H) ws ∧ SrtO.Stb (ltV K H) ws (v :: zs)
  | _, _, .nil, _ => ⟨[v], .cons r .nil, SrtO.srtd_one v, SrtO.Stb.refl _⟩
  | _, _, .cons (v := y) (vs := zs) (d := e) (ds := es) ry t, hs => by
    have O := SrtO.swo_lexI (keyV K H)
    unfold insR
    have e1 : lexI (rowK e) (rowK d) = ltV K H y v := by show _ = lexI (keyV K H y) (keyV K H v); rw [keyV_eq no ry, keyV_eq no r]
    rw [e1]
    split
    · rename_i hl
      obtain ⟨ws, h1, h2, h3⟩ := insR_rep no r t (List.pairwise_cons.mp hs).2
      refine ⟨y :: ws, .cons ry h1, List.pairwise_cons.mpr ⟨fun z hz => ?_, h2⟩, ?_⟩
      · rcases List.mem_cons.mp (h3.perm.mem_iff.mp hz) with rfl | hz
        · exact O.asym y z hl
        · exact SrtO.srtd_head hs z hz
      · have a1 : SrtO.Stb (ltV K H) ([y] ++ ws) ([y] ++ (v :: zs)) := (SrtO.Stb.refl _).app h3
        have a2 : SrtO.Stb (ltV K H) (([y] ++ [v]) ++ zs) (([v] ++ [y]) ++ zs) := (SrtO.Stb.swap O (A := [y]) (B := [v]) fun a ha b hb => by rw [List.mem_singleton.mp ha, List.mem_singleton.mp hb]; exact hl).app (SrtO.Stb.refl zs)
        exact a1.trans a2
    · rename_i hl
      have hl : ltV K H y v = false := by simpa using hl
      exact ⟨v :: y :: zs, .cons r (.cons ry t), List.pairwise_cons.mpr ⟨SrtO.Swo.le_all O hs hl, hs⟩, SrtO.Stb.refl _⟩
theorem sortR_rep (no : ∀ a xs, ¬ K a xs) : ∀ {xs : List V} {ds : List D}, RepDs K H xs ds → ∃ ws, RepDs K H ws (sortR ds) ∧ SrtO.Srtd (ltV K H) ws ∧ SrtO.Stb (ltV K H) ws xs
  | _, _, .nil => ⟨[], .nil, List.Pairwise.nil, SrtO.Stb.refl _⟩
  | _, _, .cons (v := v) r t => by
    obtain ⟨ws, h1, h2, h3⟩ := sortR_rep no t
    obtain ⟨us, h4, h5, h6⟩ := insR_rep no r h1 h2
    exact ⟨us, h4, h5, h6.trans ((SrtO.Stb.refl [v]).app h3)⟩
theorem RepDs.memV : ∀ {xs : List V} {ds : List D} {x : V}, RepDs K H xs ds → x ∈ xs → ∃ d ∈ ds, RepD K H x d
  | _, _, _, .nil, h => by cases h
  | _, _, _, .cons r t, h => by
    rcases List.mem_cons.mp h with rfl | h
    · exact ⟨_, List.mem_cons_self, r⟩
    · obtain ⟨d, h1, h2⟩ := RepDs.memV t h
      exact ⟨d, List.mem_cons_of_mem _ h1, h2⟩
end
theorem cr_sortM {X : Cx} {W : Wd} (hK : X.K = W.K) (no : ∀ a xs, ¬ W.kk a xs) : CallR X (.builtin "sorted") (fun vs H Q => ∃ a xs ds m, vs = [V.ref a] ∧ SqL X.K H a xs ∧ RepDs W.kk H xs ds ∧ allI ds = none ∧ sortM ds = some m ∧ Gv W H m Q) := by
  intro pins s σ H vs us Q I r h
  obtain ⟨a, xs, ds, m, rfl, hs, rd, hn, e, q⟩ := h
  unfold sortM at e
  rw [hn] at e
  dsimp only at e
  split at e
  · rename_i ok
    cases e
    have okd : ∀ d ∈ ds, (rowD d).isSome = true ∧ rowS d = rowS (ds.headD .non) := fun d hd => by
      have := List.all_eq_true.mp ok d hd
      rw [Bool.and_eq_true, decide_eq_true_eq] at this
      exact this
    have hsh : ∃ sh, ∀ d ∈ ds, rowS d = false :: sh := by
      cases rd with
      | nil => exact ⟨[], fun d h => by cases h⟩
      | cons r0 t0 =>
        rename_i d0 ds0
        obtain ⟨k0, hk0⟩ := Option.isSome_iff_exists.mp (okd d0 List.mem_cons_self).1
        obtain ⟨sh, _, _, e0, _⟩ := rowD_rep no r0 hk0
        exact ⟨sh, fun d hd => (okd d hd).2.trans e0⟩
    obtain ⟨sh, hsh⟩ := hsh
    obtain ⟨ws, h1, h2, h3⟩ := sortR_rep no rd
    refine cr_sortedRows pins s σ H _ us Q I r ⟨a, xs, sh, keyV W.kk H, rfl, hs, fun x hx => ?_, fun ys p hy hb hp => ?_⟩
    · obtain ⟨d, hd, rx⟩ := rd.memV hx
      obtain ⟨k, hk⟩ := Option.isSome_iff_exists.mp (okd d hd).1
      obtain ⟨_, t, its, _, e1, e2, e3⟩ := rowD_rep no rx hk
      refine ⟨t, its, e1, e2, ?_⟩
      rw [keyV_eq no rx, ← hsh d hd]
      have ek : rowK d = k := by unfold rowK; rw [hk]; rfl
      rw [ek]
      exact e3
    · have e9 : ys = ws := SrtO.stb_uniq (SrtO.swo_lexI (keyV W.kk H)) hy h2 (hb.trans ⟨h3.perm.symm, fun x => (h3.cls x).symm⟩)
      subst e9
      exact q.lst h1 p hp
  · cases e
end Zy
end
section
/-! Zy, part Z: sets of ints that are made and sorted at once. -/
namespace Zy
open PySem PySem.Spec PyProof.Rows L2

abbrev set0 (w : World) : Obj := ⟨.type "set", none, .set #[] 0 (.fresh 0 0 (!w.params.followText "set-order")), #[]⟩
abbrev lit0 (l : Addr) : Obj := { cls := .type "list_iterator", data := .fields #[.ref l, .int 0 0] }
section
variable {P : Program} {w : World} {A : Around} {E : Value → Shared → Prop} {s : Shared}
/-- what stands behind the walk -/
def SetDone (w : World) (s : Shared) (ns : List Int) (s2 : Shared) : Prop :=
  ∃ h' tk c, s2 = { s with heap := h', toks := tk } ∧ SetR w h' s.heap.objs.size (fun j => decide (j ∈ ns)) c ∧ c ≤ ns.length ∧ ∀ b o, s.heap.get? b = some o → h'.get? b = some o
set_option maxHeartbeats 3200000 in
theorem call_setL {l : Addr} {items : Array Value} {ns : List Int} {Q : Value → Shared → Prop} (hh : A.handled = none) (hl : s.heap.IsList l items) (hit : IntsAre items.toList ns) (hb : ns.length + 1 < scanBound)
    (h : ∀ s2, SetDone w s ns s2 → Q (.ref s.heap.objs.size) s2) : wpAny (model P w) A (call (.type "set") [.ref l]) Q E s := by
  have len : items.size = ns.length := by rw [← Array.length_toList, IntsAre.length hit]
  have hsub := F.called_set.sub; have hmade := F.called_set.made; have h1 := F.called_set.notType; have h2 := F.called_set.canCreate; have hct := F.typeCall_set_1 (.ref l)
  obtain ⟨c, tl, hmro⟩ := F.called_set.mro
  refine wpAny_call (codeAny_of_tree (show wpAny _ _ (callAny (.type "set") _) _ _ _ from wpAny_pure ⟨Code.quiet_builtin _ (by decide +kernel), codeAny_builtin F.entry_type_call ?_⟩))
  rw [Around.under_plain (weight_type_call_type "set" [.ref l] []) rfl]
  repeat (any_goals (first | assumption | wp_step))
  refine codeAny_mono (code_set_led1 (.ref l) (E := E) (Q₁ := fun v s1 => v = .ref s.heap.objs.size ∧ s1 = { s with heap := s.heap.push (set0 w) }) ⟨rfl, rfl⟩) fun r s1 hr => ?_
  rcases r with e | f
  · exact hr
  · cases f with
    | ret obj =>
      obtain ⟨rfl, rfl⟩ := hr
      have at0 : (s.heap.push (set0 w)).get? s.heap.objs.size = some (set0 w) := Heap.get?_push_size _ rfl
      have ty : Shared.TypeIs { s with heap := s.heap.push (set0 w) } (.ref s.heap.objs.size) "set" := ⟨_, at0, rfl⟩
      have hli := F.called_set.init.lookup; have hbi := F.called_set.init.bind (.ref s.heap.objs.size)
      repeat (any_goals (first | assumption | wp_step))
      refine codeAny_mono (codeAny_call_builtin (R := wants (fun r s2 => r = .none ∧ SetDone w s ns s2) E) F.called_set.init.plain F.entry_set_init (check_set_init_1 ty ?_)) fun r2 s2 hr2 => ?_
      · obtain ⟨⟨ocls, odict, odata, oslots⟩, hol, hcl, nl, hdl⟩ := hl
        simp only at hcl hdl
        subst hcl hdl
        have old : (s.heap.push (set0 w)).get? l = some ⟨.type "list", odict, .seq items nl, oslots⟩ := Heap.get?_push_of_some _ hol
        have isl : (s.heap.push (set0 w)).IsList l items := ⟨_, old, rfl, nl, rfl⟩
        have hsls := F.sub_list_set; have hslf := F.sub_list_frozenset; have hne : (Value.type "list" == Value.type "dict") = false := by decide
        unfold Builtin.«set.__init__» noKeywords Builtin.Frozenset.updateFrom
        generalize hPI : pyIter = PI
        wp_walk
        subst hPI
        refine wpAny_pyIter_list isl (wpAny_bind (wpAny_runValue ?_))
        have lt := Heap.lt_size hol
        have sz := Heap.size_push s.heap (set0 w)
        have ne1 : l ≠ (s.heap.push (set0 w)).objs.size := by rw [sz]; exact Nat.ne_of_lt (Nat.lt_succ_of_lt lt)
        have ne2 : s.heap.objs.size ∉ [(s.heap.push (set0 w)).objs.size, l] := by rw [sz]; simpa using Nat.ne_of_gt lt
        refine set_update_ints ((Walks.list (by simp [hh]) _ l ne1 items).toS) s.heap.objs.size ne2 ns len hb (fun i v hv => ?_) (items.size - 0) 0 _ (by omega) (Nat.zero_le _) ⟨⟨_, Heap.get?_push_size _ rfl, rfl, rfl⟩, isl.push _⟩ ⟨0, Nat.le_refl 0, ?_⟩ ?_
        · have hi : i < ns.length := by rw [← len]; exact (Array.getElem?_eq_some_iff.mp hv).1
          obtain ⟨t, e⟩ := IntsAre.int_at hit i v (by rw [Array.getElem?_toList]; exact hv)
          exact ⟨ns[i], t, List.getElem?_eq_getElem hi, by rw [e, List.getD_eq_getElem?_getD, List.getElem?_eq_getElem hi] <;> rfl⟩
        · exact setR_new_at (Heap.get?_push_of_some _ at0)
        · rintro ⟨h', g2, d', tk', os'⟩ c' hm hc' hS'
          cases (show g2 = s.gens from hm.gens)
          cases (show d' = s.drawn from hm.drawn)
          cases (show os' = s.os from hm.os)
          show wpAny _ _ _ _ _ _
          refine wpAny_pure ?_
          show wpAny _ _ (ret Value.none) _ _ _
          refine wpAny_pure ⟨rfl, h', tk', c', rfl, hS', by rw [← len]; exact hc', fun b o e => ?_⟩
          have hb0 := Heap.lt_size e
          exact hm.heap b o (by rw [sz]; simpa using ⟨Nat.ne_of_lt hb0, Nat.ne_of_lt (Nat.lt_succ_of_lt hb0)⟩) (Heap.get?_push_of_some _ (Heap.get?_push_of_some _ e))
      · rcases r2 with e2 | f2
        · exact hr2
        · cases f2 with
          | ret r =>
            obtain ⟨rfl, d⟩ := hr2
            obtain ⟨h', tk, c', rfl, hS', hc', hk'⟩ := d
            repeat (any_goals (first | assumption | wp_step))
            exact h _ ⟨h', tk, c', rfl, hS', hc', hk'⟩
          | _ => exact hr2.elim
    | _ => exact hr.elim
end
section
variable {X : Cx}
/-- set(xs), xs a list of ints -/
theorem cr_setL (hc : X.calm = true) : CallR X (.type "set") (fun xs H Q => ∃ (l : Addr) (ns : List Int), xs = [V.ref l] ∧ SqL X.K H l (ns.map V.int) ∧ ns.length < 64 ∧ ∀ p c, H p = none → c ≤ ns.length → Q (.ref p) (upd H p (SetO X.w p (fun j => decide (j ∈ ns)) c))) := by
  intro pins s σ H xs us Q I r h
  obtain ⟨l, ns, rfl, hl, hf, q⟩ := h
  rw [Vals.ref1 r]
  obtain ⟨its, rv, pl, hz⟩ := I.list hl
  have hn : H s.heap.objs.size = none := I.hok.fresh (Nat.le_refl _)
  refine call_setL (ns := ns) (I.ok.hd hc) pl.isList (by simpa using ints_of_vals rv) (by unfold scanBound; omega) ?_
  rintro s2 ⟨h', tk, c, rfl, hS, hc', hk⟩
  exact ⟨.ref s.heap.objs.size, _, I.laid (t' := tk) hk (Nat.le_refl _) (setO_new hS), rfl, q _ c hn hc'⟩
end

/-! ### {e for t in it if c} of ints -/
section
variable {X : Cx}
def so0 (w : World) (D : Addr) : HO := SetO w D (fun _ => false) 0
/-- what a block is asked: D is the new set -/
def tSi (w : World) (wi : TI) (g : TG) (tt : TT) (te : TE) (vs : List Nat) : TE := fun σ H Q => wi σ H fun J H1 => ∀ D, H1 D = none → ∃ W : Nat → Nat → Hp → Prop, (∃ m, W 0 m (upd H1 D (so0 w D))) ∧ ∀ i m H, W i m H →
  (J.stop i H ∧ Q (.ref D) H) ∨ (J.go i H ∧ ∃ Nx : Hp → Prop, (∀ H', Nx H' → ∃ m', m' < m ∧ W (i + 1) m' H') ∧ ∀ x H', J.yld i H x H' → g x (wipe σ vs) H' fun σ2 H2 => wipe σ2 vs = wipe σ vs ∧ tt σ2 H2 fun b H3 =>
    if b = true then te σ2 H3 fun y H4 => rSAdd w (.ref D) [y] H4 fun _ H5 => Nx H5 else Nx H3)
theorem pe_si {elt tg iter : Expr} {ifs : List Expr} {scope : Scope} {own : List (Str × Nat)} {pos : Pos} {wi : TI} {g : TG} {tt : TT} {te : TE} (calm : X.calm = true) (nd : X.N.Nodup) (walk : PI X tg iter wi) (blk : BlkOk X.N X.env.scope scope own)
    (tgs : ∀ (s : Shared) (H : Hp) (C : Addr) (cl : List (Str × Addr)) (fp : List Addr), PG (X.blk s H scope (compEnvC scope cl C X.env) fp) tg g)
    (tst : ∀ (s : Shared) (H : Hp) (C : Addr) (cl : List (Str × Addr)) (fp : List Addr), PTs (X.blk s H scope (compEnvC scope cl C X.env) fp) ifs tt)
    (els : ∀ (s : Shared) (H : Hp) (C : Addr) (cl : List (Str × Addr)) (fp : List Addr), PE (X.blk s H scope (compEnvC scope cl C X.env) fp) elt te) (pure_ : ∀ x, foldedSetIterable iter X.env x = pure x) :
    PE X (.SetComp elt [⟨tg, iter, ifs, 0⟩] scope pos) (tSi X.w wi g tt te (own.map (·.2))) := ⟨fun pins s0 σ H Q I0 h => by
  rw [PpSet.eval_SetComp]
  have fr : ∀ y ∈ scope.names, y.2 = .free → ∃ c, X.env.cells.lookup y.1 = some c := fun y hy e => (blk.free y hy e).elim (fun k => I0.ok.has _ (.inl k)) fun k => I0.ok.has _ (.inr k)
  refine wpAny_comprehension_free (use := none) rfl pure_ (closure_ok fr) blk.kind (fun y hy e => by rw [blk.uniq y hy, e]) (thn (walk.run pins s0 σ H _ I0 h) fun xv sa hx => thn hx fun itv sb hb => ?_)
  obtain ⟨it, fp, tn, J, H2, rfl, I2, T, st2, f2, q⟩ := hb
  refine PpSet.newSet_ok (newEnv_comp ?_)
  have free : H2 sb.heap.objs.size = none := I2.hok.fresh (Nat.le_refl _)
  obtain ⟨W, ⟨m0, w0⟩, turn⟩ := q _ free
  have I3 : Inv X pins σ (upd H2 sb.heap.objs.size (so0 X.w sb.heap.objs.size)) { sb with heap := sb.heap.push (set0 X.w) } := I2.laid (t' := sb.toks) (fun b o e => Heap.get?_push_of_some _ e) (Nat.le_refl _) (setO_new (setR_fresh X.w))
  have st3 : tn 0 (sb.heap.push (set0 X.w)) := T.keep _ _ _ st2 fun b _ o e => Heap.get?_push_of_some _ e
  have f3 : ∀ b ∈ fp, FpOk X pins (upd H2 sb.heap.objs.size (so0 X.w sb.heap.objs.size)) b ∧ b < (sb.heap.push (set0 X.w)).objs.size := fun b hb => by
    obtain ⟨o, e, _⟩ := T.obj _ _ st2 b hb
    have lt := Heap.lt_size e
    exact ⟨⟨by rw [upd_ne (Nat.ne_of_lt lt)]; exact (f2 b hb).1, (f2 b hb).2⟩, by rw [Heap.size_push]; exact Nat.lt_succ_of_lt lt⟩
  generalize sb.heap.objs.size = D at w0 turn I3 f3 ⊢
  generalize hsc : ({ sb with heap := sb.heap.push (set0 X.w) } : Shared) = sc at I3
  have hh : sb.heap.push (set0 X.w) = sc.heap := by rw [← hsc]
  rw [hh] at st3 f3
  show codeAny _ _ (.compStart (.SetComp elt [⟨tg, iter, ifs, 0⟩] scope pos) 0 (.ref it) (.ref D) (compEnvC scope (cellsFrom (sc.heap.objs.size + 1) scope.names (cloFrom X.env.cells scope.names [])) sc.heap.objs.size X.env)) (compPost (model X.prog X.w) X.A X.xe none _ (.ref D) sc.heap.objs.size) { sc with heap := pushCells (sc.heap.push { cls := .type "dict", data := .dict #[] }) scope.names }
  clear hh hsc
  generalize hH3 : upd H2 D (so0 X.w D) = H3 at I3 f3 w0
  have I4 := block_start I3 blk nd f3
  have pg := tgs sc H3 sc.heap.objs.size (cellsFrom (sc.heap.objs.size + 1) scope.names (cloFrom X.env.cells scope.names [])) fp
  have pt := tst sc H3 sc.heap.objs.size (cellsFrom (sc.heap.objs.size + 1) scope.names (cloFrom X.env.cells scope.names [])) fp
  have pe := els sc H3 sc.heap.objs.size (cellsFrom (sc.heap.objs.size + 1) scope.names (cloFrom X.env.cells scope.names [])) fp
  generalize hce : compEnvC scope (cellsFrom (sc.heap.objs.size + 1) scope.names (cloFrom X.env.cells scope.names [])) sc.heap.objs.size X.env = ce at I4 pg pt pe ⊢
  have cL : ce.locals = sc.heap.objs.size := by subst hce; rfl
  generalize hsd : ({ sc with heap := pushCells (sc.heap.push { cls := .type "dict", data := .dict #[] }) scope.names } : Shared) = sd at I4 ⊢
  have st4 : tn 0 sd.heap := T.keep _ _ _ st3 fun b _ o e => by rw [← hsd]; exact pushCells_keeps _ _ _ _ (Heap.get?_push_of_some _ e)
  have stat : ∀ {σ' : L2.St} {H' : Hp} {s' : Shared}, Inv (X.blk sc H3 scope ce fp) [] σ' H' s' → (∀ b ∈ fp, H' b = none) → ∀ b ∈ fp, FpOk (X.blk sc H3 scope ce fp) [] H' b := fun I' z b hb =>
    ⟨z b hb, (I'.ok.exf b hb).1, I'.ok.exfs b hb, .inl hb, fun x c e => (I'.ok.exf b hb).2 x c e, fun p hp => absurd (show p ∈ ([] : List (Addr × Obj)) ++ [] from hp) (by simp)⟩
  refine PpSet.codeAny_compStart_set ?lp (T.self X.A 0 _ _ _ st4 ?lp)
  refine PpSet.compLoopS_any (fun n s' => ∃ i H', Inv (X.blk sc H3 scope ce fp) [] (wipe σ (own.map (·.2))) H' s' ∧ tn i s'.heap ∧ (∀ b ∈ fp, H' b = none) ∧ W i n H') ?_ m0 ⟨0, H3, I4, st4, fun b hb => (f3 b hb).1.1, w0⟩
  rintro n s5 ⟨i, H5, I5, st5, n5, w5⟩
  rcases turn i n H5 w5 with ⟨stop, qq⟩ | ⟨go, Nx, hNx, step⟩
  · refine thnF (T.done (X.blk sc H3 scope ce fp) rfl rfl rfl calm i [] s5 _ H5 (fun _ _ => False) I5 (stat I5 n5) st5 stop) ?_
    rintro r s6 ⟨rfl, I6⟩
    have I7 : Inv X pins σ H5 s6 := I3.call' (ch := fp) I6.os I6.base I6.hok I6.bare fun b hb => have z := (f3 b hb).1.2; ⟨z.2.2.1, z.1, z.2.2.2.1, z.2.2.2.2⟩
    have nC : H5 sc.heap.objs.size = none := by have z : H5 ce.locals = none := I6.free; rwa [cL] at z
    obtain ⟨m, hn, _⟩ := I6.loc
    have hn : s6.heap.Ns ce.locals m := hn
    rw [cL] at hn
    obtain ⟨g0, g1, g2, g3, g4, g5⟩ := I3.fpOk (Nat.le_refl _) nC
    exact ⟨m, hn, fun h'' sb => ⟨.ref D, H5, I7.turned (t' := s6.toks) (fun b o hb e => (sb.2 b hb).trans e) g0 g1 g3 g4 g5, rfl, qq⟩⟩
  · refine thnF (T.item (X.blk sc H3 scope ce fp) rfl rfl rfl calm i [] s5 _ H5 (fun _ _ => False) I5 (stat I5 n5) st5 go) ?_
    rintro r s6 ⟨u, rfl, h6⟩
    refine thnF h6 ?_
    rintro _ s7 ⟨x, H7, I7, r7, y7, st7, n7⟩
    have I7' := I7.pinned (stat I7 n7) (T.obj _ _ st7)
    refine thnF (pg.run _ s7 _ H7 x u _ I7' r7 (step x H7 y7)) ?_
    rintro _ s8 ⟨σ8, H8, I8, hw8, q8⟩
    refine thnF (pt.run _ s8 σ8 H8 _ I8 q8) ?_
    rintro b s9 ⟨H9, I9, q9⟩
    have fin : ∀ {s' : Shared} {H' : Hp}, Inv (X.blk sc H3 scope ce fp) ([] ++ pinsAt fp s7.heap) σ8 H' s' → Nx H' → ∃ m, m < n ∧ ∃ i H', Inv (X.blk sc H3 scope ce fp) [] (wipe σ (own.map (·.2))) H' s' ∧ tn i s'.heap ∧ (∀ b ∈ fp, H' b = none) ∧ W i m H' := fun {s' H'} I' nx => by
      obtain ⟨m', hm, w'⟩ := hNx H' nx
      have pin' : ∀ b ∈ fp, ∀ o, s7.heap.get? b = some o → s'.heap.get? b = some o ∧ H' b = none := fun b hb o e => have z := I'.pin (b, o) (List.mem_append_right _ (List.mem_append_right _ (mem_pinsAt hb e))); ⟨z.1, z.2.1⟩
      refine ⟨m', hm, i + 1, H', (I'.unpinned (pins := [])).weak (by rw [← hw8, wipe_length]) (fun j v e => by rw [← hw8] at e; exact (wipe_some e).1), T.keep _ _ _ st7 fun b hb o e => (pin' b hb o e).1, fun b hb => ?_, w'⟩
      obtain ⟨o, e, _⟩ := T.obj _ _ st7 b hb
      exact (pin' b hb o e).2
    cases b with
    | false => exact fin I9 q9
    | true =>
      refine thnF (pe.run _ s9 σ8 H9 _ I9 q9) ?_
      rintro z s10 ⟨yv, H10, I10, r10, ad⟩
      refine thnF (mt_sadd (X := X.blk sc H3 scope ce fp) _ s10 σ8 H10 (.ref D) [yv] (.ref D) [z] (fun _ H5 => Nx H5) I10 rfl (.cons r10 .nil) ad) ?_
      rintro _ s11 ⟨_, H11, I11, _, nx⟩
      exact fin I11 nx⟩
end
end Zy
end
section
/-! Zy, part S: for i, x in enumerate(t) over a tuple. -/

namespace HT
open PySem PyProof.Rows
/-- the two objects that enumerate(t) lays -/
def enumLaid (h : Heap) (ob : Obj) : Heap := (h.push ob).push { cls := .type "enumerate", data := .fields #[.none, .bool false, .ref h.objs.size, rawInt 0, .none, .none] }
set_option maxHeartbeats 1000000 in
theorem enum1_meets {v : Value} {ob : Obj} {P : Heap → Prop} (B : Begins v ob P) :
    Meets (Builtin.«enumerate.__new__» ⟨[.type "enumerate", v], []⟩) (fun _ R s => P s.heap ∧ R (.ok (.ret (.ref (s.heap.push ob).objs.size))) { s with heap := enumLaid s.heap ob }) :=
  .of_wp fun prog w A R s q => by
    obtain ⟨hp, gg, dd, tk, os⟩ := s
    obtain ⟨q1, q2⟩ := q
    have sub := sub_enumerate
    have begun : ∀ {A' : Around} {E : Value → Shared → Prop} {Q : Value → Shared → Prop}, Q (.ref hp.objs.size) ⟨hp.push ob, gg, dd, tk, os⟩ → wpAny (model prog w) A' (pyIter v) Q E ⟨hp, gg, dd, tk, os⟩ := fun z => B.iter prog w _ _ ⟨hp, gg, dd, tk, os⟩ _ q1 z
    wp_walk using begun
    apply wpAny_stack_any
    intro st
    apply wpAny_pure
    split
    · rename_i c _ _ _ _ _
      cases (c == Value.type "enumerate") <;> (wp_walk using begun; exact ⟨_, rfl, q2⟩)
    · wp_walk using begun
      exact ⟨_, rfl, q2⟩
section
variable {prog : Program} {w : World} {A : Around} {E : Value → Shared → Prop} {s : Shared}
theorem enum1_call {v : Value} {ob : Obj} {P : Heap → Prop} {Q : Value → Shared → Prop} (B : Begins v ob P) (h1 : P s.heap)
    (h : ∀ h', IsEnum h' (s.heap.objs.size + 1) s.heap.objs.size 0 .none → h'.get? s.heap.objs.size = some ob → (∀ b o, s.heap.get? b = some o → h'.get? b = some o) → Q (.ref (s.heap.objs.size + 1)) { s with heap := h' }) :
    wpAny (model prog w) A (call (.type "enumerate") [v]) Q E s := by
  apply callType_new F.called_enumerate (by decide) (F.typeCall_enumerate_1 _) (F.newCall_enumerate_1 _) (fun obj => F.args_object_init_2 obj _) F.entry_enumerate_new (enum1_meets B)
  refine ⟨h1, ?_⟩
  have size1 : (s.heap.push ob).objs.size = s.heap.objs.size + 1 := Heap.size_push ..
  have there : IsEnum (enumLaid s.heap ob) (s.heap.objs.size + 1) s.heap.objs.size 0 .none := by
    rw [← size1]
    exact Heap.get?_push_size _ rfl
  show _ ∧ _
  rw [size1]
  exact ⟨⟨_, there, rfl⟩, h _ there (Heap.get?_push_of_some _ (Heap.get?_push_size _ B.free)) fun b o z => Heap.get?_push_of_some _ (Heap.get?_push_of_some _ z)⟩
end
end HT

namespace L2
open PySem PySem.Spec PyProof.Rows
/-- the tuple at a, each item in a new pair behind its number -/
def IteT (K : PySem.W.Frag) (a : Addr) : It :=
  ⟨fun i H => ∃ (xs : List V) (x : V), SqT K H a xs ∧ xs[i]? = some x,
   fun i H v H' => ∃ T x, v = .ref T ∧ H T = none ∧ H' = upd H T (.tup [.int (i : Nat), x]) ∧ ∀ xs, SqT K H a xs → xs[i]? = some x,
   fun i H => ∃ xs : List V, SqT K H a xs ∧ xs.length ≤ i⟩
theorem apart_iter {h : Heap} {a it : Addr} {its : Array Value} {i : Nat} (p : h.IsTuple a its) (q : h.IsTupleIter it a i) : a ≠ it := by
  rintro rfl
  obtain ⟨o1, e1, c1, _⟩ := p
  obtain ⟨o2, e2, c2, _⟩ := q
  rw [e1] at e2
  cases e2
  rw [c1] at c2
  exact absurd c2 (by decide)
theorem turn_enumT {P : Program} {w : World} {K : PySem.W.Frag} {elts : List Expr} {kk : Nat} {tpos : Pos} (a e it : Addr) :
    Turn P w K (.Tuple elts kk tpos) (IteT K a) [e, it] e (fun i h => (∃ old, IsEnum h e it ((i : Nat) : Int) old) ∧ h.IsTupleIter it a i ∧ e ≠ it) where
  mem := List.mem_cons_self
  obj := fun i h st b hb => by
    obtain ⟨⟨old, en⟩, ⟨o, ho, _, hd⟩, _⟩ := st
    rcases List.mem_cons.mp hb with rfl | hb
    · exact ⟨_, en, fun v z => nomatch z⟩
    · rw [List.mem_singleton.mp hb]
      exact ⟨o, ho, fun v z => by rw [hd] at z; cases z⟩
  keep := fun i h h' st k => by
    obtain ⟨⟨old, en⟩, hi, ne⟩ := st
    exact ⟨⟨old, k e List.mem_cons_self _ en⟩, hi.at fun o z => k it (List.mem_cons_of_mem _ List.mem_cons_self) o z, ne⟩
  item := by
    intro X hP hw hK hc i pins s σ H E I hf st hg
    subst hP hw hK
    obtain ⟨⟨old, en⟩, ti, ne⟩ := st
    obtain ⟨xs, x, sq, hx⟩ := hg
    obtain ⟨its, rv, tp, _⟩ := I.tuple sq
    have tp : s.heap.IsTuple a its.toArray := tp
    have ap := apart_iter tp ti
    have elt : e < s.heap.objs.size := Heap.lt_size en
    have ilt : it < s.heap.objs.size := by obtain ⟨_, z, _⟩ := ti; exact Heap.lt_size z
    obtain ⟨u, hu, ru⟩ := rv.get hx
    have hin : i < its.toArray.size := by
      have := (List.getElem?_eq_some_iff.mp hu).1
      simpa using this
    have ea : e ≠ a := by
      rintro rfl
      obtain ⟨o1, z1, c1, _⟩ := tp
      rw [show s.heap.get? e = _ from en] at z1
      cases z1
      have c1 : Value.type "enumerate" = Value.type "tuple" := c1
      exact absurd c1 (by decide)
    have D := Draws.tuple (prog := X.prog) (w := X.w) (A := X.A.in1) (I.ok.hd hc) it a ap its.toArray
    refine wpAny_pyNext_enum_itemC D en ⟨ti, tp⟩ hin ne (by simp [ne, ea]) fun y h' tk hy out st2 tup _ kept => ?_
    refine ⟨_, rfl, wpAny_letOwnedTupleGo_enum (s := { s with heap := h', toks := tk + 1 }) out fun h2 en2 sb => ?_⟩
    have yu : y = u := by
      have hy : its.toArray[i]? = some y := hy
      rw [List.getElem?_toArray, hu] at hy
      exact (Option.some.inj hy).symm
    subst yu
    have tup2 : h2.get? s.heap.objs.size = some { cls := .type "tuple", data := .seq #[.int i tk, y] } := (sb.2 _ (Nat.ne_of_gt elt)).trans tup
    have laid : ObjOk X.prog X.w (upd H s.heap.objs.size (.tup [.int (i : Nat), x])) h2 s.heap.objs.size (.tup [.int (i : Nat), x]) :=
      ⟨by show 2 ≤ sizeLine; decide, [.int i tk, y], .cons ⟨_, rfl⟩ (.cons ru .nil), _, tup2, rfl, _, rfl⟩
    have I1 : Inv X pins σ (upd H s.heap.objs.size (.tup [.int (i : Nat), x])) { s with heap := h2, toks := tk + 1 } := by
      refine I.turnedNew (ch := [e, it]) (fun b o hb z => ?_) hf (Nat.le_refl _) laid
      have h1 : b ≠ e := fun z => hb (z ▸ List.mem_cons_self)
      have h3 : b ≠ it := fun z => hb (z ▸ List.mem_cons_of_mem _ List.mem_cons_self)
      exact (sb.2 b h1).trans (kept b o h1 h3 z)
    refine ⟨.ref s.heap.objs.size, _, I1, rfl, ⟨_, x, rfl, I.hok.fresh (Nat.le_refl _), rfl, fun ys hq => by rw [I.tuple_inj hq sq]; exact hx⟩, ⟨⟨y, ?_⟩, st2.1.at fun o z => (sb.2 it (Ne.symm ne)).trans z, ne⟩, fun b hb => ?_⟩
    · rw [Int.natCast_succ]
      exact en2
    · have lt : b < s.heap.objs.size := by
        rcases List.mem_cons.mp hb with rfl | hb
        · exact elt
        · rw [List.mem_singleton.mp hb]; exact ilt
      rw [upd_ne (Nat.ne_of_lt lt)]
      exact (hf b hb).1
  done := by
    intro X hP hw hK hc i pins s σ H E I hf st hg
    subst hP hw hK
    obtain ⟨⟨old, en⟩, ti, ne⟩ := st
    obtain ⟨xs, sq, hx⟩ := hg
    obtain ⟨its, rv, tp, _⟩ := I.tuple sq
    have tp : s.heap.IsTuple a its.toArray := tp
    have ap := apart_iter tp ti
    have len := rv.length
    obtain ⟨g0, g1, g2, g3, g4, g5⟩ := hf it (List.mem_cons_of_mem _ List.mem_cons_self)
    have hT : s.TypeIs (.ref e) "enumerate" := ⟨_, en, rfl⟩
    unfold pyNext
    apply wpAny_bind
    apply wpAny_attempt
    apply wpAny_callSpecial?_slot (name := Str.ofString "__next__") hT F.slot_enumerate_next
    refine wpAny_call_entry F.slot_enumerate_next hT F.entry_enumerate_next ?_ (F.args_enumerate_next_1 _)
    show wpAny _ _ (field (.ref e) 2 >>= _) _ _ _
    apply wpAny_bind
    apply wpAny_field en rfl (x := .ref it) rfl
    apply wpAny_bind
    refine wpAny_nextOf_tuple_end (I.ok.hd hc) ti tp (by simp; omega) fun h' y kept isStop => ?_
    obtain ⟨o, ho, cl⟩ := isStop
    apply wpAny_bind
    refine wpAny_isInstance (T := "StopIteration") (b := true) ⟨o, ho, cl⟩ isSubtype_stop ?_
    exact wpAny_pure ⟨rfl, I.turned (t' := s.toks) (fun b o hb z => kept b o hb z) g0 g1 g3 g4 g5⟩
  self := fun A i s Q E st h => by
    obtain ⟨⟨_, en⟩, _⟩ := st
    exact wpAny_pyIter_enum en h
def iEnumT (K : PySem.W.Frag) (te : TE) : TI := fun σ H R => te σ H fun v H1 => ∃ a xs, [v] = [V.ref a] ∧ SqT K H1 a xs ∧ R (IteT K a) H1
theorem pi_enumT {X : Cx} {x : Expr} {te : TE} {p pos tpos : Pos} {elts : List Expr} {kk : Nat} (hg : Gl X "enumerate") (hm : X.mg "enumerate" = none) (hx : PE X x te) (hs : starEach [x] X.env = [(false, eval x X.env)]) :
    PI X (.Tuple elts kk tpos) (.Call (.Name "enumerate" p) [x] [] pos) (iEnumT X.K te) := by
  refine ⟨fun pins s σ H R I h => ?_⟩
  refine Call_ (ld_blt I hg hm boot_enumerate (PyProof.Rows.callWith_type1 (thn ((pa_cons hx pa_nil hs).run pos pins s σ H (fun vs H1 => ∃ a xs, vs = [V.ref a] ∧ SqT X.K H1 a xs ∧ R (IteT X.K a) H1) I ?_) fun us s1 ⟨vs, H1, I1, r1, a, xs, ev, sq, q⟩ => ?_) hs rfl))
  · exact h
  · subst ev
    obtain rfl := Vals.ref1 r1
    obtain ⟨its, rv, tp, _⟩ := I1.tuple sq
    refine HT.enum1_call (begins_tuple a its.toArray) tp fun h' en hit kept => wpAny_pyIter_enum en ?_
    have I2 : Inv X pins σ H1 { s1 with heap := h' } := I1.kept (t' := s1.toks) kept
    refine ⟨s1.heap.objs.size + 1, [s1.heap.objs.size + 1, s1.heap.objs.size], _, _, H1, rfl, I2, turn_enumT a (s1.heap.objs.size + 1) s1.heap.objs.size, ⟨⟨.none, en⟩, ⟨_, hit, rfl, rfl⟩, Nat.succ_ne_self _⟩, fun b hb => ?_, q⟩
    have le : s1.heap.objs.size ≤ b := by
      rcases List.mem_cons.mp hb with rfl | hb
      · exact Nat.le_add_right _ _
      · rw [List.mem_singleton.mp hb]; exact Nat.le_refl _
    exact I1.fpOk le (I1.hok.fresh le)
end L2

namespace HT
open PySem PySem.Spec PyProof.Rows L2
section
variable {X : Cx}
/-- tuple(l): a new object of which all is known -/
theorem cr_ftup : CallR X (.type "tuple") (fun vs H Q => ∃ a xs, vs = [V.ref a] ∧ SqL X.K H a xs ∧ ∀ p o, H p = none → o.dict = none → Q (.ref p) (upd H p (.frz o (.tup xs)))) := by
  rintro pins s σ H _ us Q I r ⟨a, xs, rfl, sq, q⟩
  obtain rfl := Vals.ref1 r
  obtain ⟨its, rv, pl, hz⟩ := I.list sq
  have len := rv.length
  apply call_tuple_list pl.isList _ (by rw [List.size_toArray]; omega)
  intro h' kept
  have I1 : Inv X pins σ H { s with heap := h' } := I.kept (t' := s.toks) kept
  generalize ho : ({ cls := .type "tuple", data := .seq its.toArray } : Obj) = ob
  have dn : ob.dict = none := by rw [← ho]
  have there : (h'.push ob).get? h'.objs.size = some ob := Heap.get?_push_size _ (by rw [← ho]; rfl)
  have isT : IsTup (h'.push ob) h'.objs.size its.toArray := by rw [← ho]; exact IsTup.new _ _
  have I2 := I1.laid (t' := s.toks) (h' := h'.push ob) (a := h'.objs.size) (o := .frz ob (.tup xs)) (fun b o e => Heap.get?_push_of_some _ e) (Nat.le_refl _) ⟨there, hz, its, rv, isT⟩
  exact ⟨V.ref _, _, I2, rfl, q _ _ (I1.hok.fresh (Nat.le_refl _)) dn⟩
/-- t.index(y), items of any depth: the first place of an equal one -/
def rIdxT (K : PySem.W.Frag) : V → List V → Hp → VK → Prop := fun x ys H Q => ∃ (a : Addr) (xs : List V) (y : V) (d : PyData) (ds : List PyData) (j : Nat) (z : PyData), x = V.ref a ∧ ys = [y] ∧ SqT K H a xs ∧ DpAll K H xs ds ∧ Dp K H y d ∧
  SeqAt.shaped (.list ds) = true ∧ SeqAt.shaped d = true ∧ ds[j]? = some z ∧ PyData.eqv z d = true ∧ (∀ (m : Nat) (z' : PyData), m < j → ds[m]? = some z' → PyData.eqv z' d = false) ∧ Q (.int (j : Nat)) H
theorem mt_indexT (hu : X.A.units + 65 < cLine) : MtR X "tuple.index" (rIdxT X.K) := by
  rintro pins s σ H x ys v us Q I rx rys ⟨a, xs, y, d, ds, j, z, rfl, rfl, sq, dx, dy, sl, sd, hz, hzj, before, q⟩
  cases rx
  obtain ⟨uy, rfl, ry⟩ := vals1 rys
  obtain ⟨bs, r1⟩ := Dp.reads I d y uy dy ry
  obtain ⟨its, rv, ⟨⟨cls, dd, data, sls⟩, ho, hc, n, hdt⟩, hlen⟩ := I.tuple sq
  have hc : cls = .type "tuple" := hc
  have hdt : data = .seq its.toArray n := hdt
  subst hc hdt
  obtain ⟨as, r2⟩ := Dp.readsAll I ds _ its dx rv
  have lay : PyData.canLayAll0 ds = true := SeqAt.canLay_of_shaped sl
  have eqs := SeqAt.items_eqAt (A := X.A) (vs := its.toArray) (show ReadsAll s.heap its.toArray.toList ds as from r2) r1 lay (SeqAt.canLay_of_shaped sd) (room_in_shaped sd hu)
  have data : its.map (SeqAt.readOf s.heap) = ds := SeqAt.readsAll_map ds its as lay r2
  let e : Nat → Bool := fun i => match its[i]? with | some u => PyData.eqv (SeqAt.readOf s.heap u) d | none => false
  have ehas : ∀ (i : Nat) (z' : PyData), ds[i]? = some z' → e i = PyData.eqv z' d := fun i z' hz' => by
    rw [← data, List.getElem?_map] at hz'
    obtain ⟨u, h1, h2⟩ := Option.map_eq_some_iff.mp hz'
    show (match its[i]? with | some u => PyData.eqv (SeqAt.readOf s.heap u) d | none => false) = _
    rw [h1, ← h2]
  have lenEq : its.length = ds.length := by rw [← data, List.length_map]
  have hj : j < its.toArray.size := by
    have := (List.getElem?_eq_some_iff.mp hz).1
    rw [List.size_toArray]
    omega
  refine call_meets PySem.F.slot_tuple_index ⟨_, ho, rfl⟩ PySem.F.entry_tuple_index (PySem.F.args_tuple_index_2 _ _) (SeqAt.tuple_index2_found a its.toArray n dd sls uy e j hj (Nat.zero_le _) hj ?_ ?_) ⟨ho, ?_, .int (j : Nat), H, I.tok _, ⟨_, rfl⟩, q⟩
  · rw [ehas j z hz]
    exact hzj
  · intro m hm _ hmj
    have hm2 : m < ds.length := by rw [List.size_toArray] at hm; omega
    have := List.getElem?_eq_getElem hm2
    rw [ehas m _ this]
    exact before m _ hmj this
  · intro i hi
    have hi2 : i < its.length := by rwa [List.size_toArray] at hi
    have h1 := eqs its.toArray[i] (Array.getElem_mem hi)
    have h2 : e i = PyData.eqv (SeqAt.readOf s.heap its.toArray[i]) d := by
      show (match its[i]? with | some u => PyData.eqv (SeqAt.readOf s.heap u) d | none => false) = _
      rw [List.getElem?_eq_getElem hi2]
      simp
    rw [h2]
    exact h1
/-- o.index(e) where o is a tuple of which all is known -/
def tIdxT (K : PySem.W.Frag) (to : TE) (t : TA) : TE := fun σ H Q => to σ H fun x H1 => (∃ a o xs, x = V.ref a ∧ H1 a = some (.frz o (.tup xs)) ∧ o.dict = none) ∧ t σ H1 fun ys H2 => rIdxT K x ys H2 Q
theorem pe_idxT {o e : Expr} {to : TE} {t : TA} {apos cpos : Pos} (hu : X.A.units + 65 < cLine) (ho : PE X o to) (ha : PA X [e] t)
    (hbase : attributeBase o "index" X.env (eval o X.env) = eval o X.env)
    (hfew : ((backTo cpos (starEach [e] X.env)).all (fun x => !x.1) && (backToKw cpos (keywordEach [] X.env)).all (fun x => x.1.isSome) && decide (([e] : List Expr).length + ([] : List Keyword).length + (if ([] : List Keyword).isEmpty then 0 else 1) < 30)) = true)
    (hline : (apos.endLine == cpos.line) = true) (hs : starEach [e] X.env = (false, eval e X.env) :: starEach [] X.env) : PE X (.Call (.Attribute o "index" apos) [e] [] cpos) (tIdxT X.K to t) := by
  refine ⟨fun pins s σ H Q I h => ?_⟩
  apply wpAny_Call_method_late hbase hfew hline rfl
  refine thn (ho.run pins s σ H _ I h) ?_
  rintro v s1 ⟨x, H1, I1, r1, ⟨a, ob, xs, rfl, fz, dn⟩, q1⟩
  cases r1
  have hk := I1.hok a _ fz
  obtain ⟨get, _, its, _, isT⟩ := hk
  refine ⟨"tuple", "tuple.index", PySem.F.plainAttrs_tuple, PySem.F.slot_tuple_index, PySem.F.type_tuple_index, isT.typeIs, fun b e => ?_, ?_⟩
  · cases e
    exact ⟨ob, get, dn⟩
  have args := ha.run cpos pins s1 σ H1 _ I1 q1
  rw [hs] at args ⊢
  apply Calls.callWith_builtin rfl
  apply Calls.evalArgs_plain
  exact thn args fun us s2 ⟨ys, H2, I2, r2, q2⟩ => mt_indexT hu pins s2 σ H2 (.ref a) ys _ us Q I2 rfl r2 q2
end
end HT
end
section
/-! Zy, part YS: a tuple of ints, sorted. -/
namespace SrtO
open PySem PyProof.Rows Srt
section
variable {prog : Program} {w : World} {A : Around} {E : Value → Shared → Prop} {s : Shared}
theorem collect_tupT {l : Addr} {vs : List Value} {Q : List Value → Shared → Prop} (hl : s.heap.IsTuple l vs.toArray)
    (h : Q vs { s with heap := (s.heap.push (seqObj "list" #[] 0)).update s.heap.objs.size (Obj.mapSeq (· ++ vs.toArray)) }) (hsz : vs.length ≤ sizeLine) :
    wpAny (model prog w) A (collect (.ref l)) Q E s := by
  obtain ⟨o, ho, hc, n, hd⟩ := id hl
  unfold collect
  refine wpAny_bind (wpAny_runValue (codeAny_builtin entry_proto_collect' ?_))
  show wpAny _ _ (do again (.builtin "list.__iadd__" ⟨[← newList [], .ref l], []⟩)) _ _ s
  refine wpAny_bind (wpAny_newList (wpAny_pure ⟨Code.quiet_builtin _ (by decide +kernel), codeAny_builtin entry_list_iadd' ?_⟩))
  show wpAny _ _ (Builtin.List.listExtendWith (.ref s.heap.objs.size) (.ref l) (.ref s.heap.objs.size)) _ _ { s with heap := s.heap.push (seqObj "list" #[] 0) }
  unfold Builtin.List.listExtendWith
  have ho' : (s.heap.push (seqObj "list" #[] 0)).get? l = some o := Heap.get?_push_of_some _ ho
  refine wpAny_bind (wpAny_typeOf (T := "tuple") ⟨o, ho', hc⟩ ?_)
  have ht : (Value.type "tuple" == Value.type "tuple") = true := by rfl
  rw [if_pos (by rw [ht]; simp)]
  refine wpAny_bind (listItems_at ho' hd ?_)
  refine wpAny_bind (listItems_at (xs := #[]) (n := 0) (Heap.get?_push_size _ rfl) rfl ?_)
  rw [if_neg (by simp)]
  refine wpAny_bind (listUpdate_at (xs := #[]) (n := 0) (Heap.get?_push_size _ rfl) rfl ?_ (Nat.zero_le _) (by show (#[] ++ vs.toArray).size ≤ sizeLine + 1; simp only [Array.size_append, List.size_toArray, List.length_nil]; omega))
  refine wpAny_pure ?_
  show wpAny (model prog w) A (do
      let o ← load s.heap.objs.size
      match o.data with
      | .seq xs _ => pure xs.toList
      | _ => unsupported "internal:collect") Q E { s with heap := (s.heap.push (seqObj "list" #[] 0)).update s.heap.objs.size (Obj.mapSeq (· ++ vs.toArray)) }
  refine wpAny_bind (wpAny_load (get?_update_seq (Heap.get?_push_size _ rfl) _) ?_)
  show wpAny _ _ (pure ((#[] : Array Value) ++ vs.toArray).toList) Q E _
  rw [show ((#[] : Array Value) ++ vs.toArray).toList = vs by simp]
  exact wpAny_pure h
theorem sorted_ordT {l : Addr} {vs : List Value} {ltv : Value → Value → Bool} {Q : Value → Shared → Prop} (O : Swo ltv) (hl : s.heap.IsTuple l vs.toArray) (hz : vs.length ≤ sizeLine)
    (hS : 2 ≤ vs.length → ∀ (h₁ : Heap) (a : Addr), h₁.get? a = some (seqObj "list" vs.toArray 0) → (∀ b o, s.heap.get? b = some o → b ≠ a ∧ h₁.get? b = some o) → SortableO prog w A.in1.in1 { s with heap := h₁ } a vs ltv)
    (h : ∀ out : List Value, Srtd ltv out → Stb ltv out vs → Q (.ref (s.heap.objs.size + 1)) { s with heap := sortedAll s.heap vs out.toArray }) :
    wpAny (model prog w) A (call (.builtin "sorted") [.ref l]) Q E s := by
  refine Calls.call_function_entry kind_sorted plain_sorted entry_sorted (args_sorted1 _) ?_
  unfold Builtin.«sorted»
  refine wpAny_bind (m := checkCount "sorted" 1 1 _) (wpAny_pure ?_)
  refine wpAny_bind (collect_tupT hl ?_ hz)
  refine wpAny_bind (wpAny_newList ?_ hz)
  have hsz : ((s.heap.push (seqObj "list" #[] 0)).update s.heap.objs.size (Obj.mapSeq (· ++ vs.toArray))).objs.size = s.heap.objs.size + 1 := by
    rw [Heap.size_update, size_push']
  have hoL : (((s.heap.push (seqObj "list" #[] 0)).update s.heap.objs.size (Obj.mapSeq (· ++ vs.toArray))).push (seqObj "list" vs.toArray 0)).get? (s.heap.objs.size + 1) = some (seqObj "list" vs.toArray 0) := by
    rw [← hsz]; exact Heap.get?_push_size _ rfl
  have keep : ∀ b o, s.heap.get? b = some o → b ≠ s.heap.objs.size + 1 ∧ (((s.heap.push (seqObj "list" #[] 0)).update s.heap.objs.size (Obj.mapSeq (· ++ vs.toArray))).push (seqObj "list" vs.toArray 0)).get? b = some o := fun b o q => by
    have hlt : b < s.heap.objs.size := Heap.lt_size q
    refine ⟨Nat.ne_of_lt (Nat.lt_succ_of_lt hlt), Heap.get?_push_of_some _ ?_⟩
    rw [Heap.get?_update_ne _ _ _ _ (Nat.ne_of_lt hlt)]
    exact Heap.get?_push_of_some _ q
  show wpAny _ _ _ _ _ { s with heap := ((s.heap.push (seqObj "list" #[] 0)).update s.heap.objs.size (Obj.mapSeq (· ++ vs.toArray))).push (seqObj "list" vs.toArray 0) }
  rw [hsz]
  refine wpAny_bind (wpAny_holding (wpAny_call_entry slot_list_sort ⟨_, hoL, rfl⟩ entry_list_sort (list_sort_ord O hoL hz (fun h2 => hS h2 _ _ hoL keep) fun out hs hb => ⟨_, rfl, ?_⟩) (args_list_sort _)))
  exact wpAny_pure ⟨_, rfl, h out hs hb⟩
end
end SrtO
namespace Zy
open PySem PySem.Spec PyProof.Rows L2
theorem cr_sortedTI {X : Cx} : CallR X (.builtin "sorted") (fun vs H Q => ∃ (a : Addr) (ns : List Int), vs = [V.ref a] ∧ SqT X.K H a (ns.map V.int) ∧ ∀ (ns' : List Int) (p : Addr), ns'.Perm ns → ns'.Pairwise (· ≤ ·) → H p = none → Q (.ref p) (upd H p (.lst (ns'.map V.int)))) := by
  intro pins s σ H vs us Q I r h
  obtain ⟨a, ns, rfl, hs, q⟩ := h
  obtain ⟨its, rv, hl, hz⟩ := I.tuple hs
  rw [Vals.ref1 r]
  have hi := rv.ints
  refine SrtO.sorted_ordT SrtO.swo_int hl (by rw [← rv.length]; exact hz) (fun h2 h₁ a' _ _ => SrtO.ints_sortable hi h2) fun out h1 h2 => ?_
  obtain ⟨k1, k2, k3⟩ := SrtO.ints_out hi h1 h2
  obtain ⟨ep, he'⟩ := PyProof.Rows.sortedAll_at s.heap its out.toArray
  have hlen : ((out.map SrtO.iv).map V.int).length ≤ sizeLine := by
    rw [List.length_map, k2.length_eq]
    rw [List.length_map] at hz
    exact hz
  exact ⟨.ref _, upd H (s.heap.objs.size + 1) (.lst ((out.map SrtO.iv).map V.int)), I.laid (t' := s.toks) (fun _ _ => PyProof.Rows.sortedAll_old) (Nat.le_succ _) ⟨hlen, out, ep, vals_of_ints k1, he'⟩, rfl, q _ _ k2 k3 (I.hok.fresh (Nat.le_succ _))⟩
end Zy
end
section
/-! Zy, part E: subscripts, slices, truth, built-in calls, by values of the core. -/
namespace Zy
open PySem PySem.Spec PyProof.Rows L2

section
variable {W : Wd} {H : Hp}
theorem Reps.get : ∀ {vs : List V} {ms : List M} {F : List Addr} {i : Nat} {m : M}, Reps W H vs ms F → ms[i]? = some m → ∃ v G, vs[i]? = some v ∧ Rep W H v m G
  | _, _, _, _, _, .nil, e => by simp at e
  | _, _, _, 0, _, .cons r _, e => by simp at e; subst e; exact ⟨_, _, rfl, r⟩
  | _, _, _, i + 1, _, .cons _ t, e => by
    obtain ⟨v, G, h1, h2⟩ := Reps.get (i := i) t (by simpa using e)
    exact ⟨v, G, by simpa using h1, h2⟩
theorem Reps.length : ∀ {vs : List V} {ms : List M} {F : List Addr}, Reps W H vs ms F → vs.length = ms.length
  | _, _, _, .nil => rfl
  | _, _, _, .cons _ t => congrArg (· + 1) (Reps.length t)
theorem Reps.getS : ∀ {vs : List V} {ms : List M} {F : List Addr} {i : Nat} {m : M}, Reps W H vs ms F → ms[i]? = some m → ∃ v G, vs[i]? = some v ∧ Rep W H v m G ∧ G.Sublist F
  | _, _, _, _, _, .nil, e => by simp at e
  | _, _, _, 0, _, .cons r _, e => by simp at e; subst e; exact ⟨_, _, rfl, r, List.sublist_append_left _ _⟩
  | _, _, _, i + 1, _, .cons _ t, e => by
    obtain ⟨v, G, h1, h2, h3⟩ := Reps.getS (i := i) t (by simpa using e)
    exact ⟨v, G, by simpa using h1, h2, h3.trans (List.sublist_append_right _ _)⟩
theorem Reps.atS {xs : List V} {ms : List M} {F : List Addr} {k : Int} {m : M} (h : Reps W H xs ms F) (hl : xs.length = ms.length) (e : L2.atI ms k = some m) : ∃ v G, L2.atI xs k = some v ∧ Rep W H v m G ∧ G.Sublist F := by
  unfold L2.atI at e ⊢
  rw [hl]
  cases q : ixN ms.length k with
  | none => rw [q] at e; cases e
  | some j =>
    rw [q] at e
    exact h.getS e
theorem Reps.atI {xs : List V} {ms : List M} {F : List Addr} {k : Int} {m : M} (h : Reps W H xs ms F) (e : L2.atI ms k = some m) : ∃ v G, L2.atI xs k = some v ∧ Rep W H v m G := by
  unfold L2.atI at e ⊢
  rw [h.length]
  cases q : ixN ms.length k with
  | none => rw [q] at e; cases e
  | some j =>
    rw [q] at e
    exact h.get e
end

section
variable {X : Cx} {W : Wd}
theorem ix_dget (hu : X.A.units + 1 < cLine) : IxR X (fun x y H Q => ∃ a v, x = .ref a ∧ DGet H a y (some v) ∧ Q v H) := by
  intro value slice pins s σ H x y v u Q I rx ry h hs
  obtain ⟨a, z, rfl, g, q⟩ := h
  cases rx
  exact tail_any (dict_typeIs I g) PySem.F.slot_dict_getitem.lookup (d_getItem hu I g ry fun w' s3 I3 rw' => ⟨z, H, I3, rw', q⟩) hs
def rX (W : Wd) : R2 := fun x y H Q => ∃ m1 m2 G1 G2 m, Rep W H x m1 G1 ∧ Rep W H y m2 G2 ∧ idxM m1 m2 = some m ∧ ∀ v G, Rep W H v m G → Q v H
theorem ix_M (hK : X.K = W.K) (hu : X.A.units + 1 < cLine) : IxR X (rX W) := by
  intro value slice pins s σ H x y v u Q I rx ry h hs
  obtain ⟨m1, m2, G1, G2, m, r1, r2, e, q⟩ := h
  unfold idxM at e
  split at e
  · cases r1 with
    | i r1 =>
      cases r1 with
      | tup s1 d1 =>
        cases r2 with
        | i r2 =>
          cases r2
          obtain ⟨d, e1, e2⟩ := Option.map_eq_some_iff.mp e
          subst e2
          obtain ⟨w, e3, rw⟩ := d1.atI e1
          exact ix_tup value slice pins s σ H _ _ v u Q I rx ry ⟨_, _, _, w, rfl, rfl, s1.sqX hK, e3, q w [] (.i rw)⟩ hs
  · cases r1 with
    | lst s1 d1 =>
      cases r2 with
      | i r2 =>
        cases r2
        obtain ⟨d, e1, e2⟩ := Option.map_eq_some_iff.mp e
        subst e2
        obtain ⟨w, e3, rw⟩ := d1.atI e1
        exact ix_list value slice pins s σ H _ _ v u Q I rx ry ⟨_, _, _, w, rfl, rfl, SqL.of s1, e3, q w [] (.i rw)⟩ hs
  · cases r1 with
    | rol s1 d1 =>
      cases r2 with
      | i r2 =>
        cases r2
        obtain ⟨d, e1, e2⟩ := Option.map_eq_some_iff.mp e
        subst e2
        obtain ⟨w, e3, rw⟩ := d1.atI e1
        exact ix_list value slice pins s σ H _ _ v u Q I rx ry ⟨_, _, _, w, rfl, rfl, by rw [hK]; exact s1.sq, e3, q w [] (.i rw)⟩ hs
  · cases r1 with
    | mls s1 d1 =>
      cases r2 with
      | i r2 =>
        cases r2
        obtain ⟨w, G, e3, rw⟩ := d1.atI e
        exact ix_list value slice pins s σ H _ _ v u Q I rx ry ⟨_, _, _, w, rfl, rfl, SqL.of s1, e3, q w G rw⟩ hs
  · cases r1 with
    | mtp s1 d1 =>
      cases r2 with
      | i r2 =>
        cases r2
        obtain ⟨w, G, e3, rw⟩ := d1.atI e
        exact ix_tup value slice pins s σ H _ _ v u Q I rx ry ⟨_, _, _, w, rfl, rfl, SqT.of s1, e3, q w G rw⟩ hs
  · split at e
    · rename_i hz
      cases r1 with
      | i r1 =>
        cases r1
        cases r2 with
        | i r2 =>
          cases r2
          obtain ⟨d, e1, e2⟩ := Option.map_eq_some_iff.mp e
          subst e2
          exact ix_str value slice pins s σ H _ _ v u Q I rx ry ⟨_, _, d, rfl, rfl, hz, e1, q _ [] (.i (.str _))⟩ hs
    · cases e
  · cases r1 with
    | kc s1 d1 =>
      cases r2 with
      | i r2 =>
        cases r2
        obtain ⟨d, e1, e2⟩ := Option.map_eq_some_iff.mp e
        subst e2
        obtain ⟨w, e3, rw⟩ := d1.atI e1
        exact ix_tup value slice pins s σ H _ _ v u Q I rx ry ⟨_, _, _, w, rfl, rfl, by rw [hK]; exact s1.sq, e3, q w [] (.i rw)⟩ hs
  · split at e
    · rename_i hz
      obtain ⟨d, e1, e2⟩ := Option.map_eq_some_iff.mp e
      subst e2
      obtain ⟨p, o, rfl, g, rel⟩ := r1.dget r2 hz
      rw [e1] at rel
      cases o with
      | none => exact rel.elim
      | some w => exact ix_dget hu value slice pins s σ H _ _ v u Q I rx ry ⟨_, w, rfl, g, q w [] (.i rel)⟩ hs
    · cases e
  · cases e

def rSl (W : Wd) : V → Option Int → Option Int → Hp → VK → Prop := fun x lo hi H Q => ∃ m1 G1 m, Rep W H x m1 G1 ∧ slM m1 lo hi = some m ∧ Gv W H m Q
theorem cut_all {α : Type} (l : List α) (lo hi : Option Int) (h : HT.sIx l.length 0 lo = 0 ∧ HT.sIx l.length l.length hi = l.length) : (l.drop (HT.sIx l.length 0 lo)).take (HT.sIx l.length l.length hi - HT.sIx l.length 0 lo) = l := by
  rw [h.1, h.2, List.drop_zero, Nat.sub_zero, List.take_length]
theorem sl_M (hK : X.K = W.K) : SlR X (rSl W) := by
  intro pins s σ H x v vl vu lo hi sl Q I rx hs pl pu h
  obtain ⟨m1, G1, m, r1, e, q⟩ := h
  unfold slM at e
  split at e
  · cases e
    cases r1 with
    | i r1 =>
      cases r1 with
      | tup s1 d1 =>
        rename_i xs
        refine sl_tupA pins s σ H _ v vl vu _ _ sl Q I rx hs pl pu ⟨_, _, rfl, s1.sqX hK, fun z => ?_, fun _ => q.tup (d1.cut _ _)⟩
        rw [d1.length] at z
        have e := cut_all _ _ _ z
        unfold cutD at q
        rw [e] at q
        exact q.imm (.tup s1 d1)
  · cases e
    cases r1 with
    | lst s1 d1 => exact sl_list pins s σ H _ v vl vu _ _ sl Q I rx hs pl pu ⟨_, _, rfl, SqL.of s1, q.lst (d1.cut _ _)⟩
  · cases e
    cases r1 with
    | rol s1 d1 => exact sl_list pins s σ H _ v vl vu _ _ sl Q I rx hs pl pu ⟨_, _, rfl, by rw [hK]; exact s1.sq, q.lst (d1.cut _ _)⟩
  · split at e
    · rename_i hz
      cases e
      cases r1 with
      | i r1 =>
        cases r1
        exact sl_str pins s σ H _ v vl vu _ _ sl Q I rx hs pl pu ⟨_, rfl, hz, q.str⟩
    · cases e
  · cases e

theorem isEmpty_len {α β : Type} {l : List α} {k : List β} (h : l.length = k.length) : l.isEmpty = k.isEmpty := by
  cases l <;> cases k <;> first | rfl | cases h
theorem Rep.tru {H : Hp} {v : V} {m : M} {G : List Addr} {b : Bool} (r : Rep W H v m G) (e : truM m = some b) : TruV W.K v H b := by
  unfold truM at e
  split at e
  · cases e; cases r with | i r => cases r; rfl
  · cases e; cases r with | i r => cases r; rfl
  · cases e; cases r with | i r => cases r; rfl
  · split at e
    · rename_i hz
      cases e; cases r with
      | i r =>
        cases r
        refine ⟨hz, ?_⟩
        rename_i x
        cases h : x.length with
        | zero => rfl
        | succ n => rfl
    · cases e
  · cases e
    cases r with
    | i r =>
      cases r with
      | tup s1 d1 => exact .inr (.inl ⟨_, s1.sq, by rw [isEmpty_len d1.length]⟩)
  · cases e
    cases r with
    | lst s1 d1 => exact .inl ⟨_, SqL.of s1, by rw [isEmpty_len d1.length]⟩
  · cases e
    cases r with
    | rol s1 d1 => exact .inl ⟨_, s1.sq, by rw [isEmpty_len d1.length]⟩
  · cases e
end

/-! ### built-in calls -/
def bltV : Blt → Value
  | .len => .builtin "len"
  | .int => .type "int"
  | .min => .builtin "min"
  | .max => .builtin "max"
  | .tuple => .type "tuple"
  | .list => .type "list"
  | .all => .builtin "all"
  | .any => .builtin "any"
  | .sorted => .builtin "sorted"
  | .sum => .builtin "sum"
  | .range => .type "range"
  | .ftup => .type "tuple"
  | .abs => .builtin "abs"
def rBl (W : Wd) (b : Blt) : List V → Hp → VK → Prop := fun xs H Q => ∃ ms G m, Reps W H xs ms G ∧ bltM b ms = some m ∧ Gv W H m Q
section
variable {K : Kc} {H : Hp}
theorem RepDs.bools : ∀ {vs : List V} {l : List D} {bs : List Bool}, RepDs K H vs l → allB l = some bs → vs = bs.map V.bl
  | _, _, _, .nil, e => by cases e; rfl
  | _, _, _, .cons (d := .bl b) r t, e => by
    cases r
    obtain ⟨cs, e1, e2⟩ := Option.map_eq_some_iff.mp (show (allB _).map (b :: ·) = some _ from e)
    rw [t.bools e1, ← e2]; rfl
  | _, _, _, .cons (d := .non) r t, e => by cases e
  | _, _, _, .cons (d := .int _) r t, e => by cases e
  | _, _, _, .cons (d := .str _) r t, e => by cases e
  | _, _, _, .cons (d := .tup _) r t, e => by cases e
theorem RepDs.ints : ∀ {vs : List V} {l : List D} {bs : List Int}, RepDs K H vs l → allI l = some bs → vs = bs.map V.int
  | _, _, _, .nil, e => by cases e; rfl
  | _, _, _, .cons (d := .int b) r t, e => by
    cases r
    obtain ⟨cs, e1, e2⟩ := Option.map_eq_some_iff.mp (show (allI _).map (b :: ·) = some _ from e)
    rw [t.ints e1, ← e2]; rfl
  | _, _, _, .cons (d := .non) r t, e => by cases e
  | _, _, _, .cons (d := .bl _) r t, e => by cases e
  | _, _, _, .cons (d := .str _) r t, e => by cases e
  | _, _, _, .cons (d := .tup _) r t, e => by cases e
theorem RepDs.ofInts : ∀ (ns : List Int), RepDs K H (ns.map V.int) (ns.map D.int)
  | [] => .nil
  | n :: ns => .cons (.int n) (RepDs.ofInts ns)
theorem RepDs.ofStrs : ∀ (ns : List Str), RepDs K H (ns.map V.str) (ns.map D.str)
  | [] => .nil
  | n :: ns => .cons (.str n) (RepDs.ofStrs ns)
end
theorem insI_perm (x : Int) : ∀ l : List Int, (insI x l).Perm (x :: l)
  | [] => .refl _
  | y :: r => by
    unfold insI
    split
    · exact .refl _
    · exact ((insI_perm x r).cons y).trans (.swap x y r)
theorem sortI_perm : ∀ l : List Int, (sortI l).Perm l
  | [] => .refl _
  | x :: r => (insI_perm x (sortI r)).trans ((sortI_perm r).cons x)
theorem insI_sorted (x : Int) : ∀ l : List Int, l.Pairwise (· ≤ ·) → (insI x l).Pairwise (· ≤ ·)
  | [], _ => by simp [insI]
  | y :: r, h => by
    unfold insI
    rw [List.pairwise_cons] at h
    split
    · rename_i hxy
      refine List.pairwise_cons.mpr ⟨fun z hz => ?_, List.pairwise_cons.mpr h⟩
      rcases List.mem_cons.mp hz with e | hz
      · rw [e]; exact hxy
      · exact Int.le_trans hxy (h.1 z hz)
    · rename_i hxy
      refine List.pairwise_cons.mpr ⟨fun z hz => ?_, insI_sorted x r h.2⟩
      rcases List.mem_cons.mp ((insI_perm x r).mem_iff.mp hz) with e | hz
      · rw [e]; omega
      · exact h.1 z hz
theorem sortI_sorted : ∀ l : List Int, (sortI l).Pairwise (· ≤ ·)
  | [] => .nil
  | x :: r => insI_sorted x _ (sortI_sorted r)

section
variable {X : Cx} {W : Wd}
theorem Reps.one {H : Hp} {xs : List V} {m : M} {G : List Addr} (h : Reps W H xs [m] G) : ∃ x F, xs = [x] ∧ Rep W H x m F := by
  cases h with
  | cons r t => cases t; exact ⟨_, _, rfl, r⟩
theorem Reps.two {H : Hp} {xs : List V} {m k : M} {G : List Addr} (h : Reps W H xs [m, k] G) : ∃ x y F F2, xs = [x, y] ∧ Rep W H x m F ∧ Rep W H y k F2 := by
  cases h with
  | cons r t =>
    obtain ⟨y, F, e, r2⟩ := t.one
    subst e
    exact ⟨_, _, _, _, rfl, r, r2⟩
theorem call_sorted (hK : X.K = W.K) (no : ∀ a xs, ¬ W.kk a xs) : CallR X (.builtin "sorted") (fun vs H Q => ∃ a xs ds m, vs = [V.ref a] ∧ SqL X.K H a xs ∧ RepDs W.kk H xs ds ∧ sortM ds = some m ∧ Gv W H m Q) := by
  intro pins s σ H vs us Q I r h
  obtain ⟨a, xs, ds, m, rfl, hs, rd, e, q⟩ := h
  cases hn : allI ds with
  | none => exact cr_sortM hK no pins s σ H _ us Q I r ⟨a, xs, ds, m, rfl, hs, rd, hn, e, q⟩
  | some bs =>
    unfold sortM at e
    rw [hn] at e
    cases e
    rw [rd.ints hn] at hs
    refine cr_sortedI pins s σ H _ us Q I r ⟨_, bs, rfl, hs, fun ns' p hp hs hn => ?_⟩
    have e3 : ns' = sortI bs := PySem.W.ksm_same (hp.trans (sortI_perm bs).symm) hs (sortI_sorted bs)
    subst e3
    exact q.lst (RepDs.ofInts _) p hn
theorem rgOk_iff {a b : Int} (h : rgOk a b = true) : RgOk a b := by
  unfold rgOk rngOk at h
  simp only [Bool.and_eq_true, decide_eq_true_eq] at h
  exact ⟨h.1.1.1, h.1.1.2, h.1.2.1, h.1.2.2, by omega⟩
theorem rngL_rows : ∀ (n : Nat) (a : Int), rngL a n = (List.range n).map fun (i : Nat) => D.int (a + i)
  | 0, _ => rfl
  | n + 1, a => by
    rw [rngL, rngL_rows n (a + 1), List.range_succ_eq_map, List.map_cons, List.map_map]
    congr 1
    · simp
    · apply List.map_congr_left
      intro i _
      show D.int _ = D.int _
      congr 1
      show a + 1 + (i : Int) = a + ((i + 1 : Nat) : Int)
      omega
theorem rgV_rep {K : Kc} {H : Hp} (a b : Int) : RepDs K H (rgV a b) (rngL a (b - a).toNat) := by
  rw [rngL_rows]
  unfold rgV
  generalize List.range (b - a).toNat = l
  induction l with
  | nil => exact .nil
  | cons i l ih => exact .cons (.int _) ih
theorem call_blt (hK : X.K = W.K) (hc : X.calm = true) : ∀ b, (b = .sorted → ∀ a xs, ¬ W.kk a xs) → CallR X (bltV b) (rBl W b) := by
  intro b no pins s σ H xs us Q I r h
  obtain ⟨ms, G, m, rs, e, q⟩ := h
  unfold bltM at e
  split at e
  · cases e
    obtain ⟨x, F, rfl, r1⟩ := rs.one
    cases r1 with | i r1 => cases r1 with | tup s1 d1 => exact call_len pins s σ H _ us Q I r ⟨_, _, rfl, .inr ⟨_, s1.sqX hK, rfl⟩, by rw [d1.length]; exact q.int⟩
  · split at e
    · rename_i hz
      cases e
      obtain ⟨x, F, rfl, r1⟩ := rs.one
      cases r1 with | i r1 => cases r1; exact call_len pins s σ H _ us Q I r ⟨_, _, rfl, ⟨hz, rfl⟩, q.int⟩
    · cases e
  · cases e
    obtain ⟨x, F, rfl, r1⟩ := rs.one
    cases r1 with | lst s1 d1 => exact call_len pins s σ H _ us Q I r ⟨_, _, rfl, .inl ⟨_, SqL.of s1, rfl⟩, by rw [d1.length]; exact q.int⟩
  · cases e
    obtain ⟨x, F, rfl, r1⟩ := rs.one
    cases r1 with | rol s1 d1 => exact call_len pins s σ H _ us Q I r ⟨_, _, rfl, .inl ⟨_, by rw [hK]; exact s1.sq, rfl⟩, by rw [d1.length]; exact q.int⟩
  · cases e
    obtain ⟨x, F, rfl, r1⟩ := rs.one
    cases r1 with | kc s1 d1 => exact call_len pins s σ H _ us Q I r ⟨_, _, rfl, .inr ⟨_, by rw [hK]; exact s1.sq, rfl⟩, by rw [d1.length]; exact q.int⟩
  · cases e
    obtain ⟨x, F, rfl, r1⟩ := rs.one
    cases r1 with | mls s1 d1 => exact call_len pins s σ H _ us Q I r ⟨_, _, rfl, .inl ⟨_, SqL.of s1, rfl⟩, by rw [d1.length]; exact q.int⟩
  · cases e
    obtain ⟨x, F, rfl, r1⟩ := rs.one
    cases r1 with | i r1 => cases r1; exact call_int1 pins s σ H _ us Q I r (.inl ⟨_, rfl, q.int⟩)
  · cases e
    obtain ⟨x, F, rfl, r1⟩ := rs.one
    cases r1 with | i r1 => cases r1; exact call_int1 pins s σ H _ us Q I r (.inr ⟨_, rfl, q.int⟩)
  · cases e
    obtain ⟨x, y, F, F2, rfl, r1, r2⟩ := rs.two
    cases r1 with | i r1 => cases r1; cases r2 with | i r2 => cases r2; exact call_min2 hc pins s σ H _ us Q I r ⟨_, _, rfl, q.int⟩
  · cases e
    obtain ⟨x, y, F, F2, rfl, r1, r2⟩ := rs.two
    cases r1 with | i r1 => cases r1; cases r2 with | i r2 => cases r2; exact call_max2 hc pins s σ H _ us Q I r ⟨_, _, rfl, q.int⟩
  · cases e
    obtain ⟨x, F, rfl, r1⟩ := rs.one
    cases r1 with | lst s1 d1 => exact call_tuple_of pins s σ H _ us Q I r ⟨_, _, rfl, .inl ⟨SqL.of s1, q.tup d1⟩⟩
  · cases e
    obtain ⟨x, F, rfl, r1⟩ := rs.one
    cases r1 with | rol s1 d1 => exact call_tuple_of pins s σ H _ us Q I r ⟨_, _, rfl, .inl ⟨by rw [hK]; exact s1.sq, q.tup d1⟩⟩
  · cases e
    obtain ⟨x, F, rfl, r1⟩ := rs.one
    cases r1 with | i r1 => cases r1 with | tup s1 d1 => exact call_tuple_of pins s σ H _ us Q I r ⟨_, _, rfl, .inr ⟨s1.sqX hK, q.imm (.tup s1 d1)⟩⟩
  · cases e
    obtain ⟨x, F, rfl, r1⟩ := rs.one
    cases r1 with | lst s1 d1 => exact call_list_of pins s σ H _ us Q I r ⟨_, _, rfl, .inl (SqL.of s1), q.lst d1⟩
  · cases e
    obtain ⟨x, F, rfl, r1⟩ := rs.one
    cases r1 with | rol s1 d1 => exact call_list_of pins s σ H _ us Q I r ⟨_, _, rfl, .inl (by rw [hK]; exact s1.sq), q.lst d1⟩
  · cases e
    obtain ⟨x, F, rfl, r1⟩ := rs.one
    cases r1 with | i r1 => cases r1 with | tup s1 d1 => exact call_list_of pins s σ H _ us Q I r ⟨_, _, rfl, .inr (s1.sqX hK), q.lst d1⟩
  · obtain ⟨bs, e1, e2⟩ := Option.map_eq_some_iff.mp e
    subst e2
    obtain ⟨x, F, rfl, r1⟩ := rs.one
    cases r1 with
    | lst s1 d1 =>
      rw [d1.bools e1] at s1
      exact cr_all hc pins s σ H _ us Q I r ⟨_, bs, rfl, SqL.of s1, q.bl⟩
  · obtain ⟨bs, e1, e2⟩ := Option.map_eq_some_iff.mp e
    subst e2
    obtain ⟨x, F, rfl, r1⟩ := rs.one
    cases r1 with
    | lst s1 d1 =>
      rw [d1.bools e1] at s1
      exact cr_any hc pins s σ H _ us Q I r ⟨_, bs, rfl, SqL.of s1, q.bl⟩
  · obtain ⟨bs, e1, e2⟩ := Option.map_eq_some_iff.mp e
    subst e2
    obtain ⟨x, F, rfl, r1⟩ := rs.one
    cases r1 with
    | lst s1 d1 =>
      rw [d1.ints e1] at s1
      exact cr_sum hc pins s σ H _ us Q I r ⟨_, bs, rfl, SqL.of s1, q.int⟩
  · obtain ⟨x, F, rfl, r1⟩ := rs.one
    cases r1 with
    | lst s1 d1 => exact call_sorted hK (no rfl) pins s σ H _ us Q I r ⟨_, _, _, m, rfl, SqL.of s1, d1, e, q⟩
  · obtain ⟨x, F, rfl, r1⟩ := rs.one
    cases r1 with
    | rol s1 d1 => exact call_sorted hK (no rfl) pins s σ H _ us Q I r ⟨_, _, _, m, rfl, by rw [hK]; exact s1.sq, d1, e, q⟩
  · obtain ⟨bs, e1, e2⟩ := Option.map_eq_some_iff.mp e
    subst e2
    obtain ⟨x, F, rfl, r1⟩ := rs.one
    cases r1 with
    | i r1 =>
      cases r1 with
      | tup s1 d1 =>
        have s1 := s1.sqX hK
        rw [d1.ints e1] at s1
        refine cr_sortedTI pins s σ H _ us Q I r ⟨_, bs, rfl, s1, fun ns' p hp hs hn => ?_⟩
        have e3 : ns' = sortI bs := PySem.W.ksm_same (hp.trans (sortI_perm bs).symm) hs (sortI_sorted bs)
        subst e3
        exact q.lst (RepDs.ofInts _) p hn
  · cases e
    obtain ⟨x, F, rfl, r1⟩ := rs.one
    cases r1 with | i r1 => cases r1; exact cr_range1 pins s σ H _ us Q I r ⟨_, rfl, q.rg⟩
  · cases e
    obtain ⟨x, y, F, F2, rfl, r1, r2⟩ := rs.two
    cases r1 with | i r1 => cases r1; cases r2 with | i r2 => cases r2; exact cr_range2 pins s σ H _ us Q I r ⟨_, _, rfl, q.rg⟩
  · cases e
    obtain ⟨x, F, rfl, r1⟩ := rs.one
    cases r1 with | lst s1 d1 => exact HT.cr_ftup pins s σ H _ us Q I r ⟨_, _, rfl, SqL.of s1, q.ftp d1⟩
  · cases e
    obtain ⟨x, F, rfl, r1⟩ := rs.one
    cases r1 with | i r1 => cases r1; exact call_abs pins s σ H _ us Q I r ⟨_, rfl, q.int⟩
  · split at e
    · rename_i hz
      cases e
      obtain ⟨x, F, rfl, r1⟩ := rs.one
      cases r1 with | rg s1 => exact cr_tupRg hc pins s σ H _ us Q I r ⟨_, _, _, rfl, s1, rgOk_iff hz, q.tup (rgV_rep _ _)⟩
    · cases e
  · split at e
    · rename_i hz
      cases e
      obtain ⟨x, F, rfl, r1⟩ := rs.one
      cases r1 with | rg s1 => exact cr_listRg hc pins s σ H _ us Q I r ⟨_, _, _, rfl, s1, rgOk_iff hz, q.lst (rgV_rep _ _)⟩
    · cases e
  · cases e

theorem RepDs.strs {K : Kc} {H : Hp} : ∀ {vs : List V} {l : List D} {bs : List Str}, RepDs K H vs l → allS l = some bs → vs = bs.map V.str
  | _, _, _, .nil, e => by cases e; rfl
  | _, _, _, .cons r t, e => by
    cases r with
    | str x =>
      obtain ⟨bs', e1, e2⟩ := Option.map_eq_some_iff.mp (show (allS _).map (x :: ·) = some _ from e)
      subst e2
      rw [RepDs.strs t e1]
      rfl
    | _ => cases e
theorem joinM_some {x : Str} {l : List D} {m : M} (e : joinM x l = some m) : ∃ ys, allS l = some ys ∧ (ys.map (·.length)).sum + ys.length * x.length ≤ 16777216 ∧ m = .i (.str (Txt.join x ys)) := by
  unfold joinM at e
  cases h : allS l with
  | none => rw [h] at e; cases e
  | some ys =>
    rw [h] at e
    dsimp only at e
    split at e
    · rename_i hz
      cases e
      exact ⟨ys, rfl, hz, rfl⟩
    · cases e
/-- methods of texts -/
def smtId : Smt → String
  | .count => "str.count"
  | .rfind => "str.rfind"
  | .upper => "str.upper"
  | .split => "str.split"
  | .index => "str.index"
  | .join => "str.join"
def rSm (W : Wd) (b : Smt) : V → List V → Hp → VK → Prop := fun x xs H Q => ∃ m1 ms G1 G m, Rep W H x m1 G1 ∧ Reps W H xs ms G ∧ smtM b m1 ms = some m ∧ Gv W H m Q
theorem mt_smt (hK : X.K = W.K) : ∀ b, MtR X (smtId b) (rSm W b) := by
  intro b pins s σ H x xs v us Q I rx r h
  obtain ⟨m1, ms, G1, G, m, r1, rs, e, q⟩ := h
  unfold smtM at e
  split at e
  · cases e
    obtain ⟨y, F, rfl, r2⟩ := rs.one
    cases r1 with | i r1 => cases r1; cases r2 with | i r2 => cases r2; exact mt_count pins s σ H _ _ v us Q I rx r ⟨_, _, rfl, rfl, q.int⟩
  · cases e
    obtain ⟨y, F, rfl, r2⟩ := rs.one
    cases r1 with | i r1 => cases r1; cases r2 with | i r2 => cases r2; exact mt_rfind pins s σ H _ _ v us Q I rx r ⟨_, _, rfl, rfl, q.int⟩
  · split at e
    · rename_i hz
      cases e
      cases rs
      cases r1 with | i r1 => cases r1; exact mt_upper pins s σ H _ _ v us Q I rx r ⟨_, rfl, rfl, hz, q.str⟩
    · cases e
  · split at e
    · rename_i hz
      cases e
      obtain ⟨y, F, rfl, r2⟩ := rs.one
      cases r1 with | i r1 => cases r1; cases r2 with | i r2 => cases r2; exact mt_split pins s σ H _ _ v us Q I rx r ⟨_, _, rfl, rfl, hz.1, hz.2, fun p hp => q.lst (RepDs.ofStrs _) p hp⟩
    · cases e
  · obtain ⟨ys, e1, e2, rfl⟩ := joinM_some e
    obtain ⟨y, F, rfl, r2⟩ := rs.one
    cases r1 with
    | i r1 =>
      cases r1
      cases r2 with
      | lst s1 d1 =>
        have e3 := d1.strs e1
        subst e3
        exact mt_join pins s σ H _ _ v us Q I rx r ⟨_, _, ys, rfl, rfl, .inl (SqL.of s1), e2, q.str⟩
  · obtain ⟨ys, e1, e2, rfl⟩ := joinM_some e
    obtain ⟨y, F, rfl, r2⟩ := rs.one
    cases r1 with
    | i r1 =>
      cases r1
      cases r2 with
      | rol s1 d1 =>
        have e3 := d1.strs e1
        subst e3
        exact mt_join pins s σ H _ _ v us Q I rx r ⟨_, _, ys, rfl, rfl, .inl (by rw [hK]; exact s1.sq), e2, q.str⟩
  · obtain ⟨ys, e1, e2, rfl⟩ := joinM_some e
    obtain ⟨y, F, rfl, r2⟩ := rs.one
    cases r1 with
    | i r1 =>
      cases r1
      cases r2 with
      | i r2 =>
        cases r2 with
        | tup s1 d1 =>
          have e3 := d1.strs e1
          subst e3
          exact mt_join pins s σ H _ _ v us Q I rx r ⟨_, _, ys, rfl, rfl, .inr (s1.sqX hK), e2, q.str⟩
  · cases e

/-! ### isinstance -/
def tyN : Ty → String
  | .int => "int"
  | .bool => "bool"
  | .str => "str"
  | .tuple => "tuple"
  | .list => "list"
theorem Rep.isi {H : Hp} {v : V} {m : M} {G : List Addr} {t : Ty} {b : Bool} (r : Rep W H v m G) (e : isiM m t = some b) : ∃ n, TyX W.K H v (.type n) ∧ PySem.W.kitOne W.K (.type n) (.type (tyN t)) = some b := by
  unfold isiM at e
  split at e
  · cases e
    cases r with
    | i r => cases r; refine ⟨_, .base (.int _), kit_ty ?_⟩; cases t <;> decide +kernel
  · cases e
    cases r with
    | i r => cases r; refine ⟨_, .base (.bl _), kit_ty ?_⟩; cases t <;> decide +kernel
  · cases e
    cases r with
    | i r => cases r; refine ⟨_, .base (.str _), kit_ty ?_⟩; cases t <;> decide +kernel
  · cases e
    cases r with
    | i r =>
      cases r with
      | tup s1 _ =>
        rcases s1 with s1 | s1
        · refine ⟨_, .base (.tup s1), kit_ty ?_⟩; cases t <;> decide +kernel
        · obtain ⟨o, its, n, h1, h2, _⟩ := W.kks _ _ s1
          refine ⟨_, .kTuple h1 h2, kit_ty ?_⟩; cases t <;> decide +kernel
  · cases e
    cases r with
    | i r => cases r; refine ⟨_, .base .non, kit_ty ?_⟩; cases t <;> decide +kernel
  · cases e
    cases r with
    | lst s1 _ => refine ⟨_, .base (.lst s1), kit_ty ?_⟩; cases t <;> decide +kernel
  · cases e
end
end Zy
end
section
/-! Zy, part F: expressions that change nothing. -/
namespace Zy
open PySem PySem.Spec PyProof.Rows L2

/-! ### what a def promises, by the core -/
/-- only what is owned at F is written; what is owned behind it is new or was owned -/
structure Stp (W : Wd) (F : List Addr) (H : Hp) (F' : List Addr) (H' : Hp) : Prop where
  out : ∀ a o, H a = some o → a ∉ F → NT o → H' a = some o
  new : ∀ a ∈ F', a ∈ F ∨ H a = none
  kp : Kp H H'
  once : ∀ a C dx vs, H a = some (.ins C dx vs) → ∃ vs', H' a = some (.ins C dx vs') ∧ ∀ k v, k % 2 = 0 → W.fi (W.fn k) = k → vs.lookup (W.fn k) = some v → vs'.lookup (W.fn k) = some v
/-- an exception of the text's own, lying behind a raise -/
def RepX (W : Wd) (H : Hp) (cls : Value) (d : Option Addr) (x : Ex) : Prop :=
  cls = .ref (W.ca x.c) ∧ ∃ p vs, d = some p ∧ H p = some (.xd vs) ∧ vs.map (·.1) = x.fs.map (fun f => W.fn f.1) ∧ RepDs W.kk H (vs.map (·.2)) (x.fs.map (·.2))
def spF (W : Wd) (np : Nat) (f : List M → Fo) : Sp := fun vs H Q E => vs.length = np ∧ Tbs W H ∧ ∃ ms F, Reps W H vs ms F ∧ F.Nodup ∧ match f ms with
  | .ok m ms' => ∀ v H' G F', Rep W H' v m G → Reps W H' vs ms' F' → (G ++ F').Nodup → Stp W F H (G ++ F') H' → Q v H'
  | .exc x ms' => ∀ cls d H' F', RepX W H' cls d x → Reps W H' vs ms' F' → F'.Nodup → Stp W F H F' H' → E cls d H'
  | .bad => False

def CstOk (W : Wd) (v : V) (d : D) : Prop := match d with
  | .tup l => ∃ a xs, v = .ref a ∧ Kct W.K a xs ∧ ∀ H, RepDs W.kk H xs l
  | d => ∀ H, RepD W.kk H v d
/-- a dict of the module that holds this at a text -/
def KdP (K : PySem.W.Frag) (P : Params) (a : Addr) (x : Str) (v : V) : Prop :=
  ∃ es n u, K.lookup a = some ⟨.type "dict", none, .dict es n, #[]⟩ ∧ PySem.W.KeysLit P es.toList ∧ PySem.W.nsIn K a x = some (some u) ∧ RelV v u
def KdOk (W : Wd) (K : PySem.W.Frag) (P : Params) (mg : Str → Option Value) (x : Str) (kvs : List (Str × Zy.D)) : Prop :=
  ∃ a, mg x = some (.ref a) ∧ ∀ z d, kvs.lookup z = some d → ∃ v, KdP K P a z v ∧ ∀ H, RepD W.kk H v d
/-- a def of the text that can be called -/
structure FnC (X : Cx) (W : Wd) (S : Sg) (x : Str) (k up : Nat) : Prop where
  ex : ∃ (np kk : Nat) (f : Addr) (fd : FuncData) (ps : List Str), FnOk X.prog X.w X.K X.mg X.base (L2.CX X.prog X.w) kk f fd ps (spF W np (S.fn k)) ∧ Room (kk + up) X.A ∧ X.mg x = some (.ref f) ∧ PySem.W.keepIn X.K (.ref f) = true ∧ Binds X.K fd ps [] ∧ ∀ ms, S.fn k ms ≠ .bad → ms.length = np
/-- a def at an address, with room -/
structure FnA (X : Cx) (W : Wd) (S : Sg) (f : Addr) (k up : Nat) : Prop where
  ex : ∃ (np kk : Nat) (fd : FuncData) (ps : List Str), FnOk X.prog X.w X.K X.mg X.base (L2.CX X.prog X.w) kk f fd ps (spF W np (S.fn k)) ∧ Room (kk + up) X.A ∧ Binds X.K fd ps [] ∧ ∀ ms, S.fn k ms ≠ .bad → ms.length = np
/-- room for one frame more -/
def gup (g : Gm) : Nat := if g.gx then 1 else 0
theorem gup_le (g : Gm) : gup g ≤ 1 := by
  unfold gup
  split <;> omega
/-- what the core knows of a context -/
structure Ct (X : Cx) (W : Wd) (S : Sg) (g : Gm) : Prop where
  K : X.K = W.K
  N : X.N = g.N
  nd : g.N.Nodup
  sc : X.env.scope = g.sc
  calm : X.calm = true
  hu : X.A.units + 200 < cLine
  blt : ∀ x, g.blt.contains x = true → X.mg x = none
  cst : ∀ x d, g.cst.lookup x = some d → ∃ u v, X.mg x = some u ∧ RelV v u ∧ CstOk W v d
  kd : ∀ x kvs, g.kd.lookup x = some kvs → KdOk W X.K X.w.params X.mg x kvs
  ktn : g.kt = false → ∀ a xs, ¬ W.kk a xs
  ktc : g.kt = true → ∀ a xs, Kct W.K a xs → W.kk a xs
  bf : ∀ x i, g.bf.lookup x = some i → X.mg x = some (.builtin i)
  fns : ∀ x k io, g.fns.lookup x = some (k, io) → FnC X W S x k (gup g)
  fld : ∀ x k, g.fld.lookup x = some k → W.fn k = x ∧ W.fi x = k
  cls : ∀ c, W.gc c → Cls X.K (W.ca c) ∧ ∀ x k, g.fld.lookup x = some k → NoAttr X.K (W.ca c) x
  mth : ∀ x m c f, g.mth.lookup x = some m → S.mt c m = some f → W.gc c → ∃ fa, Meth X.K (W.ca c) x fa ∧ FnA X W S fa f 0
  fcl : ∀ x, g.fc x = true → X.fn x = true
  mnf : ∀ x m, g.mth.lookup x = some m → ∀ j, W.fn j ≠ x
  gt : g.gx = true → ∃ c P, LamX.TabB X.base X.mg c P ∧ X.env.code = .ref c ∧ P ∈ W.tb ∧ Room 1 X.A
  mkc : ∀ x c f, g.cls.lookup x = some c → S.ini c = some f → W.gc c ∧ X.mg x = some (.ref (W.ca c)) ∧ ∃ fa, Mk X.K (W.ca c) fa ∧ FnA X W S fa f 1

def zp (W : Wd) (S : Sg) (t : Px) : TE := fun σ H Q => ∃ δ F m, REnv W H σ δ F ∧ pv S t δ = some m ∧ ∀ v H' G, Rep W H' v m G → Same H H' → (frs t = true → Fresh H G) → Q v H'
def zps (W : Wd) (S : Sg) (ts : List Px) : TA := fun σ H Q => ∃ δ F ms, REnv W H σ δ F ∧ pvs S ts δ = some ms ∧ ∀ vs H' G, Reps W H' vs ms G → Same H H' → Q vs H'
def zt (W : Wd) (S : Sg) (t : Pt) : TT := fun σ H Q => ∃ δ F b, REnv W H σ δ F ∧ tv S t δ = some b ∧ ∀ H', Same H H' → Q b H'
def zo (W : Wd) (S : Sg) (t : Option Px) : TO := fun σ H Q => ∃ δ F b, REnv W H σ δ F ∧ po S t δ = some b ∧ ∀ H', Same H H' → Q b H'

theorem PE.imp {X : Cx} {e : Expr} {t t' : TE} (h : PE X e t) (i : ∀ σ H Q, t' σ H Q → t σ H Q) : PE X e t' := ⟨fun pins s σ H Q I q => h.run pins s σ H Q I (i σ H Q q)⟩
theorem PT.imp {X : Cx} {e : Expr} {t t' : TT} (h : PT X e t) (i : ∀ σ H Q, t' σ H Q → t σ H Q) : PT X e t' := ⟨fun pins s σ H Q I q => h.run pins s σ H Q I (i σ H Q q)⟩
theorem PA.imp {X : Cx} {e : List Expr} {t t' : TA} (h : PA X e t) (i : ∀ σ H Q, t' σ H Q → t σ H Q) : PA X e t' := ⟨fun pos pins s σ H Q I q => h.run pos pins s σ H Q I (i σ H Q q)⟩
theorem Fresh.back {H H' : Hp} {G : List Addr} (s : Same H H') (f : Fresh H' G) : Fresh H G := ⟨f.1, fun a ha => s.free (f.2 a ha)⟩

section
variable {X : Cx} {W : Wd} {S : Sg} {g : Gm}
theorem Ct.slot (C : Ct X W S g) {x : Str} {i : Nat} (h : slotOf g x = some i) : X.N[i]? = some x ∧ Vis X.env.scope x ∧ (x == ("__debug__" : Str)) = false ∧ (x == ("__classdict__" : Str)) = false := by
  unfold slotOf at h
  split at h
  · rename_i hc
    simp only [Bool.and_eq_true, bne_iff_ne, ne_eq] at hc
    obtain ⟨⟨hv, h1⟩, h2⟩ := hc
    obtain ⟨hi, hp, _⟩ := List.findIdx?_eq_some_iff_getElem.mp h
    refine ⟨?_, ?_, beq_eq_false_iff_ne.mpr h1, beq_eq_false_iff_ne.mpr h2⟩
    · rw [C.N, List.getElem?_eq_getElem hi, eq_of_beq hp]
    · unfold visB at hv
      rw [C.sc]
      unfold Vis
      split at hv
      · rename_i e; exact .inl e
      · rename_i e; exact .inr (.inl e)
      · rename_i e; exact .inr (.inr e)
      · cases hv
  · cases h
theorem Ct.gl (C : Ct X W S g) {x : Str} (h : glB g.sc x = true) : Gl X x := by
  unfold glB at h
  show X.env.scope.names.lookup x = _
  rw [C.sc]
  exact eq_of_beq h
theorem Ct.bltn (C : Ct X W S g) {x : Str} (h : bltN g x = true) : Gl X x ∧ X.mg x = none := by
  unfold bltN at h
  rw [Bool.and_eq_true] at h
  exact ⟨C.gl h.1, C.blt x h.2⟩

/-! ### one rule a form -/
theorem zp_var (C : Ct X W S g) {x : Str} {i : Nat} {pos : Pos} (h : slotOf g x = some i) : PE X (.Name x pos) (zp W S (.var i)) := by
  obtain ⟨h1, h2, h3, h4⟩ := C.slot h
  refine PE.imp (pe_var h1 h2 h3 h4) fun σ H Q q => ?_
  obtain ⟨δ, F, m, r, e, k⟩ := q
  have e2 : slot δ i = m ∧ m ≠ .hole := by
    simp only [pv] at e
    split at e
    · cases e
    · rename_i hh
      cases e
      exact ⟨rfl, fun z => hh z⟩
  obtain ⟨v, G, h5, h6, _⟩ := r.get e2.1 e2.2
  exact ⟨v, h5, k v H G h6 (Same.refl H) fun z => by cases z⟩
theorem zp_lit {c : Const} {d : D} {j : Nat} {pos : Pos} (h : constD c = some d) : PE X (.Constant c j pos) (zp W S (.lit d)) := by
  have fin : ∀ {v : V} {t : TE}, (∀ H, RepD W.kk H v d) → (∀ σ H Q, Q v H → t σ H Q) → ∀ σ H Q, zp W S (.lit d) σ H Q → t σ H Q := fun {v t} r f σ H Q q => by
    obtain ⟨δ, F, m, _, e, k⟩ := q
    cases (show some (M.i d) = some m from e)
    exact f σ H Q (k v H [] (.i (r H)) (Same.refl H) fun _ => Fresh.nil H)
  cases c with
  | none => cases h; exact PE.imp pe_non (fin (fun H => .non) fun _ _ _ q => q)
  | bool b => cases h; exact PE.imp pe_bl (fin (fun H => .bl b) fun _ _ _ q => q)
  | int i => cases h; exact PE.imp pe_int (fin (fun H => .int i) fun _ _ _ q => q)
  | str x => cases h; exact PE.imp pe_str (fin (fun H => .str x) fun _ _ _ q => q)
  | _ => cases h
theorem zp_cst (C : Ct X W S g) {x : Str} {d : D} {k : Nat} {pos : Pos} (hg : glB g.sc x = true) (h : g.cst.lookup x = some d) (hd : (x == ("__debug__" : Str)) = false) : PE X (.Name x pos) (zp W S (.cst k d)) := by
  obtain ⟨u, v, h1, h2, h3⟩ := C.cst x d h
  refine PE.imp (pe_glob (C.gl hg) h1 h2 hd) fun σ H Q q => ?_
  obtain ⟨δ, F, m, _, e, k⟩ := q
  simp only [pv] at e
  cases d with
  | tup l =>
    cases e
    obtain ⟨a, xs, rfl, h4, h5⟩ := h3
    exact k _ H [] (.kc h4 (h5 H)) (Same.refl H) fun _ => Fresh.nil H
  | non => cases e; exact k _ H [] (.i (h3 H)) (Same.refl H) fun _ => Fresh.nil H
  | bl _ => cases e; exact k _ H [] (.i (h3 H)) (Same.refl H) fun _ => Fresh.nil H
  | int _ => cases e; exact k _ H [] (.i (h3 H)) (Same.refl H) fun _ => Fresh.nil H
  | str _ => cases e; exact k _ H [] (.i (h3 H)) (Same.refl H) fun _ => Fresh.nil H

theorem zp_cd (C : Ct X W S g) (ht : g.kt = true) {x : Str} {d : D} {pos : Pos} (hg : glB g.sc x = true) (h : g.cst.lookup x = some d) (hd : (x == ("__debug__" : Str)) = false) : PE X (.Name x pos) (zp W S (.cd d)) := by
  obtain ⟨u, v, h1, h2, h3⟩ := C.cst x d h
  refine PE.imp (pe_glob (C.gl hg) h1 h2 hd) fun σ H Q q => ?_
  obtain ⟨δ, F, m, _, e, k⟩ := q
  cases (show some (M.i d) = some m from e)
  cases d with
  | tup l =>
    obtain ⟨a, xs, rfl, h4, h5⟩ := h3
    exact k _ H [] (.i (.tup (.inr (C.ktc ht _ _ h4)) (h5 H))) (Same.refl H) fun _ => Fresh.nil H
  | non => exact k _ H [] (.i (h3 H)) (Same.refl H) fun _ => Fresh.nil H
  | bl _ => exact k _ H [] (.i (h3 H)) (Same.refl H) fun _ => Fresh.nil H
  | int _ => exact k _ H [] (.i (h3 H)) (Same.refl H) fun _ => Fresh.nil H
  | str _ => exact k _ H [] (.i (h3 H)) (Same.refl H) fun _ => Fresh.nil H

theorem imms_reps {H : Hp} : ∀ {ms : List M} {ds : List D} {vs : List V} {G : List Addr}, imms ms = some ds → Reps W H vs ms G → RepDs W.kk H vs ds
  | [], _, _, _, e, h => by cases e; cases h; exact .nil
  | .i d :: r, ds, vs, G, e, h => by
    obtain ⟨es, e1, e2⟩ := Option.map_eq_some_iff.mp (show (imms r).map (d :: ·) = some ds from e)
    subst e2
    cases h with
    | cons h1 h2 => cases h1 with | i h1 => exact .cons h1 (imms_reps e1 h2)
  | .hole :: _, _, _, _, e, _ => by cases e
  | .lst _ :: _, _, _, _, e, _ => by cases e
  | .rol _ :: _, _, _, _, e, _ => by cases e
  | .kc _ :: _, _, _, _, e, _ => by cases e
  | .mls _ :: _, _, _, _, e, _ => by cases e
  | .rg _ _ :: _, _, _, _, e, _ => by cases e
  | .ftp _ :: _, _, _, _, e, _ => by cases e
  | .mtp _ :: _, _, _, _, e, _ => by cases e
  | .dic _ _ :: _, _, _, _, e, _ => by cases e
  | .ins _ _ :: _, _, _, _, e, _ => by cases e
theorem zp_tup {es : List Expr} {ts : List Px} {k : Nat} {pos : Pos} (h : PA X es (zps W S ts)) : PE X (.Tuple es k pos) (zp W S (.tup ts)) := by
  refine PE.imp (pe_tup h) fun σ H Q q => ?_
  obtain ⟨δ, F, m, r, e, k⟩ := q
  simp only [pv, Option.bind_eq_bind, Option.bind_eq_some_iff] at e
  obtain ⟨ms, e1, ds, e2, e3⟩ := e
  split at e3
  · rename_i hz
    cases e3
    refine ⟨δ, F, ms, r, e1, fun vs H' G rs sm => ⟨?_, fun p hp => ?_⟩⟩
    · rw [(imms_reps e2 rs).length]; exact hz
    · have d := imms_reps e2 rs
      have s2 : Same H' (upd H' p (.tup vs)) := Same.new hp
      exact k _ _ [] (.i (.tup (.inl upd_same) (d.mono (Kp.same s2)))) (sm.trans s2) fun _ => Fresh.nil H
  · cases e3
theorem zp_lst {es : List Expr} {ts : List Px} {pos : Pos} (h : PA X es (zps W S ts)) : PE X (.List es pos) (zp W S (.lst ts)) := by
  refine PE.imp (pe_lst h) fun σ H Q q => ?_
  obtain ⟨δ, F, m, r, e, k⟩ := q
  simp only [pv, Option.bind_eq_bind, Option.bind_eq_some_iff] at e
  obtain ⟨ms, e1, ds, e2, e3⟩ := e
  split at e3
  · rename_i hz
    cases e3
    refine ⟨δ, F, ms, r, e1, fun vs H' G rs sm => ⟨?_, fun p hp => ?_⟩⟩
    · rw [(imms_reps e2 rs).length]; exact hz
    · have d := imms_reps e2 rs
      have s2 : Same H' (upd H' p (.lst vs)) := Same.new hp
      exact k _ _ [p] (.lst upd_same (d.mono (Kp.same s2))) (sm.trans s2) fun _ => (Fresh.one hp).back sm
  · cases e3
theorem zp_dnew (t : Bool) (ht : t = true → ∀ b ys, ¬ W.kk b ys) {pos : Pos} : PE X (.Dict [] [] pos) (zp W S (.dnew t)) := by
  cases t with
  | false =>
    refine PE.imp pe_dnewK fun σ H Q q => ?_
    obtain ⟨δ, F, m, r, e, k⟩ := q
    cases (show some (M.dic false []) = some m from e)
    exact fun p hp => k _ _ [p] (.dicK upd_same .nil) (Same.new hp) fun _ => Fresh.one hp
  | true =>
    refine PE.imp pe_dnewT fun σ H Q q => ?_
    obtain ⟨δ, F, m, r, e, k⟩ := q
    cases (show some (M.dic true []) = some m from e)
    exact fun p hp => k _ _ [p] (.dicT (ht rfl) upd_same .nil) (Same.new hp) fun _ => Fresh.one hp

theorem RepK.any' {K : Kc} {H : Hp} (k : Key) : ∀ {es : List (Key × V)} {kvs : List (Zy.D × Zy.D)}, RepK K H es kvs → (es.any fun kv => decide (kv.1 = k)) = (kvs.any fun kv => decide (kv.1 = keyD k))
  | _, _, .nil => rfl
  | _, _, .cons (k := k') r t => by
    rw [List.any_cons, List.any_cons, RepK.any' k t]
    congr 1
    rw [decide_eq_decide]
    exact ⟨fun h => congrArg keyD h, fun h => keyD_inj h⟩
theorem RepK.upd' {K : Kc} {H : Hp} {k : Key} {v : V} {d : Zy.D} (rv : RepD K H v d) : ∀ {es : List (Key × V)} {kvs : List (Zy.D × Zy.D)}, RepK K H es kvs → RepK K H (es.map fun kv => if kv.1 = k then (kv.1, v) else kv) (kvs.map fun kv => if kv.1 = keyD k then (kv.1, d) else kv)
  | _, _, .nil => .nil
  | _, _, .cons (k := k') r t => by
    rw [List.map_cons, List.map_cons]
    by_cases e : k' = k
    · rw [if_pos e, if_pos (congrArg keyD e)]
      exact .cons rv (RepK.upd' rv t)
    · rw [if_neg e, if_neg fun z => e (keyD_inj z)]
      exact .cons r (RepK.upd' rv t)
theorem RepK.snoc' {K : Kc} {H : Hp} {k : Key} {v : V} {d : Zy.D} (rv : RepD K H v d) : ∀ {es : List (Key × V)} {kvs : List (Zy.D × Zy.D)}, RepK K H es kvs → RepK K H (es ++ [(k, v)]) (kvs ++ [(keyD k, d)])
  | _, _, .nil => .cons rv .nil
  | _, _, .cons r t => .cons r (RepK.snoc' rv t)
theorem RepK.put' {K : Kc} {H : Hp} {k : Key} {v : V} {d : Zy.D} {es : List (Key × V)} {kvs : List (Zy.D × Zy.D)} (h : RepK K H es kvs) (r : RepD K H v d) : RepK K H (putK es k v) (putD kvs (keyD k) d) := by
  unfold putK putD
  rw [← RepK.any' k h]
  split
  · exact RepK.upd' r h
  · exact RepK.snoc' r h
inductive PEs (X : Cx) (W : Wd) (S : Sg) : List Expr → List Px → Prop
  | nil : PEs X W S [] []
  | cons {e : Expr} {x : Px} {es : List Expr} {xs : List Px} : PE X e (zp W S x) → PEs X W S es xs → PEs X W S (e :: es) (x :: xs)
/-- the pairs of a display: constants and what changes nothing -/
def dispT (W : Wd) (S : Sg) : List Zy.D → List Px → List (TE × TE)
  | k :: ks, x :: xs => (zp W S (.lit k), zp W S x) :: dispT W S ks xs
  | _, _ => []
theorem disp_pps : ∀ (ks : List (Option Expr)) (es : List Expr) {kd : List Zy.D} {xs : List Px} {pos : Pos}, dispK ks = some kd → ks.length = es.length → (∀ (c : Const) (z : Nat) (p : Pos) (d : Zy.D), constD c = some d → PE X (.Constant c z p) (zp W S (.lit d))) → PEs X W S es xs → PPs X pos ks es (dispT W S kd xs)
  | [], [], kd, xs, pos, h, _, _, hx => by cases h; cases hx; exact pps_nil
  | [], _ :: _, _, _, _, _, h, _, _ => by cases h
  | k :: ks, [], _, _, _, _, h, _, _ => by cases h
  | k :: ks, e :: es, kd, xs, pos, h, hl, hc, hx => by
    cases hx with
    | cons h1 h2 =>
      cases k with
      | none => cases h
      | some k =>
        cases k with
        | Constant c z p =>
          simp only [dispK] at h
          split at h
          · rename_i d ds e1 e2
            split at h
            · cases h
              exact pps_cons (hc _ _ _ _ e1) h1 (disp_pps ks es e2 (Nat.succ.inj hl) hc h2)
            · cases h
          · cases h
        | _ => cases h
theorem disp_go : ∀ (ks : List Zy.D) (xs : List Px) {σ : L2.St} {H : Hp} {δ : Env} {F : List Addr} {ms : List M} {ds : List Zy.D} {Q : List (V × V) → Hp → Prop}, ks.all flatK = true → ks.length = ds.length → REnv W H σ δ F → pvs S xs δ = some ms → imms ms = some ds →
    (∀ (kvs : List (Key × V)) H', kvs.map (fun kv => keyD kv.1) = ks → RepDs W.kk H' (kvs.map (·.2)) ds → Same H H' → Q (kvs.map fun kv => (kV kv.1, kv.2)) H') → tPairs (dispT W S ks xs) σ H Q
  | [], xs, σ, H, δ, F, ms, ds, Q, _, hl, r, e, i, k => by
    cases ds with
    | nil => exact k [] H rfl .nil (Same.refl H)
    | cons _ _ => cases hl
  | c :: ks, [], σ, H, δ, F, ms, ds, Q, _, hl, r, e, i, k => by
    cases (show some [] = some ms from e)
    cases (show some [] = some ds from i)
    cases hl
  | c :: ks, x :: xs, σ, H, δ, F, ms, ds, Q, hk, hl, r, e, i, k => by
    have e : (do let m ← pv S x δ; let ms ← pvs S xs δ; pure (m :: ms)) = some ms := e
    simp only [Option.bind_eq_bind, Option.pure_def, Option.bind_eq_some_iff, Option.some.injEq] at e
    obtain ⟨m, e1, ms', e2, e3⟩ := e
    subst e3
    rw [List.all_cons, Bool.and_eq_true] at hk
    cases m with
    | i d =>
      have i : (imms ms').map (d :: ·) = some ds := i
      obtain ⟨ds', i1, i2⟩ := Option.map_eq_some_iff.mp i
      subst i2
      refine ⟨δ, F, .i c, r, rfl, fun v H1 G1 r1 s1 _ => ⟨δ, F, .i d, r.same s1, e1, fun w H2 G2 r2 s2 _ => ?_⟩⟩
      cases r1 with
      | i r1 =>
      cases r2 with
      | i r2 =>
      obtain ⟨key, hv, hc⟩ := flat_key r1 hk.1
      subst hv
      refine disp_go ks xs hk.2 (Nat.succ.inj hl) (r.same (s1.trans s2)) e2 i1 fun kvs H' hkv rd sm => ?_
      refine k ((key, w) :: kvs) H' ?_ (.cons (r2.mono (Kp.same sm)) rd) ((s1.trans s2).trans sm)
      rw [List.map_cons, hkv, hc]
    | _ => cases (show none = some ds from i)
theorem dispD_rep {K : Kc} {H : Hp} : ∀ (more : List (Key × V)) {ds : List Zy.D} {es : List (Key × V)} {kvs : List (Zy.D × Zy.D)}, RepDs K H (more.map (·.2)) ds → RepK K H es kvs → RepK K H (mergeK es more) (dispD (more.map fun kv => keyD kv.1) ds kvs)
  | [], ds, es, kvs, rd, rk => by cases rd; exact rk
  | (k, v) :: more, ds, es, kvs, rd, rk => by
    cases rd with
    | cons r1 r2 => exact dispD_rep more r2 (rk.put' r1)
theorem Own.noC {H : Hp} {D : Addr} {o : HO} (h : H D = some o) (ho : Own o) : NoC H D := NoC.of h fun c q z => by
  subst z
  unfold LamX.CodeO at ho
  exact ho
theorem Kp.put' {H : Hp} {D : Addr} {o o' : HO} (h : H D = some o) (ho : Own o) : Kp H (upd H D o') := by
  refine ⟨fun a xs e => ?_, fun a o1 u e => ?_, fun a o1 u e => ?_, fun a ps e => ⟨ps, ?_, fun t => t.upd (Own.noC h ho)⟩⟩
  · rw [upd_ne (fun z => ?_)]
    · exact e
    · rw [z, h] at e; cases e; exact ho
  · rw [upd_ne (fun z => ?_)]
    · exact e
    · rw [z, h] at e; cases e; exact ho
  · rw [upd_ne (fun z => ?_)]
    · exact e
    · rw [z, h] at e; cases e; exact ho
  · rw [upd_ne (fun z => ?_)]
    · exact e
    · rw [z, h] at e; cases e; exact ho
theorem zp_disp {k : Option Expr} {ks : List (Option Expr)} {es : List Expr} {kd : List Zy.D} {xs : List Px} {pos : Pos} (h1 : dispK (k :: ks) = some kd) (hl : (k :: ks).length = es.length) (hc : ∀ (c : Const) (z : Nat) (p : Pos) (d : Zy.D), constD c = some d → PE X (.Constant c z p) (zp W S (.lit d))) (hx : PEs X W S es xs) : PE X (.Dict (k :: ks) es pos) (zp W S (.disp kd xs)) := by
  have all : ∀ (l : List (Option Expr)) (d : List Zy.D), dispK l = some d → l.all (·.isSome) = true ∧ d.length = l.length ∧ d.all flatK = true := by
    intro l
    induction l with
    | nil => intro d h; cases h; exact ⟨rfl, rfl, rfl⟩
    | cons a l ih =>
      intro d h
      cases a with
      | none => cases h
      | some a =>
        cases a with
        | Constant c z p =>
          simp only [dispK] at h
          split at h
          · rename_i d' ds e1 e2
            split at h
            · rename_i hf
              cases h
              obtain ⟨g1, g2, g3⟩ := ih _ e2
              exact ⟨by rw [List.all_cons, g1]; rfl, by rw [List.length_cons, List.length_cons, g2], by rw [List.all_cons, hf, g3]; rfl⟩
            · cases h
          · cases h
        | _ => cases h
  obtain ⟨g1, g2, g3⟩ := all _ _ h1
  by_cases h15 : (k :: ks).length ≤ 15
  · refine PE.imp (pe_disp (disp_pps (k :: ks) es h1 hl hc hx) g1 hl (by simp) h15) fun σ H Q q => ?_
    obtain ⟨δ, F, m, r, e, kk⟩ := q
    have e : (do let ms ← pvs S xs δ; let ds ← imms ms; if kd.length = ds.length ∧ kd.all flatK = true ∧ kd.length ≤ 15 then some (M.dic false (dispD kd ds [])) else none) = some m := e
    simp only [Option.bind_eq_bind, Option.bind_eq_some_iff] at e
    obtain ⟨ms, e1, ds, e2, e3⟩ := e
    split at e3
    · rename_i hz
      cases e3
      intro p hp
      have s0 : Same H (upd H p (.dK [])) := Same.new hp
      refine disp_go kd xs hz.2.1 hz.1 (r.same s0) e1 e2 fun kvs H' hkv rd sm => ?_
      have hp' : H' p = some (.dK []) := sm.s p _ upd_same nofun
      refine ⟨hp', kvs, rfl, ?_, ?_⟩
      · have : kvs.length = kd.length := by rw [← hkv, List.length_map]
        omega
      · have rep := dispD_rep kvs rd (.nil (K := W.kk) (H := H'))
        rw [hkv] at rep
        have kp : Kp H' (upd H' p (.dK (mergeK [] kvs))) := Kp.put' hp' trivial
        refine kk _ _ [p] (.dicK upd_same (rep.mono kp)) ?_ fun _ => ?_
        · exact (s0.trans sm).upd hp (Own.noC hp' trivial)
        · exact Fresh.one hp
    · cases e3
  · refine ⟨fun pins s σ H Q I q => ?_⟩
    obtain ⟨δ, F, m, r, e, kk⟩ := q
    have e : (do let ms ← pvs S xs δ; let ds ← imms ms; if kd.length = ds.length ∧ kd.all flatK = true ∧ kd.length ≤ 15 then some (M.dic false (dispD kd ds [])) else none) = some m := e
    simp only [Option.bind_eq_bind, Option.bind_eq_some_iff] at e
    obtain ⟨ms, e1, ds, e2, e3⟩ := e
    rw [if_neg (by rw [g2]; exact fun z => h15 z.2.2)] at e3
    cases e3

/-- two expressions, one behind the other -/
theorem two_of {x y : Px} {ta : M → M → Prop} {σ : L2.St} {H : Hp} {δ : Env} {F : List Addr} {m1 m2 : M} {R : V → V → Hp → Prop} (r : REnv W H σ δ F) (e1 : pv S x δ = some m1) (e2 : pv S y δ = some m2)
    (k : ∀ v w H2 G1 G2, Rep W H2 v m1 G1 → Rep W H2 w m2 G2 → Same H H2 → R v w H2) : zp W S x σ H fun v H1 => zp W S y σ H1 fun w H2 => R v w H2 :=
  ⟨δ, F, m1, r, e1, fun v H1 G1 r1 s1 _ => ⟨δ, F, m2, r.same s1, e2, fun w H2 G2 r2 s2 _ => k v w H2 G1 G2 (r1.same s2) r2 (s1.trans s2)⟩⟩
theorem zp_bop (C : Ct X W S g) {a b : Expr} {x y : Px} {op : Operator} {o : Bop} {pos : Pos} (ho : bopOf op = some o) (ha : PE X a (zp W S x)) (hb : PE X b (zp W S y)) : PE X (.BinOp a op b pos) (zp W S (.bop o x y)) := by
  have e0 : op = oprOf o := by cases op <;> first | (cases ho; rfl) | cases ho
  subst e0
  refine PE.imp (pe_op (op_bop C.K o) ha hb) fun σ H Q q => ?_
  obtain ⟨δ, F, m, r, e, k⟩ := q
  simp only [pv, Option.bind_eq_bind, Option.bind_eq_some_iff] at e
  obtain ⟨m1, e1, m2, e2, e3⟩ := e
  exact two_of (ta := fun _ _ => True) r e1 e2 fun v w H2 G1 G2 r1 r2 sm => ⟨m1, m2, G1, G2, m, r1, r2, e3, fun v H' G rv s2 f => k v H' G rv (sm.trans s2) fun _ => f.back sm⟩
theorem zp_neg {a : Expr} {x : Px} {pos : Pos} (ha : PE X a (zp W S x)) : PE X (.UnaryOp .USub a pos) (zp W S (.neg x)) := by
  refine PE.imp (pe_un un_neg ha) fun σ H Q q => ?_
  obtain ⟨δ, F, m, r, e, k⟩ := q
  simp only [pv, Option.bind_eq_bind, Option.bind_eq_some_iff] at e
  obtain ⟨m1, e1, e3⟩ := e
  split at e3
  · cases e3
    refine ⟨δ, F, _, r, e1, fun v H1 G1 r1 s1 _ => ?_⟩
    cases r1 with | i r1 => cases r1; exact ⟨_, rfl, k _ H1 [] (.i (.int _)) s1 fun _ => Fresh.nil H⟩
  · cases e3
theorem cop_of {op : CmpOp} {o : Cop} (ho : copOf op = some o) : op = cprOf o := by cases op <;> (cases ho; rfl)
theorem nomk {b : Expr} (h : plainE b = true) (op : CmpOp) : behindInMarks op b = false := by
  cases b <;> first | rfl | cases h
theorem Ct.hu65 (C : Ct X W S g) : X.A.units + 65 < cLine := by have := C.hu; omega
theorem zp_cmp (C : Ct X W S g) {a b : Expr} {x y : Px} {op : CmpOp} {o : Cop} {pos : Pos} (ho : copOf op = some o) (hm : plainE b = true) (ha : PE X a (zp W S x)) (hb : PE X b (zp W S y)) : PE X (.Compare a [op] [b] pos) (zp W S (.cmp o x y)) := by
  have e0 := cop_of ho
  subst e0
  refine PE.imp (pe_cmpR (op_cop C.K C.hu65 o) ha hb (nomk hm _)) fun σ H Q q => ?_
  obtain ⟨δ, F, m, r, e, k⟩ := q
  simp only [pv, Option.bind_eq_bind, Option.bind_eq_some_iff] at e
  obtain ⟨m1, e1, m2, e2, e3⟩ := e
  obtain ⟨bb, e4, e5⟩ := Option.map_eq_some_iff.mp e3
  subst e5
  exact two_of (ta := fun _ _ => True) r e1 e2 fun v w H2 G1 G2 r1 r2 sm => ⟨m1, m2, G1, G2, bb, r1, r2, e4, k _ H2 [] (.i (.bl bb)) sm fun _ => Fresh.nil H⟩
theorem zt_cmp (C : Ct X W S g) {a b : Expr} {x y : Px} {op : CmpOp} {o : Cop} {pos : Pos} (ho : copOf op = some o) (hm : plainE b = true) (ha : PE X a (zp W S x)) (hb : PE X b (zp W S y)) : PT X (.Compare a [op] [b] pos) (zt W S (.v (.cmp o x y))) := by
  have e0 := cop_of ho
  subst e0
  refine PT.imp (pt_cmpR (op_cop C.K C.hu65 o) ha hb (nomk hm _)) fun σ H Q q => ?_
  obtain ⟨δ, F, m, r, e, k⟩ := q
  simp only [tv, pv, Option.bind_eq_bind, Option.bind_eq_some_iff] at e
  obtain ⟨m0, ⟨m1, e1, m2, e2, e3⟩, e6⟩ := e
  obtain ⟨bb, e4, e5⟩ := Option.map_eq_some_iff.mp e3
  subst e5
  cases e6
  exact two_of (ta := fun _ _ => True) r e1 e2 fun v w H2 G1 G2 r1 r2 sm => ⟨m1, m2, G1, G2, _, r1, r2, e4, _, rfl, k H2 sm⟩
theorem zp_chn (C : Ct X W S g) {a b c : Expr} {x y z : Px} {op op2 : CmpOp} {o o2 : Cop} {pos : Pos} (ho : copOf op = some o) (ho2 : copOf op2 = some o2) (hm : plainE b = true) (hm2 : plainE c = true)
    (ha : PE X a (zp W S x)) (hb : PE X b (zp W S y)) (hc : PE X c (zp W S z)) : PE X (.Compare a [op, op2] [b, c] pos) (zp W S (.chn o o2 x y z)) := by
  have e0 := cop_of ho
  have e1 := cop_of ho2
  subst e0 e1
  refine PE.imp (pe_chain (op_cop C.K C.hu65 o) (op_cop C.K C.hu65 o2) ha hb hc (nomk hm2 _)) fun σ H Q q => ?_
  obtain ⟨δ, F, m, r, e, k⟩ := q
  simp only [pv, Option.bind_eq_bind, Option.bind_eq_some_iff] at e
  obtain ⟨m1, e1, m2, e2, kk, e3, e4⟩ := e
  refine two_of (ta := fun _ _ => True) r e1 e2 fun v w H2 G1 G2 r1 r2 sm => ⟨m1, m2, G1, G2, kk, r1, r2, e3, kk, rfl, ?_⟩
  cases kk with
  | false =>
    rw [if_neg Bool.false_ne_true]
    cases e4
    exact k _ H2 [] (.i (.bl _)) sm fun _ => Fresh.nil H
  | true =>
    rw [if_pos rfl]
    simp only [if_true, Option.bind_eq_some_iff] at e4
    obtain ⟨m3, e5, e6⟩ := e4
    obtain ⟨bb, e7, e8⟩ := Option.map_eq_some_iff.mp e6
    subst e8
    exact ⟨δ, F, m3, r.same sm, e5, fun u H3 G3 r3 s3 _ => ⟨m2, m3, G2, G3, bb, r2.same s3, r3, e7, k _ H3 [] (.i (.bl _)) (sm.trans s3) fun _ => Fresh.nil H⟩⟩
theorem zt_chn (C : Ct X W S g) {a b c : Expr} {x y z : Px} {op op2 : CmpOp} {o o2 : Cop} {pos : Pos} (ho : copOf op = some o) (ho2 : copOf op2 = some o2) (hm : plainE b = true) (hm2 : plainE c = true)
    (ha : PE X a (zp W S x)) (hb : PE X b (zp W S y)) (hc : PE X c (zp W S z)) : PT X (.Compare a [op, op2] [b, c] pos) (zt W S (.v (.chn o o2 x y z))) := by
  have e0 := cop_of ho
  have e1 := cop_of ho2
  subst e0 e1
  refine PT.imp (pt_chain (op_cop C.K C.hu65 o) (op_cop C.K C.hu65 o2) ha hb hc (nomk hm2 _)) fun σ H Q q => ?_
  obtain ⟨δ, F, m, r, e, k⟩ := q
  simp only [tv, pv, Option.bind_eq_bind, Option.bind_eq_some_iff] at e
  obtain ⟨m0, ⟨m1, e1, m2, e2, kk, e3, e4⟩, e9⟩ := e
  refine two_of (ta := fun _ _ => True) r e1 e2 fun v w H2 G1 G2 r1 r2 sm => ⟨m1, m2, G1, G2, kk, r1, r2, e3, kk, rfl, ?_⟩
  cases kk with
  | false =>
    rw [if_neg Bool.false_ne_true]
    cases e4
    cases e9
    exact ⟨_, rfl, k H2 sm⟩
  | true =>
    rw [if_pos rfl]
    simp only [if_true, Option.bind_eq_some_iff] at e4
    obtain ⟨m3, e5, e6⟩ := e4
    obtain ⟨bb, e7, e8⟩ := Option.map_eq_some_iff.mp e6
    subst e8
    cases e9
    exact ⟨δ, F, m3, r.same sm, e5, fun u H3 G3 r3 s3 _ => ⟨m2, m3, G2, G3, _, r2.same s3, r3, e7, _, rfl, k H3 (sm.trans s3)⟩⟩
/-- any expression whose test is its value's truth -/
theorem zt_v (C : Ct X W S g) {a : Expr} {x : Px} (he : ∀ whole, isTrue a X.env whole = (do let v ← whole; standAt a.pos; holding [v] (truthy v))) (ha : PE X a (zp W S x)) : PT X a (zt W S (.v x)) := by
  refine PT.imp (pt_truth ha he) fun σ H Q q => ?_
  obtain ⟨δ, F, m, r, e, k⟩ := q
  simp only [tv, Option.bind_eq_bind, Option.bind_eq_some_iff] at e
  obtain ⟨m0, e1, e2⟩ := e
  exact ⟨δ, F, m0, r, e1, fun v H' G rv sm _ => ⟨m, by rw [C.K]; exact rv.tru e2, k H' sm⟩⟩
theorem zt_not {a : Expr} {x : Pt} {pos : Pos} (ha : PT X a (zt W S x)) : PT X (.UnaryOp .Not a pos) (zt W S (.not x)) := by
  refine PT.imp (pt_not ha) fun σ H Q q => ?_
  obtain ⟨δ, F, m, r, e, k⟩ := q
  simp only [tv, Option.bind_eq_bind, Option.bind_eq_some_iff] at e
  obtain ⟨b, e1, e2⟩ := e
  cases e2
  exact ⟨δ, F, b, r, e1, fun H' sm => k H' sm⟩
theorem zw_and {a b : Expr} {rest : List Expr} {x y : Pt} {pos : Pos} (ha : PT X a (zt W S x)) (hb : PW X (.BoolOp .And (b :: rest) pos) (zt W S y)) : PW X (.BoolOp .And (a :: b :: rest) pos) (zt W S (.and x y)) := by
  refine ⟨fun wh pins s σ H Q I q => (pw_and ha hb).run wh pins s σ H Q I ?_⟩
  obtain ⟨δ, F, m, r, e, k⟩ := q
  simp only [tv, Option.bind_eq_bind, Option.bind_eq_some_iff] at e
  obtain ⟨b, e1, e2⟩ := e
  refine ⟨δ, F, b, r, e1, fun H' sm => ?_⟩
  cases b with
  | false =>
    rw [if_neg Bool.false_ne_true]
    cases e2
    exact k H' sm
  | true =>
    rw [if_pos rfl]
    exact ⟨δ, F, m, r.same sm, e2, fun H2 s2 => k H2 (sm.trans s2)⟩
theorem zw_or {a b : Expr} {rest : List Expr} {x y : Pt} {pos : Pos} (ha : PT X a (zt W S x)) (hb : PW X (.BoolOp .Or (b :: rest) pos) (zt W S y)) : PW X (.BoolOp .Or (a :: b :: rest) pos) (zt W S (.or x y)) := by
  refine ⟨fun wh pins s σ H Q I q => (pw_or ha hb).run wh pins s σ H Q I ?_⟩
  obtain ⟨δ, F, m, r, e, k⟩ := q
  simp only [tv, Option.bind_eq_bind, Option.bind_eq_some_iff] at e
  obtain ⟨b, e1, e2⟩ := e
  refine ⟨δ, F, b, r, e1, fun H' sm => ?_⟩
  cases b with
  | true =>
    rw [if_pos rfl]
    cases e2
    exact k H' sm
  | false =>
    rw [if_neg Bool.false_ne_true]
    exact ⟨δ, F, m, r.same sm, e2, fun H2 s2 => k H2 (sm.trans s2)⟩
/-- as values -/
theorem zp_and {a b : Expr} {rest : List Expr} {x y : Px} {pos : Pos} (ha : PE X a (zp W S x)) (hb : PE X (.BoolOp .And (b :: rest) pos) (zp W S y)) : PE X (.BoolOp .And (a :: b :: rest) pos) (zp W S (.and x y)) := by
  refine PE.imp (pe_and ha hb) fun σ H Q q => ?_
  obtain ⟨δ, F, m, r, e, k⟩ := q
  simp only [pv, Option.bind_eq_bind, Option.bind_eq_some_iff] at e
  obtain ⟨m1, e1, e2⟩ := e
  split at e2
  · rename_i kk
    refine ⟨δ, F, _, r, e1, fun v H' G rv sm _ => ?_⟩
    cases rv with
    | i rv =>
      cases rv
      refine ⟨_, rfl, ?_⟩
      cases kk with
      | false =>
        rw [if_neg Bool.false_ne_true]
        cases e2
        exact k _ H' [] (.i (.bl _)) sm fun z => by cases z
      | true =>
        rw [if_pos rfl]
        exact ⟨δ, F, m, r.same sm, e2, fun w H2 G2 r2 s2 _ => k w H2 G2 r2 (sm.trans s2) fun z => by cases z⟩
  · cases e2
theorem zp_or {a b : Expr} {rest : List Expr} {x y : Px} {pos : Pos} (ha : PE X a (zp W S x)) (hb : PE X (.BoolOp .Or (b :: rest) pos) (zp W S y)) : PE X (.BoolOp .Or (a :: b :: rest) pos) (zp W S (.or x y)) := by
  refine PE.imp (pe_or ha hb) fun σ H Q q => ?_
  obtain ⟨δ, F, m, r, e, k⟩ := q
  simp only [pv, Option.bind_eq_bind, Option.bind_eq_some_iff] at e
  obtain ⟨m1, e1, e2⟩ := e
  split at e2
  · rename_i kk
    refine ⟨δ, F, _, r, e1, fun v H' G rv sm _ => ?_⟩
    cases rv with
    | i rv =>
      cases rv
      refine ⟨_, rfl, ?_⟩
      cases kk with
      | true =>
        rw [if_pos rfl]
        cases e2
        exact k _ H' [] (.i (.bl _)) sm fun z => by cases z
      | false =>
        rw [if_neg Bool.false_ne_true]
        exact ⟨δ, F, m, r.same sm, e2, fun w H2 G2 r2 s2 _ => k w H2 G2 r2 (sm.trans s2) fun z => by cases z⟩
  · cases e2
theorem zp_not {a : Expr} {x : Px} {pos : Pos} (ha : PE X a (zp W S x)) : PE X (.UnaryOp .Not a pos) (zp W S (.not x)) := by
  refine PE.imp (pe_not ha) fun σ H Q q => ?_
  obtain ⟨δ, F, m, r, e, k⟩ := q
  simp only [pv, Option.bind_eq_bind, Option.bind_eq_some_iff] at e
  obtain ⟨m1, e1, e2⟩ := e
  split at e2
  · cases e2
    refine ⟨δ, F, _, r, e1, fun v H' G rv sm _ => ?_⟩
    cases rv with
    | i rv =>
      cases rv
      exact ⟨_, rfl, k _ H' [] (.i (.bl _)) sm fun _ => Fresh.nil H⟩
  · cases e2
theorem zp_ife {c a b : Expr} {z : Pt} {x y : Px} {pos : Pos} (hc : PT X c (zt W S z)) (ha : PE X a (zp W S x)) (hb : PE X b (zp W S y)) : PE X (.IfExp c a b pos) (zp W S (.ife z x y)) := by
  refine PE.imp (pe_ifExp hc ha hb) fun σ H Q q => ?_
  obtain ⟨δ, F, m, r, e, k⟩ := q
  simp only [pv, Option.bind_eq_bind, Option.bind_eq_some_iff] at e
  obtain ⟨kk, e1, e2⟩ := e
  refine ⟨δ, F, kk, r, e1, fun H' sm => ?_⟩
  cases kk with
  | true =>
    rw [if_pos rfl]
    exact ⟨δ, F, m, r.same sm, e2, fun w H2 G2 r2 s2 _ => k w H2 G2 r2 (sm.trans s2) fun z => by cases z⟩
  | false =>
    rw [if_neg Bool.false_ne_true]
    exact ⟨δ, F, m, r.same sm, e2, fun w H2 G2 r2 s2 _ => k w H2 G2 r2 (sm.trans s2) fun z => by cases z⟩
theorem plainIx {b : Expr} (h : plainE b = true) : PlainIx b := by
  intro o i
  cases b <;> first | rfl | cases h
theorem zp_idx (C : Ct X W S g) {a b : Expr} {x y : Px} {pos : Pos} (hm : plainE b = true) (ha : PE X a (zp W S x)) (hb : PE X b (zp W S y)) : PE X (.Subscript a b pos) (zp W S (.idx x y)) := by
  refine PE.imp (pe_ix (ix_M C.K (by have := C.hu; omega)) ha hb (plainIx hm)) fun σ H Q q => ?_
  obtain ⟨δ, F, m, r, e, k⟩ := q
  simp only [pv, Option.bind_eq_bind, Option.bind_eq_some_iff] at e
  obtain ⟨m1, e1, m2, e2, e3⟩ := e
  exact two_of (ta := fun _ _ => True) r e1 e2 fun v w H2 G1 G2 r1 r2 sm => ⟨m1, m2, G1, G2, m, r1, r2, e3, fun u G ru => k u H2 G ru sm fun z => by cases z⟩
theorem zp_kdi (C : Ct X W S g) {x : Str} {kvs : List (Str × D)} {b : Expr} {y : Px} {p pos : Pos} (hg : glB g.sc x = true) (hd : (x == ("__debug__" : Str)) = false) (h : g.kd.lookup x = some kvs) (hm : plainE b = true) (hb : PE X b (zp W S y)) :
    PE X (.Subscript (.Name x p) b pos) (zp W S (.kdi kvs y)) := by
  obtain ⟨a, h1, h2⟩ := C.kd x kvs h
  refine PE.imp (pe_ix ix_kdict (pe_glob (C.gl hg) h1 (show RelV (.ref a) (.ref a) from rfl) hd) hb (plainIx hm)) fun σ H Q q => ?_
  obtain ⟨δ, F, m, r, e, k⟩ := q
  simp only [pv, Option.bind_eq_bind, Option.bind_eq_some_iff] at e
  obtain ⟨m1, e1, e2⟩ := e
  refine ⟨δ, F, m1, r, e1, fun w H1 G r1 sm _ => ?_⟩
  unfold kdM at e2
  split at e2
  · obtain ⟨d, e3, rfl⟩ := Option.map_eq_some_iff.mp e2
    obtain ⟨v, h3, h4⟩ := h2 _ _ e3
    cases r1 with
    | i r1 =>
      cases r1
      exact ⟨a, _, v, rfl, rfl, h3, k v H1 [] (.i (h4 H1)) sm fun _ => Fresh.nil H⟩
  · cases e2
theorem zo_none : PO X none (zo W S none) := ⟨fun pins s σ H Q I q => by
  obtain ⟨δ, F, m, r, e, k⟩ := q
  cases (show some none = some m from e)
  exact po_none.run pins s σ H Q I (k H (Same.refl H))⟩
theorem zo_some {a : Expr} {x : Px} (ha : PE X a (zp W S x)) : PO X (some a) (zo W S (some x)) := ⟨fun pins s σ H Q I q => by
  obtain ⟨δ, F, m, r, e, k⟩ := q
  refine (po_some ha).run pins s σ H Q I ?_
  simp only [po, Option.bind_eq_bind, Option.bind_eq_some_iff] at e
  obtain ⟨m1, e1, e2⟩ := e
  split at e2
  · cases e2
    refine ⟨δ, F, _, r, e1, fun v H' G rv sm _ => ?_⟩
    cases rv with
    | i rv =>
      cases rv
      exact ⟨_, rfl, k H' sm⟩
  · cases e2⟩
theorem zp_sl (C : Ct X W S g) {a : Expr} {lo hi : Option Expr} {x : Px} {l h : Option Px} {p2 pos : Pos} (ha : PE X a (zp W S x)) (hl : PO X lo (zo W S l)) (hh : PO X hi (zo W S h)) : PE X (.Subscript a (.Slice lo hi none p2) pos) (zp W S (.sl x l h)) := by
  refine PE.imp (pe_slice (sl_M C.K) ha hl hh) fun σ H Q q => ?_
  obtain ⟨δ, F, m, r, e, k⟩ := q
  simp only [pv, Option.bind_eq_bind, Option.bind_eq_some_iff] at e
  obtain ⟨m1, e1, l1, e2, h1, e3, e4⟩ := e
  exact ⟨δ, F, m1, r, e1, fun v H1 G1 r1 s1 _ => ⟨δ, F, l1, r.same s1, e2, fun H2 s2 => ⟨δ, F, h1, r.same (s1.trans s2), e3, fun H3 s3 =>
    ⟨m1, G1, m, r1.same (s2.trans s3), e4, fun u H4 G4 r4 s4 f => k u H4 G4 r4 (s1.trans (s2.trans (s3.trans s4))) fun _ => f.back (s1.trans (s2.trans s3))⟩⟩⟩⟩
/-- turned round -/
theorem zp_rev {a : Expr} {x : Px} {k : Nat} {p1 p2 p3 pos : Pos} (ha : PE X a (zp W S x)) (hK : X.K = W.K) : PE X (.Subscript a (.Slice none none (some (.UnaryOp .USub (.Constant (.int 1) k p1) p2)) p3) pos) (zp W S (.rev x)) := ⟨fun pins s σ H Q I q => by
  obtain ⟨δ, F, m, r, e, k⟩ := q
  simp only [pv, Option.bind_eq_bind, Option.bind_eq_some_iff] at e
  obtain ⟨m1, e1, e2⟩ := e
  unfold revM at e2
  split at e2
  · cases e2
    refine (pe_revT ha).run pins s σ H Q I ⟨δ, F, _, r, e1, fun v H1 G rv sm _ => ?_⟩
    cases rv with
    | i rv =>
      cases rv with
      | tup s1 d1 => exact ⟨_, _, rfl, s1.sqX hK, fun p hp => k _ _ [] (.i (.tup (.inl upd_same) (d1.rev.mono (Kp.same (Same.new hp))))) (sm.trans (Same.new hp)) fun _ => Fresh.nil H⟩
  · cases e2
    refine (pe_revL ha).run pins s σ H Q I ⟨δ, F, _, r, e1, fun v H1 G rv sm _ => ?_⟩
    cases rv with
    | lst s1 d1 => exact ⟨_, _, rfl, SqL.of s1, fun p hp => k _ _ [p] (.lst upd_same (d1.rev.mono (Kp.same (Same.new hp)))) (sm.trans (Same.new hp)) fun _ => (Fresh.one hp).back sm⟩
  · cases e2
    refine (pe_revL ha).run pins s σ H Q I ⟨δ, F, _, r, e1, fun v H1 G rv sm _ => ?_⟩
    cases rv with
    | rol s1 d1 => exact ⟨_, _, rfl, by rw [hK]; exact s1.sq, fun p hp => k _ _ [p] (.lst upd_same (d1.rev.mono (Kp.same (Same.new hp)))) (sm.trans (Same.new hp)) fun _ => (Fresh.one hp).back sm⟩
  · cases e2⟩

/-! ### while nothing is written -/
theorem REnv.ro {H H' : Hp} (kp : Kp H H') {σ : L2.St} {δ : Env} {F : List Addr} (h : REnv W H σ δ F) : (∀ a ∈ F, ∀ xs, H a = some (.lst xs) → ∃ o, H' a = some (.frz o (.lst xs))) → REnv W H' σ (roE δ) [] := by
  induction h with
  | nil ht => exact fun _ => .nil (ht.kp kp)
  | hole _ ih => exact fun hl => .hole (ih hl)
  | @cons v m σ δ G F h1 h0 ih =>
    intro hl
    have q := ih fun a ha => hl a (List.mem_append_right _ ha)
    have hg : ∀ a ∈ G, ∀ xs, H a = some (.lst xs) → ∃ o, H' a = some (.frz o (.lst xs)) := fun a ha => hl a (List.mem_append_left _ ha)
    have go : ∀ {m' : M}, Rep W H' v m' [] → REnv W H' (some v :: σ) (m' :: roE δ) [] := fun r => (show REnv W H' (some v :: σ) (_ :: roE δ) ([] ++ []) from .cons r q)
    cases h1 with
    | hole => exact .hole q
    | i rd => exact go (.i (rd.mono kp))
    | lst s1 d1 => exact go (.rol (.inl (hg _ List.mem_cons_self _ s1)) (d1.mono kp))
    | rol s1 d1 => exact go (.rol (kp.rol s1) (d1.mono kp))
    | rg s1 => exact go (.rg (kp.r _ _ _ s1))
    | kc s1 d1 => exact go (.kc s1 (d1.mono kp))
    | ftp s1 d1 => exact go (.ftp (kp.frt s1) (d1.mono kp))
    | mls _ _ => exact .hole q
    | mtp _ _ => exact .hole q
    | dicK _ _ => exact .hole q
    | dicT _ _ _ => exact .hole q
    | ins _ _ _ => exact .hole q
theorem zp_ro {e : Expr} {x : Px} (he : PE X e (zp W S x)) : PE X e (zp W S (.ro x)) := ⟨fun pins s σ H Q I q => by
  obtain ⟨δ, F, m, r, e, k⟩ := q
  simp only [pv, Option.bind_eq_bind, Option.bind_eq_some_iff] at e
  obtain ⟨m1, e1, e2⟩ := e
  obtain ⟨As, nd, hA⟩ := nodup_ex (fun a => ∃ xs, H a = some (.lst xs)) F
  refine (PE.lockN he As.length).run pins s σ H Q I (lock_go As nd (fun a ha => ((hA a).mp ha).2) fun H' out at_ => ?_)
  have keep : ∀ a o, H a = some o → (∀ xs, o ≠ .lst xs) → H' a = some o := fun a o ha no => by
    rw [out a fun z => ?_]
    · exact ha
    · obtain ⟨xs, hx⟩ := ((hA a).mp z).2
      rw [ha] at hx
      cases hx
      exact no _ rfl
  have kp : Kp H H' := ⟨fun a xs ha => keep a _ ha (fun _ z => nomatch z), fun a o u ha => keep a _ ha (fun _ z => nomatch z), fun a o u ha => keep a _ ha (fun _ z => nomatch z), fun a ps ha => ⟨ps, keep a _ ha (fun _ z => nomatch z), fun t => t.mono fun c q z => keep c _ z fun xs y => by unfold LamX.CodeO at y; cases y⟩⟩
  have r2 := r.ro kp fun a ha xs hx => by
    obtain ⟨od, u, h1, h2⟩ := at_ a ((hA a).mpr ⟨ha, xs, hx⟩)
    rw [hx] at h1
    cases h1
    exact ⟨od, h2⟩
  refine ⟨roE δ, [], m1, r2, e1, fun v H2 G rv sm fr => ⟨fun a ha => ?_, ?_⟩⟩
  · obtain ⟨od, u, _, h2⟩ := at_ a ha
    rw [sm.s a _ h2 nofun, h2]
  · have nl : ∀ a, a ∈ As → ∃ od u, H2 a = some (.frz od u) := fun a ha => by
      obtain ⟨od, u, _, h2⟩ := at_ a ha
      exact ⟨od, u, sm.s a _ h2 nofun⟩
    have back : ∀ a o, H2 a = some o → (∀ od u, o ≠ .frz od u) → unl As H H2 a = some o := fun a o ha no => by
      unfold unl
      rw [if_neg fun z => ?_]
      · exact ha
      · obtain ⟨od, u, h2⟩ := nl a z
        rw [ha] at h2
        cases h2
        exact no _ _ rfl
    have same : Same H (unl As H H2) := ⟨fun a o ha n => by
      unfold unl
      by_cases hm : a ∈ As
      · rw [if_pos hm]; exact ha
      · rw [if_neg hm]
        exact sm.s a o (by rw [out a hm]; exact ha) n, fun a ps ha => by
      obtain ⟨ps', h', q⟩ := sm.t a ps (keep a _ ha fun _ z => nomatch z)
      exact ⟨ps', back a _ h' (fun _ _ z => nomatch z), fun t => (q (t.mono fun c q' z => keep c _ z fun xs y => by unfold LamX.CodeO at y; cases y)).mono fun c q' z => back c _ z fun _ _ y => by unfold LamX.CodeO at y; cases y⟩⟩
    have tups : ∀ a xs, H2 a = some (.tup xs) → unl As H H2 a = some (.tup xs) := fun a xs ha => back a _ ha fun _ _ z => by cases z
    unfold roR at e2
    split at e2
    · cases e2
      cases rv with
      | i rd => exact k v _ [] (.i (RepD.monoT tups _ rd)) same fun _ => Fresh.nil H
    · split at e2
      · rename_i hf
        cases e2
        cases rv with
        | lst s1 d1 =>
          refine k _ _ _ (.lst (back _ _ s1 fun _ _ z => by cases z) (RepDs.monoT tups _ d1)) same fun _ => ⟨by simp, fun a ha => ?_⟩
          have h3 := (fr hf).2 a ha
          by_cases hm : a ∈ As
          · obtain ⟨od, u, _, h2⟩ := at_ a hm
            rw [h2] at h3
            cases h3
          · rw [out a hm] at h3
            exact h3
      · cases e2
    · cases e2⟩
end
end Zy
end
section
/-! Zy, part G: fields, calls, comprehensions that change nothing. -/
namespace Zy
open PySem PySem.Spec PyProof.Rows L2

theorem attrBase {e : Expr} (h : noSup e = true) {f : Str} {env : PySem.Env} {w : Sem Value} : attributeBase e f env w = w := by
  unfold attributeBase
  split
  · rename_i id _ _ _
    cases h
  · rfl

theorem star_plain {e : Expr} (h : plainE e = true) (es : List Expr) (env : PySem.Env) : starEach (e :: es) env = (false, eval e env) :: starEach es env := by
  cases e <;> first | rfl | cases h
theorem star_any {pos : Pos} {env : PySem.Env} : ∀ {es : List Expr}, es.all plainE = true → (backTo pos (starEach es env)).any (·.1) = false
  | [], _ => rfl
  | e :: es, h => by
    rw [List.all_cons, Bool.and_eq_true] at h
    rw [star_plain h.1]
    show (false || (backTo pos (starEach es env)).any (·.1)) = false
    rw [star_any h.2]; rfl
theorem roM_nil {W : Wd} {H : Hp} : ∀ {ms : List M} {vs : List V} {G : List Addr}, ms.all roM = true → Reps W H vs ms G → G = []
  | [], _, _, _, h => by cases h; rfl
  | m :: ms, _, _, e, h => by
    rw [List.all_cons, Bool.and_eq_true] at e
    cases h with
    | cons h1 h2 =>
      rw [roM_nil e.2 h2, List.append_nil]
      cases h1 <;> first | rfl | cases e.1
theorem RepF.look {W : Wd} {H : Hp} {k : Nat} (hk : W.fi (W.fn k) = k) : ∀ {vs : List (Str × V)} {fs : List (Nat × M)} {F : List Addr} {m : M}, RepF W H vs fs F → fs.lookup k = some m → ∃ v G, vs.lookup (W.fn k) = some v ∧ Rep W H v m G ∧ ∀ a ∈ G, a ∈ F
  | _, _, _, _, .nil, e => by cases e
  | _, _, _, m, .cons (k := k') (fs := fs) (m := m') e0 r t, e => by
    rw [List.lookup_cons] at e
    rw [List.lookup_cons]
    by_cases h : k = k'
    · subst h
      rw [beq_self_eq_true] at e ⊢
      cases e
      exact ⟨_, _, rfl, r, fun a ha => List.mem_append_left _ ha⟩
    · have h2 : ¬ W.fn k = W.fn k' := fun z => h (by rw [← hk, z, e0])
      rw [beq_eq_false_iff_ne.mpr h] at e
      rw [beq_eq_false_iff_ne.mpr h2]
      obtain ⟨v, G, h3, h4, h5⟩ := RepF.look hk t e
      exact ⟨v, G, h3, h4, fun a ha => List.mem_append_right _ (h5 a ha)⟩

section
variable {X : Cx} {W : Wd} {S : Sg} {g : Gm}
theorem zps_nil : PA X [] (zps W S []) := by
  refine PA.imp pa_nil fun σ H Q q => ?_
  obtain ⟨δ, F, ms, r, e, k⟩ := q
  cases (show some [] = some ms from e)
  exact k [] H [] .nil (Same.refl H)
theorem zps_cons {e : Expr} {es : List Expr} {x : Px} {xs : List Px} (hp : plainE e = true) (ha : PE X e (zp W S x)) (hr : PA X es (zps W S xs)) : PA X (e :: es) (zps W S (x :: xs)) := by
  refine PA.imp (pa_cons ha hr (star_plain hp es X.env)) fun σ H Q q => ?_
  obtain ⟨δ, F, ms, r, e, k⟩ := q
  simp only [pvs, Option.bind_eq_bind, Option.bind_eq_some_iff] at e
  obtain ⟨m1, e1, ms2, e2, e3⟩ := e
  cases (show some (m1 :: ms2) = some ms from e3)
  exact ⟨δ, F, m1, r, e1, fun v H1 G r1 s1 _ => ⟨δ, F, ms2, r.same s1, e2, fun vs H2 G2 r2 s2 => k _ H2 _ (.cons (r1.same s2) r2) (s1.trans s2)⟩⟩

theorem zp_fld (C : Ct X W S g) {a : Expr} {x : Px} {f : Str} {k : Nat} {pos : Pos} (hs : noSup a = true) (hf : g.fld.lookup f = some k) (ha : PE X a (zp W S x)) : PE X (.Attribute a f pos) (zp W S (.fld x k)) := by
  refine PE.imp (pe_fld ha (attrBase hs)) fun σ H Q q => ?_
  obtain ⟨δ, F, m, r, e, kk⟩ := q
  obtain ⟨f1, f2⟩ := C.fld f k hf
  simp only [pv, Option.bind_eq_bind, Option.bind_eq_some_iff] at e
  obtain ⟨m1, e1, e2⟩ := e
  refine ⟨δ, F, m1, r, e1, fun v H' G rv sm _ => ?_⟩
  split at e2
  · rename_i c fs
    cases rv with
    | ins h0 h1 h2 =>
      have e3 : fs.lookup k = some m := by
        split at e2
        · cases e2
        · exact e2
      obtain ⟨w, G', h3, h4, _⟩ := h2.look (by rw [f1]; exact f2) e3
      rw [f1] at h3
      obtain ⟨c1, c2⟩ := C.cls _ h0
      exact ⟨_, _, _, _, w, rfl, h1, c1, c2 f k hf, h3, kk w H' G' h4 sm fun z => by cases z⟩
  · cases e2

theorem zp_call (C : Ct X W S g) {x : Str} {k : Nat} {io : Bool} {es : List Expr} {ts : List Px} {p pos : Pos} (hg : glB g.sc x = true) (hf : g.fns.lookup x = some (k, io)) (hp : es.all plainE = true) (hd : (x == ("__debug__" : Str)) = false) (hz : es = [] → ts = [])
    (ha : PA X es (zps W S ts)) : PE X (.Call (.Name x p) es [] pos) (zp W S (.call k ts)) := by
  obtain ⟨np, kk, f, fd, ps, Fn, hr0, hm, hkp, hb, hlen⟩ := (C.fns x k io hf).ex
  have hr := hr0.mono (Nat.le_add_right kk (gup g))
  have main : PE X (.Call (.Name x p) es [] pos) (tCall (spF W np (S.fn k)) [] E0 (zps W S ts)) := by
    cases es with
    | cons e es =>
      rw [List.all_cons, Bool.and_eq_true] at hp
      exact pe_call Fn hr (C.gl hg) hm hkp hb .nil passL ha hd (star_plain hp.1 es X.env) (star_any hp.2)
    | nil =>
      cases hz rfl
      refine PE.imp (pe_call0 Fn hr (C.gl hg) hm hkp hb .nil passL hd) fun σ H Q q => ?_
      obtain ⟨δ, F, ms, r, e, kq⟩ := q
      cases (show some [] = some ms from e)
      exact kq [] H [] .nil (Same.refl H)
  refine PE.imp main fun σ H Q q => ?_
  obtain ⟨δ, F, m, r, e, kq⟩ := q
  simp only [pv, Option.bind_eq_bind, Option.bind_eq_some_iff] at e
  obtain ⟨ms, e1, e2⟩ := e
  refine ⟨δ, F, ms, r, e1, fun vs H1 G rs s1 => ?_⟩
  split at e2
  · rename_i ro
    have hG := roM_nil ro rs
    subst hG
    rw [List.append_nil]
    split at e2
    · rename_i m' ms' hf'
      cases e2
      refine ⟨?_, (r.same s1).tbs, ms, [], rs, List.nodup_nil, ?_⟩
      · rw [rs.length]
        exact hlen ms (by rw [hf']; exact fun z => by cases z)
      · rw [hf']
        intro v H' G F' rv _ nd st
        refine kq v H' G rv (s1.trans ⟨fun a o h n => st.out a o h (by simp) n, st.kp.b⟩) fun _ => Fresh.back s1 ⟨(List.nodup_append.mp nd).1, fun a ha => ?_⟩
        rcases st.new a (List.mem_append_left _ ha) with z | z
        · cases z
        · exact z
    · cases e2
  · cases e2

/-! ### built-in calls -/
def bltS : Blt → Str
  | .len => "len"
  | .int => "int"
  | .min => "min"
  | .max => "max"
  | .tuple => "tuple"
  | .list => "list"
  | .all => "all"
  | .any => "any"
  | .sorted => "sorted"
  | .sum => "sum"
  | .range => "range"
  | .ftup => "tuple"
  | .abs => "abs"
set_option maxHeartbeats 2000000 in
theorem bltOf_eq {x : Str} {b : Blt} (h : bltOf x = some b) : x = bltS b := by
  unfold bltOf at h
  repeat' (split at h; · rename_i e; cases h; exact e)
  cases h
theorem bltK_eq {g : Gm} {x : Str} {b : Blt} (h : bltK g x = some b) : x = bltS b ∧ (b = .sorted → g.kt = false) := by
  unfold bltK at h
  split at h
  · cases h
  · rename_i hc
    have e := bltOf_eq h
    refine ⟨e, fun z => ?_⟩
    subst z
    subst e
    cases ht : g.kt with
    | false => rfl
    | true => rw [ht] at hc; exact (hc rfl).elim
theorem bltX_no {g : Gm} {x : Str} {es : List Expr} {b : Blt} (h : bltX g x es = some b) : b = .sorted → g.kt = false := by
  unfold bltX at h
  split at h
  · cases h
    exact fun z => by cases z
  · exact (bltK_eq h).2
theorem bltX_eq {g : Gm} {x : Str} {es : List Expr} {b : Blt} (h : bltX g x es = some b) : x = bltS b := by
  unfold bltX at h
  split at h
  · rename_i hc
    simp only [Bool.and_eq_true, decide_eq_true_eq] at hc
    cases h
    exact hc.1
  · exact (bltK_eq h).1
theorem boot_blt : ∀ b, bootBuiltins (bltS b) = some (bltV b) := by intro b; cases b <;> decide +kernel
theorem blt_nn : ∀ b, bltS b ≠ "__name__" := by intro b; cases b <;> decide +kernel
theorem blt_nd : ∀ b, (bltS b == ("__debug__" : Str)) = false := by intro b; cases b <;> decide +kernel
theorem pe_bltG (C : Ct X W S g) {b : Blt} (hno : b = .sorted → ∀ a xs, ¬ W.kk a xs) {e : Expr} {es : List Expr} {t : TA} {p pos : Pos} (hb : bltN g (bltS b) = true) (hp : (e :: es).all plainE = true) (ha : PA X (e :: es) t) : PE X (.Call (.Name (bltS b) p) (e :: es) [] pos) (tCB (rBl W b) t) := by
  obtain ⟨hg, hm⟩ := C.bltn hb
  rw [List.all_cons, Bool.and_eq_true] at hp
  have hv := boot_blt b
  have hc := call_blt C.K C.calm b hno
  cases b with
  | int => exact pe_callTy hc hg hm hv ha (blt_nn .int) (blt_nd .int) (star_plain hp.1 es X.env) (star_any hp.2)
  | tuple => exact pe_callTy hc hg hm hv ha (blt_nn .tuple) (blt_nd .tuple) (star_plain hp.1 es X.env) (star_any hp.2)
  | ftup => exact pe_callTy hc hg hm hv ha (blt_nn .ftup) (blt_nd .ftup) (star_plain hp.1 es X.env) (star_any hp.2)
  | list => exact pe_callTy hc hg hm hv ha (blt_nn .list) (blt_nd .list) (star_plain hp.1 es X.env) (star_any hp.2)
  | len => exact pe_callB hc hg hm hv ha (blt_nn .len) (blt_nd .len) (star_plain hp.1 es X.env) (star_any hp.2)
  | min => exact pe_callB hc hg hm hv ha (blt_nn .min) (blt_nd .min) (star_plain hp.1 es X.env) (star_any hp.2)
  | max => exact pe_callB hc hg hm hv ha (blt_nn .max) (blt_nd .max) (star_plain hp.1 es X.env) (star_any hp.2)
  | all => exact pe_callB hc hg hm hv ha (blt_nn .all) (blt_nd .all) (star_plain hp.1 es X.env) (star_any hp.2)
  | any => exact pe_callB hc hg hm hv ha (blt_nn .any) (blt_nd .any) (star_plain hp.1 es X.env) (star_any hp.2)
  | sorted => exact pe_callB hc hg hm hv ha (blt_nn .sorted) (blt_nd .sorted) (star_plain hp.1 es X.env) (star_any hp.2)
  | range => exact pe_callTy hc hg hm hv ha (blt_nn .range) (blt_nd .range) (star_plain hp.1 es X.env) (star_any hp.2)
  | sum => exact pe_callB hc hg hm hv ha (blt_nn .sum) (blt_nd .sum) (star_plain hp.1 es X.env) (star_any hp.2)
  | abs => exact pe_callB hc hg hm hv ha (blt_nn .abs) (blt_nd .abs) (star_plain hp.1 es X.env) (star_any hp.2)
theorem zp_blt (C : Ct X W S g) {b : Blt} (hno : b = .sorted → ∀ a xs, ¬ W.kk a xs) {e : Expr} {es : List Expr} {ts : List Px} {p pos : Pos} (hb : bltN g (bltS b) = true) (hp : (e :: es).all plainE = true) (ha : PA X (e :: es) (zps W S ts)) :
    PE X (.Call (.Name (bltS b) p) (e :: es) [] pos) (zp W S (.blt b ts)) := by
  refine PE.imp (pe_bltG C hno hb hp ha) fun σ H Q q => ?_
  obtain ⟨δ, F, m, r, e, k⟩ := q
  simp only [pv, Option.bind_eq_bind, Option.bind_eq_some_iff] at e
  obtain ⟨ms, e1, e2⟩ := e
  exact ⟨δ, F, ms, r, e1, fun vs H1 G rs s1 => ⟨ms, G, m, rs, e2, fun v H' G' rv s2 f => k v H' G' rv (s1.trans s2) fun _ => f.back s1⟩⟩

/-! ### isinstance -/
theorem tyOf_eq {x : Str} {t : Ty} (h : tyOf x = some t) : x = (tyN t : Str) := by
  unfold tyOf at h
  repeat' (split at h; · rename_i e; cases h; exact e)
  cases h
theorem boot_ty : ∀ t, bootBuiltins (tyN t : Str) = some (.type (tyN t)) := by intro b; cases b <;> decide +kernel
theorem ty_nn : ∀ t, (tyN t : Str) ≠ "__name__" := by intro b; cases b <;> decide +kernel
theorem ty_nd : ∀ t, ((tyN t : Str) == ("__debug__" : Str)) = false := by intro b; cases b <;> decide +kernel
theorem zp_isi (C : Ct X W S g) {t : Ty} {a : Expr} {x : Px} {p p2 pos : Pos} (hb : bltN g "isinstance" = true) (ht : bltN g (tyN t : Str) = true) (hp : plainE a = true) (ha : PE X a (zp W S x)) :
    PE X (.Call (.Name "isinstance" p) [a, .Name (tyN t : Str) p2] [] pos) (zp W S (.isi x t)) := by
  obtain ⟨hg, hm⟩ := C.bltn hb
  obtain ⟨tg, tm⟩ := C.bltn ht
  have p2' : PE X (.Name (tyN t : Str) p2) (tC (.ty (tyN t))) := pe_bltn tg tm (boot_ty t) rfl (ty_nn t) (ty_nd t)
  refine PE.imp (pe_callB (x := ("isinstance" : Str)) call_isi hg hm PyProof.Rows.boot_isinstance (pa_cons ha (pa_cons p2' pa_nil) (star_plain hp _ X.env)) (by decide) (by decide) (star_plain hp _ X.env) (by rfl)) fun σ H Q q => ?_
  obtain ⟨δ, F, m, r, e, k⟩ := q
  simp only [pv, Option.bind_eq_bind, Option.bind_eq_some_iff] at e
  obtain ⟨m1, e1, e2⟩ := e
  obtain ⟨bb, e4, e5⟩ := Option.map_eq_some_iff.mp e2
  subst e5
  refine ⟨δ, F, m1, r, e1, fun v H1 G r1 s1 _ => ?_⟩
  obtain ⟨n, t1, t2⟩ := r1.isi e4
  exact ⟨v, .ty (tyN t), .type n, .type (tyN t), bb, rfl, .ty _, by rw [C.K]; exact t1, by rw [C.K]; exact t2, k _ H1 [] (.i (.bl _)) s1 fun _ => Fresh.nil H⟩

/-! ### methods of texts -/
def smtS : Smt → Str
  | .count => "count"
  | .rfind => "rfind"
  | .upper => "upper"
  | .split => "split"
  | .index => "index"
  | .join => "join"
theorem smtOf_eq {x : Str} {b : Smt} (h : smtOf x = some b) : x = smtS b ∧ (b = .count ∨ b = .rfind ∨ b = .upper ∨ b = .split ∨ b = .join) := by
  unfold smtOf at h
  repeat' (split at h; · rename_i e; cases h; exact ⟨e, by simp⟩)
  cases h
theorem str_of_smt {H : Hp} {b : Smt} {v : V} {m1 : M} {ms : List M} {m : M} {G : List Addr} (r : Rep W H v m1 G) (e : smtM b m1 ms = some m) : tyV W.K "str" v H := by
  unfold smtM at e
  split at e <;> first | (cases e; done) | (cases r with | i r => cases r; rfl)
theorem zp_smt0 (C : Ct X W S g) {o : Expr} {x : Px} {ap cp : Pos} (hl : (ap.endLine == cp.line) = true) (hs : noSup o = true) (ho : PE X o (zp W S x)) : PE X (.Call (.Attribute o (smtS .upper) ap) [] [] cp) (zp W S (.smt .upper x [])) := by
  refine PE.imp (pe_bm0 PySem.F.plainAttrs_str PySem.F.slot_str_upper PySem.F.type_str_upper (mt_smt C.K .upper) ho (attrBase hs) hl) fun σ H Q q => ?_
  obtain ⟨δ, F, m, r, e, k⟩ := q
  simp only [pv, Option.bind_eq_bind, Option.bind_eq_some_iff] at e
  obtain ⟨m1, e1, ms, e2, e3⟩ := e
  cases (show some [] = some ms from e2)
  exact ⟨δ, F, m1, r, e1, fun v H1 G r1 s1 _ => ⟨by rw [C.K]; exact str_of_smt r1 e3, m1, [], G, [], m, r1, .nil, e3, fun v H' G' rv s2 f => k v H' G' rv (s1.trans s2) fun _ => f.back s1⟩⟩
theorem zp_smt1 (C : Ct X W S g) {b : Smt} (hb : b = .count ∨ b = .rfind ∨ b = .split ∨ b = .join) {o a : Expr} {x y : Px} {ap cp : Pos} (hl : (ap.endLine == cp.line) = true) (hs : noSup o = true) (hp : plainE a = true) (ho : PE X o (zp W S x)) (ha : PE X a (zp W S y)) :
    PE X (.Call (.Attribute o (smtS b) ap) [a] [] cp) (zp W S (.smt b x [y])) := by
  have hfew : ((backTo cp (starEach (a :: []) X.env)).all (fun x => !x.1) && (backToKw cp (keywordEach [] X.env)).all (fun x => x.1.isSome)
      && decide ((a :: ([] : List Expr)).length + ([] : List Keyword).length + (if ([] : List Keyword).isEmpty then 0 else 1) < 30)) = true := by
    rw [star_plain hp]; rfl
  have pa := pa_cons ha (pa_nil (X := X)) (star_plain hp [] X.env)
  have main : PE X (.Call (.Attribute o (smtS b) ap) [a] [] cp) (tBM X.K "str" (rSm W b) (zp W S x) (tCons (zp W S y) tNil)) := by
    rcases hb with rfl | rfl | rfl | rfl
    · exact pe_bm PySem.F.plainAttrs_str PySem.F.slot_str_count PySem.F.type_str_count (mt_smt C.K .count) ho pa (attrBase hs) hfew hl (star_plain hp [] X.env) rfl
    · exact pe_bm PySem.F.plainAttrs_str PySem.F.slot_str_rfind PySem.F.type_str_rfind (mt_smt C.K .rfind) ho pa (attrBase hs) hfew hl (star_plain hp [] X.env) rfl
    · exact pe_bm PySem.F.plainAttrs_str PySem.F.slot_str_split PySem.F.type_str_split (mt_smt C.K .split) ho pa (attrBase hs) hfew hl (star_plain hp [] X.env) rfl
    · exact pe_bm PySem.F.plainAttrs_str PySem.F.slot_str_join PySem.F.type_str_join (mt_smt C.K .join) ho pa (attrBase hs) hfew hl (star_plain hp [] X.env) rfl
  refine PE.imp main fun σ H Q q => ?_
  obtain ⟨δ, F, m, r, e, k⟩ := q
  simp only [pv, pvs, Option.bind_eq_bind, Option.bind_eq_some_iff] at e
  obtain ⟨m1, e1, ms, ⟨m2, e2, ms2, e4, e5⟩, e3⟩ := e
  cases (show some [] = some ms2 from e4)
  cases (show some [m2] = some ms from e5)
  exact ⟨δ, F, m1, r, e1, fun v H1 G r1 s1 _ => ⟨by rw [C.K]; exact str_of_smt r1 e3, δ, F, m2, r.same s1, e2, fun w H2 G2 r2 s2 _ => ⟨m1, [m2], G, G2 ++ [], m, r1.same s2, .cons r2 .nil, e3, fun v H' G' rv s3 f => k v H' G' rv (s1.trans (s2.trans s3)) fun _ => f.back (s1.trans s2)⟩⟩⟩
theorem idmM_ftp {l : List D} {m2 m : M} (e : idmM (.ftp l) m2 = some m) : ∃ d, m2 = .i d ∧ idxL l d = some m := by
  cases m2 with
  | i d => exact ⟨d, rfl, e⟩
  | _ => cases e
/-- the place of an equal one in a list, or in a tuple of which all is known -/
theorem zp_idm (C : Ct X W S g) {o a : Expr} {x y : Px} {ap cp : Pos} (hl : (ap.endLine == cp.line) = true) (hs : noSup o = true) (hp : plainE a = true) (ho : PE X o (zp W S x)) (ha : PE X a (zp W S y)) :
    PE X (.Call (.Attribute o "index" ap) [a] [] cp) (zp W S (.idm x y)) := by
  have hfew : ((backTo cp (starEach (a :: []) X.env)).all (fun x => !x.1) && (backToKw cp (keywordEach [] X.env)).all (fun x => x.1.isSome)
      && decide ((a :: ([] : List Expr)).length + ([] : List Keyword).length + (if ([] : List Keyword).isEmpty then 0 else 1) < 30)) = true := by
    rw [star_plain hp]; rfl
  have pa := pa_cons ha (pa_nil (X := X)) (star_plain hp [] X.env)
  refine ⟨fun pins s σ H Q I q => ?_⟩
  obtain ⟨δ, F, m, r, e, k⟩ := q
  simp only [pv, Option.bind_eq_bind, Option.bind_eq_some_iff] at e
  obtain ⟨m1, e1, m2, e2, e3⟩ := e
  have main : ∀ {l : List D} {d : D} {m : M}, idxL l d = some m → ∃ (j : Nat) (z : PyData), m = .i (.int (j : Int)) ∧ SeqAt.shaped (.list (D.pds l)) = true ∧ SeqAt.shaped d.pd = true ∧ (D.pds l)[j]? = some z ∧ PyData.eqv z d.pd = true ∧ ∀ (n : Nat) (z' : PyData), n < j → (D.pds l)[n]? = some z' → PyData.eqv z' d.pd = false := by
    intro l d m e
    unfold idxL at e
    split at e
    · rename_i hz
      obtain ⟨j, f1, f2⟩ := Option.map_eq_some_iff.mp e
      subst f2
      obtain ⟨hj, h1, h2⟩ := List.findIdx?_eq_some_iff_getElem.mp f1
      refine ⟨j, l[j].pd, rfl, hz.2, hz.1, ?_, h1, fun n z' hn hz' => ?_⟩
      · rw [D.pds_map, List.getElem?_map, List.getElem?_eq_getElem hj]
        rfl
      · have hl : n < l.length := by omega
        rw [D.pds_map, List.getElem?_map, List.getElem?_eq_getElem hl] at hz'
        cases hz'
        have := h2 n hn
        simpa [D.deq] using this
    · cases e
  have onList : (∀ l, m1 ≠ .ftp l) → tBM X.K "list" (rIndexD X.K) (zp W S x) (tCons (zp W S y) tNil) σ H Q := fun nf => by
    refine ⟨δ, F, m1, r, e1, fun v H1 G r1 s1 _ => ?_⟩
    unfold idmM at e3
    split at e3
    · obtain ⟨j, z, rfl, a1, a2, a3, a4, a5⟩ := main e3
      cases r1 with
      | lst t1 d1 =>
        refine ⟨.inl ⟨rfl, _, SqL.of t1⟩, δ, F, _, r.same s1, e2, fun w H2 G2 r2 s2 _ => ?_⟩
        cases r2 with
        | i r2 =>
          have t2 := s2.s _ _ t1 nofun
          have d2 := d1.mono (Kp.same s2)
          have dx := r2.dp
          have dl := d2.dp
          rw [← C.K] at dx dl
          exact ⟨_, w, _, _, j, z, rfl, rfl, .lst (SqL.of t2) dl, dx, a1, a2, a3, a4, a5, k _ H2 [] (.i (.int _)) (s1.trans s2) fun _ => Fresh.nil H⟩
    · obtain ⟨j, z, rfl, a1, a2, a3, a4, a5⟩ := main e3
      cases r1 with
      | rol t1 d1 =>
        refine ⟨.inl ⟨rfl, _, by rw [C.K]; exact t1.sq⟩, δ, F, _, r.same s1, e2, fun w H2 G2 r2 s2 _ => ?_⟩
        cases r2 with
        | i r2 =>
          have t2 := (Kp.same s2).rol t1
          have d2 := d1.mono (Kp.same s2)
          have dx := r2.dp
          have dl := d2.dp
          rw [← C.K] at dx dl
          exact ⟨_, w, _, _, j, z, rfl, rfl, .lst (by rw [C.K]; exact t2.sq) dl, dx, a1, a2, a3, a4, a5, k _ H2 [] (.i (.int _)) (s1.trans s2) fun _ => Fresh.nil H⟩
    · exact absurd rfl (nf _)
    · cases e3
  by_cases hf : ∃ l, m1 = .ftp l
  · obtain ⟨l, rfl⟩ := hf
    obtain ⟨d, rfl, e3⟩ := idmM_ftp e3
    obtain ⟨j, z, rfl, a1, a2, a3, a4, a5⟩ := main e3
    refine (HT.pe_idxT C.hu65 ho pa (attrBase hs) hfew hl (star_plain hp [] X.env)).run pins s σ H Q I ⟨δ, F, _, r, e1, fun v H1 G r1 s1 _ => ?_⟩
    cases r1 with
    | ftp t1 d1 =>
      obtain ⟨ob, fz, dn⟩ := t1
      refine ⟨⟨_, ob, _, rfl, fz, dn⟩, δ, F, _, r.same s1, e2, fun w H2 G2 r2 s2 _ => ?_⟩
      cases r2 with
      | i r2 =>
        have d2 := d1.mono (Kp.same s2)
        have dx := r2.dp
        have dl := d2.dp
        rw [← C.K] at dx dl
        exact ⟨_, _, w, _, _, j, z, rfl, rfl, .inl (.inr ⟨ob, s2.s _ _ fz nofun⟩), dl, dx, a1, a2, a3, a4, a5, k _ H2 [] (.i (.int _)) (s1.trans s2) fun _ => Fresh.nil H⟩
  · exact (pe_bm PySem.F.plainAttrs_list PySem.F.slot_list_index PySem.F.type_list_index (mt_indexD C.hu65) ho pa (attrBase hs) hfew hl (star_plain hp [] X.env) rfl).run pins s σ H Q I (onList fun l h => hf ⟨l, h⟩)
end
end Zy
end
section
/-! Zy, part H: what is walked; list comprehensions. -/
namespace Zy
open PySem PySem.Spec PyProof.Rows L2

/-- J walks the data l, as long as what is never written stays, and the objects at A -/
def ItOk (W : Wd) (J : It) (H1 : Hp) (A : List Addr) (l : List D) : Prop := ∀ H, Kp H1 H → (∀ a ∈ A, H a = H1 a) →
  (∀ i d, l[i]? = some d → J.go i H ∧ ∀ x H', J.yld i H x H' → H' = H ∧ RepD W.kk H x d) ∧ ∀ i, l.length ≤ i → J.stop i H

section
variable {X : Cx} {W : Wd} {S : Sg} {g : Gm} {H1 : Hp}
theorem it_list (hK : X.K = W.K) {a : Addr} {xs : List V} {l : List D} (h : H1 a = some (.lst xs)) (r : RepDs W.kk H1 xs l) : ItOk W (Itl X.K a) H1 [a] l := fun H k f => by
  have e : H a = some (.lst xs) := by rw [f a List.mem_cons_self]; exact h
  have sq : SqL X.K H a xs := SqL.of e
  refine ⟨fun i d hd => ?_, fun i hi => ⟨xs, sq, by rw [r.length]; exact hi⟩⟩
  obtain ⟨v, h1, h2⟩ := r.get hd
  exact ⟨⟨xs, v, sq, h1⟩, fun x H' ⟨e1, e2⟩ => by
    have e3 := e2 xs sq
    rw [h1] at e3
    cases e3
    exact ⟨e1, h2.mono k⟩⟩
theorem it_rol (hK : X.K = W.K) {a : Addr} {xs : List V} {l : List D} (h : Rol W.K H1 a xs) (r : RepDs W.kk H1 xs l) : ItOk W (Itl X.K a) H1 [] l := fun H k _ => by
  have sq : SqL X.K H a xs := by rw [hK]; exact (k.rol h).sq
  refine ⟨fun i d hd => ?_, fun i hi => ⟨xs, sq, by rw [r.length]; exact hi⟩⟩
  obtain ⟨v, h1, h2⟩ := r.get hd
  exact ⟨⟨xs, v, sq, h1⟩, fun x H' ⟨e1, e2⟩ => by
    have e3 := e2 xs sq
    rw [h1] at e3
    cases e3
    exact ⟨e1, h2.mono k⟩⟩
theorem it_tup (hK : X.K = W.K) {a : Addr} {xs : List V} {l : List D} (h : ∀ H, Kp H1 H → SqT X.K H a xs) (r : RepDs W.kk H1 xs l) : ItOk W (Itt X.K a) H1 [] l := fun H k _ => by
  have sq := h H k
  refine ⟨fun i d hd => ?_, fun i hi => ⟨xs, sq, by rw [r.length]; exact hi⟩⟩
  obtain ⟨v, h1, h2⟩ := r.get hd
  exact ⟨⟨xs, v, sq, h1⟩, fun x H' ⟨e1, e2⟩ => by
    have e3 := e2 xs sq
    rw [h1] at e3
    cases e3
    exact ⟨e1, h2.mono k⟩⟩
theorem it_str (x : Str) : ItOk W (Its x) H1 [] (x.cps.toList.map fun c => .str ⟨#[c]⟩) := fun H k _ => by
  refine ⟨fun i d hd => ?_, fun i hi => by show x.cps.size ≤ i; simpa using hi⟩
  rw [List.getElem?_map, Array.getElem?_toList] at hd
  obtain ⟨c, h1, h2⟩ := Option.map_eq_some_iff.mp hd
  subst h2
  refine ⟨(Array.getElem?_eq_some_iff.mp h1).1, fun v H' ⟨e1, c', h3, e2⟩ => ?_⟩
  rw [h1] at h3
  cases h3
  subst e2
  exact ⟨e1, .str _⟩
theorem rngL_len : ∀ (n : Nat) (a : Int), (rngL a n).length = n
  | 0, _ => rfl
  | n + 1, a => congrArg (· + 1) (rngL_len n (a + 1))
theorem rngL_get : ∀ (n : Nat) (a : Int) (i : Nat) (d : D), (rngL a n)[i]? = some d → i < n ∧ d = .int (a + i)
  | 0, _, _, _, h => by simp [rngL] at h
  | n + 1, a, 0, d, h => by
    simp [rngL] at h
    exact ⟨Nat.succ_pos n, by rw [← h]; simp⟩
  | n + 1, a, i + 1, d, h => by
    obtain ⟨h1, h2⟩ := rngL_get n (a + 1) i d (by simpa [rngL] using h)
    refine ⟨by omega, ?_⟩
    rw [h2]
    congr 1
    omega
theorem it_rng (a : Int) (n : Nat) : ItOk W (Itr a n) H1 [] (rngL a n) := fun H k _ => by
  refine ⟨fun i d hd => ?_, fun i hi => by rw [rngL_len] at hi; exact hi⟩
  obtain ⟨h1, h2⟩ := rngL_get n a i d hd
  subst h2
  exact ⟨h1, fun x H' ⟨e1, e2⟩ => by subst e2; exact ⟨e1, .int _⟩⟩

/-- whether the walked value is new, or no list of ours -/
def frsT : Ti → Bool
  | .e x => frs x
  | _ => true
def ziE (W : Wd) (S : Sg) (x : Px) : TI := fun σ H R => ∃ δ F m l, REnv W H σ δ F ∧ pv S x δ = some m ∧ itL m = some l ∧ ∀ J H1 A, Same H H1 → ItOk W J H1 A l →
  (A = [] ∨ ∃ a xs, A = [a] ∧ (∃ l', m = .lst l') ∧ H1 a = some (.lst xs) ∧ (frs x = true → H a = none)) → R J H1
def rngT : Ti → Bool
  | .e _ => false
  | _ => true
def zi (W : Wd) (S : Sg) (t : Ti) : TI := fun σ H R => ∃ δ F l, REnv W H σ δ F ∧ tiL S t δ = some l ∧ ∀ J H1 A, Same H H1 → ItOk W J H1 A l → ((∀ a ∈ A, ∃ o, H1 a = some o ∧ NT o) ∧ (rngT t = true → A = []) ∧ (itRo S t δ = true → A = [])) → R J H1

theorem rngOk_iff {n : Int} (h : rngOk n = true) : -(2 ^ 62) ≤ n ∧ n < 2 ^ 62 := of_decide_eq_true h
theorem zi_e (C : Ct X W S g) {tg e : Expr} {x : Px} (ha : PE X e (zp W S x)) : PI X tg e (ziE W S x) := by
  refine ⟨fun pins s σ H R I h => ?_⟩
  obtain ⟨δ, F, m, l, r, e1, e2, k⟩ := h
  unfold itL at e2
  split at e2
  · cases e2
    refine (pi_tup ha).run pins s σ H R I ⟨δ, F, _, r, e1, fun v H1 G rv sm f => ?_⟩
    cases rv with
    | i rv =>
      cases rv with
      | tup s1 d1 => exact ⟨_, rfl, ⟨_, s1.sqX C.K⟩, k _ H1 [] sm (it_tup C.K (fun H k => k.sqT (s1.sqX C.K)) d1) (.inl rfl)⟩
  · cases e2
    refine (pi_str ha).run pins s σ H R I ⟨δ, F, _, r, e1, fun v H1 G rv sm f => ?_⟩
    cases rv with
    | i rv =>
      cases rv
      exact ⟨_, rfl, k _ H1 [] sm (it_str _) (.inl rfl)⟩
  · cases e2
    refine (pi_list ha).run pins s σ H R I ⟨δ, F, _, r, e1, fun v H1 G rv sm f => ?_⟩
    cases rv with
    | lst s1 d1 => exact ⟨_, rfl, ⟨_, SqL.of s1⟩, k _ H1 _ sm (it_list C.K s1 d1) (.inr ⟨_, _, rfl, ⟨_, rfl⟩, s1, fun z => (f z).2 _ List.mem_cons_self⟩)⟩
  · cases e2
    refine (pi_list ha).run pins s σ H R I ⟨δ, F, _, r, e1, fun v H1 G rv sm f => ?_⟩
    cases rv with
    | rol s1 d1 => exact ⟨_, rfl, ⟨_, by rw [C.K]; exact s1.sq⟩, k _ H1 [] sm (it_rol C.K s1 d1) (.inl rfl)⟩
  · cases e2
    refine (pi_tup ha).run pins s σ H R I ⟨δ, F, _, r, e1, fun v H1 G rv sm f => ?_⟩
    cases rv with
    | kc s1 d1 => exact ⟨_, rfl, ⟨_, by rw [C.K]; exact s1.sq⟩, k _ H1 [] sm (it_tup C.K (fun H k => by rw [C.K]; exact s1.sq) d1) (.inl rfl)⟩
  · cases e2
    refine (pi_tup ha).run pins s σ H R I ⟨δ, F, _, r, e1, fun v H1 G rv sm f => ?_⟩
    cases rv with
    | ftp s1 d1 => exact ⟨_, rfl, ⟨_, s1.sq⟩, k _ H1 [] sm (it_tup C.K (fun H k => (k.frt s1).sq) d1) (.inl rfl)⟩
  · split at e2
    · rename_i hz
      cases e2
      rw [Bool.and_eq_true] at hz
      obtain ⟨h1, h2⟩ := rngOk_iff hz.1
      obtain ⟨h3, h4⟩ := rngOk_iff hz.2
      refine (pi_rngV ha).run pins s σ H R I ⟨δ, F, _, r, e1, fun v H1 G rv sm f => ?_⟩
      cases rv with
      | rg s1 => exact ⟨_, _, _, rfl, s1, ⟨h1, h2, h3, h4⟩, k _ H1 [] sm (it_rng _ _) (.inl rfl)⟩
    · cases e2
  · cases e2
theorem PI.imp {tg e : Expr} {t t' : TI} (h : PI X tg e t) (i : ∀ σ H Q, t' σ H Q → t σ H Q) : PI X tg e t' := ⟨fun pins s σ H Q I q => h.run pins s σ H Q I (i σ H Q q)⟩
theorem zi_of_e {tg e : Expr} {x : Px} (h : PI X tg e (ziE W S x)) : PI X tg e (zi W S (.e x)) := PI.imp h fun σ H Q q => by
  obtain ⟨δ, F, l, r, e, k⟩ := q
  simp only [tiL, Option.bind_eq_bind, Option.bind_eq_some_iff] at e
  obtain ⟨m, e1, e2⟩ := e
  refine ⟨δ, F, m, l, r, e1, e2, fun J H1 A sm ok ha => k J H1 A sm ok ⟨fun a h => ?_, fun z => (by cases z), fun z => ?_⟩⟩
  · rcases ha with rfl | ⟨b, xs, rfl, _, hb, _⟩
    · cases h
    · rw [List.mem_singleton.mp h]
      exact ⟨_, hb, nofun⟩
  · rcases ha with rfl | ⟨b, xs, _, ⟨l', rfl⟩, _⟩
    · rfl
    · simp only [itRo, e1] at z
      cases z
theorem zi_rng1 (C : Ct X W S g) {tg a : Expr} {x : Px} {p pos : Pos} (hb : bltN g "range" = true) (hp : plainE a = true) (ha : PE X a (zp W S x)) : PI X tg (.Call (.Name "range" p) [a] [] pos) (zi W S (.rng1 x)) := by
  obtain ⟨hg, hm⟩ := C.bltn hb
  refine PI.imp (pi_range1 hg hm (pa_cons ha pa_nil (star_plain hp [] X.env)) (star_plain hp [] X.env)) fun σ H Q q => ?_
  obtain ⟨δ, F, l, r, e, k⟩ := q
  simp only [tiL, Option.bind_eq_bind, Option.bind_eq_some_iff] at e
  obtain ⟨m, e1, e2⟩ := e
  split at e2
  · split at e2
    · rename_i n hz
      cases e2
      obtain ⟨h1, h2⟩ := rngOk_iff hz
      refine ⟨δ, F, _, r, e1, fun v H1 G rv sm f => ?_⟩
      cases rv with
      | i rv =>
        cases rv
        exact ⟨_, rfl, h1, h2, k _ H1 [] sm (it_rng 0 _) ⟨fun a h => (by cases h), fun _ => rfl, fun _ => rfl⟩⟩
    · cases e2
  · cases e2
theorem zi_rng2 (C : Ct X W S g) {tg a b : Expr} {x y : Px} {p pos : Pos} (hb : bltN g "range" = true) (hp : plainE a = true) (hp2 : plainE b = true) (ha : PE X a (zp W S x)) (hbb : PE X b (zp W S y)) :
    PI X tg (.Call (.Name "range" p) [a, b] [] pos) (zi W S (.rng2 x y)) := by
  obtain ⟨hg, hm⟩ := C.bltn hb
  have s2 : starEach [b] X.env = [(false, eval b X.env)] := star_plain hp2 [] X.env
  have s1 : starEach [a, b] X.env = [(false, eval a X.env), (false, eval b X.env)] := by rw [star_plain hp, s2]
  refine PI.imp (pi_range2 hg hm (pa_cons ha (pa_cons hbb pa_nil s2) (star_plain hp [b] X.env)) s1 s2) fun σ H Q q => ?_
  obtain ⟨δ, F, l, r, e, k⟩ := q
  simp only [tiL, Option.bind_eq_bind, Option.bind_eq_some_iff] at e
  obtain ⟨m, e1, m2, e2, e3⟩ := e
  split at e3
  · split at e3
    · rename_i n1 n2 hz
      cases e3
      rw [Bool.and_eq_true] at hz
      obtain ⟨h1, h2⟩ := rngOk_iff hz.1
      obtain ⟨h3, h4⟩ := rngOk_iff hz.2
      refine ⟨δ, F, _, r, e1, fun v H1 G rv sm f => ⟨δ, F, _, r.same sm, e2, fun w H2 G2 rw' sm2 f2 => ?_⟩⟩
      cases rv with
      | i rv =>
        cases rw' with
        | i rw' =>
          cases rv
          cases rw'
          exact ⟨_, _, rfl, ⟨h1, h2, h3, h4⟩, k _ H2 [] (sm.trans sm2) (it_rng _ _) ⟨fun a h => (by cases h), fun _ => rfl, fun _ => rfl⟩⟩
    · cases e3
  · cases e3

/-! ### targets -/
def gz (W : Wd) (t : Tg) : TG := fun v σ H Q => ∃ d, RepD W.kk H v d ∧ ∃ δ F δ', REnv W H σ δ F ∧ tgSet t d δ = some δ' ∧ ∀ σ' F', REnv W H σ' δ' F' → (∀ a ∈ F', a ∈ F) → (F.Nodup → F'.Nodup) → (∀ i, i ∉ tgW t → σ'[i]? = σ[i]?) → σ'.length = σ.length → Q σ' H
/-- an immutable value laid into a slot -/
theorem REnv.setI {H : Hp} {σ : L2.St} {δ : Env} {F : List Addr} (r : REnv W H σ δ F) {i : Nat} (hi : i < δ.length) {v : V} {d : D} (rv : RepD W.kk H v d) :
    ∃ F', REnv W H (σ.set i (some v)) (δ.set i (.i d)) F' ∧ (∀ a ∈ F', a ∈ F) ∧ (F.Nodup → F'.Nodup) := by
  obtain ⟨A, G, B, ov, e, _, _, cl⟩ := r.focus hi
  refine ⟨A ++ ([] ++ B), cl H (some v) (.i d) [] (Kp.refl H) (fun _ _ _ h _ => h) (.some (.i rv)), fun a ha => ?_, fun nd => ?_⟩
  · rw [e]
    rcases List.mem_append.mp ha with z | z
    · exact List.mem_append_left _ z
    · exact List.mem_append_right _ (List.mem_append_right _ z)
  · rw [e] at nd
    exact nd.sublist ((List.Sublist.refl A).append ((List.nil_sublist G).append (List.Sublist.refl B)))
theorem tgNm_ok (C : Ct X W S g) {x : Str} {p : Pos} {i : Nat} (h : tgNm g (.Name x p) = some i) :
    X.N[i]? = some x ∧ Loc X.env.scope x ∧ (X.fn x = true ∨ X.env.scope.names.lookup x = some .local) ∧ i ∉ g.pr := by
  simp only [tgNm] at h
  split at h
  · rename_i j hs
    split at h
    · rename_i hc
      cases h
      rw [Bool.and_eq_true] at hc
      refine ⟨(C.slot hs).1, ?_⟩
      have hk : X.env.scope.names.lookup x = some .local ∨ (X.env.scope.names.lookup x = some .cell ∧ X.fn x = true) := by
        rw [C.sc]
        rcases Bool.or_eq_true _ _ ▸ hc.1 with z | z
        · exact .inl (eq_of_beq z)
        · rw [Bool.and_eq_true] at z
          exact .inr ⟨eq_of_beq z.2, C.fcl x z.1⟩
      refine ⟨?_, ?_, by simpa using hc.2⟩
      · rcases hk with z | z
        · exact .inl z
        · exact .inr z.1
      · rcases hk with z | z
        · exact .inr z
        · exact .inl z.2
    · cases h
  · cases h
theorem tgNm_name {e : Expr} {i : Nat} (h : tgNm g e = some i) : ∃ x p, e = .Name x p := by
  unfold tgNm at h
  split at h
  · exact ⟨_, _, rfl⟩
  · cases h
theorem gz_nm (C : Ct X W S g) {e : Expr} {i : Nat} (h : tgNm g e = some i) : PG X e (gz W (.nm i)) := by
  obtain ⟨x, p, rfl⟩ := tgNm_name h
  obtain ⟨h1, h2, h3, _⟩ := tgNm_ok C h
  have nd : X.N.Nodup := by rw [C.N]; exact C.nd
  refine ⟨fun pins s σ H v u Q I r hq => (pg_name nd h1 h2 h3).run pins s σ H v u Q I r ?_⟩
  obtain ⟨d, rd, δ, F, δ', re, e, k⟩ := hq
  have e : (if i < δ.length then some (δ.set i (.i d)) else none) = some δ' := e
  split at e
  · rename_i hi
    cases e
    obtain ⟨F', r1, r2, r3⟩ := re.setI hi rd
    exact k _ F' r1 r2 r3 (fun j hj => List.getElem?_set_ne (fun z => hj (by simp [tgW, z]))) (by simp)
  · cases e

def gzs (W : Wd) (l : List Nat) : TGs := fun vs σ H Q => ∃ ds, RepDs W.kk H vs ds ∧ l.length = ds.length ∧ ∃ δ F, REnv W H σ δ F ∧ l.all (· < δ.length) = true ∧
  ∀ σ' F', REnv W H σ' ((l.zip ds).foldl (fun δ p => δ.set p.1 (.i p.2)) δ) F' → (∀ a ∈ F', a ∈ F) → (F.Nodup → F'.Nodup) → (∀ i, i ∉ l → σ'[i]? = σ[i]?) → σ'.length = σ.length → Q σ' H
theorem PG.imp {e : Expr} {t t' : TG} (h : PG X e t) (i : ∀ v σ H Q, t' v σ H Q → t v σ H Q) : PG X e t' := ⟨fun pins s σ H v u Q I r q => h.run pins s σ H v u Q I r (i v σ H Q q)⟩
theorem PGs.imp {e : List Expr} {t t' : TGs} (h : PGs X e t) (i : ∀ v σ H Q, t' v σ H Q → t v σ H Q) : PGs X e t' := ⟨fun pins s σ H v u Q I r q => h.run pins s σ H v u Q I r (i v σ H Q q)⟩
theorem asgEach {e : Expr} {i : Nat} (h : tgNm g e = some i) (es : List Expr) (env : PySem.Env) : assignEach (e :: es) env = (false, assign e env) :: assignEach es env := by
  obtain ⟨x, p, rfl⟩ := tgNm_name h
  rfl
theorem gzs_ok (C : Ct X W S g) : ∀ {es : List Expr} {l : List Nat}, es.mapM (tgNm g) = some l → PGs X es (gzs W l) ∧ (assignEach es X.env).length = l.length ∧ (assignEach es X.env).findIdx? (·.1) = none
  | [], l, h => by
    cases (show some [] = some l from h)
    refine ⟨PGs.imp pgs_nil fun vs σ H Q q => ?_, rfl, rfl⟩
    obtain ⟨ds, rd, e, δ, F, r, _, k⟩ := q
    cases rd with
    | nil => exact ⟨rfl, k σ F r (fun _ h => h) (fun h => h) (fun _ _ => rfl) rfl⟩
    | cons _ _ => cases e
  | e :: es, l, h => by
    rw [List.mapM_cons] at h
    simp only [Option.bind_eq_bind, Option.bind_eq_some_iff] at h
    obtain ⟨i, h1, l', h2, h3⟩ := h
    cases (show some (i :: l') = some l from h3)
    obtain ⟨ih, il, iff⟩ := gzs_ok C h2
    have ea := asgEach h1 es X.env
    refine ⟨PGs.imp (pgs_cons (gz_nm C h1) ih (by rw [ea]; rfl)) fun vs σ H Q q => ?_, by rw [ea, List.length_cons, il]; rfl, by rw [ea, List.findIdx?_cons, iff]; rfl⟩
    obtain ⟨ds, rd, e, δ, F, r, ha, k⟩ := q
    cases rd with
    | nil => cases e
    | cons r1 r2 =>
      rename_i v vs d ds
      rw [List.all_cons, Bool.and_eq_true] at ha
      refine ⟨_, _, rfl, d, r1, δ, F, δ.set i (.i d), r, ?_, fun σ' F' r' sub nd out hl => ?_⟩
      · show (if i < δ.length then some (δ.set i (.i d)) else none) = _
        rw [if_pos (of_decide_eq_true ha.1)]
      · refine ⟨ds, r2, Nat.succ.inj e, δ.set i (.i d), F', r', ?_, fun σ2 F2 r3 sub2 nd2 out2 hl2 => ?_⟩
        · rw [List.length_set]
          exact ha.2
        · refine k σ2 F2 r3 (fun a h => sub a (sub2 a h)) (fun h => nd2 (nd h)) (fun j hj => ?_) (hl2.trans hl)
          rw [List.mem_cons, not_or] at hj
          rw [out2 j hj.2, out j (by simp [tgW, hj.1])]
theorem gz_tp (C : Ct X W S g) {es : List Expr} {l : List Nat} {k : Nat} {pos : Pos} (h : es.mapM (tgNm g) = some l) : PG X (.Tuple es k pos) (gz W (.tp l)) := by
  obtain ⟨h1, h2, h3⟩ := gzs_ok C h
  refine PG.imp (pg_tup C.calm h1 h2 h3) fun v σ H Q q => ?_
  obtain ⟨d, rd, δ, F, δ', r, e, kk⟩ := q
  cases rd with
  | tup s1 d1 =>
    rename_i a xs ds
    have e : (if l.length = ds.length ∧ l.all (· < δ.length) then some ((l.zip ds).foldl (fun δ p => δ.set p.1 (.i p.2)) δ) else none) = some δ' := e
    split at e
    · rename_i hz
      cases e
      exact ⟨a, xs, rfl, s1.sqX C.K, by rw [d1.length, hz.1], ds, d1, hz.1, δ, F, r, hz.2, kk⟩
    · cases e
  | _ => cases e
theorem gz_ok (C : Ct X W S g) {e : Expr} {t : Tg} (h : tgOf g e = some t) : PG X e (gz W t) := by
  unfold tgOf at h
  split at h
  · obtain ⟨l, h1, h2⟩ := Option.map_eq_some_iff.mp h
    subst h2
    exact gz_tp C h1
  · obtain ⟨i, h1, h2⟩ := Option.map_eq_some_iff.mp h
    subst h2
    exact gz_nm C h1

/-! ### comprehensions -/
theorem REnv.wipe {H : Hp} {σ : L2.St} {δ : Env} {F : List Addr} (r : REnv W H σ δ F) : ∀ vs : List Nat, ∃ F', REnv W H (L2.wipe σ vs) (wipeE δ vs) F' ∧ ∀ a ∈ F', a ∈ F
  | [] => ⟨F, r, fun _ h => h⟩
  | v :: vs => by
    obtain ⟨F', r', sub⟩ := REnv.wipe r vs
    show ∃ F'', REnv W H ((L2.wipe σ vs).set v none) ((wipeE δ vs).set v .hole) F'' ∧ _
    by_cases hv : v < (wipeE δ vs).length
    · obtain ⟨A, G, B, ov, e, _, _, cl⟩ := r'.focus hv
      refine ⟨A ++ ([] ++ B), cl H none .hole [] (Kp.refl H) (fun _ _ _ h _ => h) (.hole none), fun a ha => sub a ?_⟩
      rw [e]
      rcases List.mem_append.mp ha with z | z
      · exact List.mem_append_left _ z
      · exact List.mem_append_right _ (List.mem_append_right _ z)
    · rw [List.set_eq_of_length_le (by rw [r'.length]; omega), List.set_eq_of_length_le (by omega)]
      exact ⟨F', r', sub⟩
theorem lcL_app (f : D → Option (Option D)) : ∀ {l : List D} {r : List D} {i : Nat}, lcL f l = some r → i ≤ l.length → ∃ p q, lcL f (l.take i) = some p ∧ lcL f (l.drop i) = some q ∧ r = p ++ q
  | [], r, i, h, _ => ⟨[], r, by simp [lcL], by simpa using h, rfl⟩
  | d :: l, r, 0, h, _ => ⟨[], r, rfl, h, rfl⟩
  | d :: l, r, i + 1, h, hi => by
    simp only [lcL, Option.bind_eq_bind, Option.bind_eq_some_iff] at h
    obtain ⟨x, h1, ys, h2, h3⟩ := h
    obtain ⟨p, q, h4, h5, h6⟩ := lcL_app f h2 (Nat.le_of_succ_le_succ hi)
    have h3 : some (x.toList ++ ys) = some r := h3
    cases h3
    refine ⟨x.toList ++ p, q, ?_, h5, ?_⟩
    · rw [List.take_succ_cons]
      simp only [lcL, h1, h4]
      rfl
    · rw [h6, List.append_assoc]
theorem lcL_step {f : D → Option (Option D)} {l r : List D} {i : Nat} {d : D} {p : List D} (h : lcL f l = some r) (hd : l[i]? = some d) (hp : lcL f (l.take i) = some p) :
    ∃ x, f d = some x ∧ lcL f (l.take (i + 1)) = some (p ++ x.toList) ∧ (p ++ x.toList).length ≤ r.length := by
  have hi : i < l.length := (List.getElem?_eq_some_iff.mp hd).1
  obtain ⟨p1, q1, e1, e2, e3⟩ := lcL_app f h (Nat.le_of_lt hi)
  obtain ⟨p2, q2, e4, e5, e6⟩ := lcL_app f h (i := i + 1) hi
  rw [hp] at e1
  cases e1
  have e7 : l.drop i = d :: l.drop (i + 1) := by
    rw [List.drop_eq_getElem_cons hi]
    rw [(List.getElem?_eq_some_iff.mp hd).2]
  rw [e7] at e2
  simp only [lcL, Option.bind_eq_bind, Option.bind_eq_some_iff] at e2
  obtain ⟨x, e8, ys, e9, e10⟩ := e2
  rw [e5] at e9
  cases e9
  have e10 : some (x.toList ++ q2) = some q1 := e10
  cases e10
  have e11 : p ++ x.toList ++ q2 = p2 ++ q2 := by rw [← e6, e3, List.append_assoc]
  have e12 := List.append_cancel_right e11
  refine ⟨x, e8, by rw [e4, e12], ?_⟩
  rw [e6, e12, List.length_append]
  omega
theorem Kp.put {H : Hp} {D : Addr} {o o' : HO} (h : H D = some o) (ho : Own o) : Kp H (upd H D o') := by
  refine ⟨fun a xs e => ?_, fun a o1 u e => ?_, fun a o1 u e => ?_, fun a ps e => ⟨ps, ?_, fun t => t.upd (Own.noC h ho)⟩⟩
  · rw [upd_ne (fun z => ?_)]
    · exact e
    · subst z; rw [h] at e; cases e; exact ho
  · rw [upd_ne (fun z => ?_)]
    · exact e
    · subst z; rw [h] at e; cases e; exact ho
  · rw [upd_ne (fun z => ?_)]
    · exact e
    · subst z; rw [h] at e; cases e; exact ho
  · rw [upd_ne (fun z => ?_)]
    · exact e
    · subst z; rw [h] at e; cases e; exact ho
theorem RepDs.app {K : Kc} {H : Hp} : ∀ {vs ws : List V} {ds es : List D}, RepDs K H vs ds → RepDs K H ws es → RepDs K H (vs ++ ws) (ds ++ es)
  | _, _, _, _, .nil, h => h
  | _, _, _, _, .cons a t, h => .cons a (RepDs.app t h)
theorem wipe_len : ∀ (vs : List Nat) (σ : L2.St), (L2.wipe σ vs).length = σ.length
  | [], _ => rfl
  | v :: vs, σ => by show ((L2.wipe σ vs).set v none).length = _; rw [List.length_set, wipe_len vs σ]
theorem wipe_get : ∀ (vs : List Nat) (σ : L2.St) (i : Nat), (L2.wipe σ vs)[i]? = if i ∈ vs then σ[i]?.map (fun _ => none) else σ[i]?
  | [], σ, i => by simp [L2.wipe]
  | v :: vs, σ, i => by
    show ((L2.wipe σ vs).set v none)[i]? = _
    rw [List.getElem?_set]
    by_cases h : v = i
    · subst h
      rw [if_pos rfl, if_pos List.mem_cons_self]
      have hl : (L2.wipe σ vs).length = σ.length := wipe_len vs σ
      by_cases h2 : v < σ.length
      · rw [if_pos (by omega), List.getElem?_eq_getElem h2]; rfl
      · rw [if_neg (by omega), List.getElem?_eq_none (by omega)]; rfl
    · rw [if_neg h, wipe_get vs σ i]
      by_cases h2 : i ∈ vs
      · rw [if_pos h2, if_pos (List.mem_cons_of_mem _ h2)]
      · rw [if_neg h2, if_neg (by rw [List.mem_cons, not_or]; exact ⟨fun z => h z.symm, h2⟩)]
theorem wipe_back {vs l : List Nat} {σ σ2 : L2.St} (ht : l ⊆ vs) (out : ∀ i, i ∉ l → σ2[i]? = (L2.wipe σ vs)[i]?) (hl : σ2.length = (L2.wipe σ vs).length) : L2.wipe σ2 vs = L2.wipe σ vs := by
  apply List.ext_getElem?
  intro i
  rw [wipe_get, wipe_get]
  by_cases h : i ∈ vs
  · rw [if_pos h, if_pos h]
    have e : σ2.length = σ.length := by rw [hl, wipe_len]
    by_cases h2 : i < σ.length
    · rw [List.getElem?_eq_getElem h2, List.getElem?_eq_getElem (by omega)]; rfl
    · rw [List.getElem?_eq_none (by omega), List.getElem?_eq_none (by omega)]
  · rw [if_neg h, if_neg h, out i (fun z => h (ht z)), wipe_get, if_neg h]
def lcF (S : Sg) (t : Tg) (c : Pt) (x : Px) (δw : Env) : D → Option (Option D) := fun d => do
      let δ1 ← tgSet t d δw
      let k ← tv S c δ1
      if k then (do match ← pv S x δ1 with | .i d => some (some d) | _ => none) else some none
/-- a pure comprehension -/
theorem lc_imp {t : Tg} {it : Ti} {c : Pt} {x : Px} {vs : List Nat} (ht : tgW t ⊆ vs) : ∀ σ H Q, zp W S (.lc vs t it c x) σ H Q → tLc (zi W S it) (gz W t) (zt W S c) (zp W S x) vs σ H Q := fun σ H Q q => by
  obtain ⟨δ, F, m, r, e, k⟩ := q
  simp only [pv, Option.bind_eq_bind, Option.bind_eq_some_iff] at e
  obtain ⟨l, e1, rr, e2, e3⟩ := e
  split at e3
  · rename_i hz
    cases e3
    have e2 : lcL (lcF S t c x (wipeE δ vs)) l = some rr := e2
    refine ⟨δ, F, l, r, e1, fun J H1 A sm ok1 hA D hD => ?_⟩
    have rw1 := r.same sm
    obtain ⟨Fw, rww, _⟩ := rw1.wipe vs
    have s1 : Same H1 (upd H1 D (.lst [])) := Same.new hD
    refine ⟨fun i n H' => n = l.length - i ∧ i ≤ l.length ∧ Same H1 (fun b => if b = D then none else H' b) ∧ ∃ acc ds, H' D = some (.lst acc) ∧ RepDs W.kk H' acc ds ∧ lcL (lcF S t c x (wipeE δ vs)) (l.take i) = some ds ∧ ds.length ≤ rr.length,
      ⟨l.length, rfl, Nat.zero_le _, s1.hide hD (NoC.lst upd_same), [], [], upd_same, .nil, rfl, Nat.zero_le _⟩, ?_⟩
    · rintro i n H' ⟨rfl, hi', sm', acc, ds, hacc, rd, hl, hlen⟩
      have sm2 : Same H1 H' := sm'.unhide hD
      have kp : Kp H1 H' := Kp.same sm2
      obtain ⟨ok2, ok3⟩ := ok1 H' kp fun a ha => by
        obtain ⟨o, ho, no⟩ := hA.1 a ha
        rw [sm2.s a o ho no, ho]
      by_cases hlt : i < l.length
      · refine .inr ?_
        obtain ⟨go, yl⟩ := ok2 i l[i] (List.getElem?_eq_getElem hlt)
        obtain ⟨y, h5, h6, h7⟩ := lcL_step e2 (List.getElem?_eq_getElem hlt) hl
        refine ⟨go, fun H2 => i + 1 ≤ l.length ∧ Same H1 (fun b => if b = D then none else H2 b) ∧ ∃ acc ds, H2 D = some (.lst acc) ∧ RepDs W.kk H2 acc ds ∧ lcL (lcF S t c x (wipeE δ vs)) (l.take (i + 1)) = some ds ∧ ds.length ≤ rr.length,
          fun H2 ⟨z1, z2, z3⟩ => ⟨l.length - (i + 1), by omega, rfl, z1, z2, z3⟩, fun v H2 hy => ?_⟩
        obtain ⟨e5, rv⟩ := yl v H2 hy
        subst e5
        simp only [lcF, Option.bind_eq_bind, Option.bind_eq_some_iff] at h5
        obtain ⟨δ1, h8, kk, h9, h10⟩ := h5
        refine ⟨_, rv, wipeE δ vs, Fw, δ1, rww.mono kp (fun a _ o ho n => sm2.s a o ho n), h8, fun σ2 F2 r2 _ _ out hlen2 => ⟨?_, ?_⟩⟩
        · exact wipe_back ht out hlen2
        · refine ⟨δ1, F2, kk, r2, h9, fun H3 s3 => ?_⟩
          cases kk with
          | false =>
            rw [if_neg Bool.false_ne_true]
            cases h10
            refine ⟨hlt, (sm2.trans s3).hide hD (NoC.lst (s3.s _ _ hacc nofun)), acc, ds, s3.s _ _ hacc nofun, RepDs.mono (Kp.same s3) _ rd, ?_, hlen⟩
            · simpa using h6
          | true =>
            rw [if_pos rfl]
            rw [if_pos rfl] at h10
            obtain ⟨m, h11, h12⟩ := Option.bind_eq_some_iff.mp h10
            split at h12
            · cases h12
              refine ⟨δ1, F2, _, r2.same s3, h11, fun w H4 G rw4 s4 _ => ?_⟩
              have h13 : H4 D = some (.lst acc) := s4.s _ _ (s3.s _ _ hacc nofun) nofun
              have h14 : ds.length + 1 ≤ rr.length := by simpa using h7
              have s5 : Same H2 H4 := s3.trans s4
              have k5 := Kp.put h13 trivial (o' := .lst (acc ++ [w]))
              cases rw4 with
              | i rw4 =>
                refine ⟨acc, h13, by rw [rd.length]; omega, hlt, ((sm2.trans s5).upd hD (NoC.lst h13)).hide hD (NoC.lst upd_same), acc ++ [w], ds ++ [_], upd_same, (RepDs.mono ((Kp.same s5).trans k5) _ rd).app (.cons (rw4.mono k5 _) .nil), by simpa using h6, by simpa using h7⟩
            · cases h12
      · have e5 : i = l.length := by omega
        subst e5
        refine .inl ⟨ok3 _ (Nat.le_refl _), ?_⟩
        rw [List.take_length, e2] at hl
        cases hl
        exact k _ H' [D] (.lst hacc rd) (sm.trans sm2) fun _ => ⟨by simp, fun a ha => by rw [List.mem_singleton.mp ha]; exact sm.free hD⟩
  · cases e3
theorem zp_lc (C : Ct X W S g) {elt tg iter : Expr} {ifs : List Expr} {scope : Scope} {own : List (Str × Nat)} {pos : Pos} {t : Tg} {it : Ti} {c : Pt} {x : Px} (hi : PI X tg iter (zi W S it)) (ok : BlkOk X.N X.env.scope scope own)
    (hs : ∀ x, foldedSetIterable iter X.env x = pure x) (ht : tgW t ⊆ own.map (·.2))
    (hg : ∀ (s : Shared) (H : Hp) (D : Addr) (cl : List (Str × Addr)) (fp : List Addr), PG (X.blk s H scope (compEnvC scope cl D X.env) fp) tg (gz W t))
    (hc : ∀ (s : Shared) (H : Hp) (D : Addr) (cl : List (Str × Addr)) (fp : List Addr), PTs (X.blk s H scope (compEnvC scope cl D X.env) fp) ifs (zt W S c))
    (he : ∀ (s : Shared) (H : Hp) (D : Addr) (cl : List (Str × Addr)) (fp : List Addr), PE (X.blk s H scope (compEnvC scope cl D X.env) fp) elt (zp W S x)) :
    PE X (.ListComp elt [⟨tg, iter, ifs, 0⟩] scope pos) (zp W S (.lc (own.map (·.2)) t it c x)) := by
  have nd : X.N.Nodup := by rw [C.N]; exact C.nd
  exact PE.imp (pe_lc C.calm nd hi ok hg hc he hs) (lc_imp ht)
end
end Zy
end
section
/-! Zy, further: sorted sets of ints, slices with a step, gcd. -/
namespace Zy
open PySem PySem.Spec PyProof.Rows L2
theorem insU_lt (x : Int) : ∀ l : List Int, l.Pairwise (· < ·) → (insU x l).Pairwise (· < ·) ∧ ∀ k, k ∈ insU x l ↔ k = x ∨ k ∈ l
  | [], _ => by simp [insU]
  | y :: r, h => by
    rw [List.pairwise_cons] at h
    obtain ⟨h1, h2⟩ := insU_lt x r h.2
    unfold insU
    by_cases c1 : x < y
    · rw [if_pos c1]
      refine ⟨List.pairwise_cons.mpr ⟨fun z hz => ?_, List.pairwise_cons.mpr h⟩, fun k => by simp⟩
      rcases List.mem_cons.mp hz with rfl | hz
      · exact c1
      · exact Int.lt_trans c1 (h.1 z hz)
    · rw [if_neg c1]
      by_cases c2 : x = y
      · rw [if_pos c2]
        refine ⟨List.pairwise_cons.mpr h, fun k => ?_⟩
        rw [c2]
        simp
      · rw [if_neg c2]
        refine ⟨List.pairwise_cons.mpr ⟨fun z hz => ?_, h1⟩, fun k => ?_⟩
        · rcases (h2 z).mp hz with rfl | hz
          · omega
          · exact h.1 z hz
        · rw [List.mem_cons, h2, List.mem_cons]
          constructor
          · rintro (z | z | z) <;> simp [z]
          · rintro (z | z | z) <;> simp [z]
theorem sortU_lt : ∀ l : List Int, (sortU l).Pairwise (· < ·) ∧ ∀ k, k ∈ sortU l ↔ k ∈ l
  | [] => by simp [sortU]
  | x :: r => by
    obtain ⟨h1, h2⟩ := sortU_lt r
    obtain ⟨h3, h4⟩ := insU_lt x _ h1
    refine ⟨h3, fun k => ?_⟩
    rw [sortU, h4, h2, List.mem_cons]
theorem lt_same : ∀ {a b : List Int}, a.Pairwise (· < ·) → b.Pairwise (· < ·) → (∀ k, k ∈ a ↔ k ∈ b) → a = b
  | [], [], _, _, _ => rfl
  | [], y :: s, _, _, h => absurd ((h y).mpr List.mem_cons_self) (by simp)
  | x :: r, [], _, _, h => absurd ((h x).mp List.mem_cons_self) (by simp)
  | x :: r, y :: s, ha, hb, h => by
    rw [List.pairwise_cons] at ha hb
    have e : x = y := by
      have h1 := (h x).mp List.mem_cons_self
      have h2 := (h y).mpr List.mem_cons_self
      rcases List.mem_cons.mp h1 with h1 | h1
      · exact h1
      · rcases List.mem_cons.mp h2 with h2 | h2
        · exact h2.symm
        · have := ha.1 y h2
          have := hb.1 x h1
          omega
    subst e
    congr 1
    refine lt_same ha.2 hb.2 fun k => ?_
    constructor
    · intro hk
      have := ha.1 k hk
      rcases List.mem_cons.mp ((h k).mp (List.mem_cons_of_mem _ hk)) with z | z
      · omega
      · exact z
    · intro hk
      have := hb.1 k hk
      rcases List.mem_cons.mp ((h k).mpr (List.mem_cons_of_mem _ hk)) with z | z
      · omega
      · exact z
theorem repInts {K : Kc} {H : Hp} : ∀ ns : List Int, RepDs K H (ns.map V.int) (ns.map D.int)
  | [] => .nil
  | n :: r => .cons (.int n) (repInts r)
section
variable {X : Cx} {W : Wd} {S : Sg} {g : Gm}
/-- what sorted hands back of a set -/
theorem sset_out {H0 H : Hp} {ns : List Int} {Q : VK} {n : Nat} {D : Addr} {P : Int → Bool} (hD : H D = some (SetO X.w D P n)) (hP : ∀ k, P k = true ↔ k ∈ ns) (hn : n < 64) (sm : Same H0 H)
    (k : ∀ v H' G, Rep W H' v (.lst ((sortU ns).map .int)) G → Same H0 H' → Fresh H0 G → Q v H') : rSortedSet X.w [.ref D] H Q := by
  refine ⟨D, P, n, rfl, hD, hn, fun ms p h1 h2 _ hp => ?_⟩
  have e : ms = sortU ns := lt_same h1 (sortU_lt ns).1 fun k => by rw [h2, hP, (sortU_lt ns).2]
  subst e
  have s1 := Same.new (o := .lst ((sortU ns).map V.int)) hp
  exact k _ _ [p] (.lst upd_same (repInts _)) (sm.trans s1) ((Fresh.one hp).back sm)
theorem ssD_eq {l : List D} {m : M} (h : ssD l = some m) : ∃ ns, allI l = some ns ∧ ns.length < 64 ∧ m = .lst ((sortU ns).map .int) := by
  unfold ssD at h
  split at h
  · rename_i ns e
    split at h
    · rename_i hl
      cases h
      exact ⟨ns, e, hl, rfl⟩
    · cases h
  · cases h
/-- sorted(set(a)) -/
theorem zp_sset (C : Ct X W S g) {a : Expr} {x : Px} {p p2 p3 pos : Pos} (hs : bltN g "sorted" = true) (ht : bltN g "set" = true) (hp : plainE a = true) (ha : PE X a (zp W S x)) :
    PE X (.Call (.Name "sorted" p) [.Call (.Name "set" p2) [a] [] p3] [] pos) (zp W S (.sset x)) := by
  obtain ⟨g1, m1⟩ := C.bltn hs
  obtain ⟨g2, m2⟩ := C.bltn ht
  have inner := pe_callTy (p := p2) (pos := p3) (cr_setL C.calm) g2 m2 (by decide +kernel) (pa_cons ha pa_nil (star_plain hp [] X.env)) (by decide +kernel) (by decide +kernel) (star_plain hp [] X.env) rfl
  refine PE.imp (pe_callB (p := p) (pos := pos) (cr_sortedSet C.calm) g1 m1 (by decide +kernel) (pa_cons inner pa_nil) (by decide +kernel) (by decide +kernel)) fun σ H Q q => ?_
  obtain ⟨δ, F, m, r, e, k⟩ := q
  simp only [pv, Option.bind_eq_bind, Option.bind_eq_some_iff] at e
  obtain ⟨m1, e1, e2⟩ := e
  have go : ∀ {v : V} {H1 : Hp} {b : Addr} {xs : List V} {l : List D}, v = .ref b → SqL X.K H1 b xs → RepDs W.kk H1 xs l → Same H H1 → ssD l = some m → ∃ (l : Addr) (ns : List Int), [v] = [V.ref l] ∧ SqL X.K H1 l (ns.map V.int) ∧ ns.length < 64 ∧ ∀ p c, H1 p = none → c ≤ ns.length → rSortedSet X.w [.ref p] (upd H1 p (SetO X.w p (fun j => decide (j ∈ ns)) c)) Q := fun {v H1 b xs l} ev sq rd sm hl => by
    obtain ⟨ns, h1, h2, rfl⟩ := ssD_eq hl
    rw [rd.ints h1] at sq
    refine ⟨b, ns, by rw [ev], sq, h2, fun p c hp hc => ?_⟩
    exact sset_out upd_same (fun k => by simp) (by omega) (sm.trans (Same.new hp)) fun v H' G rv s f => k v H' G rv s fun _ => f
  refine ⟨δ, F, m1, r, e1, fun v H1 G rv sm _ => ?_⟩
  unfold ssetM at e2
  split at e2
  · cases rv with
    | lst s1 d1 => exact go rfl (SqL.of s1) d1 sm e2
  · cases rv with
    | rol s1 d1 => exact go rfl (by rw [C.K]; exact s1.sq) d1 sm e2
  · cases e2
/-- a set is no code object -/
theorem setO_noC {H : Hp} {D b : Addr} {w : World} {P : Int → Bool} {n : Nat} (h : H D = some (SetO w b P n)) : NoC H D := NoC.of h fun c q z => by
  unfold SetO LamX.CodeO at z
  have z := HO.ext.inj z
  have z := congrFun z ⟨Array.replicate (c + 1) { cls := .none, data := .fields #[.none, .str q 0] }, {}⟩
  have r : (∃ (oc : Obj) (vs : Array Value) (t : Tok), Heap.get? ⟨Array.replicate (c + 1) { cls := .none, data := .fields #[.none, .str q 0] }, {}⟩ c = some oc ∧ oc.data = .fields vs ∧ vs[1]? = some (.str q t)) :=
    ⟨{ cls := .none, data := .fields #[.none, .str q 0] }, _, 0, by unfold Heap.get?; simp, rfl, rfl⟩
  rw [← z] at r
  obtain ⟨o, es, ep, t, ho, _, hd, _⟩ := r
  unfold Heap.get? at ho
  split at ho
  · cases ho
  · rename_i o' hne
    rw [Array.getElem?_replicate] at ho
    split at ho
    · cases ho
      cases hd
    · cases ho
/-- the ints so far -/
def Got (w : World) (H : Hp) (D : Addr) (ds : List Zy.D) : Prop := ∃ (ns : List Int) (P : Int → Bool) (c : Nat), allI ds = some ns ∧ H D = some (SetO w D P c) ∧ (∀ k, P k = true ↔ k ∈ ns) ∧ c ≤ ns.length
theorem allI_app : ∀ {l : List D} {ns : List Int} {r : List D} {ms : List Int}, allI l = some ns → allI r = some ms → allI (l ++ r) = some (ns ++ ms)
  | [], _, r, ms, e, h => by cases e; exact h
  | .int i :: l, ns, r, ms, e, h => by
    obtain ⟨ks, e1, rfl⟩ := Option.map_eq_some_iff.mp (show (allI l).map (i :: ·) = some ns from e)
    show (allI (l ++ r)).map (i :: ·) = _
    rw [allI_app e1 h]
    rfl
  | .non :: l, _, _, _, e, _ => by cases e
  | .bl _ :: l, _, _, _, e, _ => by cases e
  | .str _ :: l, _, _, _, e, _ => by cases e
  | .tup _ :: l, _, _, _, e, _ => by cases e
theorem allI_left : ∀ {l r : List D} {ns : List Int}, allI (l ++ r) = some ns → ∃ ms, allI l = some ms ∧ ms.length ≤ ns.length
  | [], r, ns, _ => ⟨[], rfl, Nat.zero_le _⟩
  | .int i :: l, r, ns, e => by
    obtain ⟨ks, e1, rfl⟩ := Option.map_eq_some_iff.mp (show (allI (l ++ r)).map (i :: ·) = some ns from e)
    obtain ⟨ms, h1, h2⟩ := allI_left e1
    exact ⟨i :: ms, by show (allI l).map (i :: ·) = _; rw [h1]; rfl, by simp; omega⟩
  | .non :: l, _, _, e => by cases e
  | .bl _ :: l, _, _, e => by cases e
  | .str _ :: l, _, _, e => by cases e
  | .tup _ :: l, _, _, e => by cases e
theorem allI_last {d : Zy.D} : ∀ {l : List Zy.D} {zs : List Int}, allI (l ++ [d]) = some zs → ∃ is_, allI [d] = some is_
  | [], zs, e => ⟨zs, e⟩
  | .int j :: l, zs, e => by
    obtain ⟨ks, e1, _⟩ := Option.map_eq_some_iff.mp (show (allI (l ++ [d])).map (j :: ·) = some zs from e)
    exact allI_last e1
  | .non :: l, _, e => by cases e
  | .bl _ :: l, _, e => by cases e
  | .str _ :: l, _, e => by cases e
  | .tup _ :: l, _, e => by cases e
theorem allI_one {d : D} {ns : List Int} (h : allI [d] = some ns) : ∃ i, d = .int i ∧ ns = [i] := by
  cases d with
  | int i => cases h; exact ⟨i, rfl, rfl⟩
  | _ => cases h
/-- {e for t in it if c} -/
theorem ssc_imp {t : Tg} {it : Ti} {c : Pt} {x : Px} {vs : List Nat} (ht : tgW t ⊆ vs) : ∀ σ H Q, zp W S (.ssc vs t it c x) σ H Q → tSi X.w (zi W S it) (gz W t) (zt W S c) (zp W S x) vs σ H fun v H1 => rSortedSet X.w [v] H1 Q := fun σ H Q q => by
  obtain ⟨δ, F, m, r, e, k⟩ := q
  simp only [pv, Option.bind_eq_bind, Option.bind_eq_some_iff] at e
  obtain ⟨l, e1, rr, e2, e3⟩ := e
  obtain ⟨nn, e4, hz, rfl⟩ := ssD_eq e3
  have e2 : lcL (lcF S t c x (wipeE δ vs)) l = some rr := e2
  refine ⟨δ, F, l, r, e1, fun J H1 A sm ok1 hA D hD => ?_⟩
  obtain ⟨Fw, rww, _⟩ := (r.same sm).wipe vs
  have back : ∀ {H' : Hp}, Same H1 (fun b => if b = D then none else H' b) → Same H1 H' := fun {H'} s => s.unhide hD
  refine ⟨fun i n H' => n = l.length - i ∧ i ≤ l.length ∧ Same H1 (fun b => if b = D then none else H' b) ∧ ∃ ds, lcL (lcF S t c x (wipeE δ vs)) (l.take i) = some ds ∧ Got X.w H' D ds, ⟨l.length, rfl, Nat.zero_le _, (Same.new hD).hide hD (setO_noC upd_same), [], rfl, [], _, _, rfl, upd_same, by simp, Nat.zero_le _⟩, ?_⟩
  · rintro i n H' ⟨rfl, hi, sD, ds, hl, ms, P, cc, h1, h2, h3, h4⟩
    have s2 := back sD
    have kp := Kp.same s2
    obtain ⟨ok2, ok3⟩ := ok1 H' kp fun a ha => by
      obtain ⟨o, ho, no⟩ := hA.1 a ha
      rw [s2.s a o ho no, ho]
    by_cases lt : i < l.length
    · refine .inr ?_
      obtain ⟨go, yl⟩ := ok2 i l[i] (List.getElem?_eq_getElem lt)
      obtain ⟨y, h5, h6, h7⟩ := lcL_step e2 (List.getElem?_eq_getElem lt) hl
      refine ⟨go, fun H2 => i + 1 ≤ l.length ∧ Same H1 (fun b => if b = D then none else H2 b) ∧ ∃ ds, lcL (lcF S t c x (wipeE δ vs)) (l.take (i + 1)) = some ds ∧ Got X.w H2 D ds, fun H2 ⟨z1, z2, z3⟩ => ⟨l.length - (i + 1), by omega, rfl, z1, z2, z3⟩, fun v H2 hy => ?_⟩
      obtain ⟨rfl, rv⟩ := yl v H2 hy
      simp only [lcF, Option.bind_eq_bind, Option.bind_eq_some_iff] at h5
      obtain ⟨δ1, h8, kk, h9, h10⟩ := h5
      refine ⟨_, rv, wipeE δ vs, Fw, δ1, rww.mono kp (fun a _ o ho n => s2.s a o ho n), h8, fun σ2 F2 r2 _ _ out len2 => ⟨wipe_back ht out len2, δ1, F2, kk, r2, h9, fun H3 s3 => ?_⟩⟩
      have sD3 : ∀ {H4 : Hp}, Same H2 H4 → Same H1 (fun b => if b = D then none else H4 b) := fun {H4} s4 => ((back sD).trans s4).hide hD (setO_noC (s4.s _ _ h2 nofun))
      cases kk with
      | false =>
        simp only [Bool.false_eq_true, if_false] at h10 ⊢
        cases h10
        exact ⟨lt, sD3 s3, ds, by simpa using h6, ms, P, cc, h1, s3.s _ _ h2 nofun, h3, h4⟩
      | true =>
        simp only [if_true] at h10 ⊢
        obtain ⟨mm, h11, h12⟩ := Option.bind_eq_some_iff.mp h10
        split at h12
        · rename_i d
          cases h12
          refine ⟨δ1, F2, _, r2.same s3, h11, fun w H4 G rw4 s4 _ => ?_⟩
          have h6 : lcL (lcF S t c x (wipeE δ vs)) (l.take (i + 1)) = some (ds ++ [d]) := by simpa using h6
          obtain ⟨p, q, f1, f2, f3⟩ := lcL_app _ e2 (show i + 1 ≤ l.length from lt)
          rw [h6] at f1
          cases f1
          have f4 : ∃ zs, allI (ds ++ [d]) = some zs ∧ zs.length ≤ nn.length := by
            rw [f3] at e4
            exact allI_left e4
          obtain ⟨zs, f5, f6⟩ := f4
          obtain ⟨is_, f7⟩ := allI_last f5
          obtain ⟨j, rfl, rfl⟩ := allI_one f7
          rw [allI_app h1 f7] at f5
          cases f5
          have s5 : Same H2 H4 := s3.trans s4
          cases rw4 with
          | i rw4 =>
            cases rw4
            have h13 := s5.s _ _ h2 nofun
            refine ⟨D, j, P, cc, rfl, rfl, h13, ?_, lt, (((back sD).trans s5).upd hD (setO_noC h13)).hide hD (setO_noC upd_same), _, h6, ms ++ [j], _, _, allI_app h1 f7, upd_same, fun k => ?_, ?_⟩
            · unfold scanBound
              simp only [List.length_append, List.length_singleton] at f6
              omega
            · rw [Bool.or_eq_true, h3, decide_eq_true_eq, List.mem_append, List.mem_singleton]
            · rw [List.length_append, List.length_singleton]
              split <;> omega
        · cases h12
    · have e5 : i = l.length := by omega
      subst e5
      refine .inl ⟨ok3 _ (Nat.le_refl _), ?_⟩
      rw [List.take_length, e2] at hl
      cases hl
      rw [e4] at h1
      cases h1
      exact sset_out h2 h3 (by omega) (sm.trans s2) fun v H' G rv s f => k v H' G rv s fun _ => f
theorem zp_ssc (C : Ct X W S g) {elt tg iter : Expr} {ifs : List Expr} {scope : Scope} {own : List (Str × Nat)} {p p2 pos : Pos} {t : Tg} {it : Ti} {c : Pt} {x : Px} (hb : bltN g "sorted" = true) (hi : PI X tg iter (zi W S it)) (ok : BlkOk X.N X.env.scope scope own)
    (hs : ∀ x, foldedSetIterable iter X.env x = pure x) (ht : tgW t ⊆ own.map (·.2))
    (hg : ∀ (s : Shared) (H : Hp) (D : Addr) (cl : List (Str × Addr)) (fp : List Addr), PG (X.blk s H scope (compEnvC scope cl D X.env) fp) tg (gz W t))
    (hc : ∀ (s : Shared) (H : Hp) (D : Addr) (cl : List (Str × Addr)) (fp : List Addr), PTs (X.blk s H scope (compEnvC scope cl D X.env) fp) ifs (zt W S c))
    (he : ∀ (s : Shared) (H : Hp) (D : Addr) (cl : List (Str × Addr)) (fp : List Addr), PE (X.blk s H scope (compEnvC scope cl D X.env) fp) elt (zp W S x)) :
    PE X (.Call (.Name "sorted" p) [.SetComp elt [⟨tg, iter, ifs, 0⟩] scope p2] [] pos) (zp W S (.ssc (own.map (·.2)) t it c x)) := by
  have nd : X.N.Nodup := by rw [C.N]; exact C.nd
  obtain ⟨g1, m1⟩ := C.bltn hb
  exact PE.imp (pe_callB (p := p) (pos := pos) (cr_sortedSet C.calm) g1 m1 (by decide +kernel) (pa_cons (pe_si C.calm nd hi ok hg hc he hs) pa_nil) (by decide +kernel) (by decide +kernel)) (ssc_imp ht)
/-- gcd(a, b) -/
theorem zp_gcd {x : Str} {a b : Expr} {y z : Px} {p pos : Pos} (hg : Gl X x) (hm : X.mg x = some (.builtin "math.gcd")) (hd : (x == ("__debug__" : Str)) = false) (hp : plainE a = true) (hp2 : plainE b = true) (ha : PE X a (zp W S y)) (hb : PE X b (zp W S z)) :
    PE X (.Call (.Name x p) [a, b] [] pos) (zp W S (.gcd y z)) := by
  refine PE.imp (pe_callBfun cr_gcd hg hm (pa_cons ha (pa_cons hb pa_nil (star_plain hp2 [] X.env)) (star_plain hp [b] X.env)) hd (star_plain hp [b] X.env) (star_any (by simp [hp2]))) fun σ H Q q => ?_
  obtain ⟨δ, F, m, r, e, k⟩ := q
  simp only [pv, Option.bind_eq_bind, Option.bind_eq_some_iff] at e
  obtain ⟨m1, e1, m2, e2, e3⟩ := e
  refine ⟨δ, F, m1, r, e1, fun v H1 G rv sm _ => ⟨δ, F, m2, r.same sm, e2, fun u H2 G2 ru sm2 _ => ?_⟩⟩
  unfold gcdM at e3
  split at e3
  · cases e3
    cases rv with
    | i rv => cases rv; cases ru with | i ru => cases ru; exact ⟨_, _, rfl, k _ _ [] (.i (.int _)) (sm.trans sm2) fun _ => Fresh.nil H⟩
  · cases e3
/-! ### xs[lo::st] -/
theorem vals_pick {xs : List V} {us : List Value} (r : Vals xs us) : ∀ is : List Nat, Vals (is.filterMap fun i => xs[i]?) (is.filterMap fun i => us[i]?)
  | [] => .nil
  | i :: is => by
    have ih := vals_pick r is
    rw [List.filterMap_cons, List.filterMap_cons]
    cases h : xs[i]? with
    | none => rw [r.none_of h]; exact ih
    | some x =>
      obtain ⟨u, h2, h3⟩ := r.get h
      rw [h2]
      exact .cons h3 ih
theorem reps_pick {K : Kc} {H : Hp} {xs : List V} {ds : List D} (r : RepDs K H xs ds) : ∀ is : List Nat, RepDs K H (is.filterMap fun i => xs[i]?) (is.filterMap fun i => ds[i]?)
  | [] => .nil
  | i :: is => by
    have ih := reps_pick r is
    rw [List.filterMap_cons, List.filterMap_cons]
    cases h : ds[i]? with
    | none =>
      have : xs[i]? = none := by rw [List.getElem?_eq_none_iff] at h ⊢; rw [r.length]; exact h
      rw [this]
      exact ih
    | some d =>
      obtain ⟨u, h2, h3⟩ := r.get h
      rw [h2]
      exact .cons h3 ih
def tStep (K : PySem.W.Frag) (lo st : Int) (te : TE) : TE := fun σ H Q => te σ H fun x H1 => ∃ a xs, x = .ref a ∧ SqL K H1 a xs ∧ st ≠ 0 ∧ ∀ p, H1 p = none → Q (.ref p) (upd H1 p (.lst (pickL lo st xs)))
theorem pe_stepL {e : Expr} {te : TE} {lo st : Int} {k1 k2 : Nat} {p1 p2 p3 pos : Pos} (he : PE X e te) : PE X (.Subscript e (.Slice (some (.Constant (.int lo) k1 p1)) none (some (.Constant (.int st) k2 p2)) p3) pos) (tStep X.K lo st te) := ⟨fun pins s σ H Q I h => by
  refine Subscript_ (thn (he.run pins s σ H _ I h) ?_)
  rintro v sa ⟨x, H1, I1, r1, a, xs, rfl, hx, hst, q⟩
  cases r1
  have c1 : ∀ (i : Int) (k : Nat) (p : Pos), PO X (some (.Constant (.int i) k p)) (tPart (tC (.int i))) := fun i k p => po_some pe_int
  refine wpAny_Slice (thn ((c1 lo k1 p1).run pins sa σ H1 (fun o H2 => o = some lo ∧ H2 = H1) I1 ⟨_, rfl, rfl, rfl⟩) ?_)
  rintro vl sb ⟨_, H2, I2, pl, rfl, rfl⟩
  refine thn (po_none.run pins sb σ H2 (fun o H3 => o = none ∧ H3 = H2) I2 ⟨rfl, rfl⟩) ?_
  rintro vu sc ⟨_, H3, I3, pu, rfl, rfl⟩
  refine thn ((c1 st k2 p2).run pins sc σ H3 (fun o H4 => o = some st ∧ H4 = H3) I3 ⟨_, rfl, rfl, rfl⟩) ?_
  rintro vs sd ⟨_, H4, I4, ps, rfl, rfl⟩
  have I5 : Inv X pins σ H4 { sd with heap := sd.heap.push { cls := .type "slice", data := .fields #[vl, vu, vs] } } := I4.kept (t' := sd.toks) fun b ob z => Heap.get?_push_of_some _ z
  obtain ⟨its, r, ht, hz⟩ := I5.list hx
  have len := r.length
  refine tail_any (ops := [.ref a, .ref sd.heap.objs.size]) ht.isList.typeIs (PySem.slot_list_getitem.lookup) ?_ (by with_unfolding_all rfl)
  refine wpAny_getItem_list_slice ht.isList (Heap.IsSliceOf.new _ vl vu vs) pl pu ps (fun z => hst (Option.some.inj z)) ?_ (by rw [List.size_toArray]; omega)
  have pk : Vals (pickL lo st xs) (slicePick its.toArray (some lo) none (some st)).toList := by
    have := vals_pick r (sliceRange (sliceBounds (some lo) none (some st) its.length).1 (sliceBounds (some lo) none (some st) its.length).2.1 (sliceBounds (some lo) none (some st) its.length).2.2)
    unfold pickL slicePick
    rw [len]
    simpa using this
  have sz := slicePick_size_le its.toArray (some lo) none (some st)
  refine ⟨.ref _, _, I5.laid (t' := sd.toks) (o := .lst (pickL lo st xs)) (fun b ob z => Heap.get?_push_of_some _ z) (Nat.le_refl _) ⟨?_, _, 0, pk, Heap.get?_push_size _ rfl⟩, rfl, q _ (I5.hok.fresh (Nat.le_refl _))⟩
  have l2 : (pickL lo st xs).length = (slicePick its.toArray (some lo) none (some st)).toList.length := pk.length
  have l3 : (slicePick its.toArray (some lo) none (some st)).toList.length = (slicePick its.toArray (some lo) none (some st)).size := Array.length_toList
  have l4 : its.toArray.size = its.length := List.size_toArray
  show (pickL lo st xs).length ≤ sizeLine
  omega⟩
theorem zp_stp {e : Expr} {x : Px} {lo st : Int} {k1 k2 : Nat} {p1 p2 p3 pos : Pos} (hK : X.K = W.K) (ha : PE X e (zp W S x)) : PE X (.Subscript e (.Slice (some (.Constant (.int lo) k1 p1)) none (some (.Constant (.int st) k2 p2)) p3) pos) (zp W S (.stp x lo st)) := by
  refine PE.imp (pe_stepL ha) fun σ H Q q => ?_
  obtain ⟨δ, F, m, r, e, k⟩ := q
  simp only [pv, Option.bind_eq_bind, Option.bind_eq_some_iff] at e
  obtain ⟨m1, e1, e2⟩ := e
  refine ⟨δ, F, m1, r, e1, fun v H1 G rv sm _ => ?_⟩
  have go : ∀ {b : Addr} {xs : List V} {l : List D}, SqL X.K H1 b xs → RepDs W.kk H1 xs l → st ≠ 0 → m = .lst (pickL lo st l) → ∃ a ys, V.ref b = .ref a ∧ SqL X.K H1 a ys ∧ st ≠ 0 ∧ ∀ p, H1 p = none → Q (.ref p) (upd H1 p (.lst (pickL lo st ys))) := fun {b xs l} sq rd h0 hm => by
    refine ⟨b, xs, rfl, sq, h0, fun p hp => ?_⟩
    subst hm
    have s1 := Same.new (o := .lst (pickL lo st xs)) hp
    have rp : RepDs W.kk H1 (pickL lo st xs) (pickL lo st l) := by
      unfold pickL
      rw [rd.length]
      exact reps_pick rd _
    exact k _ _ [p] (.lst upd_same (rp.mono (Kp.same s1))) (sm.trans s1) fun _ => (Fresh.one hp).back sm
  unfold stpM at e2
  split at e2
  · split at e2
    · rename_i h0
      cases e2
      cases rv with | lst s1 d1 => exact go (SqL.of s1) d1 h0 rfl
    · cases e2
  · split at e2
    · rename_i h0
      cases e2
      cases rv with | rol s1 d1 => exact go (by rw [hK]; exact s1.sq) d1 h0 rfl
    · cases e2
  · cases e2
end
end Zy
end
section
set_option maxHeartbeats 1000000
/-! Zy, part YB: any, all of a generator expression whose element may be of any kind (calls too). -/
namespace Zy
open PySem PySem.Spec PyProof.Rows L2 GenW GxR

section
variable {A : Around} {elt : Expr} {gs : List Comprehension} {scope : Scope} {pos : Pos} {it acc : Value} {env : PySem.Env}
theorem over_gS : A.over (.compStart (.GeneratorExp elt gs scope pos) 0 it acc env) [] = A.deeper env := by
  first
    | rfl
    | (obtain ⟨hd, d, fr, g, u⟩ := A; simp [Around.over, Around.deeper, marksOver, frameCount, unitsOf, envsOf, guardsOf, pushEnvs, pushGuards, Code.envs, Code.env?, Code.isFrame, Code.guards, Code.isGuard, Code.weight, Code.frames, Code.isCreation, Code.isCaller, Code.cUnits])
theorem over_gL : A.over (.compLoop (.GeneratorExp elt gs scope pos) 0 it acc env) [] = A.deeper env := by
  first
    | rfl
    | (obtain ⟨hd, d, fr, g, u⟩ := A; simp [Around.over, Around.deeper, marksOver, frameCount, unitsOf, envsOf, guardsOf, pushEnvs, pushGuards, Code.envs, Code.env?, Code.isFrame, Code.guards, Code.isGuard, Code.weight, Code.frames, Code.isCreation, Code.isCaller, Code.cUnits])
end

theorem inv_gens {X : Cx} {pins : List (Addr × Obj)} {σ : L2.St} {H : Hp} {s : Shared} {g' : Array GenState} (I : Inv X pins σ H s) (hg : AllBare g') : Inv X pins σ H { s with gens := g' } :=
  ⟨I.ok, I.os, hg, I.base, I.loc, I.cell, I.free, I.freeC, I.pin, I.hok, I.len⟩

/-- the frame of a generator expression of X, made at s -/
abbrev gCx (X : Cx) (s : Shared) (H : Hp) (scope : Scope) (code : Value) (fp : List Addr) : Cx where
  prog := X.prog
  w := X.w
  K := X.K
  mg := X.mg
  base := X.base
  A := X.A.in1.in1.deeper (genEnv scope (cloFrom X.env.cells scope.names []) s.heap.objs.size code builtinsNs X.env)
  N := X.N
  s_0 := s
  H_0 := H
  env := genEnv scope (cloFrom X.env.cells scope.names []) s.heap.objs.size code builtinsNs X.env
  outer := X.stack
  stack := genEnv scope (cloFrom X.env.cells scope.names []) s.heap.objs.size code builtinsNs X.env :: X.stack
  ex := fp
  fn := fun _ => false
  calm := true
  pn := []
  xe := fun _ _ => False

/-- a generator's names beside those of a block -/
structure GenO (scope : Scope) : Prop where
  co : scope.isCoroutine = false
  cell : ∀ y ∈ scope.names, y.2 ≠ .cell
  dot : scope.names.lookup (".0" : Str) = some NameKind.local
theorem genO_by {scope : Scope} (h : genOB scope = true) : GenO scope := by
  unfold genOB at h
  simp only [Bool.and_eq_true, Bool.not_eq_true', decide_eq_true_eq, List.all_eq_true, decide_eq_false_iff_not] at h
  exact ⟨h.1.1, h.1.2, h.2⟩

section
variable {X : Cx} {pins : List (Addr × Obj)} {σ : L2.St} {H : Hp} {s : Shared}
theorem gen_start {scope : Scope} {own : List (Str × Nat)} {fp : List Addr} {code it : Value} {h' : Heap} {go : Obj} {g' : Array GenState} {tk : Nat} (I : Inv X pins σ H s) (ok : BlkOk X.N X.env.scope scope own) (go1 : GenO scope) (hN : X.N.Nodup) (hh : X.A.handled = none)
    (hfp : ∀ b ∈ fp, FpOk X pins H b ∧ b < s.heap.objs.size) (hg : AllBare g') (hn : h'.Ns s.heap.objs.size (fun y => if y = (".0" : Str) then some it else none)) (hs : Heap.SameBut s.heap.objs.size (s.heap.push { cls := .type "frame", data := .dict #[] }) h') (hgo : ∀ v, go.data ≠ .cell v) (hfr : go.isFreed = false) :
    Inv (gCx X s H scope code fp) [(h'.objs.size, go)] (wipe σ (own.map (·.2))) H { s with heap := h'.push go, gens := g', toks := tk } := by
  have hfree : ∀ y ∈ scope.names, y.2 = .free → ∃ c, X.env.cells.lookup y.1 = some c := fun y hy e => by
    rcases ok.free y hy e with k | k
    · exact I.ok.has _ (.inl k)
    · exact I.ok.has _ (.inr k)
  have sz : h'.objs.size = s.heap.objs.size + 1 := by rw [hs.1, Heap.size_push]
  have kp : ∀ b o, s.heap.get? b = some o → (h'.push go).get? b = some o := fun b o e => Heap.get?_push_of_some _ (hs.extBut b o (Nat.ne_of_lt (Heap.lt_size e)) (Heap.get?_push_of_some _ e))
  have cm : ∀ {y c}, (cloFrom X.env.cells scope.names []).lookup y = some c → X.env.cells.lookup y = some c := fun {y c} e => by
    rcases cloFrom_mem (PySem.mem_of_lookup e) with hm | ⟨h1, h2⟩
    · cases hm
    · obtain ⟨c1, hc⟩ := hfree _ h1 rfl
      have hc : X.env.cells.lookup y = some c1 := hc
      have e2 : c = c1 := by
        rw [h2, hc] <;> rfl
      rw [e2]
      exact hc
  have look : ∀ {y}, scope.names.lookup y = some .free → ∃ c, (cloFrom X.env.cells scope.names []).lookup y = some c := fun {y} hl => by
    have hy : (y, NameKind.free) ∈ scope.names := PySem.mem_of_lookup hl
    exact mem_lookup (cloFrom_has (cells := X.env.cells) (acc := []) hy)
  have cellK : ∀ {c : Addr} {v : Option Value}, s.heap.IsCell c v → (h'.push go).IsCell c v := fun {c v} ⟨o, ho, hd⟩ => ⟨o, kp _ _ ho, hd⟩
  refine ⟨⟨I.ok.mod, ok.kind, I.ok.glob, rfl, Nat.le_refl _, fun y z c e1 e2 => I.ok.inj y z c (cm e1) (cm e2), fun y hy => ?_, fun y c z _ => ?_, fun _ => hh, Around.frames_deeper I.ok.frames, .inr ⟨rfl, rfl⟩, fun b hb => ⟨?_, fun y c e => ?_⟩, I.bs, Nat.le_trans I.ok.bsz I.sz, fun b o e hb => ?_, fun b hb z => ?_, I.stack, I.stkFree⟩,
    rfl, hg, Un.kept kp, ⟨_, hn.keeps fun b o e => Heap.get?_push_of_some _ e, fun i y v e1 e2 e3 => ?_⟩, fun y c e => ?_, I.hok.fresh (Nat.le_refl _), fun y c e => I.freeC y c (cm e), fun p hp => ?_, I.hok.kept kp, by rw [wipe_length]; exact I.len⟩
  · have hy : scope.names.lookup y = some .cell ∨ scope.names.lookup y = some .free := hy
    rcases hy with hy | hy
    · exact absurd rfl (go1.cell _ (PySem.mem_of_lookup hy))
    · exact look hy
  · have z : false = true := z
    cases z
  · exact Nat.ne_of_lt (hfp b hb).2
  · exact (hfp b hb).1.2.2.2.2.1 y c (cm e)
  · rcases (hfp b hb).1.2.2.2.1 with z | z
    · exact I.ok.noex b o e z
    · exact absurd (Nat.lt_of_lt_of_le (Heap.lt_size e) (Nat.le_trans I.ok.bsz z)) (Nat.lt_irrefl _)
  · rcases List.mem_cons.mp (I.stkSub b z) with z | z
    · exact (hfp b hb).1.2.1 z
    · exact (hfp b hb).1.2.2.1 z
  · obtain ⟨e2, hne⟩ := wipe_some e2
    have hfr : scope.names.lookup y = some .free := by
      have no : ∀ k, scope.names.lookup y = some k → (k = .local ∨ k = .cell) → False := fun k hk hh => by
        rcases ok.own _ (PySem.mem_of_lookup hk) hh with e' | e'
        · obtain ⟨p, hp, hpy⟩ := List.mem_map.mp e'
          have e3 := ok.ix p hp
          have : p.1 = y := hpy
          rw [this] at e3
          exact hne (List.mem_map.mpr ⟨p, hp, nodup_ix hN e3 e1⟩)
        · exact e' (List.mem_of_getElem? e1)
      have e3 : Vis scope y := e3
      rcases e3 with e3 | e3 | e3
      · exact (no _ e3 (.inl rfl)).elim
      · exact (no _ e3 (.inr rfl)).elim
      · exact e3
    obtain ⟨m, hnm, hl⟩ := I.loc
    have hvis : Vis X.env.scope y := (ok.free _ (PySem.mem_of_lookup hfr) rfl).elim (fun k => .inr (.inl k)) (fun k => .inr (.inr k))
    obtain ⟨w', r, q⟩ := hl i y v e1 e2 hvis
    obtain ⟨c2, h2⟩ := look hfr
    refine ⟨w', r, .inr ⟨.inr hfr, c2, h2, ?_⟩⟩
    have c1 := cm h2
    rcases q with ⟨k', _⟩ | ⟨_, c3, e', z⟩
    · have k' : X.env.scope.names.lookup y = some .local := k'
      rcases ok.free _ (PySem.mem_of_lookup hfr) rfl with k2 | k2 <;> rw [show X.env.scope.names.lookup y = _ from k2] at k' <;> cases k'
    · rw [c1] at e'
      cases e'
      exact cellK z
  · obtain ⟨w', z⟩ := I.cell y c (cm e)
    exact ⟨w', cellK z⟩
  · have hp : p ∈ [(h'.objs.size, go)] := hp
    have e : p = (h'.objs.size, go) := by simpa using hp
    subst e
    have le : s.heap.objs.size ≤ h'.objs.size := by omega
    refine ⟨Heap.get?_push_size _ hfr, I.hok.fresh le, by show h'.objs.size ≠ s.heap.objs.size; omega, fun z => ?_, hgo⟩
    rcases List.mem_cons.mp (I.stkSub _ z) with e | e
    · have h1 := I.lt
      rw [← e] at h1
      exact Nat.lt_irrefl _ (Nat.lt_of_lt_of_le h1 le)
    · exact I.nofs le e
end

/-! ### the generator runs -/
section
variable {G : Cx} {pl : List (Addr × Obj)} {σ0 : L2.St} {fp : List Addr} {tn : Nat → Heap → Prop} {J : It} {n : Nat} {W : Nat → Hp → Prop} {Qf : Bool → Hp → Prop} {b : Bool} {a it : Addr} {g : Nat}
/-- ahead of turn i -/
def GSt (G : Cx) (pl : List (Addr × Obj)) (σ0 : L2.St) (fp : List Addr) (tn : Nat → Heap → Prop) (W : Nat → Hp → Prop) (i : Nat) (s : Shared) : Prop := ∃ H', Inv G pl σ0 H' s ∧ tn i s.heap ∧ (∀ b ∈ fp, H' b = none) ∧ W i H'
theorem GSt.gens {i : Nat} {s : Shared} {g' : Array GenState} (h : GSt G pl σ0 fp tn W i s) (hg : AllBare g') : GSt G pl σ0 fp tn W i { s with gens := g' } := by
  obtain ⟨H', I, r⟩ := h
  exact ⟨H', inv_gens I hg, r⟩
def GP (G : Cx) (pl : List (Addr × Obj)) (σ0 : L2.St) (Qf : Bool → Hp → Prop) (b : Bool) (m : Nat) (s₀ s₁ : Shared) : Prop := m = 0 ∧ ∃ H', Inv G pl σ0 H' s₁ ∧ Qf (!b) H'
def GRr (G : Cx) (pl : List (Addr × Obj)) (σ0 : L2.St) (Qf : Bool → Hp → Prop) (b : Bool) : GenEnd := fun m s₀ r s₁ => r = .ok .next ∧ GP G pl σ0 Qf b m s₀ s₁
def GYy (G : Cx) (pl : List (Addr × Obj)) (σ0 : L2.St) (fp : List Addr) (tn : Nat → Heap → Prop) (W : Nat → Hp → Prop) (Qf : Bool → Hp → Prop) (b : Bool) (n : Nat) : Protocol := fun m s₀ v s kap =>
  ∃ i k, i + m + 1 = n ∧ v = .bool k ∧ AllBare s.gens ∧ ((k = b ∧ ∃ H', Inv G pl σ0 H' s ∧ Qf b H') ∨ (k = !b ∧ GSt G pl σ0 fp tn W (i + 1) s ∧ ∀ s'', GSt G pl σ0 fp tn W (i + 1) s'' → kap (.send .none) s''))

/-- what a turn does -/
def GStep (J : It) (g : TG) (te : TE) (vs : List Nat) (σ0 : L2.St) (W : Nat → Hp → Prop) (Qf : Bool → Hp → Prop) (b : Bool) (n : Nat) : Prop := ∀ i H, W i H → i ≤ n ∧ (i = n → J.stop i H ∧ Qf (!b) H) ∧
  (i < n → J.go i H ∧ ∀ x H', J.yld i H x H' → g x σ0 H' fun σ2 H3 => wipe σ2 vs = σ0 ∧ te σ2 H3 fun y H4 => ∃ k, y = .bl k ∧ if k = b then Qf b H4 else W (i + 1) H4)

theorem gen_seg {A : Around} {elt tg iter : Expr} {scope : Scope} {pos : Pos} {tgt : TG} {te : TE} {vs : List Nat} (hGA : A.deeper G.env = G.A) (hxe : G.xe = fun _ _ => False) (hcalm : G.calm = true) (hpn : G.pn = []) (hex : G.ex = fp) (hpl : ∀ p ∈ pl, p.1 ∉ fp)
    (T : Turn G.prog G.w G.K tg J fp it tn) (pg : PG G tg tgt) (pe : PE G elt te) (hco : G.env.scope.isCoroutine = false) (hstep : GStep J tgt te vs σ0 W Qf b n) :
    ∀ (k i : Nat) (s₀ s : Shared), n - i = k → GSt G pl σ0 fp tn W i s →
      Seg (model G.prog G.w) A (GRr G pl σ0 Qf b) (GYy G pl σ0 fp tn W Qf b n) (n - i) s₀ (.compLoop (.GeneratorExp elt [⟨tg, iter, [], 0⟩] scope pos) 0 (.ref it) .none G.env)
        ((model G.prog G.w).den (.compLoop (.GeneratorExp elt [⟨tg, iter, [], 0⟩] scope pos) 0 (.ref it) .none G.env)) [] s := by
  have stat : ∀ {σ' : L2.St} {H' : Hp} {s' : Shared}, Inv G pl σ' H' s' → (∀ b ∈ fp, H' b = none) → ∀ b ∈ fp, FpOk G pl H' b := fun {σ' H' s'} I' hn b hb =>
    ⟨hn b hb, (I'.ok.exf b (by rw [hex]; exact hb)).1, I'.ok.exfs b (by rw [hex]; exact hb), .inl (by rw [hex]; exact hb), fun x c e => (I'.ok.exf b (by rw [hex]; exact hb)).2 x c e, fun p hp z => by
      rw [hpn] at hp
      exact hpl p hp (by rw [z]; exact hb)⟩
  intro k
  induction k with
  | zero =>
    intro i s₀ s hk ⟨H1, I1, st1, f1, w1⟩
    obtain ⟨hle, hstop, _⟩ := hstep i H1 w1
    have hin : i = n := by omega
    obtain ⟨h1, h2⟩ := hstop hin
    show Seg _ A _ _ _ s₀ _ ((compTurn (.GeneratorExp elt [⟨tg, iter, [], 0⟩] scope pos) 0 (.ref it) .none G.env).onRaise (leaving G.env)) [] s
    rw [compTurn_gen, Sem.onRaise_eq_wrap]
    refine seg_bind_wrap (wpAny_standAt ?_)
    refine seg_bind_wrap ?_
    rw [over_gL, hGA]
    refine thnF (T.done G rfl rfl rfl hcalm i pl s _ H1 _ I1 (stat I1 f1) st1 h1) fun r s2 ⟨hr, I2⟩ => ?_
    subst hr
    exact seg_end (.ok .next) ⟨rfl, by omega, H1, I2, h2⟩
  | succ k ih =>
    intro i s₀ s hk ⟨H1, I1, st1, f1, w1⟩
    obtain ⟨_, _, hgo⟩ := hstep i H1 w1
    have hlt : i < n := by omega
    obtain ⟨go, step⟩ := hgo hlt
    have e : n - i = (n - (i + 1)) + 1 := by omega
    rw [e]
    show Seg _ A _ _ _ s₀ _ ((compTurn (.GeneratorExp elt [⟨tg, iter, [], 0⟩] scope pos) 0 (.ref it) .none G.env).onRaise (leaving G.env)) [] s
    rw [compTurn_gen, Sem.onRaise_eq_wrap]
    refine seg_bind_wrap (wpAny_standAt ?_)
    refine seg_bind_wrap ?_
    rw [over_gL, hGA]
    refine thnF (T.item G rfl rfl rfl hcalm i pl s _ H1 _ I1 (stat I1 f1) st1 go) fun r s2 ⟨u, hr, h2⟩ => ?_
    subst hr
    refine seg_bind_wrap ?_
    rw [over_gL, hGA]
    refine thnF h2 fun _ s3 ⟨x, H3, I3, r3, y3, st3, n3⟩ => ?_
    have I3' := I3.pinned (stat I3 n3) (T.obj _ _ st3)
    have run3 := pg.run _ s3 _ H3 x u _ I3' r3 (step x H3 y3)
    rw [hxe] at run3
    refine seg_bind_wrap ?_
    rw [over_gL, hGA]
    refine thnF run3 fun _ s4 ⟨σ4, H4, I4, hw4, q4⟩ => ?_
    refine seg_bind_wrap ?_
    rw [List.forIn_nil]
    refine wpAny_pure ?_
    simp only [if_true]
    have hy : ∀ v, yieldOut G.env v = yieldValue v := fun v => by simp only [yieldOut, hco, Bool.false_eq_true, if_false]
    simp only [hy]
    rw [Sem.bind_eq_wrap', Sem.bind_eq_wrap', Sem.wrap_wrap, Sem.wrap_wrap]
    have run4 := pe.run _ s4 _ H4 _ I4 q4
    rw [hxe] at run4
    refine seg_wrap ?_
    rw [over_gL, hGA]
    refine thnF run4 fun y s5 ⟨yv, H5, I5, r5, k5, ev, q5⟩ => ?_
    subst ev
    obtain rfl : y = .bool k5 := r5
    have fin : Inv G pl σ0 H5 s5 ∧ tn (i + 1) s5.heap ∧ ∀ b ∈ fp, H5 b = none := by
      have pin' : ∀ b ∈ fp, ∀ o, s3.heap.get? b = some o → s5.heap.get? b = some o ∧ H5 b = none := fun b hb o e =>
        let z := I5.pin (b, o) (List.mem_append_right _ (List.mem_append_right _ (mem_pinsAt hb e)))
        ⟨z.1, z.2.1⟩
      have hl : σ0.length = σ4.length := by rw [← hw4, wipe_length]
      refine ⟨(I5.unpinned (pins := pl)).weak hl (fun j v e => ?_), T.keep _ _ _ st3 fun b hb o e => (pin' b hb o e).1, fun b hb => ?_⟩
      · rw [← hw4] at e
        exact (wipe_some e).1
      · obtain ⟨o, e, _⟩ := T.obj _ _ st3 b hb
        exact (pin' b hb o e).2
    obtain ⟨J5, st5, f5⟩ := fin
    refine seg_at (seg_yield rfl rfl rfl ⟨i, k5, by omega, rfl, J5.bare, ?_⟩)
    by_cases hb : k5 = b
    · rw [if_pos hb] at q5
      exact .inl ⟨hb, H5, J5, q5⟩
    · rw [if_neg hb] at q5
      refine .inr ⟨by revert hb; cases k5 <;> cases b <;> simp, ⟨H5, J5, st5, f5, q5⟩, fun s'' h'' => ?_⟩
      exact seg_again rfl (ih (i + 1) s'' s'' (by omega) h'')
theorem gen_seg0 {A : Around} {elt tg iter : Expr} {scope : Scope} {pos : Pos} {s₀ s : Shared} {R : GenEnd} {Y : Protocol} {m : Nat} (T : Turn G.prog G.w G.K tg J fp it tn) (st : tn 0 s.heap)
    (loop : ∀ s₀, Seg (model G.prog G.w) A R Y m s₀ (.compLoop (.GeneratorExp elt [⟨tg, iter, [], 0⟩] scope pos) 0 (.ref it) .none G.env)
        ((model G.prog G.w).den (.compLoop (.GeneratorExp elt [⟨tg, iter, [], 0⟩] scope pos) 0 (.ref it) .none G.env)) [] s) :
    Seg (model G.prog G.w) A R Y m s₀ (.compStart (.GeneratorExp elt [⟨tg, iter, [], 0⟩] scope pos) 0 (.ref it) .none G.env)
      ((model G.prog G.w).den (.compStart (.GeneratorExp elt [⟨tg, iter, [], 0⟩] scope pos) 0 (.ref it) .none G.env)) [] s := by
  show Seg _ A _ _ _ s₀ _ ((compStart (.GeneratorExp elt [⟨tg, iter, [], 0⟩] scope pos) 0 (.ref it) .none G.env).onRaise (leaving G.env)) [] s
  unfold compStart
  rw [Sem.onRaise_eq_wrap]
  show Seg _ A _ _ _ s₀ _ ((ask >>= _).wrap _ _ _ _) [] s
  refine seg_bind_wrap (wpAny_askSetting ?_)
  split
  · exact seg_again rfl (loop _)
  · first
      | exact seg_bind_wrap (wpAny_rule (seg_bind_wrap (wpAny_standAt (seg_bind_wrap (T.self _ 0 s _ _ st (seg_again rfl (loop _)))))))
      | (refine seg_bind_wrap (wpAny_rule ?_); show Seg _ A _ _ _ s₀ _ ((standAt iter.pos >>= _).wrap _ _ _ _) [] s; exact seg_bind_wrap (wpAny_standAt (seg_bind_wrap (T.self _ 0 s _ _ st (seg_again rfl (loop _))))))

/-- the generator at rest, ahead of turn i -/
def GAt (G : Cx) (A : Around) (pl : List (Addr × Obj)) (σ0 : L2.St) (fp : List Addr) (tn : Nat → Heap → Prop) (W : Nat → Hp → Prop) (Qf : Bool → Hp → Prop) (b : Bool) (n g i : Nat) (s : Shared) : Prop :=
  GSt G pl σ0 fp tn W i s ∧ ∃ gs, s.gens[g]? = some gs ∧ ∀ s'', GSt G pl σ0 fp tn W i s'' → gs.Goes (model G.prog G.w) A (GRr G pl σ0 Qf b) (GYy G pl σ0 fp tn W Qf b n) (n - i) (.send .none) s''
theorem gen_next {A : Around} {E : Value → Shared → Prop} {i : Nat} {s : Shared} {Q : Option Value → Shared → Prop} (hh : A.handled = none) (hroom : A.depth < recursionLimit) (hgen : ∀ i s, GSt G pl σ0 fp tn W i s → s.heap.IsGen a g) (hi : i ≤ n)
    (h : GAt G A.in1 pl σ0 fp tn W Qf b n g i s)
    (hN : ∀ s' H', Inv G pl σ0 H' s' → Qf (!b) H' → Q none s') (hB : ∀ s' H', Inv G pl σ0 H' s' → Qf b H' → Q (some (.bool b)) s')
    (hC : ∀ s', i < n → GAt G A.in1 pl σ0 fp tn W Qf b n g (i + 1) s' → Q (some (.bool (!b))) s') :
    wpAny (model G.prog G.w) A (pyNext (.ref a)) Q E s := by
  obtain ⟨st, gs, hgs, hgo⟩ := h
  have hgl : g < s.gens.size := (Array.getElem?_eq_some_iff.mp hgs).1
  have bare : AllBare s.gens := by obtain ⟨_, I, _⟩ := st; exact I.bare
  have stR : GSt G pl σ0 fp tn W i (s.setGen g .running) := st.gens (allBare_setGen (s := s) bare rfl)
  have lim : s.heap.NoLimit := by obtain ⟨_, I, _⟩ := st; exact I.nolimit
  refine wpAny_gsz (n := s.gens.size) (Nat.le_refl _) ?_
  have hgo' := hgo _ stR
  rcases Nat.lt_or_ge i n with hlt | hge
  · have e : n - i = (n - (i + 1)) + 1 := by omega
    rw [e] at hgo'
    refine wpAny_pyNext_genexpQ (P := GP G pl σ0 Qf b) hh lim hroom (hgen _ _ st) hgs hgo' (fun v s₁ gs' hb hv hsz => ?_) (fun s₁ hp h' hk hsz => absurd hp.1 (Nat.succ_ne_zero _))
    obtain ⟨i', k, e1, rfl, hbare, hv⟩ := hv
    have ei : i' = i := by omega
    subst ei
    have hb2 : AllBare (s₁.setGen g gs').gens := allBare_setGen (s := s₁) hbare hb
    rcases hv with ⟨ek, H', I', q'⟩ | ⟨ek, st', kap⟩
    · rw [ek]
      exact hB _ H' (inv_gens I' hb2) q'
    · rw [ek]
      refine hC _ hlt ⟨st'.gens hb2, gs', setGen_at (by rw [GenW.setGen_size] at hsz; omega), fun s'' h'' => kap s'' h''⟩
  · have e : n - i = 0 := by omega
    rw [e] at hgo'
    refine wpAny_pyNext_genexpQ (P := GP G pl σ0 Qf b) hh lim hroom (hgen _ _ st) hgs hgo' (fun v s₁ gs' hb hv hsz => ?_) (fun s₁ hp h' hk hsz => ?_)
    · obtain ⟨i', k, e1, rfl, hbare, hv⟩ := hv
      have hb2 : AllBare (s₁.setGen g gs').gens := allBare_setGen (s := s₁) hbare hb
      rcases hv with ⟨ek, H', I', q'⟩ | ⟨ek, st', kap⟩
      · rw [ek]
        exact hB _ H' (inv_gens I' hb2) q'
      · exact (kap _ st').elim
    · obtain ⟨_, H', I', q'⟩ := hp
      have hb2 : AllBare (s₁.setGen g .finished).gens := allBare_setGen (s := s₁) I'.bare rfl
      exact hN _ H' (Inv.un (h' := h') (t' := s₁.toks) (inv_gens I' hb2) (Un.kept hk) (I'.hok.kept hk)) q'

/-- what a loop over it answers -/
def GAns (G : Cx) (pl : List (Addr × Obj)) (σ0 : L2.St) (Qf : Bool → Hp → Prop) (r : Result) (s' : Shared) : Prop := ∃ k H', r = .ok (.ret (.bool k)) ∧ Inv G pl σ0 H' s' ∧ Qf k H'
theorem gen_any {A : Around} (hh : A.handled = none) (hroom : A.depth < recursionLimit) (hgen : ∀ i s, GSt G pl σ0 fp tn W i s → s.heap.IsGen a g) : ∀ (k i : Nat) (s : Shared), n - i = k → i ≤ n → GAt G A.in1.in1 pl σ0 fp tn W Qf true n g i s →
    codeAny (model G.prog G.w) A (.builtin "any.loop" ⟨[.ref a], []⟩) (GAns G pl σ0 Qf) s := by
  intro k
  induction k with
  | zero =>
    intro i s hk hi h
    refine codeAny_builtin F.entry_any_loop ?_
    rw [Around.under_plainId F.plain_any_loop _]
    show wpAny _ A.in1 (pyNext (.ref a) >>= _) _ _ s
    refine wpAny_bind (gen_next (A := A.in1) hh hroom hgen hi h (fun s' H' I' q' => ?_) (fun s' H' I' q' => ?_) (fun s' hlt _ => by omega))
    · exact wpAny_bind (wpAny_rule (wpAny_pure ⟨false, H', rfl, I', q'⟩))
    · refine wpAny_bind (wpAny_holding (wpAny_truthy_bool ?_))
      refine wpAny_bind (wpAny_letGo ?_)
      simp only [if_true]
      exact wpAny_bind (wpAny_rule (wpAny_pure ⟨true, H', rfl, I', q'⟩))
  | succ k ih =>
    intro i s hk hi h
    refine codeAny_builtin F.entry_any_loop ?_
    rw [Around.under_plainId F.plain_any_loop _]
    show wpAny _ A.in1 (pyNext (.ref a) >>= _) _ _ s
    refine wpAny_bind (gen_next (A := A.in1) hh hroom hgen hi h (fun s' H' I' q' => ?_) (fun s' H' I' q' => ?_) (fun s' hlt h' => ?_))
    · exact wpAny_bind (wpAny_rule (wpAny_pure ⟨false, H', rfl, I', q'⟩))
    · refine wpAny_bind (wpAny_holding (wpAny_truthy_bool ?_))
      refine wpAny_bind (wpAny_letGo ?_)
      simp only [if_true]
      exact wpAny_bind (wpAny_rule (wpAny_pure ⟨true, H', rfl, I', q'⟩))
    · refine wpAny_bind (wpAny_holding (wpAny_truthy_bool ?_))
      refine wpAny_bind (wpAny_letGo ?_)
      simp only [Bool.not_true, Bool.false_eq_true, if_false]
      exact wpAny_pure ⟨plainId_quiet F.plain_any_loop _, ih (i + 1) _ (by omega) hlt h'⟩
theorem gen_all {A : Around} (hh : A.handled = none) (hroom : A.depth < recursionLimit) (hgen : ∀ i s, GSt G pl σ0 fp tn W i s → s.heap.IsGen a g) : ∀ (k i : Nat) (s : Shared), n - i = k → i ≤ n → GAt G A.in1.in1 pl σ0 fp tn W Qf false n g i s →
    codeAny (model G.prog G.w) A (.builtin "all.loop" ⟨[.ref a], []⟩) (GAns G pl σ0 Qf) s := by
  intro k
  induction k with
  | zero =>
    intro i s hk hi h
    refine codeAny_builtin F.entry_all_loop ?_
    rw [Around.under_plainId F.plain_all_loop _]
    show wpAny _ A.in1 (pyNext (.ref a) >>= _) _ _ s
    refine wpAny_bind (gen_next (A := A.in1) hh hroom hgen hi h (fun s' H' I' q' => ?_) (fun s' H' I' q' => ?_) (fun s' hlt _ => by omega))
    · exact wpAny_bind (wpAny_rule (wpAny_pure ⟨true, H', rfl, I', q'⟩))
    · refine wpAny_bind (wpAny_holding (wpAny_truthy_bool ?_))
      refine wpAny_bind (wpAny_letGo ?_)
      simp only [Bool.false_eq_true, if_false]
      exact wpAny_bind (wpAny_rule (wpAny_pure ⟨false, H', rfl, I', q'⟩))
  | succ k ih =>
    intro i s hk hi h
    refine codeAny_builtin F.entry_all_loop ?_
    rw [Around.under_plainId F.plain_all_loop _]
    show wpAny _ A.in1 (pyNext (.ref a) >>= _) _ _ s
    refine wpAny_bind (gen_next (A := A.in1) hh hroom hgen hi h (fun s' H' I' q' => ?_) (fun s' H' I' q' => ?_) (fun s' hlt h' => ?_))
    · exact wpAny_bind (wpAny_rule (wpAny_pure ⟨true, H', rfl, I', q'⟩))
    · refine wpAny_bind (wpAny_holding (wpAny_truthy_bool ?_))
      refine wpAny_bind (wpAny_letGo ?_)
      simp only [Bool.false_eq_true, if_false]
      exact wpAny_bind (wpAny_rule (wpAny_pure ⟨false, H', rfl, I', q'⟩))
    · refine wpAny_bind (wpAny_holding (wpAny_truthy_bool ?_))
      refine wpAny_bind (wpAny_letGo ?_)
      simp only [Bool.not_false, if_true]
      exact wpAny_pure ⟨plainId_quiet F.plain_all_loop _, ih (i + 1) _ (by omega) hlt h'⟩
end

/-! ### the whole -/
/-- a table of code that may grow -/
def TbA (H : Hp) (P : Addr) : Prop := ∃ ps : Array Value, H P = some (.tbl ps) ∧ TbG H ps
theorem codeO_noC {H : Hp} {b : Addr} {ps : Array Value} (h : H b = some (.tbl ps)) : NoC H b := NoC.of h fun c q z => by
  unfold LamX.CodeO at z
  cases z
/-- a code object is new, and told in the table -/
theorem same_code {H : Hp} {P c : Addr} {q : Str} {ps : Array Value} {pos : Pos} (hP : H P = some (.tbl ps)) (hc : H c = none) :
    Same H (upd (upd H P (.tbl (ps ++ #[rawInt pos.line, rawInt pos.col, .ref c]))) c (LamX.CodeO c q)) := by
  have k : ∀ d r, H d = some (LamX.CodeO d r) → (upd (upd H P (.tbl (ps ++ #[rawInt pos.line, rawInt pos.col, .ref c]))) c (LamX.CodeO c q)) d = some (LamX.CodeO d r) := fun d r e => by
    rw [upd_ne (ne_of_none e hc), upd_ne (fun z => by subst z; exact codeO_noC hP _ _ e)]
    exact e
  have k' : ∀ ps', TbG H ps' → TbG (upd (upd H P (.tbl (ps ++ #[rawInt pos.line, rawInt pos.col, .ref c]))) c (LamX.CodeO c q)) ps' := fun ps' t => ⟨t.ok, fun p cv e => by
    obtain ⟨d, r, e1, e2⟩ := t.cd p cv e
    refine ⟨d, r, e1, ?_⟩
    have := ne_of_none e2 hc
    rw [upd_ne this, upd_ne (fun z => by subst z; exact codeO_noC hP _ _ e2)]
    exact e2⟩
  have eL : (ps ++ #[rawInt pos.line, rawInt pos.col, Value.ref c]).toList = ps.toList ++ [rawInt pos.line, rawInt pos.col, .ref c] := by simp
  refine ⟨fun b o e n => ?_, fun b ps' e => ?_⟩
  · rw [upd_ne (ne_of_none e hc), upd_ne (fun z => n ps (Option.some.inj (e.symm.trans (by rw [z]; exact hP))))]
    exact e
  · by_cases hb : b = P
    · subst hb
      rw [hP] at e
      cases e
      refine ⟨_, by rw [upd_ne (ne_of_none hP hc), upd_same], fun t => ⟨by rw [eL]; exact PySem.TriplesOk_snoc _ _ _ _ t.ok, fun p cv z => ?_⟩⟩
      rw [eL] at z
      rcases LamX.among_app _ t.ok z with z | z
      · exact (k' _ t).cd p cv z
      · exact ⟨c, q, z, upd_same⟩
    · exact ⟨ps', by rw [upd_ne (ne_of_none e hc), upd_ne hb]; exact e, fun t => k' _ t⟩
def tGen (P : Addr) (b : Bool) (wi : TI) (g : TG) (te : TE) (vs : List Nat) : TE := fun σ H Q => wi σ H fun J H1 => TbA H1 P ∧ ∀ H2, Same H1 H2 → ∃ (n : Nat) (W : Nat → Hp → Prop), W 0 H2 ∧ GStep J g te vs (wipe σ vs) W (fun k H => Q (.bl k) H) b n
theorem gen_make {X : Cx} {c P : Addr} {elt tg iter : Expr} {gpos : Pos} {scope : Scope} {own : List (Str × Nat)} {wi : TI} {g : TG} {te : TE} {k : Nat} {b : Bool} {pins : List (Addr × Obj)} {s : Shared} {σ : L2.St} {H : Hp} {Q : VK} {Q' : Value → Shared → Prop}
    (hr : Room (k + 1) X.A) (TB : LamX.TabB X.base X.mg c P) (hcode : X.env.code = .ref c) (hN : X.N.Nodup) (hi : PI X tg iter wi) (ok : BlkOk X.N X.env.scope scope own) (go1 : GenO scope)
    (hg : ∀ (s : Shared) (H : Hp) (cd : Value) (fp : List Addr), PG (gCx X s H scope cd fp) tg g) (he : ∀ (s : Shared) (H : Hp) (cd : Value) (fp : List Addr), PE (gCx X s H scope cd fp) elt te)
    (hs : ∀ v, genFold iter X.env v = pure v) (I : Inv X pins σ H s) (h : tGen P b wi g te (own.map (·.2)) σ H Q)
    (hQ : ∀ (G : Cx) (a : Addr) (gn n : Nat) (pl : List (Addr × Obj)) (σ0 : L2.St) (fp : List Addr) (tn : Nat → Heap → Prop) (W : Nat → Hp → Prop) (s5 : Shared), G.prog = X.prog → G.w = X.w → s5.heap.IsGen a gn →
      (∀ i s, GSt G pl σ0 fp tn W i s → s.heap.IsGen a gn) → GAt G X.A.in1.in1 pl σ0 fp tn W (fun k H => Q (.bl k) H) b n gn 0 s5 → (∀ k H' s', Inv G pl σ0 H' s' → Q (.bl k) H' → EP X pins σ Q (.bool k) s') → Q' (.ref a) s5) :
    wpAny (model X.prog X.w) X.A (eval (.GeneratorExp elt [⟨tg, iter, [], 0⟩] scope gpos) X.env) Q' X.xe s := by
  have hfree : ∀ y ∈ scope.names, y.2 = .free → ∃ c, X.env.cells.lookup y.1 = some c := fun y hy e => by
    rcases ok.free y hy e with k | k
    · exact I.ok.has _ (.inl k)
    · exact I.ok.has _ (.inr k)
  refine wpAny_GeneratorExp_make go1.co (closure_ok hfree) go1.cell go1.dot ok.kind (by have := hr.dp; omega) ?_ hs
  refine thn (hi.run pins s σ H _ I h) fun xv s1 hx => thn hx fun itv s2 h2 => ?_
  obtain ⟨it, fp, tn, J, H2, e, I2, T, st2, f2, ⟨ps, hP, ht⟩, q⟩ := h2
  subst e
  refine ⟨I2.nolimit, ?_⟩
  have hPs : s2.heap.get? P = some { cls := .none, data := .fields ps } := I2.hok P _ hP
  have cd : PySem.W.CodeHd s2.heap c P := TB.code.keeps I2.bk
  have nfP : ∀ b ∈ fp, b ≠ P := fun b hb z => by
    have := (f2 b hb).1
    rw [z, hP] at this
    cases this
  have cont : ∀ (code : Value) (h3 : Heap) (tk : Nat) (H3 : Hp), Inv X pins σ H3 { s2 with heap := h3, toks := tk } → Same H2 H3 → (∀ b ∈ fp, H3 b = none) → (∀ b u, b ≠ P → s2.heap.get? b = some u → h3.get? b = some u) → s2.heap.objs.size ≤ h3.objs.size →
      wpAny (model X.prog X.w) X.A (builtinsFor X.env.globals X.env.builtins) (fun bi s₄ => ∀ h', h'.Ns s₄.heap.objs.size (fun y => if y = ".0" then some (Value.ref it) else none) → Heap.SameBut s₄.heap.objs.size (s₄.heap.push { cls := .type "frame", data := .dict #[] }) h' →
          Q' (.ref h'.objs.size) { s₄ with
            gens := s₄.gens.push (.fresh (.compStart (.GeneratorExp elt [⟨tg, iter, [], 0⟩] scope gpos) 0 (.ref it) .none (genEnv scope (cloFrom X.env.cells scope.names []) s₄.heap.objs.size code bi X.env))),
            toks := s₄.toks + 1 + 1 + 1,
            heap := h'.push { cls := .type "generator", data := .fields #[.int s₄.gens.size 0, .str "<genexpr>" (s₄.toks + 1), .str (X.env.qual ++ "<genexpr>") (s₄.toks + 1 + 1)] } }) X.xe { s2 with heap := h3, toks := tk } := by
    intro code h3 tk H3 I3 sm nf3 keep3 hsz
    obtain ⟨bm, ob, e1, e2, e3, e4, e5, e6, e7, e8⟩ := TB.bm
    refine wpAny_builtinsFor (m := X.mg) (by rw [I3.ok.glob]; exact I3.mod.glob.keeps I3.bk) e1 e2 (I3.bk _ _ e5) e6 e7 e8 ?_
    intro h' hn' hs'
    have f3 : ∀ b ∈ fp, FpOk X pins H3 b ∧ b < h3.objs.size := fun b hb => by
      obtain ⟨o, eo, _⟩ := T.obj _ _ st2 b hb
      exact ⟨⟨nf3 b hb, (f2 b hb).2⟩, Nat.lt_of_lt_of_le (Heap.lt_size eo) hsz⟩
    obtain ⟨n, W, w0, hstep⟩ := q _ sm
    have hbare : AllBare (s2.gens.push (.fresh (.compStart (.GeneratorExp elt [⟨tg, iter, [], 0⟩] scope gpos) 0 (.ref it) .none (genEnv scope (cloFrom X.env.cells scope.names []) h3.objs.size code builtinsNs X.env)))) := AllBare.push I2.bare rfl
    have I5 := gen_start (code := code) (it := .ref it) (h' := h') (go := { cls := .type "generator", data := .fields #[.int s2.gens.size 0, .str "<genexpr>" (tk + 1), .str (X.env.qual ++ "<genexpr>") (tk + 1 + 1)] }) (tk := tk + 1 + 1 + 1) I3 ok go1 hN hr.hd f3 hbare hn' hs' (fun v z => by cases z) rfl
    have sz : h'.objs.size = h3.objs.size + 1 := by rw [hs'.1, Heap.size_push]
    have kp5 : ∀ b o, b ≠ P → s2.heap.get? b = some o → (h'.push { cls := .type "generator", data := .fields #[.int s2.gens.size 0, .str "<genexpr>" (tk + 1), .str (X.env.qual ++ "<genexpr>") (tk + 1 + 1)] }).get? b = some o := fun b o hb e =>
      Heap.get?_push_of_some _ (hs'.extBut b o (Nat.ne_of_lt (Nat.lt_of_lt_of_le (Heap.lt_size e) hsz)) (Heap.get?_push_of_some _ (keep3 b o hb e)))
    have hpl : ∀ p ∈ [(h'.objs.size, ({ cls := .type "generator", data := .fields #[.int s2.gens.size 0, .str "<genexpr>" (tk + 1), .str (X.env.qual ++ "<genexpr>") (tk + 1 + 1)] } : Obj))], p.1 ∉ fp := fun p hp z => by
      have e : p.1 = h'.objs.size := by
        rw [List.mem_singleton.mp hp]
      rw [e] at z
      have := (f3 _ z).2
      rw [sz] at this
      have h9 : (h3.objs.size + 1 : Nat) < h3.objs.size := this
      omega
    have st5 : tn 0 (h'.push { cls := .type "generator", data := .fields #[.int s2.gens.size 0, .str "<genexpr>" (tk + 1), .str (X.env.qual ++ "<genexpr>") (tk + 1 + 1)] }) := T.keep _ _ _ st2 fun b hb o e => kp5 b o (nfP b hb) e
    have hgen : ∀ (i : Nat) (s' : Shared), GSt (gCx X { s2 with heap := h3, toks := tk } H3 scope code fp) [(h'.objs.size, { cls := .type "generator", data := .fields #[.int s2.gens.size 0, .str "<genexpr>" (tk + 1), .str (X.env.qual ++ "<genexpr>") (tk + 1 + 1)] })] (wipe σ (own.map (·.2))) fp tn W i s' → s'.heap.IsGen h'.objs.size s2.gens.size := fun i s' ⟨H', I', _⟩ =>
      ⟨_, _, _, (I'.pin (h'.objs.size, _) (List.mem_append_right _ (List.mem_singleton.mpr rfl))).1, rfl, rfl, rfl⟩
    have pg := hg { s2 with heap := h3, toks := tk } H3 code fp
    have pe := he { s2 with heap := h3, toks := tk } H3 code fp
    refine hQ (gCx X { s2 with heap := h3, toks := tk } H3 scope code fp) h'.objs.size s2.gens.size n _ _ fp tn W _ rfl rfl (hgen 0 _ ⟨_, I5, st5, nf3, w0⟩) hgen ⟨⟨_, I5, st5, nf3, w0⟩, _, Array.getElem?_push_size .., fun s'' h'' => ⟨rfl, ?_⟩⟩ (fun k H' s' I' q' => ?_)
    · refine gen_seg0 T (by obtain ⟨_, _, z, _⟩ := h''; exact z) fun s₀ => ?_
      exact gen_seg rfl rfl rfl rfl rfl hpl T pg pe go1.co hstep n 0 s₀ s'' (Nat.sub_zero _) h''
    · exact ⟨.bl k, H', I3.call' (ch := fp) I'.os I'.base I'.hok I'.bare (fun b hb => ⟨(f3 b hb).1.2.2.2.1, (f3 b hb).1.2.1, (f3 b hb).1.2.2.2.2.1, (f3 b hb).1.2.2.2.2.2⟩), rfl, q'⟩
  cases hf : codeAmong gpos ps.toList with
  | none =>
    refine wpAny_genexprCodeX hcode (cd.code hPs ht.ok) (cd.tab hPs) hf fun c' h' tk hx hge hlt hco' hrec htab' _ => ?_
    obtain ⟨c2, oc, vs, t, e2, hoc, hd, hv⟩ := hrec
    cases e2
    have nC : H2 c' = none := I2.hok.fresh hge
    have I3 := LamX.inv_table (more := #[rawInt gpos.line, rawInt gpos.col, .ref c']) (h' := h') (t' := tk) I2 hP (fun b u hb e => hx b u hb e) htab'.2 hge ⟨oc, vs, t, hoc, hd, hv⟩
    refine cont _ h' tk _ I3 (same_code (pos := gpos) hP nC) (fun b hb => ?_) (fun b u hb e => hx b u hb e) (Nat.le_trans hge (Nat.le_of_lt hlt))
    obtain ⟨o, eo, _⟩ := T.obj _ _ st2 b hb
    rw [upd_ne (Nat.ne_of_lt (Nat.lt_of_lt_of_le (Heap.lt_size eo) hge)), upd_ne (nfP b hb)]
    exact (f2 b hb).1
  | some cv =>
    refine wpAny_genexprCode_hit hcode (cd.code hPs ht.ok) hf ?_
    exact cont cv s2.heap s2.toks H2 I2 (Same.refl H2) (fun b hb => (f2 b hb).1) (fun b u _ e => e) (Nat.le_refl _)
section
variable {X : Cx} {c P : Addr} {elt tg iter : Expr} {p pos gpos : Pos} {scope : Scope} {own : List (Str × Nat)} {wi : TI} {g : TG} {te : TE} {k : Nat}
theorem pe_anyG (hr : Room (k + 1) X.A) (hgl : Gl X "any") (hm : X.mg "any" = none) (TB : LamX.TabB X.base X.mg c P) (hcode : X.env.code = .ref c) (hN : X.N.Nodup) (hi : PI X tg iter wi) (ok : BlkOk X.N X.env.scope scope own) (go1 : GenO scope)
    (hg : ∀ (s : Shared) (H : Hp) (cd : Value) (fp : List Addr), PG (gCx X s H scope cd fp) tg g) (he : ∀ (s : Shared) (H : Hp) (cd : Value) (fp : List Addr), PE (gCx X s H scope cd fp) elt te)
    (hs : ∀ v, genFold iter X.env v = pure v)
    (hse : starEach [.GeneratorExp elt [⟨tg, iter, [], 0⟩] scope gpos] X.env = (false, eval (.GeneratorExp elt [⟨tg, iter, [], 0⟩] scope gpos) X.env) :: starEach [] X.env := by rfl) :
    PE X (.Call (.Name "any" p) [.GeneratorExp elt [⟨tg, iter, [], 0⟩] scope gpos] [] pos) (tGen P true wi g te (own.map (·.2))) := by
  refine ⟨fun pins s σ H Q I h => ?_⟩
  refine wpAny_Call_Name_kw (ld_blt I hgl hm boot_any ?_)
  refine PyProof.Rows.callWith_builtin1 ?_ hse (by rfl)
  rw [hse]
  show wpAny _ _ (spliced ((false, eval (.GeneratorExp elt [⟨tg, iter, [], 0⟩] scope gpos) X.env) :: backTo pos (starEach [] X.env))) _ _ s
  refine Calls.spliced_cons (gen_make hr TB hcode hN hi ok go1 hg he hs I h fun G a gn n pl σ0 fp tn W s5 e1 e2 hig hgen hat hback => ?_)
  refine Calls.spliced_nil ?_
  refine call_function_tree F.kind_any F.plain_any F.entry_any (F.args_any1 _) ?_
  unfold Builtin.«any»
  refine wpAny_bind (m := oneArg "any" _) (wpAny_pure ?_)
  refine wpAny_bind (wpAny_pyIter_gen hig ?_)
  refine wpAny_pure ⟨plainId_quiet F.plain_any_loop _, ?_⟩
  rw [← e1, ← e2]
  refine codeAny_mono (gen_any hr.hd hr.depth hgen n 0 s5 (Nat.sub_zero _) (Nat.zero_le _) hat) fun r s' ⟨kb, H', er, I', q'⟩ => ?_
  subst er
  exact hback kb H' s' I' q'
theorem pe_allG (hr : Room (k + 1) X.A) (hgl : Gl X "all") (hm : X.mg "all" = none) (hb : bootBuiltins "all" = some (.builtin "all")) (TB : LamX.TabB X.base X.mg c P) (hcode : X.env.code = .ref c) (hN : X.N.Nodup) (hi : PI X tg iter wi) (ok : BlkOk X.N X.env.scope scope own) (go1 : GenO scope)
    (hg : ∀ (s : Shared) (H : Hp) (cd : Value) (fp : List Addr), PG (gCx X s H scope cd fp) tg g) (he : ∀ (s : Shared) (H : Hp) (cd : Value) (fp : List Addr), PE (gCx X s H scope cd fp) elt te)
    (hs : ∀ v, genFold iter X.env v = pure v)
    (hse : starEach [.GeneratorExp elt [⟨tg, iter, [], 0⟩] scope gpos] X.env = (false, eval (.GeneratorExp elt [⟨tg, iter, [], 0⟩] scope gpos) X.env) :: starEach [] X.env := by rfl) :
    PE X (.Call (.Name "all" p) [.GeneratorExp elt [⟨tg, iter, [], 0⟩] scope gpos] [] pos) (tGen P false wi g te (own.map (·.2))) := by
  refine ⟨fun pins s σ H Q I h => ?_⟩
  refine wpAny_Call_Name_kw (ld_blt I hgl hm hb ?_)
  refine PyProof.Rows.callWith_builtin1 ?_ hse (by rfl)
  rw [hse]
  show wpAny _ _ (spliced ((false, eval (.GeneratorExp elt [⟨tg, iter, [], 0⟩] scope gpos) X.env) :: backTo pos (starEach [] X.env))) _ _ s
  refine Calls.spliced_cons (gen_make hr TB hcode hN hi ok go1 hg he hs I h fun G a gn n pl σ0 fp tn W s5 e1 e2 hig hgen hat hback => ?_)
  refine Calls.spliced_nil ?_
  refine call_function_tree F.kind_all F.plain_all F.entry_all (F.args_all1 _) ?_
  unfold Builtin.«all»
  refine wpAny_bind (m := oneArg "all" _) (wpAny_pure ?_)
  refine wpAny_bind (wpAny_pyIter_gen hig ?_)
  refine wpAny_pure ⟨plainId_quiet F.plain_all_loop _, ?_⟩
  rw [← e1, ← e2]
  refine codeAny_mono (gen_all hr.hd hr.depth hgen n 0 s5 (Nat.sub_zero _) (Nat.zero_le _) hat) fun r s' ⟨kb, H', er, I', q'⟩ => ?_
  subst er
  exact hback kb H' s' I' q'
end
end Zy
end
section
set_option maxHeartbeats 1000000
/-! Zy, part YC: sorted(xs, key=f). -/
namespace Zy
open PySem PySem.Spec PyProof.Rows L2 SrtO Srt

section
variable {X : Cx} {pins : List (Addr × Obj)} {σ : L2.St} {H : Hp} {s : Shared}
/-- a new object of ours, untracked, is written -/
theorem inv_repin {b : Addr} {o o' : Obj} {h' : Heap} {pl rest : List (Addr × Obj)} (I : Inv X (pl ++ rest) σ H s) (fb : FpOk X pl H b) (hr : ∀ p ∈ rest, p.1 ≠ b) (kp : ∀ c u, c ≠ b → s.heap.get? c = some u → h'.get? c = some u) (ho : h'.get? b = some o') (hd : ∀ v, o'.data ≠ .cell v) {tk : Nat} :
    Inv X (pl ++ (b, o') :: rest) σ H { s with heap := h', toks := tk } := by
  obtain ⟨f0, f1, f2, f3, f4, f5⟩ := fb
  have I1 := I.turned (t' := tk) kp f0 f1 f3 f4 (fun p hp => by
    rcases List.mem_append.mp hp with z | z
    · exact f5 p (List.mem_append_left _ z)
    · rcases List.mem_append.mp z with z | z
      · exact f5 p (List.mem_append_right _ z)
      · exact hr p z)
  refine I1.pins_of fun p hp => ?_
  rcases List.mem_append.mp hp with z | z
  · exact I1.pin p (List.mem_append_right _ (List.mem_append_left _ z))
  · rcases List.mem_cons.mp z with z | z
    · subst z
      exact ⟨ho, f0, f1, f2, hd⟩
    · exact I1.pin p (List.mem_append_right _ (List.mem_append_right _ z))
/-- an untracked list of ours is told of from now on -/
theorem inv_tell {a : Addr} {ys : List V} {its : List Value} {n : Nat} (I : Inv X pins σ H s) (fa : FpOk X pins H a) (r : Vals ys its) (hz : ys.length ≤ sizeLine) (ho : s.heap.get? a = some { cls := .type "list", data := .seq its.toArray n }) : Inv X pins σ (upd H a (.lst ys)) s := by
  obtain ⟨f0, f1, f2, f3, f4, f5⟩ := fa
  have ne : ∀ b u, H b = some u → b ≠ a := fun b u e z => by rw [z, f0] at e; cases e
  have J := I.step (h' := s.heap) (H' := upd H a (.lst ys)) (g' := s.gens) (d' := s.drawn) (t' := s.toks) (ch := [a]) (fun b hb => by
      rw [List.mem_singleton.mp hb]
      exact ⟨f3, f1, f4, f5⟩) (fun b o _ _ _ e _ => e) (fun b o _ _ _ e _ => ⟨o.slots, e⟩) (fun b o hb _ n => by rw [upd_ne (fun z => hb (by rw [z]; exact List.mem_singleton.mpr rfl))]; exact n) (fun b o _ e => ⟨o, e⟩)
    (fun b xs e => by rw [upd_ne (ne _ _ e)]; exact e) (fun b o u e => by rw [upd_ne (ne _ _ e)]; exact e) (fun b ps e => ⟨#[], by rw [upd_ne (ne _ _ e), e]; simp⟩) (fun m hm => hm) (fun b u e => ?_) I.bare
  · exact J
  · by_cases hb : b = a
    · rw [hb, upd_same] at e
      cases e
      rw [hb]
      exact ⟨hz, its, n, r, ho⟩
    · rw [upd_ne hb] at e
      exact (I.hok b u e).stay (fun d v _ q => q) (fun d q => by rw [upd_ne (ne _ _ q)]; exact q) fun d xs q => by rw [upd_ne (ne _ _ q)]; exact q
theorem fpOk_pins {pins' : List (Addr × Obj)} {b : Addr} (f : FpOk X pins H b) (h : ∀ p ∈ pins', p.1 ≠ b) : FpOk X pins' H b := ⟨f.1, f.2.1, f.2.2.1, f.2.2.2.1, f.2.2.2.2.1, fun p hp => (List.mem_append.mp hp).elim (fun z => f.2.2.2.2.2 p (List.mem_append_left _ z)) (h p)⟩

theorem seq_nc {n : String} {xs : Array Value} {c : Nat} : ∀ v, (seqObj n xs c).data ≠ .cell v := fun v z => by cases z
/-- what the key function does: pf: pins that it needs -/
def KC (X : Cx) (σ : L2.St) (f : Addr) (pf : List (Addr × Obj)) (r : V → Hp → VK → Prop) : Prop := ∀ (pl : List (Addr × Obj)) (s : Shared) (H : Hp) (x : V) (u : Value) (Q : VK), (∀ p ∈ pf, p ∈ pl) → Inv X pl σ H s → RelV x u → r x H Q →
  wpAny (model X.prog X.w) X.A.in1.in1 (call (.ref f) [u]) (EP X pl σ Q) (fun _ _ => False) s

theorem vals_snoc {xs : List V} {us : List Value} {y : V} {u : Value} (r : Vals xs us) (h : RelV y u) : Vals (xs ++ [y]) (us ++ [u]) := r.append (.cons h .nil)
theorem key_rest {E : Value → Shared → Prop} {P : PySem.Fin → Shared → Prop} {f a kS : Addr} {pf pl : List (Addr × Obj)} {r : V → Hp → VK → Prop} {vs : List Value} {xs : List V} {W : List V → Hp → Prop} {e1 : Nat} (kc : KC X σ f pf r) (hpf : ∀ p ∈ pf, p ∈ pl) (hx : Vals xs vs) (hz : vs.length ≤ sizeLine)
    (step : ∀ ks H, W ks H → ∀ x, xs[ks.length]? = some x → r x H fun y H3 => W (ks ++ [y]) H3) (fk : FpOk X pl H kS) (fa : FpOk X pl H a) (hka : kS ≠ a)
    (I : Inv X (pl ++ [(kS, seqObj "list" #[] 0), (a, seqObj "list" #[] e1)]) σ H s) (w0 : W [] H)
    (done : ∀ ks H' s' (keys : List Value) e, W ks H' → ks.length = xs.length → Vals ks keys → Inv X (pl ++ [(kS, seqObj "list" keys.toArray e), (a, seqObj "list" #[] e1)]) σ H' s' → wpAny (model X.prog X.w) X.A.in1.in1 (ksk_end a false vs.toArray e1 (.ref kS) keys.toArray) P E s') :
    wpAny (model X.prog X.w) X.A.in1.in1 (ksk_rest a (.ref f) false vs.toArray e1 (.ref kS)) P E s := by
  unfold ksk_rest
  refine wpAny_bind (wpAny_rule ?_)
  rw [List.forIn_toArray]
  refine wpAny_bind (ksk_fold (fun i s' => ∃ ks H' keys e, W ks H' ∧ ks.length = i ∧ Vals ks keys ∧ Inv X (pl ++ [(kS, seqObj "list" keys.toArray e), (a, seqObj "list" #[] e1)]) σ H' s') vs 0 s ⟨[], H, [], 0, w0, rfl, .nil, I⟩ ?step ?done)
  case step =>
    rintro j u s' hu ⟨ks, H', keys, e, w', hl, rk, I'⟩
    simp only [Nat.zero_add] at hl ⊢
    obtain ⟨x, hx1, hx2⟩ : ∃ x, xs[j]? = some x ∧ RelV x u := by
      cases q : xs[j]? with
      | none =>
        rw [hx.none_of q] at hu
        cases hu
      | some x =>
        obtain ⟨u', h2, h3⟩ := hx.get q
        rw [hu] at h2
        cases h2
        exact ⟨x, rfl, h3⟩
    have hj : j < vs.length := (List.getElem?_eq_some_iff.mp hu).1
    have st := step ks H' w' x (by rw [hl]; exact hx1)
    refine wpAny_bind (wpAny_attempt (wpAny_mono (kc _ s' H' x u _ (fun p hp => List.mem_append_left _ (hpf p hp)) I' hx2 st) (fun v s2 he => ?_) fun _ _ hF => hF.elim))
    obtain ⟨y, H2, I2, ry, w2⟩ := he
    try dsimp only
    have nk := I2.pin (kS, seqObj "list" keys.toArray e) (List.mem_append_right _ (List.mem_append_right _ (.head _)))
    have na := I2.pin (a, seqObj "list" #[] e1) (List.mem_append_right _ (List.mem_append_right _ (.tail _ (.head _))))
    have s1 := Heap.SameBut.update s2.heap kS (Obj.mapSeq (·.push v))
    obtain ⟨c2, hc2⟩ : ∃ c2, (s2.heap.update kS (Obj.mapSeq (·.push v))).get? kS = some (seqObj "list" (keys.toArray.push v) c2) := ⟨_, get?_update_seq nk.1 (·.push v)⟩
    have lk : keys.length = j := by rw [← rk.length, hl]
    refine wpAny_bind (listUpdate_at nk.1 rfl ?_ (by rw [List.size_toArray, sizeLine_eq]; rw [sizeLine_eq] at hz; omega) (Nat.le_trans (Nat.le_of_eq (Array.size_push ..)) (by rw [List.size_toArray]; omega)))
    have fk2 : FpOk X pl H2 kS := ⟨nk.2.1, fk.2⟩
    have I2' : Inv X (pl ++ [(a, seqObj "list" #[] e1)]) σ H2 s2 := I2.pins_of fun p hp => I2.pin p (by
      rcases List.mem_append.mp hp with z | z
      · exact List.mem_append_right _ (List.mem_append_left _ z)
      · rw [List.mem_singleton.mp z]
        exact List.mem_append_right _ (List.mem_append_right _ (.tail _ (.head _))))
    have ek : (keys.toArray.push v) = (keys ++ [v]).toArray := by simp
    have I3 := inv_repin (tk := s2.toks) (h' := s2.heap.update kS (Obj.mapSeq (·.push v))) (o := seqObj "list" keys.toArray e) (o' := seqObj "list" (keys.toArray.push v) c2) I2' fk2 (fun p hp => by rw [List.mem_singleton.mp hp]; exact hka.symm) (fun c u hc e => (s1.2 c hc).trans e) hc2 seq_nc
    rw [ek] at I3
    exact wpAny_pure ⟨rfl, ks ++ [y], H2, keys ++ [v], c2, w2, by rw [List.length_append, hl]; rfl, vals_snoc rk ry, I3⟩
  case done =>
    rintro s' ⟨ks, H', keys, e, w', hl, rk, I'⟩
    have nk := I'.pin (kS, seqObj "list" keys.toArray e) (List.mem_append_right _ (List.mem_append_right _ (.head _)))
    try dsimp only
    refine wpAny_bind (listItems_at nk.1 rfl ?_)
    exact done ks H' s' keys e w' (by rw [hl, hx.length]; omega) rk I'

theorem key_end {E : Value → Shared → Prop} {P : PySem.Fin → Shared → Prop} {A : Around} {a kS : Addr} {pl : List (Addr × Obj)} {vs keys : List Value} {e e1 : Nat} {ltv : Value → Value → Bool} (fk : FpOk X pl H kS) (fa : FpOk X pl H a) (hka : kS ≠ a) (hl : keys.length = vs.length) (hz : vs.length ≤ sizeLine)
    (I : Inv X (pl ++ [(kS, seqObj "list" keys.toArray e), (a, seqObj "list" #[] e1)]) σ H s) (O : Swo ltv)
    (hS : 2 ≤ vs.length → ∃ κ, (∀ (Q : SortKind → Shared → Prop) (E : Value → Shared → Prop), Q κ s → wpAny (model X.prog X.w) A (keyKind' keys.toArray) Q E s) ∧ Cmp X.prog X.w A s κ (fun p => p.1 ∈ keys) (lt2 ltv))
    (h : ∀ (ps : List Keyed) s' c, Srtd (lt2 ltv) ps → Stb (lt2 ltv) ps (keys.zip vs) → Inv X pl σ H s' → s'.heap.get? a = some (seqObj "list" (ps.map (·.2)).toArray c) → P (.done (.ret .none)) s') :
    wpAny (model X.prog X.w) A (ksk_end a false vs.toArray e1 (.ref kS) keys.toArray) P E s := by
  have tail : ∀ st : SortSt, failedOf st = none → Srtd (lt2 ltv) (arrOf st).toList → Stb (lt2 ltv) (arrOf st).toList (keys.zip vs) → wpAny (model X.prog X.w) A (ksk_tail a false e1 (.ref kS) st) P E s := by
    intro st hf h1 h2
    have nk := I.pin (kS, seqObj "list" keys.toArray e) (List.mem_append_right _ (List.mem_append_right _ (.head _)))
    have na := I.pin (a, seqObj "list" #[] e1) (List.mem_append_right _ (List.mem_append_right _ (.tail _ (.head _))))
    have s1 := Heap.SameBut.update s.heap kS (Obj.mapSeq fun _ => (#[] : Array Value))
    obtain ⟨c1, hc1⟩ : ∃ c1, (s.heap.update kS (Obj.mapSeq fun _ => (#[] : Array Value))).get? kS = some (seqObj "list" #[] c1) := ⟨_, get?_update_seq nk.1 fun _ => #[]⟩
    have na1 : (s.heap.update kS (Obj.mapSeq fun _ => (#[] : Array Value))).get? a = some (seqObj "list" #[] e1) := (s1.2 a hka.symm).trans na.1
    have s2 := Heap.SameBut.update (s.heap.update kS (Obj.mapSeq fun _ => (#[] : Array Value))) a (Obj.mapSeq fun _ => (arrOf st).map (·.2))
    obtain ⟨c2, hc2⟩ : ∃ c2, ((s.heap.update kS (Obj.mapSeq fun _ => (#[] : Array Value))).update a (Obj.mapSeq fun _ => (arrOf st).map (·.2))).get? a = some (seqObj "list" ((arrOf st).map (·.2)) c2) := ⟨_, get?_update_seq na1 fun _ => (arrOf st).map (·.2)⟩
    have hsz : (arrOf st).size = vs.length := by
      have := h2.len
      rw [Array.length_toList, List.length_zip] at this
      omega
    unfold ksk_tail
    try dsimp only
    refine wpAny_bind (listUpdate_at nk.1 rfl ?_ (by rw [List.size_toArray, hl]; exact hz) (Nat.zero_le _))
    refine wpAny_bind (wpAny_letGo ?_)
    refine wpAny_bind (seqEpoch_at na1 rfl ?_)
    simp only [Bool.false_eq_true, if_false]
    refine wpAny_bind (listUpdate_at na1 rfl ?_ (Nat.zero_le _) (by rw [Array.size_map, hsz]; omega))
    rw [hf]
    simp only [bne_self_eq_false, Bool.false_eq_true, if_false]
    have Ia : Inv X (pl ++ [(a, seqObj "list" #[] e1)]) σ H s := I.pins_of fun p hp => I.pin p (by
      rcases List.mem_append.mp hp with z | z
      · exact List.mem_append_right _ (List.mem_append_left _ z)
      · rw [List.mem_singleton.mp z]
        exact List.mem_append_right _ (List.mem_append_right _ (.tail _ (.head _))))
    have I1 := inv_repin (tk := s.toks) (h' := s.heap.update kS (Obj.mapSeq fun _ => (#[] : Array Value))) (o := seqObj "list" keys.toArray e) (o' := seqObj "list" #[] c1) Ia fk (fun p hp => by rw [List.mem_singleton.mp hp]; exact hka.symm) (fun c u hc e => (s1.2 c hc).trans e) hc1 seq_nc
    have I1' : Inv X (pl ++ []) σ H { s with heap := s.heap.update kS (Obj.mapSeq fun _ => (#[] : Array Value)), toks := s.toks } := I1.pins_of fun p hp => I1.pin p (by
      rw [List.append_nil] at hp
      exact List.mem_append_right _ (List.mem_append_left _ hp))
    refine wpAny_pure ?_
    generalize s.heap.update kS (Obj.mapSeq fun _ => (#[] : Array Value)) = g1 at s2 hc2 I1' ⊢
    generalize g1.update a (Obj.mapSeq fun _ => (arrOf st).map (·.2)) = g2 at s2 hc2 ⊢
    have I2 := inv_repin (tk := s.toks) (h' := g2) (o := seqObj "list" #[] e1) I1' fa (fun p hp => by cases hp) (fun c u hc e => (s2.2 c hc).trans e) hc2 seq_nc
    refine h (arrOf st).toList _ c2 h1 h2 (I2.pins_of fun p hp => I2.pin p (List.mem_append_right _ (List.mem_append_left _ hp))) ?_
    have ea : ((arrOf st).toList.map (·.2)).toArray = (arrOf st).map (·.2) := by
      apply Array.ext'
      simp
    rw [ea]
    exact hc2
  have ez : (keys.toArray.zip vs.toArray).toList = keys.zip vs := by rw [ksk_zip]
  unfold ksk_end
  try dsimp only
  simp only [Bool.false_eq_true, if_false]
  by_cases h2 : vs.toArray.size < 2
  · rw [if_pos h2, if_pos h2]
    refine wpAny_bind (wpAny_pure ?_)
    rw [StateT.run_pure]
    refine wpAny_bind (wpAny_pure ?_)
    try dsimp only
    refine tail (SortSt.mk' general' (keys.toArray.zip vs.toArray) #[] 7 none) rfl ?_ ?_
    · show Srtd (lt2 ltv) (keys.toArray.zip vs.toArray).toList
      rw [ez]
      rw [List.size_toArray] at h2
      have hl2 : (keys.zip vs).length < 2 := by rw [List.length_zip]; omega
      match keys.zip vs, hl2 with
      | [], _ => exact List.Pairwise.nil
      | [p], _ => exact SrtO.srtd_one p
    · show Stb (lt2 ltv) (keys.toArray.zip vs.toArray).toList (keys.zip vs)
      rw [ez]
      exact Stb.refl _
  · rw [if_neg h2, if_neg h2]
    rw [List.size_toArray] at h2
    obtain ⟨κ, hkind, hT⟩ := hS (by omega)
    refine wpAny_bind (hkind _ _ ?_)
    have hall : AllL (fun p : Keyed => p.1 ∈ keys) (keys.toArray.zip vs.toArray).toList := fun p hm => by
      rw [ez] at hm
      obtain ⟨p1, p2⟩ := p
      exact (List.of_mem_zip hm).1
    refine wpAny_bind (wpAny_mono (wpS_sortO (st0 := SortSt.mk' κ (keys.toArray.zip vs.toArray) #[] 7 none)
      (Q := fun _ st' => Srtd (lt2 ltv) (arrOf st').toList ∧ Stb (lt2 ltv) (arrOf st').toList (keys.toArray.zip vs.toArray).toList ∧ failedOf st' = none) (swo2 O) hT rfl hall rfl rfl fun st' a1 a2 a3 => ⟨a1, a2, a3⟩) ?_ fun _ _ e => e)
    rintro ⟨⟨⟩, st'⟩ s' ⟨rfl, hp1, hp2, hf⟩
    try dsimp only
    rw [ez] at hp2
    exact tail st' hf hp1 hp2

/-! ### keys (n, row): sortable -/
end
theorem lexLt_eq : ∀ a b : List Int, HT.lexLt a b = lexI a b
  | [], [] => rfl
  | [], _ :: _ => rfl
  | _ :: _, [] => rfl
  | x :: r, y :: q => by
    show (if x = y then HT.lexLt r q else decide (x < y)) = (if x = y then lexI r q else decide (x < y))
    rw [lexLt_eq r q]
section
variable {A : Around} {s : Shared}
theorem ints_get : ∀ {vs : List Value} {ns : List Int}, IntsAre vs ns → ∀ {j : Nat} {v : Value}, vs[j]? = some v → ∃ n t, ns[j]? = some n ∧ v = .int n t
  | _, _, .nil, j, v, h => by cases h
  | _, _, .cons n t r, 0, v, h => by cases h; exact ⟨n, t, rfl, rfl⟩
  | _, _, .cons n t r, j + 1, v, h => ints_get r (j := j) (by simpa using h)
theorem ints_det : ∀ {vs : List Value} {ns ms : List Int}, IntsAre vs ns → IntsAre vs ms → ns = ms
  | _, _, _, .nil, .nil => rfl
  | _, _, _, .cons n t r, h => by
    cases h with
    | cons _ _ r' => rw [ints_det r r']
theorem eq_rows {t u : Addr} {its jts : Array Value} {is_ js : List Int} (ht : s.heap.IsTuple t its) (hu : s.heap.IsTuple u jts) (hi : IntsAre its.toList is_) (hj : IntsAre jts.toList js) (room : A.units < cLine) : SeqAt.EqAt A s (.ref t) (.ref u) (decide (is_ = js)) := by
  by_cases e : t = u
  · subst e
    obtain ⟨o, ho, hc, n, hd⟩ := ht
    obtain ⟨o', ho', hc', n', hd'⟩ := hu
    rw [ho] at ho'
    cases ho'
    rw [hd] at hd'
    cases hd'
    rw [ints_det hi hj]
    simp only [decide_true]
    exact SeqAt.EqAt.same _
  · have rc := SeqAt.RcAt.tuples (A := A) (s := s) (e := fun j => decide (is_[j]? = js[j]?)) ht hu room (fun j h1 h2 => by
      obtain ⟨n, t1, e1, e2⟩ := ints_get hi (j := j) (v := its[j]) (by rw [Array.getElem?_toList, Array.getElem?_eq_getElem h1])
      obtain ⟨m, t2, e3, e4⟩ := ints_get hj (j := j) (v := jts[j]) (by rw [Array.getElem?_toList, Array.getElem?_eq_getElem h2])
      rw [e2, e4, e1, e3]
      have z : decide (some n = some m) = (n == m) := by
        by_cases q : n = m
        · subst q; simp
        · simp [q]
      show SeqAt.EqAt A.in1 s _ _ (decide (some n = some m))
      rw [z]
      exact SeqAt.EqAt.int_int n t1 m t2)
    have l1 : its.size = is_.length := by rw [← Array.length_toList, hi.length]
    have l2 : jts.size = js.length := by rw [← Array.length_toList, hj.length]
    have eb : ((List.range (min its.size jts.size)).all (fun j => decide (is_[j]? = js[j]?)) && its.size == jts.size) = decide (is_ = js) := by
      rw [l1, l2, Bool.eq_iff_iff]
      simp only [Bool.and_eq_true, List.all_eq_true, List.mem_range, decide_eq_true_eq, beq_iff_eq]
      constructor
      · rintro ⟨h1, h2⟩
        apply List.ext_getElem?
        intro j
        by_cases hj : j < is_.length
        · exact h1 j (by omega)
        · rw [List.getElem?_eq_none (by omega), List.getElem?_eq_none (by omega)]
      · rintro rfl
        exact ⟨fun _ _ => rfl, rfl⟩
    rw [eb] at rc
    exact SeqAt.EqAt.of_refs e rc
end
/-- a tuple (n, row) -/
def IsKeyR (h : Heap) (v : Value) (k : List Int) : Prop := ∃ (t : Addr) (o : Obj) (its : Array Value) (n : Nat) (i : Int) (tk : Tok) (t2 : Addr) (its2 : Array Value) (is_ : List Int), v = .ref t ∧ h.get? t = some o ∧ o.cls = .type "tuple" ∧ o.data = .seq its n ∧ its.toList = [.int i tk, .ref t2] ∧ h.IsTuple t2 its2 ∧ IntsAre its2.toList is_ ∧ k = i :: is_
section
variable {prog : Program} {w : World} {A : Around} {E : Value → Shared → Prop} {s : Shared}
theorem keyFirsts {h : Heap} (vs : List Value) : (∀ v ∈ vs, ∃ k, IsKeyR h v k) → ∃ fs : List Value, PySem.W.KatTups h vs fs ∧ fs.length = vs.length ∧ ∀ f ∈ fs, ∃ x t, f = Value.int x t := by
  induction vs with
  | nil => exact fun _ => ⟨[], .nil, rfl, nofun⟩
  | cons v vs ih =>
    intro hp
    obtain ⟨fs, tups, len, intz⟩ := ih fun u hu => hp u (.tail _ hu)
    obtain ⟨k, t, o, ⟨l⟩, n, i, tk, t2, its2, is_, rfl, ho, hc, hd, hl, _⟩ := hp v (.head _)
    change l = _ at hl
    subst hl
    refine ⟨.int i tk :: fs, .cons ho hc hd rfl tups, congrArg (· + 1) len, ?_⟩
    rintro f (_ | ⟨_, hf⟩)
    · exact ⟨i, tk, rfl⟩
    · exact intz f hf
theorem keyR_cmp {vs : List Value} {k : Value → List Int} (hu : A.units < cLine) (hp : ∀ v ∈ vs, IsKeyR s.heap v (k v)) : Cmp prog w A s (tuples' true) (fun p => p.1 ∈ vs) (lt2 fun v u => lexI (k v) (k u)) := by
  intro p q hm hm'
  have h1 := hp _ hm
  have h2 := hp _ hm'
  show wpAny (model prog w) A (keyLt' (tuples' true) p.1 q.1) (fun r s' => s' = s ∧ r = lexI (k p.1) (k q.1)) (fun _ _ => False) s
  generalize k p.1 = x at h1 ⊢
  generalize k q.1 = y at h2 ⊢
  obtain ⟨t, o, its, n, i, tk, t2, its2, is_, e, ho, hc, hd, hl, ht2, hi, rfl⟩ := h1
  obtain ⟨t', o', its', n', i', tk', t2', its2', is', e', ho', hc', hd', hl', ht2', hi', rfl⟩ := h2
  rw [e, e']
  refine PySem.W.kat_lt ho hd ho' hd' ?_
  have l1 : its.size = 2 := by rw [← Array.length_toList, hl]; rfl
  have l2 : its'.size = 2 := by rw [← Array.length_toList, hl']; rfl
  rw [hl, hl', l1, l2]
  show PySem.W.KatLex prog w A true false _ [(Value.int i tk, Value.int i' tk'), (Value.ref t2, Value.ref t2')] 0 s
  refine PySem.W.kat_cons (SeqAt.EqAt.int_int i tk i' tk' prog w _ _ ?_)
  refine PySem.W.kat_go (fun e1 => ?_) (fun e1 => ?_)
  · have ex : i = i' := by simpa using e1
    refine PySem.W.kat_yes (PySem.W.kat_cons (eq_rows ht2 ht2' hi hi' hu prog w _ _ (PySem.W.kat_go (fun e2 => ?_) (fun e2 => ?_))))
    · have ex2 : is_ = is' := by simpa using e2
      refine PySem.W.kat_yes (PySem.W.kat_nil ⟨rfl, ?_⟩)
      subst ex ex2
      show false = (if i = i then lexI is_ is_ else _)
      rw [if_pos rfl]
      cases hq : lexI is_ is_ with
      | false => rfl
      | true => exact absurd hq (by rw [lexI_asym _ _ hq]; decide)
    · refine PySem.W.kat_no (PySem.W.kat_one _ _ ?_)
      refine HT.lt_tupInts ht2 ht2' hi hi' hu ?_
      show _ ∧ _
      refine ⟨rfl, ?_⟩
      show _ = (if i = i' then lexI is_ is' else _)
      rw [if_pos ex, lexLt_eq]
  · have ex : ¬ i = i' := by simpa using e1
    refine PySem.W.kat_no (oneLt_ints2 ⟨rfl, ?_⟩)
    show _ = (if i = i' then lexI is_ is' else _)
    rw [if_neg ex]
theorem keyR_sort {vs : List Value} {k : Value → List Int} (hu : A.units < cLine) (some_ : 0 < vs.length) (hp : ∀ v ∈ vs, IsKeyR s.heap v (k v)) : ∃ κ, (∀ (Q : SortKind → Shared → Prop) (E : Value → Shared → Prop), Q κ s → wpAny (model prog w) A (keyKind' vs.toArray) Q E s) ∧ Cmp prog w A s κ (fun p => p.1 ∈ vs) (lt2 fun v u => lexI (k v) (k u)) := by
  obtain ⟨fs, tups, len, intz⟩ := keyFirsts vs fun v hv => ⟨_, hp v hv⟩
  refine ⟨tuples' true, fun Q E hq => PySem.W.kat_kind (T := .type "int") tups (len ▸ some_) ?_ rfl ?_, keyR_cmp hu hp⟩
  · intro f hf
    obtain ⟨x, t, rfl⟩ := intz f hf
    exact .now
  · rw [show (Value.type "int" != Value.type "tuple") = true from by first | rfl | decide | decide +kernel]
    exact hq
end
section
variable {X : Cx} {pins : List (Addr × Obj)} {σ : L2.St} {H : Hp} {s : Shared}
/-- sorted(l, key=f) -/
theorem sorted_key {f l : Addr} {pf : List (Addr × Obj)} {r : V → Hp → VK → Prop} {xs : List V} {W : List V → Hp → Prop} {Q : VK} (I : Inv X pins σ H s) (hs : SqL X.K H l xs) (kc : KC X σ f pf r) (hpf : ∀ p ∈ pf, p ∈ pins)
    (w0 : W [] H) (step : ∀ ks H, W ks H → ∀ x, xs[ks.length]? = some x → r x H fun y H3 => W (ks ++ [y]) H3)
    (fin : ∀ ks H', W ks H' → ks.length = xs.length → ∃ k : V → List Int, (∀ y ∈ ks, ∃ t n t2 is_, y = V.ref t ∧ H' t = some (.tup [.int n, .ref t2]) ∧ H' t2 = some (.tup (is_.map V.int)) ∧ k y = n :: is_) ∧ (∀ x ∈ xs, ∃ t, x = V.ref t) ∧
      ∀ (ps : List (V × V)) (p : Addr), Srtd (fun v u => lexI (k v.1) (k u.1)) ps → Stb (fun v u => lexI (k v.1) (k u.1)) ps (ks.zip xs) → H' p = none → Q (.ref p) (upd H' p (.lst (ps.map (·.2))))) (hu : X.A.units + 4 < cLine) :
    wpAny (model X.prog X.w) X.A (call (.builtin "sorted") [.ref l] [(Str.ofString "key", .ref f)]) (EP X pins σ Q) X.xe s := by
  obtain ⟨vs, rv, hl, hz⟩ := I.list hs
  have len : vs.length ≤ sizeLine := rv.length ▸ hz
  refine call_function_entry_kw kind_sorted plain_sorted entry_sorted (ksk_s1 _ _) ?_
  unfold Builtin.«sorted»
  refine wpAny_bind (m := checkCount "sorted" 1 1 _) (wpAny_pure ?_)
  refine wpAny_bind (collect_list hl.isList ?_ len)
  refine wpAny_bind (wpAny_newList ?_ len)
  have hsz : ((s.heap.push (seqObj "list" #[] 0)).update s.heap.objs.size (Obj.mapSeq (· ++ vs.toArray))).objs.size = s.heap.objs.size + 1 := by
    rw [Heap.size_update, size_push']
  have hoL : (((s.heap.push (seqObj "list" #[] 0)).update s.heap.objs.size (Obj.mapSeq (· ++ vs.toArray))).push (seqObj "list" vs.toArray 0)).get? (s.heap.objs.size + 1) = some (seqObj "list" vs.toArray 0) := by
    rw [← hsz]; exact Heap.get?_push_size _ rfl
  have keep : ∀ b o, s.heap.get? b = some o → (((s.heap.push (seqObj "list" #[] 0)).update s.heap.objs.size (Obj.mapSeq (· ++ vs.toArray))).push (seqObj "list" vs.toArray 0)).get? b = some o := fun b o q => by
    have hlt : b < s.heap.objs.size := Heap.lt_size q
    refine Heap.get?_push_of_some _ ?_
    rw [Heap.get?_update_ne _ _ _ _ (Nat.ne_of_lt hlt)]
    exact Heap.get?_push_of_some _ q
  show wpAny _ _ _ _ _ { s with heap := ((s.heap.push (seqObj "list" #[] 0)).update s.heap.objs.size (Obj.mapSeq (· ++ vs.toArray))).push (seqObj "list" vs.toArray 0) }
  rw [hsz]
  generalize ((s.heap.push (seqObj "list" #[] 0)).update s.heap.objs.size (Obj.mapSeq (· ++ vs.toArray))).push (seqObj "list" vs.toArray 0) = h1 at hoL keep ⊢
  have I1 : Inv X pins σ H { s with heap := h1, toks := s.toks } := I.kept keep
  have fa : FpOk X pins H (s.heap.objs.size + 1) := I.fpOk (Nat.le_succ _) (I.hok.fresh (Nat.le_succ _))
  generalize s.heap.objs.size + 1 = a at fa hoL ⊢
  refine wpAny_bind (wpAny_holding (wpAny_call_entry_kw slot_list_sort ⟨_, hoL, rfl⟩ entry_list_sort ?_ (ksk_l1 _ _)))
  rw [ksk_t1]
  unfold ksk_tree
  refine wpAny_bind (listItems_at hoL rfl ?_)
  refine wpAny_bind (listUpdate_at hoL rfl ?_ (by rw [List.size_toArray]; exact len) (Nat.zero_le _))
  have sb := Heap.SameBut.update h1 a (Obj.mapSeq fun _ => (#[] : Array Value))
  obtain ⟨e1, ho1⟩ : ∃ e1, (h1.update a (Obj.mapSeq fun _ => (#[] : Array Value))).get? a = some (seqObj "list" #[] e1) := ⟨_, get?_update_seq hoL fun _ => #[]⟩
  dsimp only
  generalize h1.update a (Obj.mapSeq fun _ => (#[] : Array Value)) = h2 at sb ho1 ⊢
  have I1' : Inv X (pins ++ []) σ H { s with heap := h1, toks := s.toks } := by rw [List.append_nil]; exact I1
  have I2 := inv_repin (tk := s.toks) (h' := h2) (o := seqObj "list" vs.toArray 0) I1' fa (fun p hp => by cases hp) (fun c u hc e => (sb.2 c hc).trans e) ho1 seq_nc
  refine wpAny_bind (seqEpoch_at ho1 rfl ?_)
  refine wpAny_bind (wpAny_newTuple ?_ len)
  refine wpAny_bind (wpAny_newList ?_ (Nat.zero_le _))
  refine wpAny_holding ?_
  have I3 := I2.kept (t' := s.toks) (h' := h2.push (seqObj "tuple" vs.toArray 0)) fun b o e => Heap.get?_push_of_some _ e
  have I4 := I3.kept (t' := s.toks) (h' := (h2.push (seqObj "tuple" vs.toArray 0)).push (seqObj "list" #[] 0)) fun b o e => Heap.get?_push_of_some _ e
  have fk0 := I3.fpOk (b := (h2.push (seqObj "tuple" vs.toArray 0)).objs.size) (Nat.le_refl _) (I3.hok.fresh (Nat.le_refl _))
  have hoK : ((h2.push (seqObj "tuple" vs.toArray 0)).push (seqObj "list" #[] 0)).get? (h2.push (seqObj "tuple" vs.toArray 0)).objs.size = some (seqObj "list" #[] 0) := Heap.get?_push_size _ rfl
  have hka : (h2.push (seqObj "tuple" vs.toArray 0)).objs.size ≠ a := fun z => fk0.2.2.2.2.2 (a, seqObj "list" #[] e1) (List.mem_append_right _ (List.mem_append_right _ (.head _))) z.symm
  have fk : FpOk X pins H (h2.push (seqObj "tuple" vs.toArray 0)).objs.size := fpOk_pins fk0 fun p hp => fk0.2.2.2.2.2 p (List.mem_append_right _ (List.mem_append_left _ hp))
  dsimp only
  generalize (h2.push (seqObj "tuple" vs.toArray 0)).objs.size = kS at fk hoK hka ⊢
  generalize (h2.push (seqObj "tuple" vs.toArray 0)).push (seqObj "list" #[] 0) = h4 at I4 hoK ⊢
  have I5 : Inv X (pins ++ [(kS, seqObj "list" #[] 0), (a, seqObj "list" #[] e1)]) σ H { s with heap := h4, toks := s.toks } := I4.pins_of fun p hp => by
    rcases List.mem_append.mp hp with z | z
    · exact I4.pin p (List.mem_append_right _ (List.mem_append_left _ z))
    · rcases List.mem_cons.mp z with z | z
      · subst z
        exact ⟨hoK, fk.1, fk.2.1, fk.2.2.1, seq_nc⟩
      · exact I4.pin p (List.mem_append_right _ (List.mem_append_right _ z))
  refine key_rest kc hpf rv len step fk fa hka I5 w0 fun ks H' s' keys e w' hlk rk I' => ?_
  obtain ⟨k, hk, hxr, out⟩ := fin ks H' w' hlk
  obtain ⟨backK, refK⟩ := refs_back rk fun y hy => by
    obtain ⟨t, _, _, _, e, _⟩ := hk y hy
    exact ⟨t, e⟩
  obtain ⟨backX, refX⟩ := refs_back rv fun x hx => hxr x hx
  have nk := I'.pin (kS, seqObj "list" keys.toArray e) (List.mem_append_right _ (List.mem_append_right _ (.head _)))
  have na := I'.pin (a, seqObj "list" #[] e1) (List.mem_append_right _ (List.mem_append_right _ (.tail _ (.head _))))
  have lk : keys.length = vs.length := by rw [← rk.length, hlk, rv.length]
  refine key_end (ltv := fun v u => lexI (k (backV v)) (k (backV u))) ⟨nk.2.1, fk.2⟩ ⟨na.2.1, fa.2⟩ hka lk len I' (swo_lexI fun v => k (backV v)) (fun h2 => keyR_sort (by show X.A.units + 1 + 1 < cLine; omega) (by omega) fun v hv => ?_) fun ps s2 c h1 h2 J ho => ?_
  · obtain ⟨t, rfl⟩ := refK v hv
    have hm : V.ref t ∈ ks := by rw [backK]; exact List.mem_map_of_mem (f := backV) hv
    obtain ⟨t', n, t2, is_, e0, e2, e3, e4⟩ := hk _ hm
    cases e0
    obtain ⟨_, us, ru, o, ho, hc, m, hd⟩ := I'.hok _ _ e2
    obtain ⟨u1, u2, rfl, r1, r2⟩ := vals2 ru
    obtain ⟨tk, rfl⟩ := r1
    cases r2
    obtain ⟨_, us2, ru2, o2, ho2, hc2, m2, hd2⟩ := I'.hok _ _ e3
    exact ⟨t, o, _, m, n, tk, t2, us2.toArray, is_, rfl, ho, hc, hd, rfl, ⟨o2, ho2, hc2, m2, hd2⟩, ints_of_vals ru2, e4⟩
  · have mp : ∀ p ∈ ps, p.2 ∈ vs := fun p hp => by
      have z := h2.perm.mem_iff.mp hp
      obtain ⟨p1, p2⟩ := p
      exact (List.of_mem_zip z).2
    have ez : (keys.zip vs).map (fun p : Keyed => (backV p.1, backV p.2)) = ks.zip xs := by
      rw [backK, backX, List.zip_map]
      rfl
    have hb : Stb (fun v u : V × V => lexI (k v.1) (k u.1)) (ps.map fun p : Keyed => (backV p.1, backV p.2)) (ks.zip xs) := by
      rw [← ez]
      exact SrtO.Stb.map (swo_lexI fun v : V × V => k v.1) (fun p : Keyed => (backV p.1, backV p.2)) h2
    have hs : Srtd (fun v u : V × V => lexI (k v.1) (k u.1)) (ps.map fun p : Keyed => (backV p.1, backV p.2)) := SrtO.srtd_map h1
    have ey : (ps.map fun p : Keyed => (backV p.1, backV p.2)).map (·.2) = (ps.map (·.2)).map backV := by
      rw [List.map_map, List.map_map]
      rfl
    have q := out _ a hs hb na.2.1
    rw [ey] at q
    have rvv : Vals ((ps.map (·.2)).map backV) (ps.map (·.2)) := vals_back fun u hu => by
      obtain ⟨p, hp, rfl⟩ := List.mem_map.mp hu
      exact refX _ (mp p hp)
    have hlen : ((ps.map (·.2)).map backV).length ≤ sizeLine := by
      rw [List.length_map, List.length_map, h2.len, List.length_zip]
      omega
    exact ⟨_, rfl, wpAny_pure ⟨_, rfl, .ref a, _, inv_tell J ⟨na.2.1, fa.2⟩ rvv hlen ho, rfl, q⟩⟩
end
end Zy
end
section
set_option maxHeartbeats 1000000
/-! Zy, part YD: generator expressions and keys, by the core's values. -/
namespace Zy
open PySem PySem.Spec PyProof.Rows L2

/-! ### any, all of a generator expression -/
section
variable {X : Cx} {W : Wd} {S : Sg} {g : Gm}
theorem gen_imp {P : Addr} {b : Bool} {t : Tg} {it : Ti} {x : Px} {vs : List Nat} (hP : P ∈ W.tb) (ht : tgW t ⊆ vs) : ∀ σ H Q, zp W S (.gen b vs t it x) σ H Q → tGen P b (zi W S it) (gz W t) (zp W S x) vs σ H Q := fun σ H Q q => by
  obtain ⟨δ, F, m, r, e, k⟩ := q
  simp only [pv, Option.bind_eq_bind, Option.bind_eq_some_iff] at e
  obtain ⟨l, e1, kk, e2, e3⟩ := e
  cases e3
  refine ⟨δ, F, l, r, e1, fun J H1 A sm ok1 hA => ⟨(r.same sm).tbs P hP, fun H2 sm2 => ?_⟩⟩
  obtain ⟨Fw, rww, _⟩ := (r.same (sm.trans sm2)).wipe vs
  refine ⟨l.length, fun i H' => i ≤ l.length ∧ Same H2 H' ∧ anyL b (fun d => do let δ1 ← tgSet t d (wipeE δ vs); blM (← pv S x δ1)) (l.drop i) = some kk, ⟨Nat.zero_le _, Same.refl _, by rw [List.drop_zero]; exact e2⟩, ?_⟩
  rintro i H' ⟨hi, s', he⟩
  have kp2 : Kp H2 H' := Kp.same s'
  obtain ⟨ok2, ok3⟩ := ok1 H' (Kp.same (sm2.trans s')) fun a ha => by
    obtain ⟨o, ho, no⟩ := hA.1 a ha
    rw [(sm2.trans s').s a o ho no, ho]
  have out : ∀ {kv : Bool} {H4 : Hp}, kv = kk → Same H2 H4 → Q (.bl kv) H4 := fun {kv H4} e s4 => by
    subst e
    exact k _ H4 [] (.i (.bl _)) (sm.trans (sm2.trans s4)) fun _ => Fresh.nil H
  refine ⟨hi, fun hin => ⟨ok3 _ (Nat.le_of_eq hin.symm), ?_⟩, fun hlt => ?_⟩
  · subst hin
    rw [List.drop_length] at he
    cases he
    exact out rfl s'
  · obtain ⟨go, yl⟩ := ok2 i l[i] (List.getElem?_eq_getElem hlt)
    rw [List.drop_eq_getElem_cons hlt] at he
    simp only [anyL, Option.bind_eq_bind, Option.bind_eq_some_iff] at he
    obtain ⟨kv, ⟨δ1, h8, m1, h9, h10⟩, h6⟩ := he
    refine ⟨go, fun v H3 hy => ?_⟩
    obtain ⟨e5, rv⟩ := yl v H3 hy
    subst e5
    refine ⟨_, rv, wipeE δ vs, Fw, δ1, rww.mono kp2 (fun a _ o ho n => s'.s a o ho n), h8, fun σ2 F2 r2 _ _ out2 hlen2 => ⟨wipe_back ht out2 hlen2, δ1, F2, m1, r2, h9, fun v2 H4 G rw4 s4 _ => ?_⟩⟩
    unfold blM at h10
    split at h10
    · cases h10
      cases rw4 with
      | i rw4 =>
        cases rw4
        refine ⟨kv, rfl, ?_⟩
        by_cases hb : kv = b
        · rw [if_pos hb]
          rw [if_pos hb] at h6
          cases h6
          exact out rfl (s'.trans s4)
        · rw [if_neg hb]
          rw [if_neg hb] at h6
          exact ⟨hlt, s'.trans s4, h6⟩
    · cases h10
theorem Ct.gen (C : Ct X W S g) (hx : g.gx = true) (scope : Scope) (s : Shared) (H : Hp) (cd : Value) (fp : List Addr) : Ct (gCx X s H scope cd fp) W S (genG g scope) where
  K := C.K
  N := C.N
  nd := C.nd
  sc := rfl
  calm := rfl
  hu := by
    obtain ⟨_, _, _, _, _, r⟩ := C.gt hx
    have := r.un
    show X.A.units + 1 + 1 + 3 + 200 < cLine
    omega
  blt := C.blt
  cst := C.cst
  kd := C.kd
  ktn := C.ktn
  ktc := C.ktc
  bf := C.bf
  fns := fun x k io h => by
    obtain ⟨np, kk, f, fd, ps, Fn, hr, r⟩ := (C.fns x k io h).ex
    have e : gup g = 1 := by unfold gup; rw [hx]; rfl
    rw [e] at hr
    refine ⟨np, kk, f, fd, ps, Fn, ⟨hr.hd, ?_, ?_⟩, r⟩
    · have := hr.dp
      show X.A.depth + 1 + 3 * (kk + 0) + 5 < _
      omega
    · have := hr.un
      show X.A.units + 1 + 1 + 3 + 16 * (kk + 0) + 200 < _
      omega
  fld := C.fld
  cls := C.cls
  mth := fun x m c f h => by cases h
  fcl := fun x z => by cases z
  mnf := fun x m h => by cases h
  gt := fun z => by cases z
  mkc := fun x c f h => by cases h
theorem isLsE_fold {iter : Expr} (h : isLsE iter = false) (hp : plainE iter = true) (env : PySem.Env) (v : Value) : genFold iter env v = pure v := by
  unfold genFold
  split
  · cases h
  · cases iter <;> first | rfl | cases hp
theorem zp_gen (C : Ct X W S g) (hx : g.gx = true) {nm : Str} (hn : nm = "any" ∨ nm = "all") (hb : bltN g nm = true) {elt tg iter : Expr} {scope : Scope} {own : List (Str × Nat)} {p p2 pos : Pos} {t : Tg} {it : Ti} {x : Px} (hi : PI X tg iter (zi W S it)) (ok : BlkOk X.N X.env.scope scope own) (go1 : GenO scope)
    (hs : ∀ v, genFold iter X.env v = pure v) (ht : tgW t ⊆ own.map (·.2))
    (hg : ∀ (s : Shared) (H : Hp) (cd : Value) (fp : List Addr), PG (gCx X s H scope cd fp) tg (gz W t)) (he : ∀ (s : Shared) (H : Hp) (cd : Value) (fp : List Addr), PE (gCx X s H scope cd fp) elt (zp W S x)) :
    PE X (.Call (.Name nm p) [.GeneratorExp elt [⟨tg, iter, [], 0⟩] scope p2] [] pos) (zp W S (.gen (decide (nm = "any")) (own.map (·.2)) t it x)) := by
  have nd : X.N.Nodup := by rw [C.N]; exact C.nd
  obtain ⟨c, P, TB, hc, hP, hr⟩ := C.gt hx
  obtain ⟨g1, m1⟩ := C.bltn hb
  rcases hn with rfl | rfl
  · exact PE.imp (pe_anyG (k := 0) hr g1 m1 TB hc nd hi ok go1 hg he hs) (gen_imp hP ht)
  · exact PE.imp (pe_allG (k := 0) hr g1 m1 (by decide +kernel) TB hc nd hi ok go1 hg he hs) (gen_imp hP ht)
end

/-! ### rows by their keys -/
section
variable {K : Kc} {H : Hp}
open Classical in
noncomputable def kyV (K : Kc) (H : Hp) (v : V) : List Int := if h : ∃ d, RepD K H v d then (kyD (choose h)).getD [] else []
theorem kyV_eq (no : ∀ a xs, ¬ K a xs) {v : V} {d : D} {k : List Int} (r : RepD K H v d) (e : kyD d = some k) : kyV K H v = k := by
  have h : ∃ d, RepD K H v d := ⟨d, r⟩
  unfold kyV
  rw [dif_pos h, RepD.uniq no _ _ (Classical.choose_spec h) r, e]
  rfl
abbrev ltP (p q : List Int × V) : Bool := lexI p.1 q.1
theorem swo_ltP : SrtO.Swo ltP := SrtO.swo_lexI fun p : List Int × V => p.1
/-- pairs, by their rows -/
inductive RepP (K : Kc) (H : Hp) : List (List Int × V) → List (List Int × D) → Prop
  | nil : RepP K H [] []
  | cons {k : List Int} {v : V} {d : D} {ps : List (List Int × V)} {qs : List (List Int × D)} : RepD K H v d → RepP K H ps qs → RepP K H ((k, v) :: ps) ((k, d) :: qs)
theorem RepP.snd : ∀ {ps : List (List Int × V)} {qs : List (List Int × D)}, RepP K H ps qs → RepDs K H (ps.map (·.2)) (qs.map (·.2))
  | _, _, .nil => .nil
  | _, _, .cons r t => .cons r (RepP.snd t)
theorem RepP.zip : ∀ {kz : List (List Int)} {xs : List V} {ds : List D}, RepDs K H xs ds → RepP K H (kz.zip xs) (kz.zip ds)
  | [], _, _, _ => .nil
  | _ :: _, _, _, .nil => .nil
  | _ :: _, _, _, .cons r t => .cons r (RepP.zip t)
theorem insP_rep {k : List Int} {v : V} {d : D} (r : RepD K H v d) : ∀ {ps : List (List Int × V)} {qs : List (List Int × D)}, RepP K H ps qs → SrtO.Srtd ltP ps → ∃ ws, RepP K H ws (insP (k, d) qs) ∧ SrtO.Srtd ltP ws ∧ SrtO.Stb ltP ws ((k, v) :: ps)
  | _, _, .nil, _ => ⟨[(k, v)], .cons r .nil, SrtO.srtd_one _, SrtO.Stb.refl _⟩
  | _, _, .cons (k := k2) (v := y) (d := e) (ps := ps) (qs := qs) ry t, hs => by
    have O := swo_ltP
    unfold insP
    have e1 : lexI (k2, e).1 (k, d).1 = ltP (k2, y) (k, v) := rfl
    rw [e1]
    split
    · rename_i hl
      obtain ⟨ws, h1, h2, h3⟩ := insP_rep r t (List.pairwise_cons.mp hs).2
      refine ⟨(k2, y) :: ws, .cons ry h1, List.pairwise_cons.mpr ⟨fun z hz => ?_, h2⟩, ?_⟩
      · rcases List.mem_cons.mp (h3.perm.mem_iff.mp hz) with rfl | hz
        · exact O.asym _ _ hl
        · exact SrtO.srtd_head hs z hz
      · have a1 : SrtO.Stb ltP ([(k2, y)] ++ ws) ([(k2, y)] ++ ((k, v) :: ps)) := (SrtO.Stb.refl _).app h3
        have a2 : SrtO.Stb ltP (([(k2, y)] ++ [(k, v)]) ++ ps) (([(k, v)] ++ [(k2, y)]) ++ ps) := (SrtO.Stb.swap O (A := [(k2, y)]) (B := [(k, v)]) fun a ha b hb => by rw [List.mem_singleton.mp ha, List.mem_singleton.mp hb]; exact hl).app (SrtO.Stb.refl ps)
        exact a1.trans a2
    · rename_i hl
      have hl : ltP (k2, y) (k, v) = false := by simpa using hl
      exact ⟨(k, v) :: (k2, y) :: ps, .cons r (.cons ry t), List.pairwise_cons.mpr ⟨SrtO.Swo.le_all O hs hl, hs⟩, SrtO.Stb.refl _⟩
theorem sortP_rep : ∀ {ps : List (List Int × V)} {qs : List (List Int × D)}, RepP K H ps qs → ∃ ws, RepP K H ws (sortP qs) ∧ SrtO.Srtd ltP ws ∧ SrtO.Stb ltP ws ps
  | _, _, .nil => ⟨[], .nil, List.Pairwise.nil, SrtO.Stb.refl _⟩
  | _, _, .cons (k := k) (v := v) r t => by
    obtain ⟨ws, h1, h2, h3⟩ := sortP_rep t
    obtain ⟨us, h4, h5, h6⟩ := insP_rep (k := k) r h1 h2
    exact ⟨us, h4, h5, h6.trans ((SrtO.Stb.refl [(k, v)]).app h3)⟩
theorem kys_rep (no : ∀ a xs, ¬ K a xs) : ∀ {ks : List V} {ds : List D} {kz : List (List Int)}, RepDs K H ks ds → kysD ds = some kz → kz = ks.map (kyV K H) ∧ ∀ y ∈ ks, ∃ t n t2 is_, y = V.ref t ∧ H t = some (.tup [.int n, .ref t2]) ∧ H t2 = some (.tup (is_.map V.int)) ∧ kyV K H y = n :: is_
  | _, _, _, .nil, e => by
    cases e
    exact ⟨rfl, fun y h => by cases h⟩
  | _, _, kz, .cons (v := v) (d := d) r t, e => by
    simp only [kysD] at e
    split at e
    · rename_i k ks e1 e2
      cases e
      obtain ⟨h1, h2⟩ := kys_rep no t e2
      have ev := kyV_eq no r e1
      refine ⟨by rw [List.map_cons, ev, h1], fun y hy => ?_⟩
      rcases List.mem_cons.mp hy with rfl | hy
      · rw [ev]
        unfold kyD at e1
        split at e1
        · rename_i n l
          obtain ⟨is_, e3, e4⟩ := Option.map_eq_some_iff.mp e1
          subst e4
          cases r with
          | tup a1 b1 =>
            have a1 := Or.resolve_right a1 (no _ _)
            cases b1 with
            | cons r1 b1 =>
              cases r1
              cases b1 with
              | cons r2 b2 =>
                cases b2
                cases r2 with
                | tup a2 b2 =>
                  have a2 := Or.resolve_right a2 (no _ _)
                  rw [b2.ints e3] at a2
                  exact ⟨_, _, _, _, rfl, a1, a2, rfl⟩
        · cases e1
      · exact h2 y hy
    · cases e
theorem tupD_ref {xs : List V} {ds : List D} (r : RepDs K H xs ds) (h : ds.all isTupD = true) : ∀ x ∈ xs, ∃ t, x = V.ref t := fun x hx => by
  obtain ⟨d, hd, rx⟩ := r.memV hx
  have := List.all_eq_true.mp h d hd
  cases rx with
  | tup _ _ => exact ⟨_, rfl⟩
  | _ => cases this
end

/-- the rows, sorted -/
theorem srt_fin {W : Wd} {H : Hp} {Q : VK} (no : ∀ a xs, ¬ W.kk a xs) {ks xs : List V} {kd l : List D} {m : M} (rk : RepDs W.kk H ks kd) (rx : RepDs W.kk H xs l) (e : srtM kd l = some m) (q : Gv W H m Q) :
    ∃ k : V → List Int, (∀ y ∈ ks, ∃ t n t2 is_, y = V.ref t ∧ H t = some (.tup [.int n, .ref t2]) ∧ H t2 = some (.tup (is_.map V.int)) ∧ k y = n :: is_) ∧ (∀ x ∈ xs, ∃ t, x = V.ref t) ∧
      ∀ (ps : List (V × V)) (p : Addr), SrtO.Srtd (fun v u => lexI (k v.1) (k u.1)) ps → SrtO.Stb (fun v u => lexI (k v.1) (k u.1)) ps (ks.zip xs) → H p = none → Q (.ref p) (upd H p (.lst (ps.map (·.2)))) := by
  unfold srtM at e
  split at e
  · rename_i kz ek
    split at e
    · rename_i ht
      cases e
      obtain ⟨h1, h2⟩ := kys_rep no rk ek
      refine ⟨kyV W.kk H, h2, tupD_ref rx ht, fun ps p hs hb hp => ?_⟩
      have f : List (V × V) → List (List Int × V) := fun l => l.map fun p => (kyV W.kk H p.1, p.2)
      have hs' : SrtO.Srtd ltP (ps.map fun p => (kyV W.kk H p.1, p.2)) := SrtO.srtd_map (lt := ltP) hs
      have hb' : SrtO.Stb ltP (ps.map fun p => (kyV W.kk H p.1, p.2)) ((ks.zip xs).map fun p => (kyV W.kk H p.1, p.2)) := SrtO.Stb.map swo_ltP _ hb
      have ez : (ks.zip xs).map (fun p : V × V => (kyV W.kk H p.1, p.2)) = kz.zip xs := by
        rw [h1]
        have := List.zip_map (f := kyV W.kk H) (g := fun x : V => x) (l₁ := ks) (l₂ := xs)
        rw [List.map_id'] at this
        rw [this]
        rfl
      rw [ez] at hb'
      obtain ⟨ws, r1, r2, r3⟩ := sortP_rep (RepP.zip (kz := kz) rx)
      have e9 : (ps.map fun p => (kyV W.kk H p.1, p.2)) = ws := SrtO.stb_uniq swo_ltP hs' r2 (hb'.trans ⟨r3.perm.symm, fun x => (r3.cls x).symm⟩)
      have rr := r1.snd
      rw [← e9, List.map_map] at rr
      have e8 : ((fun p : List Int × V => p.2) ∘ fun p : V × V => (kyV W.kk H p.1, p.2)) = fun p : V × V => p.2 := rfl
      rw [e8] at rr
      exact q.lst rr p hp
    · cases e
  · cases e
theorem mapL_get {f : D → Option D} : ∀ {l ks : List D}, mapL f l = some ks → ks.length = l.length ∧ ∀ (i : Nat) (d : D), l[i]? = some d → ∃ k, f d = some k ∧ ks[i]? = some k
  | [], ks, e => by
    cases e
    exact ⟨rfl, fun i d h => by simp at h⟩
  | x :: r, ks, e => by
    simp only [mapL, Option.bind_eq_bind, Option.bind_eq_some_iff] at e
    obtain ⟨k, h1, ys, h2, h3⟩ := e
    cases h3
    obtain ⟨h4, h5⟩ := mapL_get h2
    refine ⟨by simp [h4], fun i d h => ?_⟩
    cases i with
    | zero => cases h; exact ⟨k, h1, rfl⟩
    | succ i => exact h5 i d (by simpa using h)
end Zy
end
section
set_option maxHeartbeats 1000000
/-! Zy, part YE: sorted(xs, key=f), f a def or a lambda. -/
namespace Zy
open PySem PySem.Spec PyProof.Rows L2

theorem RepDs.nth {K : Kc} {H : Hp} : ∀ {xs : List V} {ds : List D}, RepDs K H xs ds → ∀ {i : Nat} {x : V}, xs[i]? = some x → ∃ d, ds[i]? = some d ∧ RepD K H x d
  | _, _, .nil, i, x, h => by simp at h
  | _, _, .cons r t, 0, x, h => by cases h; exact ⟨_, rfl, r⟩
  | _, _, .cons r t, i + 1, x, h => RepDs.nth t (i := i) (by simpa using h)
section
variable {X : Cx} {W : Wd} {S : Sg} {g : Gm}
/-- the keys, one after another: rk: what is asked of a call by x -/
theorem srt_run {σ : L2.St} {f : Addr} {pf : List (Addr × Obj)} {r : V → Hp → VK → Prop} {F : D → Option D} (no : ∀ a xs, ¬ W.kk a xs) {pins : List (Addr × Obj)} {s : Shared} {H H1 : Hp} {l : Addr} {xs : List V} {ds kd : List D} {m : M} {Q : VK} (I : Inv X pins σ H1 s) (hs : SqL X.K H1 l xs)
    (kc : KC X σ f pf r) (hpf : ∀ p ∈ pf, p ∈ pins) (rx : RepDs W.kk H1 xs ds) (ek : mapL F ds = some kd) (em : srtM kd ds = some m) (sm : Same H H1) (hu : X.A.units + 4 < cLine)
    (step : ∀ x d k H2, RepD W.kk H2 x d → F d = some k → Same H1 H2 → ∀ Q', (∀ v H3, RepD W.kk H3 v k → Same H2 H3 → Q' v H3) → r x H2 Q')
    (q : ∀ v H' G, Rep W H' v m G → Same H H' → Fresh H G → Q v H') :
    wpAny (model X.prog X.w) X.A (call (.builtin "sorted") [.ref l] [(Str.ofString "key", .ref f)]) (EP X pins σ Q) X.xe s := by
  obtain ⟨hkl, hk⟩ := mapL_get ek
  refine sorted_key (W := fun ks H' => Same H1 H' ∧ ks.length ≤ ds.length ∧ RepDs W.kk H' ks (kd.take ks.length)) I hs kc hpf ⟨Same.refl _, Nat.zero_le _, by rw [List.length_nil, List.take_zero]; exact RepDs.nil⟩ ?_ ?_ hu
  · rintro ks H2 ⟨s2, hl, rk⟩ x hx
    have hlt : ks.length < xs.length := (List.getElem?_eq_some_iff.mp hx).1
    obtain ⟨d, hd, rd⟩ : ∃ d, ds[ks.length]? = some d ∧ RepD W.kk H1 x d := rx.nth hx
    obtain ⟨k, e1, e2⟩ := hk _ _ hd
    refine step x d k H2 (rd.mono (Kp.same s2) _) e1 s2 _ fun v H3 rv s3 => ⟨s2.trans s3, ?_, ?_⟩
    · rw [List.length_append]
      have := (List.getElem?_eq_some_iff.mp hd).1
      show ks.length + 1 ≤ _
      omega
    · rw [List.length_append]
      show RepDs W.kk H3 (ks ++ [v]) (kd.take (ks.length + 1))
      rw [List.take_succ, e2, Option.toList_some]
      exact (rk.mono (Kp.same s3)).app (.cons rv .nil)
  · rintro ks H2 ⟨s2, hl, rk⟩ hlen
    have e3 : kd.take ks.length = kd := List.take_of_length_le (by rw [hkl, hlen, rx.length]; exact Nat.le_refl _)
    rw [e3] at rk
    exact srt_fin no rk (rx.mono (Kp.same s2)) em fun v H' G rv s3 f3 => q v H' G rv (sm.trans (s2.trans s3)) (Fresh.back (sm.trans s2) f3)

/-- a def of the text, called by list.sort -/
theorem kc_def {σ : L2.St} {x : Str} {k : Nat} (F : FnC X W S x k 1) : ∃ f, X.mg x = some (.ref f) ∧ KC X σ f [] fun v H Q => ∃ d kd, RepD W.kk H v d ∧ Tbs W H ∧ keyF (S.fn k [.i d]) = some kd ∧ ∀ w H', RepD W.kk H' w kd → Same H H' → Q w H' := by
  obtain ⟨np, kk, f, fd, ps, Fn, hr, hm, hkp, hb, hlen⟩ := F.ex
  refine ⟨f, hm, fun pl s H v u Q _ I rx hq => ?_⟩
  obtain ⟨d, kd, rd, tb, ek, q⟩ := hq
  have ek0 := ek
  unfold keyF at ek
  split at ek
  · rename_i m' kd' ms' hf
    cases ek
    have hl : np = 1 := (hlen [.i d] (by rw [hf]; exact fun z => by cases z)).symm
    have sp : spF W np (S.fn k) [v] H Q fun _ _ _ => False := by
      refine ⟨by rw [hl]; rfl, tb, [.i d], [], .cons (F := []) (.i rd) .nil, List.nodup_nil, ?_⟩
      rw [hf]
      intro w H' G F' rv _ _ st
      cases rv with
      | i rv => exact q w H' rv ⟨fun a o h n => st.out a o h (by simp) n, st.kp.b⟩
    have room : Room kk X.A.in1.in1 := ⟨hr.hd, by have := hr.dp; show X.A.depth + 3 * kk + 5 < _; omega, by have := hr.un; show X.A.units + 1 + 1 + 16 * kk + 200 < _; omega⟩
    have e0 : Env0 X.prog X.w X.K X.mg X.base X.A.in1.in1 X.stack s H := ⟨I.ok.frames, I.ok.mod, I.bs, Nat.le_trans I.ok.bsz I.sz, I.stack, I.stkFree, I.hok, I.bare⟩
    have hpl : ([u] ++ ([] : List Value)).length = ps.length := by
      have := Fn.len _ _ _ _ sp
      rw [← this]
      rfl
    refine wpAny_call (codeAny_mono (Fn.run X.A.in1.in1 X.stack s H ⟨[u], []⟩ [u] [v] Q (fun _ _ _ => False) room e0 (hb s [u] I.kIn hpl) (.cons rx .nil) sp) fun r s' hq => ?_)
    cases r with
    | error e =>
      obtain ⟨_, _, _, _, _, _, _, _, _, _, _, _, z⟩ := (show L2.CX X.prog X.w X.stack H s (fun _ _ _ => False) e s' from hq)
      exact z.elim
    | ok fl =>
      cases fl with
      | ret u => exact I.after hq
      | next => exact False.elim hq
      | brk => exact False.elim hq
      | cont => exact False.elim hq
  · cases ek
theorem zp_srt (C : Ct X W S g) (hx : g.gx = true) (hkt : g.kt = false) {a : Expr} {y : Px} {f : Str} {j : Nat} {io : Bool} {p p2 kp pos : Pos} (hb : bltN g "sorted" = true) (hp : plainE a = true) (hg : glB g.sc f = true) (hd : (f == ("__debug__" : Str)) = false) (hf : g.fns.lookup f = some (j, io)) (ha : PE X a (zp W S y)) :
    PE X (.Call (.Name "sorted" p) [a] [⟨some "key", .Name f p2, kp⟩] pos) (zp W S (.srt j y)) := by
  obtain ⟨g1, m1⟩ := C.bltn hb
  have F := C.fns f j io hf
  have e : gup g = 1 := by unfold gup; rw [hx]; rfl
  rw [e] at F
  obtain ⟨c, P, _, _, _, hr⟩ := C.gt hx
  refine ⟨fun pins s σ H Q I q => ?_⟩
  obtain ⟨δ, F0, m, r, e, k⟩ := q
  simp only [pv, Option.bind_eq_bind, Option.bind_eq_some_iff] at e
  obtain ⟨m1', e1, l, e2, kd, e3, e4⟩ := e
  obtain ⟨fa, hm, kc⟩ := kc_def (σ := σ) F
  refine wpAny_Call_Name_kw (ld_blt (u := .builtin "sorted") I g1 m1 (by decide +kernel) ?_)
  refine PyProof.Rows.callWith_kw (thn ((pa_cons ha pa_nil (star_plain hp [] X.env)).run pos pins s σ H (fun vs H1 => ∃ l1 xs, vs = [V.ref l1] ∧ SqL X.K H1 l1 xs ∧ RepDs W.kk H1 xs l ∧ Same H H1) I ⟨δ, F0, m1', r, e1, fun v H1 G rv sm _ => ?_⟩) fun us s1 ⟨vs, H1, I1, r1, l1, xs, ev, hs, rx, sm⟩ => ?_) (by rw [star_plain hp [] X.env]; rfl) (by rw [star_plain hp [] X.env]; rfl)
  · unfold seqL at e2
    split at e2
    · cases e2
      cases rv with
      | lst s1 d1 => exact ⟨_, _, rfl, SqL.of s1, d1, sm⟩
    · cases e2
      cases rv with
      | rol s1 d1 => exact ⟨_, _, rfl, by rw [C.K]; exact s1.sq, d1, sm⟩
    · cases e2
  · subst ev
    obtain rfl := Vals.ref1 r1
    have pk : PK X [⟨some "key", .Name f p2, kp⟩] (tCons (fun σ H Q => Q (.ref fa) H) tNil) := pk_cons (ha := ⟨fun pins s σ H Q I h => ld_glob I (C.gl hg) hm ⟨.ref fa, H, I, rfl, h⟩ hd⟩) pk_nil
    refine thn (pk.run pos pins s1 σ H1 (fun zs H2 => zs = [V.ref fa] ∧ H2 = H1) I1 ⟨rfl, rfl⟩) fun ws s2 ⟨zs, H2, I2, r2, ez, eH⟩ => ?_
    subst ez eH
    obtain rfl := Vals.ref1 r2
    show wpAny _ _ (call (.builtin "sorted") [.ref l1] [(Str.ofString "key", .ref fa)]) _ _ _
    have hu := hr.un
    exact srt_run (C.ktn hkt) I2 hs kc (fun p hp => by cases hp) rx e3 e4 sm (by omega) (fun x d kx H3 rd ek s3 Q' q' => ⟨d, kx, rd, (r.same (sm.trans s3)).tbs, ek, q'⟩) fun v H' G rv s' fr => k v H' G rv s' fun _ => fr
end
end Zy
end
section
set_option maxHeartbeats 1000000
/-! Zy, part YF: sorted(xs, key=lambda p: ..). -/
namespace Zy
open PySem PySem.Spec PyProof.Rows L2 LamX

section
variable {prog : Program} {w : World} {A : Around} {R : Result → Shared → Prop} {s : Shared}
/-- a function of an expression called: its code object's name is q -/
theorem lam_codeR {a : Addr} {args : Args} {o : Obj} {fd : FuncData} {body : Expr} {q : Str} (hroom : A.depth < recursionLimit) (ho : s.heap.get? a = some o) (hd' : o.data = .func fd) (hco : fd.scope.isCoroutine = false) (hgen : fd.scope.isGenerator = false) (hbody : fd.body = .expr body) (hcd : s.heap.CodeRec fd.code q)
    (h : wpAny (model prog w) A.in1 (bindArgs fd args) (fun binds s₁ =>
      wpAny (model prog w) A.in1 (newFunctionEnv fd.scope fd.globals fd.closure binds (q ++ ".<locals>.") (some a) fd.code none fd.builtins)
        (fun env s₂ => s₂.heap.NoLimit ∧ codeAny (model prog w) A (.expr body env) R s₂) (fun e s' => R (.error e) s') s₁) (fun e s' => R (.error e) s') s) :
    codeAny (model prog w) A (.call (.ref a) args) R s := by
  refine codeAny_of_tree ?_
  show wpAny _ A.in1 (callAny (.ref a) args) _ _ s
  simp only [callAny]
  refine wpAny_bind (wpAny_load ho ?_)
  obtain ⟨c, oc, vs, tq, hc, hoc, hdc, hq⟩ := hcd
  simp only [hd', callFunction, hco, hgen, hbody, hc]
  rw [hc] at h
  refine wpAny_bind (m := field (.ref c) 1) (wpAny_field hoc hdc hq (wpAny_bind (wpAny_pure ?_)))
  exact wpAny_bind (wpAny_mono h (fun binds s₁ h₁ => wpAny_bind (wpAny_mono h₁ (fun env s₂ h₂ => wpAny_bind (wpAny_enterFrame h₂.1 hroom
    (wpAny_pure (And.intro rfl h₂.2)))) fun _ _ h' => h')) fun _ _ h' => h')
end
section
variable {X : Cx} {pins : List (Addr × Obj)} {σ : L2.St} {H : Hp} {s : Shared}
/-- a lambda is made -/
theorem lam_make {c P : Addr} {params : Arguments} {body : Expr} {scope : Scope} {pos : Pos} {E : Value → Shared → Prop} {Q : Value → Shared → Prop} (I : Inv X pins σ H s) (TB : TabB X.base X.mg c P) (hcode : X.env.code = .ref c) (hT : TbA H P)
    (hdef : defaultsOf params X.env = ([], [])) (hfree : ∀ y ∈ scope.names, y.2 = .free → ∃ c, X.env.cells.lookup y.1 = some c)
    (h : ∀ (f c' : Addr) (q : Str) (pm ctv : Value) (H1 : Hp) (s' : Shared), Inv X pins σ H1 s' → Same H H1 → s'.heap.get? f = some (PySem.W.kla_obj "<lambda>" (X.env.qual ++ "<lambda>") params body scope (cloFrom X.env.cells scope.names []) pm c' ctv) → FpOk X pins H1 f → H1 c' = some (CodeO c' q) → Q (.ref f) s') :
    wpAny (model X.prog X.w) X.A (eval (.Lambda params body scope pos) X.env) Q E s := by
  obtain ⟨ps, hP, ht⟩ := hT
  refine PySem.W.kla_eval hdef ?_
  have bP : s.heap.BuiltinsAt X.mg P := TB.bm.keeps I.bk
  have hP' : s.heap.get? P = some { cls := .none, data := .fields ps } := I.hok P _ hP
  cases hc : codeAmong pos ps.toList with
  | none =>
    refine PySem.W.kla_makeFunction (mg := X.mg) (c := c) (P := P) (ps := ps) (closure_ok hfree) I.ok.glob (I.mod.glob.keeps I.bk) hcode (TB.code.keeps I.bk) hP' ht.ok hc TB.gP bP fun c' ctv h' tk hx hge hlt hrec htb => ?_
    obtain ⟨c2, oc, vs, t, e2, hoc, hd, hv⟩ := hrec
    cases e2
    have hsz : s.heap.objs.size ≤ h'.objs.size := Nat.le_trans hge (Nat.le_of_lt hlt)
    have nC : H c' = none := I.hok.fresh hge
    have I1 := inv_table (t' := tk) (more := #[rawInt pos.line, rawInt pos.col, .ref c']) (h' := h'.push (PySem.W.kla_obj "<lambda>" (X.env.qual ++ "<lambda>") params body scope (cloFrom X.env.cells scope.names []) ((X.mg "__name__").getD .none) c' ctv)) I hP
      (fun b o hb e => Heap.get?_push_of_some _ (hx b o hb e)) (Heap.get?_push_of_some _ htb) hge ⟨oc, vs, t, Heap.get?_push_of_some _ hoc, hd, hv⟩
    refine h h'.objs.size c' _ ((X.mg "__name__").getD .none) ctv _ _ I1 (same_code (pos := pos) hP nC) (Heap.get?_push_size _ rfl) ?_ upd_same
    have n1 : h'.objs.size ≠ c' := Nat.ne_of_gt hlt
    have n2 : h'.objs.size ≠ P := Nat.ne_of_gt (Nat.lt_of_lt_of_le (Heap.lt_size hP') hsz)
    exact I.fpOk hsz (by rw [upd_ne n1, upd_ne n2]; exact I.hok.fresh hsz)
  | some cv =>
    obtain ⟨c', q, e, hco⟩ := ht.cd pos cv hc
    subst e
    refine PySem.W.kla_makeFunctionHit (mg := X.mg) (c := c) (P := P) (ps := ps) (closure_ok hfree) I.ok.glob (I.mod.glob.keeps I.bk) hcode (TB.code.keeps I.bk) hP' ht.ok hc bP fun ctv h' tk hx hsz => ?_
    have I1 : Inv X pins σ H { s with heap := h'.push (PySem.W.kla_obj "<lambda>" (X.env.qual ++ "<lambda>") params body scope (cloFrom X.env.cells scope.names []) ((X.mg "__name__").getD .none) c' ctv), toks := tk } := I.kept fun b o e => Heap.get?_push_of_some _ (hx b o e)
    exact h h'.objs.size c' q ((X.mg "__name__").getD .none) ctv H _ I1 (Same.refl H) (Heap.get?_push_size _ rfl) (I.fpOk hsz (I.hok.fresh hsz)) hco
end

theorem lam_bind {ql x : Str} {pp : Pos} {body : Expr} {scope : Scope} {cl : List (Str × Addr)} {pm cv ctv u : Value} : bindArgs (PySem.W.kla_fn "<lambda>" ql ⟨[], [⟨x, none, pp⟩], none, [], [], none, []⟩ body scope cl pm cv ctv) ⟨[u], []⟩ = pure [(x, u)] := by
  have e : ∀ n : Str, n = x → List.lookup n [(x, u)] = some u := fun n h => by subst h; simp
  simp [bindArgs, seqItems?, e]
  rfl
abbrev lEnv (q : Str) (scope : Scope) (L f c' : Addr) (cl : List (Str × Addr)) : PySem.Env := PySem.W.envX q scope L f (.ref c') cl
/-- the frame of a lambda without captured names -/
abbrev lCx (X : Cx) (s : Shared) (H : Hp) (q : Str) (scope : Scope) (f c' : Addr) (cl : List (Str × Addr)) : Cx where
  prog := X.prog
  w := X.w
  K := X.K
  mg := X.mg
  base := X.base
  A := X.A.in1.in1.deeper (lEnv q scope s.heap.objs.size f c' cl)
  N := X.N
  s_0 := s
  H_0 := H
  env := lEnv q scope s.heap.objs.size f c' cl
  outer := X.stack
  stack := lEnv q scope s.heap.objs.size f c' cl :: X.stack
  ex := []
  fn := fun _ => false
  calm := true
  pn := []
  xe := fun _ _ => False
/-- a lambda's names -/
structure LamO (scope : Scope) (p : Str) : Prop where
  kind : scope.kind = .function
  co : scope.isCoroutine = false
  gen : scope.isGenerator = false
  loc : scope.names.lookup p = some .local
  cell : ∀ y ∈ scope.names, y.2 ≠ .cell
  free : ∀ y ∈ scope.names, y.2 ≠ .free
  own : ∀ y ∈ scope.names, y.2 = .local → y.1 = p
theorem lamO_by {scope : Scope} {p : Str} (h : lamOB scope p = true) : LamO scope p := by
  unfold lamOB at h
  simp only [Bool.and_eq_true, Bool.or_eq_true, Bool.not_eq_true', decide_eq_true_eq, decide_eq_false_iff_not, List.all_eq_true] at h
  obtain ⟨⟨⟨⟨h1, h2⟩, h3⟩, h4⟩, h5⟩ := h
  exact ⟨h1, h2, h3, h4, fun y hy => (h5 y hy).1.1, fun y hy => (h5 y hy).1.2, fun y hy e => (h5 y hy).2.resolve_left fun z => z e⟩
section
variable {X : Cx} {pins : List (Addr × Obj)} {σ : L2.St} {H : Hp} {s : Shared}
theorem lam_start {q : Str} {scope : Scope} {f c' : Addr} {p : Str} {i : Nat} {v : V} {u : Value} {h₁ : Heap} {tk : Nat} (I : Inv X pins σ H s) (L : LamO scope p) (hh : X.A.handled = none) (hN : X.N.Nodup) (hi : X.N[i]? = some p) (rv : RelV v u)
    (hns : h₁.Ns s.heap.objs.size fun y => ([(p, u)] : List (Str × Value)).reverse.lookup y) (kp : ∀ b o, s.heap.get? b = some o → h₁.get? b = some o) :
    Inv (lCx X s H q scope f c' (cloFrom X.env.cells scope.names [])) [] ((wipe σ [i]).set i (some v)) H { s with heap := h₁, toks := tk } := by
  have noc : ∀ {y c}, (cloFrom X.env.cells scope.names []).lookup y = some c → False := fun {y c} e => by
    rcases cloFrom_mem (PySem.mem_of_lookup e) with hm | ⟨h1, _⟩
    · cases hm
    · exact L.free _ h1 rfl
  have len : i < σ.length := by rw [I.len]; exact (List.getElem?_eq_some_iff.mp hi).1
  refine ⟨⟨I.ok.mod, L.kind, rfl, rfl, Nat.le_refl _, fun y z c e1 e2 => (noc e1).elim, fun y hy => ?_, fun y c z _ => ?_, fun _ => hh, Around.frames_deeper I.ok.frames, .inr ⟨rfl, rfl⟩, fun b hb => (by cases hb), I.bs, Nat.le_trans I.ok.bsz I.sz, fun b o e hb => (by cases hb), fun b hb => (by cases hb), I.stack, I.stkFree⟩,
    rfl, I.bare, Un.kept kp, ⟨_, hns, fun j y v' e1 e2 e3 => ?_⟩, fun y c e => (noc e).elim, I.hok.fresh (Nat.le_refl _), fun y c e => (noc e).elim, fun p hp => (by cases (show p ∈ ([] : List (Addr × Obj)) ++ [] from hp)), I.hok.kept kp, by rw [List.length_set, wipe_length]; exact I.len⟩
  · have hy : scope.names.lookup y = some .cell ∨ scope.names.lookup y = some .free := hy
    rcases hy with hy | hy
    · exact absurd rfl (L.cell _ (PySem.mem_of_lookup hy))
    · exact absurd rfl (L.free _ (PySem.mem_of_lookup hy))
  · have z : false = true := z
    cases z
  · have e3 : Vis scope y := e3
    have hy : y = p := by
      rcases e3 with k | k | k
      · exact L.own _ (PySem.mem_of_lookup k) rfl
      · exact absurd rfl (L.cell _ (PySem.mem_of_lookup k))
      · exact absurd rfl (L.free _ (PySem.mem_of_lookup k))
    subst hy
    have hj : j = i := nodup_ix hN e1 hi
    subst hj
    rw [List.getElem?_set_self (by rw [wipe_length]; exact len)] at e2
    cases e2
    refine ⟨u, rv, .inl ⟨L.loc, ?_⟩⟩
    simp
variable {W : Wd} {S : Sg} {g : Gm}
theorem Ct.lam (C : Ct X W S g) (hx : g.gx = true) (scope : Scope) (s : Shared) (H : Hp) (q : Str) (f c' : Addr) (cl : List (Str × Addr)) : Ct (lCx X s H q scope f c' cl) W S (genG g scope) where
  K := C.K
  N := C.N
  nd := C.nd
  sc := rfl
  calm := rfl
  hu := (C.gen hx scope s H .none []).hu
  blt := C.blt
  cst := C.cst
  kd := C.kd
  ktn := C.ktn
  ktc := C.ktc
  bf := C.bf
  fns := fun x k io h => by
    obtain ⟨np, kk, f, fd, ps, Fn, hr, r⟩ := ((C.gen hx scope s H .none []).fns x k io h).ex
    exact ⟨np, kk, f, fd, ps, Fn, ⟨hr.hd, hr.dp, hr.un⟩, r⟩
  fld := C.fld
  cls := C.cls
  mth := fun x m c f h => by cases h
  fcl := fun x z => by cases z
  mnf := fun x m h => by cases h
  gt := fun z => by cases z
  mkc := fun x c f h => by cases h
/-- the lambda, called by list.sort -/
theorem kc_lam {f c' : Addr} {q ql : Str} {pm ctv : Value} {params : Arguments} {body : Expr} {scope : Scope} {p : Str} {i : Nat} {b : Px} (hh : X.A.handled = none) (hroom : X.A.depth < recursionLimit) (hN : X.N.Nodup) (L : LamO scope p) (hi : X.N[i]? = some p)
    (hbind : ∀ u : Value, bindArgs (PySem.W.kla_fn "<lambda>" ql params body scope (cloFrom X.env.cells scope.names []) pm (.ref c') ctv) ⟨[u], []⟩ = pure [(p, u)])
    (hb : ∀ (s : Shared) (H : Hp), PE (lCx X s H q scope f c' (cloFrom X.env.cells scope.names [])) body (zp W S b)) :
    KC X σ f [(f, PySem.W.kla_obj "<lambda>" ql params body scope (cloFrom X.env.cells scope.names []) pm c' ctv)] fun v H Q => H c' = some (CodeO c' q) ∧ ∃ δ F d δ1 m1 kd, REnv W H σ δ F ∧ RepD W.kk H v d ∧ tgSet (.nm i) d (wipeE δ [i]) = some δ1 ∧ pv S b δ1 = some m1 ∧ keyM m1 = some kd ∧ ∀ w H', RepD W.kk H' w kd → Same H H' → Q w H' := by
  intro pl s H v u Q hpf I rx ⟨hc, δ, F, d, δ1, m1, kd, r, rd, h1, h2, h3, hq⟩
  have of1 := (I.pin _ (List.mem_append_right _ (hpf _ (List.mem_singleton.mpr rfl)))).1
  obtain ⟨⟨oc, vs, t, hoc, hdc, hvc⟩, _, _⟩ := I.hok c' _ hc
  have rc : codeAny (model X.prog X.w) X.A.in1.in1 (.call (.ref f) ⟨[u], []⟩) (fun r s' => ∃ w', r = .ok (.ret w') ∧ CE X.stack X.prog X.w H s Q w' s') s := by
    refine lam_codeR (q := q) hroom of1 rfl L.co L.gen rfl ⟨c', oc, vs, t, rfl, hoc, hdc, hvc⟩ ?_
    rw [hbind]
    refine wpAny_pure (wpAny_newFunctionEnv (fun y hy => L.cell y hy) (fun y hy => ?_) (fun h₁ hns hsb => ⟨I.nolimit.fresh _ hsb, ?_⟩) L.kind)
    · rw [List.mem_singleton.mp hy]
      exact L.loc
    have kp : ∀ b o, s.heap.get? b = some o → h₁.get? b = some o := fun b o e => hsb.extBut b o (Nat.ne_of_lt (Heap.lt_size e)) (Heap.get?_push_of_some _ e)
    have J := lam_start (q := q) (f := f) (c' := c') (h₁ := h₁) (tk := s.toks + ([(p, u)] : List (Str × Value)).length) I L hh hN hi rx hns kp
    have lenδ : σ.length = δ.length := r.length
    have hi' : i < (wipeE δ [i]).length := by
      show i < ((wipeE δ []).set i .hole).length
      rw [List.length_set]
      show i < δ.length
      rw [← lenδ, I.len]
      exact (List.getElem?_eq_some_iff.mp hi).1
    have e1 : δ1 = (wipeE δ [i]).set i (.i d) := by
      have h1 : (if i < (wipeE δ [i]).length then some ((wipeE δ [i]).set i (.i d)) else none) = some δ1 := h1
      rw [if_pos hi'] at h1
      exact (Option.some.inj h1).symm
    obtain ⟨Fw, rww, _⟩ := r.wipe [i]
    obtain ⟨F', r', _, _⟩ := rww.setI hi' rd
    rw [← e1] at r'
    refine PySem.W.kla_codeExpr (thnF ((hb s H).run [] _ _ H (fun w H' => RepD W.kk H' w kd ∧ Same H H') J ⟨δ1, F', m1, r', h2, fun w H' G rw sm _ => ?_⟩) fun w s' hq2 => ?_)
    · unfold keyM at h3
      split at h3
      · cases h3
        cases rw with
        | i rw => exact ⟨rw, sm⟩
      · cases h3
    · obtain ⟨w', H', J', rv, rd', sm⟩ := hq2
      exact ⟨_, rfl, w', H', J'.os, J'.bare, J'.base, J'.hok, rv, hq _ _ rd' sm⟩
  refine wpAny_call (codeAny_mono rc fun r s' hq => ?_)
  obtain ⟨w', rfl, hq⟩ := hq
  exact I.after hq
theorem zp_srl (C : Ct X W S g) (hx : g.gx = true) (hkt : g.kt = false) {a body : Expr} {y b : Px} {scope : Scope} {x : Str} {i : Nat} {p kp lpos pp pos : Pos} (hb : bltN g "sorted" = true) (hp : plainE a = true) (hl : lamOB scope x = true) (hi : g.N[i]? = some x) (ha : PE X a (zp W S y))
    (hbody : ∀ (s : Shared) (H : Hp) (q : Str) (f c' : Addr) (cl : List (Str × Addr)), PE (lCx X s H q scope f c' cl) body (zp W S b)) :
    PE X (.Call (.Name "sorted" p) [a] [⟨some "key", .Lambda ⟨[], [⟨x, none, pp⟩], none, [], [], none, []⟩ body scope lpos, kp⟩] pos) (zp W S (.srl [i] i b y)) := by
  obtain ⟨g1, m1⟩ := C.bltn hb
  obtain ⟨c, P, TB, hcode, hP, hr⟩ := C.gt hx
  have nd : X.N.Nodup := by rw [C.N]; exact C.nd
  have L := lamO_by hl
  refine ⟨fun pins s σ H Q I q => ?_⟩
  obtain ⟨δ, F0, m, r, e, k⟩ := q
  simp only [pv, Option.bind_eq_bind, Option.bind_eq_some_iff] at e
  obtain ⟨m1', e1, l, e2, kd, e3, e4⟩ := e
  refine wpAny_Call_Name_kw (ld_blt (u := .builtin "sorted") I g1 m1 (by decide +kernel) ?_)
  refine PyProof.Rows.callWith_kw (thn ((pa_cons ha pa_nil (star_plain hp [] X.env)).run pos pins s σ H (fun vs H1 => ∃ l1 xs, vs = [V.ref l1] ∧ SqL X.K H1 l1 xs ∧ RepDs W.kk H1 xs l ∧ Same H H1) I ⟨δ, F0, m1', r, e1, fun v H1 G rv sm _ => ?_⟩) fun us s1 ⟨vs, H1, I1, r1, l1, xs, ev, hs, rx, sm⟩ => ?_) (by rw [star_plain hp [] X.env]; rfl) (by rw [star_plain hp [] X.env]; rfl)
  · unfold seqL at e2
    split at e2
    · cases e2
      cases rv with
      | lst s1 d1 => exact ⟨_, _, rfl, SqL.of s1, d1, sm⟩
    · cases e2
      cases rv with
      | rol s1 d1 => exact ⟨_, _, rfl, by rw [C.K]; exact s1.sq, d1, sm⟩
    · cases e2
  · subst ev
    obtain rfl := Vals.ref1 r1
    show wpAny _ _ (evalAll ((do let v ← eval (.Lambda ⟨[], [⟨x, none, pp⟩], none, [], [], none, []⟩ body scope lpos) X.env; standAt pos; pure v) :: [])) _ _ _
    refine wpAny_evalAll_cons (wpAny_bind (lam_make I1 TB hcode ((r.same sm).tbs P hP) rfl (fun y hy e => absurd e (L.free y hy)) fun f c' q pm ctv H2 s2 I2 s12 hf fpf hco => wpAny_bind (wpAny_standAt (wpAny_pure ?_))))
    refine wpAny_evalAll_nil ?_
    show wpAny _ _ (call (.builtin "sorted") [.ref l1] [(Str.ofString "key", .ref f)]) _ _ _
    have hu := hr.un
    have I3 := I2.pins_of (pins' := pins ++ [(f, PySem.W.kla_obj "<lambda>" (X.env.qual ++ "<lambda>") ⟨[], [⟨x, none, pp⟩], none, [], [], none, []⟩ body scope (cloFrom X.env.cells scope.names []) pm c' ctv)]) fun p hp => by
      rcases List.mem_append.mp hp with z | z
      · exact I2.pin p (List.mem_append_right _ z)
      · rw [List.mem_singleton.mp z]
        exact ⟨hf, fpf.1, fpf.2.1, fpf.2.2.1, fun v z => by cases z⟩
    have kc := kc_lam (σ := σ) (W := W) (S := S) (b := b) (f := f) (c' := c') (q := q) (ql := X.env.qual ++ "<lambda>") (pm := pm) (ctv := ctv) (params := ⟨[], [⟨x, none, pp⟩], none, [], [], none, []⟩) (body := body) hr.hd hr.depth nd L (by rw [C.N]; exact hi) (fun u => lam_bind) (fun s H => hbody s H q f c' _)
    refine thn (srt_run (C.ktn hkt) I3 (s12.seq hs) kc (fun p hp => List.mem_append_right _ hp) (rx.mono (Kp.same s12)) e3 e4 (sm.trans s12) (by omega) (fun x' d kx H3 rd ek s3 Q' q' => ?_) fun v H' G rv s' fr => k v H' G rv s' fun _ => fr) fun v s' ⟨v', H', J, rv, qq⟩ => ⟨v', H', J.unpinned, rv, qq⟩
    simp only [Option.bind_eq_bind, Option.bind_eq_some_iff] at ek
    obtain ⟨δ1, h1, mm, h2, h3⟩ := ek
    exact ⟨s3.s _ _ hco (fun ps z => by unfold CodeO at z; cases z), δ, F0, d, δ1, mm, kx, r.same ((sm.trans s12).trans s3), rd, h1, h2, h3, q'⟩
end
end Zy
end
section
/-! Zy, part I: what the reader of pure expressions reads is right. -/
namespace Zy
open PySem PySem.Spec PyProof.Rows L2

section
variable {W : Wd} {S : Sg}
theorem relS_eq {X : Cx} {g : Gm} (C : Ct X W S g) (scope : Scope) (cl : List (Str × Addr)) (D : Addr) : (compEnvC scope cl D X.env).scope = relS scope g.sc := by
  rw [← C.sc]
  rfl
theorem Ct.blk {X : Cx} {g : Gm} (C : Ct X W S g) (scope : Scope) (s : Shared) (H : Hp) (D : Addr) (cl : List (Str × Addr)) (fp : List Addr) : Ct (X.blk s H scope (compEnvC scope cl D X.env) fp) W S (relG g scope) where
  K := C.K
  N := C.N
  nd := C.nd
  sc := relS_eq C scope cl D
  calm := C.calm
  hu := C.hu
  blt := C.blt
  cst := C.cst
  kd := C.kd
  ktn := C.ktn
  ktc := C.ktc
  bf := C.bf
  fns := fun x k io h => ⟨(C.fns x k io h).ex⟩
  fld := C.fld
  cls := C.cls
  mth := fun x m c f h1 h2 h3 => by
    obtain ⟨fa, h4, h5⟩ := C.mth x m c f h1 h2 h3
    exact ⟨fa, h4, ⟨h5.ex⟩⟩
  fcl := fun x z => z
  mnf := C.mnf
  gt := C.gt
  mkc := fun x c f h1 h2 => by
    obtain ⟨h3, h4, fa, h5, h6⟩ := C.mkc x c f h1 h2
    exact ⟨h3, h4, fa, h5, ⟨h6.ex⟩⟩
theorem glC_of {g : Gm} {x : Str} (h : glC g x = true) : glB g.sc x = true ∧ (x == ("__debug__" : Str)) = false := by
  unfold glC at h
  rw [Bool.and_eq_true] at h
  exact ⟨h.1, by simpa using h.2⟩
theorem fset {e : Expr} (h : plainE e = true) (env : PySem.Env) (x : Value) : foldedSetIterable e env x = pure x := by
  cases e <;> first | rfl | cases h

theorem genOf_eq {g : Gm} {x : Str} {es : List Expr} {b : Bool} {elt tg it : Expr} {scope : Scope} (h : genOf g x es = some (b, elt, tg, it, scope)) :
    g.gx = true ∧ (x = "any" ∨ x = "all") ∧ plainE it = true ∧ isLsE it = false ∧ genOB scope = true ∧ b = decide (x = "any") ∧ ∃ p2, es = [.GeneratorExp elt [⟨tg, it, [], 0⟩] scope p2] := by
  unfold genOf at h
  split at h
  · split at h
    · rename_i hc
      simp only [Bool.and_eq_true, Bool.or_eq_true, decide_eq_true_eq, Bool.not_eq_true'] at hc
      cases h
      exact ⟨hc.1.1.1.1, hc.1.1.1.2, hc.1.1.2, hc.1.2, hc.2, rfl, _, rfl⟩
    · cases h
  · cases h
theorem lamOf_eq {g : Gm} {k : Expr} {p : Str} {i : Nat} {body : Expr} {scope : Scope} (h : lamOf g k = some (p, i, body, scope)) :
    lamOB scope p = true ∧ g.N[i]? = some p ∧ ∃ pp lpos, k = .Lambda ⟨[], [⟨p, none, pp⟩], none, [], [], none, []⟩ body scope lpos := by
  unfold lamOf at h
  split at h
  · split at h
    · rename_i hc
      rw [Bool.and_eq_true] at hc
      obtain ⟨j, h1, h2⟩ := Option.map_eq_some_iff.mp h
      cases h2
      obtain ⟨hi, hp, _⟩ := List.findIdx?_eq_some_iff_getElem.mp h1
      exact ⟨hc.2, by rw [List.getElem?_eq_getElem hi, eq_of_beq hp], _, _, rfl⟩
    · cases h
  · cases h
structure Rok (W : Wd) (S : Sg) (n : Nat) : Prop where
  P : ∀ {X : Cx} {g : Gm} {e : Expr} {x : Px}, Ct X W S g → rP n g e = some x → PE X e (zp W S x)
  Cm : ∀ {X : Cx} {g : Gm} {a : Expr} {ops : List CmpOp} {cs : List Expr} {pos : Pos} {x : Px}, Ct X W S g → rP n g (.Compare a ops cs pos) = some x → PT X (.Compare a ops cs pos) (zt W S (.v x))
  Ps : ∀ {X : Cx} {g : Gm} {es : List Expr} {xs : List Px}, Ct X W S g → rPs n g es = some xs → es.all plainE = true ∧ PA X es (zps W S xs)
  Pe : ∀ {X : Cx} {g : Gm} {es : List Expr} {xs : List Px}, Ct X W S g → rPs n g es = some xs → PEs X W S es xs
  O : ∀ {X : Cx} {g : Gm} {e : Option Expr} {x : Option Px}, Ct X W S g → rO n g e = some x → PO X e (zo W S x)
  F : ∀ {X : Cx} {g : Gm} {es : List Expr} {c : Pt}, Ct X W S g → rIf n g es = some c → PTs X es (zt W S c)
  T : ∀ {X : Cx} {g : Gm} {e : Expr} {c : Pt}, Ct X W S g → rPt n g e = some c → PT X e (zt W S c)
  TA : ∀ {X : Cx} {g : Gm} {es : List Expr} {c : Pt} {pos : Pos}, Ct X W S g → rPtA n g es = some c → PW X (.BoolOp .And es pos) (zt W S c)
  TO : ∀ {X : Cx} {g : Gm} {es : List Expr} {c : Pt} {pos : Pos}, Ct X W S g → rPtO n g es = some c → PW X (.BoolOp .Or es pos) (zt W S c)
  A : ∀ {X : Cx} {g : Gm} {es : List Expr} {x : Px} {pos : Pos}, Ct X W S g → rAnd n g es = some x → PE X (.BoolOp .And es pos) (zp W S x)
  R : ∀ {X : Cx} {g : Gm} {es : List Expr} {x : Px} {pos : Pos}, Ct X W S g → rOr n g es = some x → PE X (.BoolOp .Or es pos) (zp W S x)
  I : ∀ {X : Cx} {g : Gm} {e : Expr} {t : Ti}, Ct X W S g → rTi n g e = some t → ∀ tg, PI X tg e (zi W S t)

theorem zt_yes {X : Cx} : PTs X [] (zt W S .yes) := ⟨fun pins s σ H Q I q => pts_nil.run pins s σ H Q I (by
  obtain ⟨δ, F, b, r, e, k⟩ := q
  cases (show some true = some b from e)
  exact k H (Same.refl H))⟩

theorem rok_Ps {n : Nat} (h : Rok W S n) {X : Cx} {g : Gm} {es : List Expr} {xs : List Px} (C : Ct X W S g) (e : rPs (n + 1) g es = some xs) : es.all plainE = true ∧ PA X es (zps W S xs) := by
  unfold rPs at e
  split at e
  · cases e; exact ⟨rfl, zps_nil⟩
  · cases e
  · rename_i hz
    cases hz
    split at e
    · rename_i hp
      split at e
      · rename_i e1 e2
        cases e
        obtain ⟨h1, h2⟩ := h.Ps C e2
        exact ⟨by rw [List.all_cons, hp, h1]; rfl, zps_cons hp (h.P C e1) h2⟩
      · cases e
    · cases e
theorem rok_Pe {n : Nat} (h : Rok W S n) {X : Cx} {g : Gm} {es : List Expr} {xs : List Px} (C : Ct X W S g) (e : rPs (n + 1) g es = some xs) : PEs X W S es xs := by
  unfold rPs at e
  split at e
  · cases e; exact .nil
  · cases e
  · rename_i hz
    cases hz
    split at e
    · split at e
      · rename_i e1 e2
        cases e
        exact .cons (h.P C e1) (h.Pe C e2)
      · cases e
    · cases e
theorem rok_O {n : Nat} (h : Rok W S n) {X : Cx} {g : Gm} {es : Option Expr} {xs : Option Px} (C : Ct X W S g) (e : rO (n + 1) g es = some xs) : PO X es (zo W S xs) := by
  unfold rO at e
  split at e
  · cases e; exact zo_none
  · cases e
  · rename_i hz
    cases hz
    obtain ⟨y, e1, e2⟩ := Option.map_eq_some_iff.mp e
    subst e2
    exact zo_some (h.P C e1)
theorem rok_F {n : Nat} (h : Rok W S n) {X : Cx} {g : Gm} {es : List Expr} {c : Pt} (C : Ct X W S g) (e : rIf (n + 1) g es = some c) : PTs X es (zt W S c) := by
  unfold rIf at e
  split at e
  · cases e; exact zt_yes
  · cases e
  · rename_i hz
    cases hz
    exact pts_one (h.T C e)
  · cases e
theorem rok_TA {n : Nat} (h : Rok W S n) {X : Cx} {g : Gm} {es : List Expr} {c : Pt} {pos : Pos} (C : Ct X W S g) (e : rPtA (n + 1) g es = some c) : PW X (.BoolOp .And es pos) (zt W S c) := by
  unfold rPtA at e
  split at e
  · cases e
  · rename_i hz
    cases hz
    exact pw_and1 (h.T C e)
  · rename_i es0 hne hz
    cases hz
    split at e
    · rename_i e1 e2
      cases e
      cases es0 with
      | nil => exact absurd rfl hne
      | cons b r => exact zw_and (h.T C e1) (h.TA C e2)
    · cases e
  · cases e
theorem rok_TO {n : Nat} (h : Rok W S n) {X : Cx} {g : Gm} {es : List Expr} {c : Pt} {pos : Pos} (C : Ct X W S g) (e : rPtO (n + 1) g es = some c) : PW X (.BoolOp .Or es pos) (zt W S c) := by
  unfold rPtO at e
  split at e
  · cases e
  · rename_i hz
    cases hz
    exact pw_or1 (h.T C e)
  · rename_i es0 hne hz
    cases hz
    split at e
    · rename_i e1 e2
      cases e
      cases es0 with
      | nil => exact absurd rfl hne
      | cons b r => exact zw_or (h.T C e1) (h.TO C e2)
    · cases e
  · cases e
theorem rok_A {n : Nat} (h : Rok W S n) {X : Cx} {g : Gm} {es : List Expr} {x : Px} {pos : Pos} (C : Ct X W S g) (e : rAnd (n + 1) g es = some x) : PE X (.BoolOp .And es pos) (zp W S x) := by
  unfold rAnd at e
  split at e
  · cases e
  · rename_i hz
    cases hz
    exact pe_one (h.P C e)
  · rename_i es0 hne hz
    cases hz
    split at e
    · rename_i e1 e2
      cases e
      cases es0 with
      | nil => exact absurd rfl hne
      | cons b r => exact zp_and (h.P C e1) (h.A C e2)
    · cases e
  · cases e
theorem rok_R {n : Nat} (h : Rok W S n) {X : Cx} {g : Gm} {es : List Expr} {x : Px} {pos : Pos} (C : Ct X W S g) (e : rOr (n + 1) g es = some x) : PE X (.BoolOp .Or es pos) (zp W S x) := by
  unfold rOr at e
  split at e
  · cases e
  · rename_i hz
    cases hz
    exact pe_one (h.P C e)
  · rename_i es0 hne hz
    cases hz
    split at e
    · rename_i e1 e2
      cases e
      cases es0 with
      | nil => exact absurd rfl hne
      | cons b r => exact zp_or (h.P C e1) (h.R C e2)
    · cases e
  · cases e
theorem rok_I {n : Nat} (h : Rok W S n) {X : Cx} {g : Gm} {e0 : Expr} {t : Ti} (C : Ct X W S g) (e : rTi (n + 1) g e0 = some t) (tg : Expr) : PI X tg e0 (zi W S t) := by
  have fin : ∀ {e0 : Expr} {t : Ti}, (rP n g e0).map .e = some t → PI X tg e0 (zi W S t) := fun {e0 t} e => by
    obtain ⟨y, e1, e2⟩ := Option.map_eq_some_iff.mp e
    subst e2
    exact zi_of_e (zi_e C (h.P C e1))
  simp only [rTi] at e
  split at e
  · split at e
    · rename_i hc
      simp only [Bool.and_eq_true, decide_eq_true_eq] at hc
      obtain ⟨⟨rfl, h2⟩, h3⟩ := hc
      obtain ⟨y, e1, e2⟩ := Option.map_eq_some_iff.mp e
      subst e2
      exact zi_rng1 C h2 h3 (h.P C e1)
    · split at e
      · exact fin e
      · cases e
  · split at e
    · rename_i hc
      simp only [Bool.and_eq_true, decide_eq_true_eq] at hc
      obtain ⟨⟨⟨rfl, h2⟩, h3⟩, h4⟩ := hc
      split at e
      · rename_i e1 e2
        cases e
        exact zi_rng2 C h2 h3 h4 (h.P C e1) (h.P C e2)
      · cases e
    · exact fin e
  · split at e
    · exact fin e
    · cases e
theorem rok_T {n : Nat} (h : Rok W S n) {X : Cx} {g : Gm} {e0 : Expr} {c : Pt} (C : Ct X W S g) (e : rPt (n + 1) g e0 = some c) : PT X e0 (zt W S c) := by
  simp only [rPt] at e
  split at e
  · exact (h.TA C e).pt
  · exact (h.TO C e).pt
  · obtain ⟨y, e1, e2⟩ := Option.map_eq_some_iff.mp e
    subst e2
    exact zt_not (h.T C e1)
  · cases e
  · rename_i n1 n2 n3 n4
    obtain ⟨y, e1, e2⟩ := Option.map_eq_some_iff.mp e
    subst e2
    have hp := h.P C e1
    cases e0 with
    | BoolOp op es pos => cases op with
      | And => exact absurd rfl (n1 _ _)
      | Or => exact absurd rfl (n2 _ _)
    | UnaryOp op a pos => cases op with
      | Not => exact absurd rfl (n3 _ _)
      | _ => exact zt_v C (fun _ => rfl) hp
    | IfExp _ _ _ _ => exact absurd rfl (n4 _ _ _ _)
    | Compare a ops cs pos => exact h.Cm C e1
    | _ => exact zt_v C (fun _ => rfl) hp
theorem rok_Cm {n : Nat} (h : Rok W S n) {X : Cx} {g : Gm} {a : Expr} {ops : List CmpOp} {cs : List Expr} {pos : Pos} {x : Px} (C : Ct X W S g) (e : rP (n + 1) g (.Compare a ops cs pos) = some x) :
    PE X (.Compare a ops cs pos) (zp W S x) ∧ PT X (.Compare a ops cs pos) (zt W S (.v x)) := by
  cases ops with
  | nil => simp only [rP] at e; cases e
  | cons op r => cases r with
    | nil => cases cs with
      | nil => simp only [rP] at e; cases e
      | cons b r2 => cases r2 with
        | cons _ _ => simp only [rP] at e; cases e
        | nil =>
          simp only [rP] at e
          split at e
          · rename_i hp
            split at e
            · rename_i e1 e2 e3
              cases e
              exact ⟨zp_cmp C e1 hp (h.P C e2) (h.P C e3), zt_cmp C e1 hp (h.P C e2) (h.P C e3)⟩
            · cases e
          · cases e
    | cons op2 r => cases r with
      | cons _ _ => simp only [rP] at e; cases e
      | nil => cases cs with
        | nil => simp only [rP] at e; cases e
        | cons b r2 => cases r2 with
          | nil => simp only [rP] at e; cases e
          | cons c r3 => cases r3 with
            | cons _ _ => simp only [rP] at e; cases e
            | nil =>
              simp only [rP] at e
              split at e
              · rename_i hp
                rw [Bool.and_eq_true] at hp
                split at e
                · rename_i e1 e2 e3 e4 e5
                  cases e
                  exact ⟨zp_chn C e1 e2 hp.1 hp.2 (h.P C e3) (h.P C e4) (h.P C e5), zt_chn C e1 e2 hp.1 hp.2 (h.P C e3) (h.P C e4) (h.P C e5)⟩
                · cases e
              · cases e
theorem rPs_cons {n : Nat} {g : Gm} {es : List Expr} {y : Px} {ys : List Px} (h : rPs n g es = some (y :: ys)) : ∃ e r, es = e :: r := by
  cases es with
  | cons e r => exact ⟨e, r, rfl⟩
  | nil => simp [rPs] at h
theorem kdOf_eq {g : Gm} {a : Expr} {kvs : List (Str × D)} (h : kdOf g a = some kvs) : ∃ x p, a = .Name x p ∧ glB g.sc x = true ∧ (x == ("__debug__" : Str)) = false ∧ g.kd.lookup x = some kvs := by
  unfold kdOf at h
  split at h
  · rename_i x p
    split at h
    · rename_i hc
      rw [Bool.and_eq_true] at hc
      obtain ⟨h1, h2⟩ := glC_of hc.2
      exact ⟨x, p, rfl, h1, h2, h⟩
    · cases h
  · cases h
theorem two_of_Ps {X : Cx} {es : List Expr} {a b : Px} (h : PEs X W S es [a, b]) : ∃ ea eb, es = [ea, eb] ∧ PE X ea (zp W S a) ∧ PE X eb (zp W S b) := by
  cases h with
  | cons h1 h => cases h with | cons h2 h => cases h; exact ⟨_, _, rfl, h1, h2⟩
theorem ssOf_eq {g : Gm} {x : Str} {es : List Expr} {a : Expr} (h : ssOf g x es = some a) : x = "sorted" ∧ ∃ p2 p3, es = [.Call (.Name "set" p2) [a] [] p3] ∧ bltN g "set" = true ∧ plainE a = true := by
  unfold ssOf at h
  split at h
  · split at h
    · rename_i hc
      simp only [Bool.and_eq_true, decide_eq_true_eq] at hc
      obtain ⟨⟨⟨rfl, rfl⟩, h1⟩, h2⟩ := hc
      cases h
      exact ⟨rfl, _, _, rfl, h1, h2⟩
    · cases h
  · cases h
theorem scOf_eq {x : Str} {es : List Expr} {r : Expr × Expr × Expr × List Expr × Scope} (h : scOf x es = some r) : x = "sorted" ∧ ∃ p2, es = [.SetComp r.1 [⟨r.2.1, r.2.2.1, r.2.2.2.1, 0⟩] r.2.2.2.2 p2] ∧ plainE r.2.2.1 = true := by
  unfold scOf at h
  split at h
  · split at h
    · rename_i hc
      simp only [Bool.and_eq_true, decide_eq_true_eq] at hc
      cases h
      exact ⟨hc.1, _, rfl, hc.2⟩
    · cases h
  · cases h
theorem rok_P {n : Nat} (h : Rok W S n) {X : Cx} {g : Gm} {e0 : Expr} {x : Px} (C : Ct X W S g) (e : rP (n + 1) g e0 = some x) : PE X e0 (zp W S x) := by
  have e' := e
  simp only [rP] at e
  split at e
  · split at e
    · rename_i hs
      cases e
      exact zp_var C hs
    · split at e
      · rename_i hc
        obtain ⟨h1, h2⟩ := glC_of hc
        split at e
        · rename_i e2
          cases e
          split
          · rename_i ht
            exact zp_cd C ht h1 e2 h2
          · exact zp_cst C h1 e2 h2
        · cases e
      · cases e
  · obtain ⟨y, e1, e2⟩ := Option.map_eq_some_iff.mp e
    subst e2
    exact zp_lit e1
  · obtain ⟨y, e1, e2⟩ := Option.map_eq_some_iff.mp e
    subst e2
    exact zp_tup (h.Ps C e1).2
  · obtain ⟨y, e1, e2⟩ := Option.map_eq_some_iff.mp e
    subst e2
    exact zp_lst (h.Ps C e1).2
  · cases e
    exact zp_dnew _ fun z => C.ktn (by rw [Bool.and_eq_true] at z; simpa using z.2)
  · split at e
    · rename_i e1 e2
      split at e
      · rename_i hl
        cases e
        exact zp_disp e1 hl (fun c z p d hd => zp_lit hd) (h.Pe C e2)
      · cases e
    · cases e
  · split at e
    · rename_i e1 e2 e3
      cases e
      exact zp_bop C e1 (h.P C e2) (h.P C e3)
    · cases e
  · obtain ⟨y, e1, e2⟩ := Option.map_eq_some_iff.mp e
    subst e2
    exact zp_neg (h.P C e1)
  · obtain ⟨y, e1, e2⟩ := Option.map_eq_some_iff.mp e
    subst e2
    exact zp_not (h.P C e1)
  · exact (rok_Cm h C e').1
  · exact (rok_Cm h C e').1
  · exact h.A C e
  · exact h.R C e
  · split at e
    · rename_i e1 e2 e3
      cases e
      exact zp_ife (h.T C e1) (h.P C e2) (h.P C e3)
    · cases e
  · obtain ⟨y, e1, e2⟩ := Option.map_eq_some_iff.mp e
    subst e2
    exact zp_rev (h.P C e1) C.K
  · obtain ⟨y, e1, e2⟩ := Option.map_eq_some_iff.mp e
    subst e2
    exact zp_stp C.K (h.P C e1)
  · split at e
    · rename_i e1 e2 e3
      cases e
      exact zp_sl C (h.P C e1) (h.O C e2) (h.O C e3)
    · cases e
  · split at e
    · rename_i hp
      split at e
      · rename_i e1 e2
        cases e
        obtain ⟨x, p, rfl, h1, h2, h3⟩ := kdOf_eq e1
        exact zp_kdi C h1 h2 h3 hp (h.P C e2)
      · split at e
        · rename_i e1 e2
          cases e
          exact zp_idx C hp (h.P C e1) (h.P C e2)
        · cases e
    · cases e
  · split at e
    · rename_i hp
      split at e
      · rename_i e1 e2
        cases e
        exact zp_fld C hp e2 (h.P C e1)
      · cases e
    · cases e
  · split at e
    · rename_i hb
      split at e
      · rename_i hx
        subst hx
        split at e
        · split at e
          · rename_i ht
            rw [Bool.and_eq_true] at ht
            split at e
            · rename_i e1 e2
              cases e
              have := tyOf_eq e2
              subst this
              exact zp_isi C hb ht.1 ht.2 (h.P C e1)
            · cases e
          · cases e
        · cases e
      · split at e
        · rename_i es' a hss
          obtain ⟨y, e1, e2⟩ := Option.map_eq_some_iff.mp e
          subst e2
          obtain ⟨rfl, p2, p3, rfl, hs2, hp2⟩ := ssOf_eq hss
          exact zp_sset C hb hs2 hp2 (h.P C e1)
        split at e
        · rename_i hsc
          obtain ⟨rfl, p2, rfl, hp2⟩ := scOf_eq hsc
          split at e
          · rename_i hc
            simp only [Bool.and_eq_true] at hc
            split at e
            · rename_i e1 e2 e3 e4
              split at e
              · rename_i ht
                cases e
                exact zp_ssc C hb (h.I C e2 _) (blkOk_by (by rw [C.N, C.sc]; exact hc.1)) (fun x => fset hc.2 _ x) (fun a ha => by simpa using List.all_eq_true.mp ht a ha)
                  (fun s H D cl fp => gz_ok (C.blk _ s H D cl fp) e1) (fun s H D cl fp => h.F (C.blk _ s H D cl fp) e3) (fun s H D cl fp => h.P (C.blk _ s H D cl fp) e4)
              · cases e
            · cases e
          · cases e
        split at e
        · rename_i hge
          obtain ⟨hgx, hn, hp2, hls, hgo, rfl, p2, rfl⟩ := genOf_eq hge
          split at e
          · rename_i hc
            split at e
            · rename_i e1 e2 e3
              split at e
              · rename_i ht
                cases e
                exact zp_gen C hgx hn hb (h.I C e2 _) (blkOk_by (by rw [C.N, C.sc]; exact hc)) (genO_by hgo) (fun v => isLsE_fold hls hp2 _ v) (fun a ha => by simpa using List.all_eq_true.mp ht a ha)
                  (fun s H cd fp => gz_ok (C.gen hgx _ s H cd fp) e1) (fun s H cd fp => h.P (C.gen hgx _ s H cd fp) e3)
              · cases e
            · cases e
          · cases e
        split at e
        · rename_i e1 e2
          cases e
          have := bltX_eq e1
          have hno := fun z => C.ktn (bltX_no e1 z)
          subst this
          obtain ⟨e3, es3, rfl⟩ := rPs_cons e2
          obtain ⟨h1, h2⟩ := h.Ps C e2
          exact zp_blt C hno hb h1 h2
        · cases e
    · split at e
      · rename_i hc
        obtain ⟨h1, h2⟩ := glC_of hc
        split at e
        · rename_i a b hbf hps
          split at e
          · rename_i hid
            simp only [Bool.and_eq_true, decide_eq_true_eq] at hid
            cases e
            obtain ⟨ea, eb, rfl, ha, hb2⟩ := two_of_Ps (h.Pe C hps)
            have hm := C.bf _ _ hbf
            rw [hid.1] at hm
            simp only [List.all_cons, List.all_nil, Bool.and_true, Bool.and_eq_true] at hid
            exact zp_gcd (C.gl h1) hm h2 hid.2.1 hid.2.2 ha hb2
          · cases e
        split at e
        · rename_i e1 e2
          cases e
          obtain ⟨h3, h4⟩ := h.Ps C e2
          split
          · exact zp_ro (zp_call C h1 e1 h3 h2 (fun z => by subst z; cases n <;> (cases e2; rfl)) h4)
          · exact zp_call C h1 e1 h3 h2 (fun z => by subst z; cases n <;> (cases e2; rfl)) h4
        · cases e
      · cases e
  · split at e
    · rename_i hc
      simp only [Bool.and_eq_true, decide_eq_true_eq, Bool.not_eq_true'] at hc
      obtain ⟨⟨⟨⟨⟨rfl, rfl⟩, hb⟩, hp⟩, hkt⟩, hgx⟩ := hc
      split at e
      · rename_i hlam
        obtain ⟨hl, hi, pp, lpos, rfl⟩ := lamOf_eq hlam
        split at e
        · rename_i e1 e2
          cases e
          exact zp_srl C hgx hkt hb hp hl hi (h.P C e2) (fun s H q f c' cl => h.P (C.lam hgx _ s H q f c' cl) e1)
        · cases e
      · split at e
        · split at e
          · rename_i hc2
            rw [Bool.and_eq_true] at hc2
            obtain ⟨h1, h2⟩ := glC_of hc2.2
            split at e
            · rename_i e1 e2
              cases e
              exact zp_srt C hgx hkt hb hp h1 h2 e1 (h.P C e2)
            · cases e
          · cases e
        · cases e
    · cases e
  · split at e
    · rename_i hc
      simp only [Bool.and_eq_true] at hc
      split at e
      · rename_i e1 e2
        cases e
        obtain ⟨rfl, _⟩ := smtOf_eq e1
        exact zp_smt0 C hc.1.1 hc.1.2 (h.P C e2)
      · cases e
    · cases e
  · split at e
    · rename_i hc
      simp only [Bool.and_eq_true] at hc
      split at e
      · rename_i hm
        subst hm
        split at e
        · rename_i e2 e3
          cases e
          exact zp_idm C hc.1.1.1 hc.1.1.2 hc.2 (h.P C e2) (h.P C e3)
        · cases e
      · split at e
        · cases e
        · rename_i hne e1 e2 e3
          cases e
          obtain ⟨rfl, h5⟩ := smtOf_eq e1
          refine zp_smt1 C ?_ hc.1.1.1 hc.1.1.2 hc.2 (h.P C e2) (h.P C e3)
          rcases h5 with h5 | h5 | h5 | h5 | h5
          · exact .inl h5
          · exact .inr (.inl h5)
          · subst h5; exact (hne rfl).elim
          · exact .inr (.inr (.inl h5))
          · exact .inr (.inr (.inr h5))
        · cases e
    · cases e
  · split at e
    · rename_i hc
      simp only [Bool.and_eq_true] at hc
      split at e
      · rename_i e1 e2 e3 e4
        split at e
        · rename_i ht
          cases e
          exact zp_lc C (h.I C e2 _) (blkOk_by (by rw [C.N, C.sc]; exact hc.1)) (fun x => fset hc.2 _ x) (fun a ha => by simpa using List.all_eq_true.mp ht a ha)
            (fun s H D cl fp => gz_ok (C.blk _ s H D cl fp) e1) (fun s H D cl fp => h.F (C.blk _ s H D cl fp) e3) (fun s H D cl fp => h.P (C.blk _ s H D cl fp) e4)
        · cases e
      · cases e
    · cases e
  · cases e
theorem rok_all : ∀ n, Rok W S n
  | 0 => by
    refine ⟨fun _ e => ?_, fun _ e => ?_, fun _ e => ?_, fun _ e => ?_, fun _ e => ?_, fun _ e => ?_, fun _ e => ?_, fun _ e => ?_, fun _ e => ?_, fun _ e => ?_, fun _ e => ?_, fun _ e => ?_⟩
    · cases e
    · cases e
    · unfold rPs at e
      split at e <;> first | (cases e; exact ⟨rfl, zps_nil⟩) | (cases e; done) | (exact absurd ‹0 = Nat.succ _› (Nat.succ_ne_zero _).symm)
    · unfold rPs at e
      split at e <;> first | (cases e; exact .nil) | (cases e; done) | (exact absurd ‹0 = Nat.succ _› (Nat.succ_ne_zero _).symm)
    · unfold rO at e
      split at e <;> first | (cases e; exact zo_none) | (cases e; done) | (exact absurd ‹0 = Nat.succ _› (Nat.succ_ne_zero _).symm)
    · unfold rIf at e
      split at e <;> first | (cases e; exact zt_yes) | (cases e; done) | (exact absurd ‹0 = Nat.succ _› (Nat.succ_ne_zero _).symm)
    · cases e
    · cases e
    · cases e
    · cases e
    · cases e
    · cases e
  | n + 1 => have h := rok_all n
    ⟨rok_P h, fun C e => (rok_Cm h C e).2, rok_Ps h, rok_Pe h, rok_O h, rok_F h, rok_T h, rok_TA h, rok_TO h, rok_A h, rok_R h, rok_I h⟩
end
end Zy
end
section
/-! Zy, part J: places, steps. -/
namespace Zy
open PySem PySem.Spec PyProof.Rows L2

/-! ### steps -/
section
variable {W : Wd} {H H1 H2 H3 : Hp} {F G A B C : List Addr}
theorem Stp.same (s : Same H H1) (hG : ∀ a ∈ G, a ∈ F ∨ H a = none) : Stp W F H G H1 :=
  ⟨fun a o e _ n => s.s a o e n, hG, Kp.same s, fun a C dx vs e => ⟨vs, s.s _ _ e nofun, fun _ _ _ _ h => h⟩⟩
theorem Stp.there (s : Stp W F H A H1) {a : Addr} {o : HO} (e : H a = some o) (hF : a ∉ F) : ∃ o', H1 a = some o' := by
  by_cases n : NT o
  · exact ⟨o, s.out a o e hF n⟩
  · unfold NT at n
    obtain ⟨ps, n⟩ := Classical.not_forall.mp n
    have n : o = .tbl ps := Classical.not_not.mp n
    subst n
    obtain ⟨ps', h', _⟩ := s.kp.b a ps e
    exact ⟨_, h'⟩
theorem Stp.refl : Stp W F H F H := Stp.same (Same.refl H) fun _ h => .inl h
/-- the second step may write what the first left owned -/
theorem Stp.trans (s : Stp W F H A H1) (h : ∀ a ∈ B, a ∈ A) (t : Stp W B H1 C H2) : Stp W F H C H2 := by
  refine ⟨fun a o e hF n => t.out a o (s.out a o e hF n) (fun hB => ?_) n, fun a ha => ?_, s.kp.trans t.kp, fun a D dx vs e => ?_⟩
  · rcases s.new a (h a hB) with z | z
    · exact hF z
    · rw [z] at e; cases e
  · rcases t.new a ha with z | z
    · exact s.new a (h a z)
    · by_cases hF : a ∈ F
      · exact .inl hF
      · cases e : H a with
        | none => exact .inr rfl
        | some o => obtain ⟨o', h'⟩ := s.there e hF; rw [h'] at z; cases z
  · obtain ⟨vs1, e1, k1⟩ := s.once a D dx vs e
    obtain ⟨vs2, e2, k2⟩ := t.once a D dx vs1 e1
    exact ⟨vs2, e2, fun k v h2 h4 h3 => k2 k v h2 h4 (k1 k v h2 h4 h3)⟩
theorem Stp.sub (s : Stp W F H A H1) (h : ∀ a ∈ B, a ∈ A) : Stp W F H B H1 := ⟨s.out, fun a ha => s.new a (h a ha), s.kp, s.once⟩
theorem Stp.wide (s : Stp W F H A H1) (h : ∀ a ∈ F, a ∈ G) : Stp W G H A H1 := ⟨fun a o e hG n => s.out a o e (fun z => hG (h a z)) n, fun a ha => (s.new a ha).imp (h a) id, s.kp, s.once⟩
/-- what is held beside a step stays apart -/
theorem Stp.beside (s : Stp W F H A H1) (nd : (G ++ F).Nodup) (hG : ∀ a ∈ G, ∃ o, H a = some o) (na : A.Nodup) : (G ++ A).Nodup := by
  rw [List.nodup_append] at nd ⊢
  refine ⟨nd.1, na, fun a ha b hb e => ?_⟩
  subst e
  rcases s.new a hb with z | z
  · exact nd.2.2 a ha a z rfl
  · obtain ⟨o, ho⟩ := hG a ha
    rw [ho] at z; cases z
/-- held beside -/
theorem Rep.past (s : Stp W F H A H1) {v : V} {m : M} (r : Rep W H v m G) (nd : (G ++ F).Nodup) : Rep W H1 v m G := by
  rw [List.nodup_append] at nd
  exact r.mono s.kp _ fun a ha o e n => s.out a o e (fun z => nd.2.2 a ha a z rfl) n
theorem Reps.past (s : Stp W F H A H1) {v : List V} {m : List M} (r : Reps W H v m G) (nd : (G ++ F).Nodup) : Reps W H1 v m G := by
  rw [List.nodup_append] at nd
  exact r.mono s.kp _ fun a ha o e n => s.out a o e (fun z => nd.2.2 a ha a z rfl) n
theorem REnv.past (s : Stp W F H A H1) {v : L2.St} {m : Env} (r : REnv W H v m G) (nd : (G ++ F).Nodup) : REnv W H1 v m G := by
  rw [List.nodup_append] at nd
  exact r.mono s.kp fun a ha o e n => s.out a o e (fun z => nd.2.2 a ha a z rfl) n
theorem Fresh.apart (f : Fresh H G) (hF : ∀ a ∈ F, ∃ o, H a = some o) (nd : F.Nodup) : (G ++ F).Nodup := by
  rw [List.nodup_append]
  refine ⟨f.1, nd, fun a ha b hb e => ?_⟩
  subst e
  obtain ⟨o, ho⟩ := hF a hb
  rw [f.2 a ha] at ho; cases ho

/-! ### paths of fields -/
inductive PathM (W : Wd) (H : Hp) : V → List Nat → V → Prop
  | nil (v : V) : PathM W H v [] v
  | cons {a dx : Addr} {c : Nat} {vs : List (Str × V)} {f : Nat} {r : List Nat} {w v : V} : W.gc c → H a = some (.ins (W.ca c) dx vs) → vs.lookup (W.fn f) = some w → PathM W H w r v → PathM W H (.ref a) (f :: r) v
theorem PathM.step (s : Stp W F H A H1) {v w : V} : ∀ {fs : List Nat}, (∀ f ∈ fs, W.fi (W.fn f) = f) → (∀ f ∈ fs, f % 2 = 0) → PathM W H v fs w → PathM W H1 v fs w := by
  intro fs ho hf h
  induction h with
  | nil v => exact .nil v
  | cons hc ha hl _ ih =>
    obtain ⟨vs', e1, k⟩ := s.once _ _ _ _ ha
    exact .cons hc e1 (k _ _ (hf _ List.mem_cons_self) (ho _ List.mem_cons_self) hl) (ih (fun f z => ho f (List.mem_cons_of_mem _ z)) fun f z => hf f (List.mem_cons_of_mem _ z))
theorem PathM.snoc {v w u : V} {fs : List Nat} {a dx : Addr} {c f : Nat} {vs : List (Str × V)} (h : PathM W H v fs w) (hc : W.gc c) (e : w = .ref a) (ha : H a = some (.ins (W.ca c) dx vs)) (hl : vs.lookup (W.fn f) = some u) : PathM W H v (fs ++ [f]) u := by
  induction h with
  | nil v => subst e; exact .cons hc ha hl (.nil u)
  | cons h1 h2 h3 _ ih => exact .cons h1 h2 h3 (ih e)
theorem PathM.init {v u : V} : ∀ {fs : List Nat} {f : Nat}, PathM W H v (fs ++ [f]) u → ∃ w a c dx vs, PathM W H v fs w ∧ W.gc c ∧ w = .ref a ∧ H a = some (.ins (W.ca c) dx vs) ∧ vs.lookup (W.fn f) = some u
  | [], f, h => by
    cases h with
    | cons h1 h2 h3 h4 => cases h4; exact ⟨_, _, _, _, _, .nil _, h1, rfl, h2, h3⟩
  | g :: fs, f, h => by
    cases h with
    | cons h1 h2 h3 h4 =>
      obtain ⟨w, a, c, dx, vs, p1, p2, p3, p4, p5⟩ := PathM.init h4
      exact ⟨w, a, c, dx, vs, .cons h1 h2 h3 p1, p2, p3, p4, p5⟩
/-- a field, seen apart -/
theorem RepF.focus {k : Nat} (hk : W.fi (W.fn k) = k) : ∀ {vs : List (Str × V)} {fs : List (Nat × M)} {F : List Addr} {m : M}, RepF W H vs fs F → fs.lookup k = some m →
    ∃ A G B v, F = A ++ (G ++ B) ∧ vs.lookup (W.fn k) = some v ∧ Rep W H v m G ∧
      ∀ (H' : Hp) (m' : M) (G' : List Addr), Kp H H' → (∀ a, a ∈ A ∨ a ∈ B → ∀ o, H a = some o → NT o → H' a = some o) → Rep W H' v m' G' → RepF W H' vs (putFd fs k m') (A ++ (G' ++ B))
  | _, _, _, _, .nil, e => by cases e
  | _, _, _, m, .cons (k := k') (v := v0) (vs := vs0) (fs := fs) (m := m0) (G := G0) (F := F0) e0 r t, e => by
    rw [List.lookup_cons] at e
    by_cases h : k = k'
    · subst h
      rw [beq_self_eq_true] at e
      cases e
      refine ⟨[], G0, F0, v0, rfl, by rw [List.lookup_cons, beq_self_eq_true], r, fun H' m' G' kp f r' => ?_⟩
      unfold putFd
      rw [if_pos rfl]
      show RepF W H' _ _ (G' ++ F0)
      exact .cons e0 r' (t.mono kp _ fun a ha => f a (.inr ha))
    · have h2 : ¬ W.fn k = W.fn k' := fun z => h (by rw [← hk, z, e0])
      rw [beq_eq_false_iff_ne.mpr h] at e
      obtain ⟨A, G, B, v, e1, e2, r1, cl⟩ := RepF.focus hk t e
      refine ⟨G0 ++ A, G, B, v, by rw [e1, List.append_assoc], by rw [List.lookup_cons, beq_eq_false_iff_ne.mpr h2]; exact e2, r1, fun H' m' G' kp f r' => ?_⟩
      have q := cl H' m' G' kp (fun a ha => f a (ha.elim (fun z => .inl (List.mem_append_right _ z)) .inr)) r'
      have q2 := RepF.cons e0 (r.mono kp _ fun a ha => f a (.inl (List.mem_append_left _ ha))) q
      unfold putFd
      rw [if_neg (fun z => h z.symm), List.append_assoc]
      exact q2
def FdOk (W : Wd) (fs : List Nat) : Prop := ∀ f ∈ fs, W.fi (W.fn f) = f
theorem Rep.focus : ∀ (fs : List Nat) {v : V} {m : M} {G : List Addr}, FdOk W fs → Rep W H v m G → pathOk m fs = true → ∃ A G0 B v0, G = A ++ (G0 ++ B) ∧ PathM W H v fs v0 ∧ Rep W H v0 (pathGet m fs) G0 ∧
    ∀ (H' : Hp) (m' : M) (G' : List Addr), Kp H H' → (∀ a, a ∈ A ∨ a ∈ B → ∀ o, H a = some o → NT o → H' a = some o) → Rep W H' v0 m' G' → Rep W H' v (pathSet m fs m') (A ++ (G' ++ B))
  | [], v, m, G, _, r, _ => by
    refine ⟨[], G, [], v, by simp, .nil v, ?_, fun H' m' G' _ _ r' => ?_⟩
    · have : pathGet m [] = m := by cases m <;> rfl
      rw [this]; exact r
    · have : pathSet m [] m' = m' := by cases m <;> rfl
      rw [this]; simpa using r'
  | f :: fs, v, m, G, ok, r, h => by
    unfold pathOk at h
    split at h
    · rename_i hz; cases hz
    · rename_i c l f' r' hz
      cases hz
      split at h
      · rename_i m1 hl
        cases r with
        | @ins a dx c vs fs0 F0 h0 h1 h2 =>
          obtain ⟨A, G1, B, w, e1, e2, r1, cl⟩ := h2.focus (ok _ List.mem_cons_self) hl
          obtain ⟨A2, G2, B2, v0, e3, p, r2, cl2⟩ := Rep.focus fs (fun f z => ok f (List.mem_cons_of_mem _ z)) r1 h
          refine ⟨a :: (A ++ A2), G2, B2 ++ B, v0, by rw [e1, e3]; simp, .cons h0 h1 e2 p, by simp only [pathGet, hl, Option.getD_some]; exact r2, fun H' m' G' kp fr r' => ?_⟩
          have q := cl2 H' m' G' kp (fun a ha => fr a (ha.elim (fun z => .inl (List.mem_cons_of_mem _ (List.mem_append_right _ z))) fun z => .inr (List.mem_append_left _ z))) r'
          have q2 := cl H' _ _ kp (fun a ha => fr a (ha.elim (fun z => .inl (List.mem_cons_of_mem _ (List.mem_append_left _ z))) fun z => .inr (List.mem_append_right _ z))) q
          have q3 := Rep.ins h0 (fr a (.inl List.mem_cons_self) _ h1 nofun) q2
          simp only [pathSet, hl, Option.getD_some]
          have e4 : a :: (A ++ (A2 ++ (G' ++ B2) ++ B)) = (a :: (A ++ A2)) ++ (G' ++ (B2 ++ B)) := by simp
          rw [← e4]
          exact q3
      · cases h
    · cases h

/-! ### places -/
/-- the machine's value at a place -/
def PathV (W : Wd) (H : Hp) (σ : L2.St) (q : Pl) (v : V) : Prop := ∃ v0, σ[q.i]? = some (some v0) ∧ PathM W H v0 q.fs v
def PlW (W : Wd) (q : Pl) : Prop := FdOk W q.fs ∧ ∀ f ∈ q.fs, f % 2 = 0
theorem PathV.step {σ : L2.St} {q : Pl} {v : V} (w : PlW W q) (s : Stp W F H A H1) (h : PathV W H σ q v) : PathV W H1 σ q v := by
  obtain ⟨v0, h1, h2⟩ := h
  exact ⟨v0, h1, h2.step s w.1 w.2⟩
theorem PathM.uniq {v w u : V} {fs : List Nat} (h : PathM W H v fs w) (h2 : PathM W H v fs u) : w = u := by
  induction h with
  | nil v => cases h2; rfl
  | cons _ e1 e2 _ ih =>
    cases h2 with
    | cons _ e3 e4 p =>
      rw [e1] at e3
      injection (Option.some.inj e3) with _ _ h3
      subst h3
      rw [e2] at e4
      cases e4
      exact ih p
theorem PathV.uniq {σ : L2.St} {q : Pl} {v w : V} (h : PathV W H σ q v) (h2 : PathV W H σ q w) : v = w := by
  obtain ⟨a, h1, h3⟩ := h
  obtain ⟨b, h4, h5⟩ := h2
  rw [h1] at h4
  cases h4
  exact h3.uniq h5
theorem slot_lt {δ : Env} {i : Nat} {m : M} (h : slot δ i = m) (n : m ≠ .hole) : i < δ.length := by
  by_cases hi : i < δ.length
  · exact hi
  · exact absurd (h.symm.trans (by simp [slot, List.getElem?_eq_none (Nat.le_of_not_lt hi)])) n
theorem pathOk_of : ∀ (fs : List Nat) {m : M}, pathGet m fs ≠ .hole → pathOk m fs = true
  | [], m, _ => by cases m <;> rfl
  | f :: fs, m, h => by
    cases m with
    | ins c l =>
      unfold pathGet at h
      unfold pathOk
      cases hl : l.lookup f with
      | none =>
        rw [hl] at h
        exact absurd (by show pathGet M.hole fs = .hole; cases fs <;> rfl) h
      | some m1 =>
        rw [hl] at h
        exact pathOk_of fs h
    | _ => exact absurd rfl h
theorem plOk_of {q : Pl} {δ : Env} {m : M} (h : plGet q δ = m) (n : m ≠ .hole) : plOk q δ = true := by
  have h1 : pathGet (slot δ q.i) q.fs ≠ .hole := fun z => n (h ▸ z)
  have h2 : slot δ q.i ≠ .hole := fun z => h1 (by rw [z]; cases q.fs <;> rfl)
  unfold plOk
  rw [Bool.and_eq_true, decide_eq_true_eq]
  exact ⟨slot_lt rfl h2, pathOk_of _ h1⟩
/-- the value of a place, seen apart; v is any value if the place is an empty slot -/
theorem REnv.at_ {σ : L2.St} {δ : Env} (r : REnv W H σ δ F) {q : Pl} (w : PlW W q) (h : plOk q δ = true) : ∃ A G B, F = A ++ (G ++ B) ∧ (∀ v, PathV W H σ q v ∨ plGet q δ = .hole → (PathV W H σ q v → Rep W H v (plGet q δ) G)) ∧
    (plGet q δ ≠ .hole → ∃ v, PathV W H σ q v ∧ Rep W H v (plGet q δ) G) ∧
    ∀ (H' : Hp) (m' : M) (G' : List Addr), Kp H H' → (∀ a, a ∈ A ∨ a ∈ B → ∀ o, H a = some o → NT o → H' a = some o) → (∀ v, PathV W H σ q v → Rep W H' v m' G') → (m' = .hole ∧ G' = [] ∨ ∃ v, PathV W H σ q v) → REnv W H' σ (plSet q m' δ) (A ++ (G' ++ B)) := by
  unfold plOk at h
  rw [Bool.and_eq_true, decide_eq_true_eq] at h
  obtain ⟨hi, hp⟩ := h
  obtain ⟨A, G, B, ov, e, es, ro, cl⟩ := r.focus hi
  have hself : ∀ {ov' : Option V}, σ[q.i]? = some ov' → σ.set q.i ov' = σ := fun {ov'} e => by
    apply List.ext_getElem?
    intro j
    rw [List.getElem?_set]
    by_cases hj : q.i = j
    · subst hj
      rw [if_pos rfl, e, if_pos]
      by_cases z : q.i < σ.length
      · exact z
      · rw [List.getElem?_eq_none (Nat.le_of_not_lt z)] at e; cases e
    · rw [if_neg hj]
  unfold plGet plSet
  cases hm : slot δ q.i with
  | hole =>
    have hfs : q.fs = [] := by
      cases hq : q.fs with
      | nil => rfl
      | cons f r => rw [hm, hq] at hp; cases hp
    rw [hm] at ro
    have hG : G = [] := by
      cases ro with
      | hole => rfl
      | some r => cases r; rfl
    subst hG
    refine ⟨A, [], B, e, ?_, ?_, ?_⟩
    · rw [hfs]; intro v _ _; exact .hole v
    · rw [hfs]; intro z; exact absurd rfl z
    · rw [hfs]
      intro H' m' G' kp fr rv hx
      show REnv W H' σ (δ.set q.i m') _
      rcases hx with ⟨rfl, rfl⟩ | ⟨v, v0, hv, hpm⟩
      · have := cl H' ov .hole [] kp fr (.hole _)
        rw [hself es] at this
        exact this
      · have hv' : PathV W H σ q v := ⟨v0, hv, hpm⟩
        rw [hfs] at hpm
        cases hpm
        have := cl H' (some v) m' G' kp fr (.some (rv _ hv'))
        rw [hself hv] at this
        exact this
  | _ =>
    rename_i x
    all_goals
      rw [hm] at ro hp
      cases ro with
      | some rr =>
      rename_i v
      obtain ⟨A2, G2, B2, v0, e2, pm, r2, cl2⟩ := Rep.focus q.fs w.1 rr hp
      have pv : PathV W H σ q v0 := ⟨v, es, pm⟩
      refine ⟨A ++ A2, G2, B2 ++ B, by rw [e, e2]; simp, fun u _ hu => ?_, fun _ => ⟨v0, pv, r2⟩, fun H' m' G' kp fr rv _ => ?_⟩
      · rw [hu.uniq pv]; exact r2
      · have q1 := cl2 H' m' G' kp (fun a ha => fr a (ha.elim (fun z => .inl (List.mem_append_right _ z)) fun z => .inr (List.mem_append_left _ z))) (rv _ pv)
        have q2 := cl H' (some v) _ _ kp (fun a ha => fr a (ha.elim (fun z => .inl (List.mem_append_left _ z)) fun z => .inr (List.mem_append_right _ z))) (.some q1)
        rw [hself es] at q2
        have e4 : A ++ (A2 ++ (G' ++ B2) ++ B) = (A ++ A2) ++ (G' ++ (B2 ++ B)) := by simp
        rw [← e4]
        exact q2
end
end Zy
end
section
/-! Zy, part K: expressions that change what the slots own. -/
namespace Zy
open PySem PySem.Spec PyProof.Rows L2

section
variable {W : Wd} {H H1 H2 H3 : Hp} {F G A B C D : List Addr}
theorem Stp.then_ (s : Stp W F H A H1) (h : ∀ a ∈ B, a ∈ A) (t : Stp W B H1 C H2) (k : ∀ a ∈ D, a ∈ A ∨ a ∈ C) : Stp W F H D H2 := by
  have u := s.trans h t
  exact ⟨u.out, fun a ha => (k a ha).elim (s.new a) (u.new a), u.kp, u.once⟩
theorem nd_left {l m : List Addr} (h : (l ++ m).Nodup) : l.Nodup := (List.nodup_append.mp h).1
theorem nd_right {l m : List Addr} (h : (l ++ m).Nodup) : m.Nodup := (List.nodup_append.mp h).2.1
theorem nd_ne {l m : List Addr} (h : (l ++ m).Nodup) {a : Addr} (h1 : a ∈ l) (h2 : a ∈ m) : False := (List.nodup_append.mp h).2.2 a h1 a h2 rfl
theorem nd_mk {l m : List Addr} (h1 : l.Nodup) (h2 : m.Nodup) (h : ∀ a, a ∈ l → a ∈ m → False) : (l ++ m).Nodup := List.nodup_append.mpr ⟨h1, h2, fun a ha b hb e => h a ha (e ▸ hb)⟩

/-- an outcome's promise -/
def RR {α : Type} (W : Wd) (E : WX) (σ : L2.St) (H : Hp) (F : List Addr) (r : R α) (ok : α → Env → Prop) : Prop := match r with
  | .ok a δ' => ok a δ'
  | .exc x δ' => ∀ cls d H' F', RepX W H' cls d x → REnv W H' σ δ' F' → F'.Nodup → Stp W F H F' H' → E cls d σ H'
  | .bad => False
variable {E : WX} {σ : L2.St}
theorem RR.bind {α β : Type} {r : R α} {f : α → Env → R β} {okb : β → Env → Prop} {oka : α → Env → Prop} (h : RR W E σ H F (r.bnd f) okb) (k : ∀ a δ1, RR W E σ H F (f a δ1) okb → oka a δ1) : RR W E σ H F r oka := by
  cases r with
  | ok a δ' => exact k a δ' h
  | exc x δ' => exact h
  | bad => exact h
theorem RR.from_ {α : Type} {r : R α} {ok ok' : α → Env → Prop} (h : RR W E σ H F r ok) (s : Stp W F H A H1) (hb : ∀ a ∈ B, a ∈ A) (k : ∀ a δ', ok a δ' → ok' a δ') : RR W E σ H1 B r ok' := by
  cases r with
  | ok a δ' => exact k a δ' h
  | exc x δ' => exact fun cls d H' F' h1 h2 h3 h4 => h cls d H' F' h1 h2 h3 (s.trans hb h4)
  | bad => exact h
theorem RR.of_ {α : Type} {o : Option α} {δ : Env} {ok : α → Env → Prop} (h : RR W E σ H F (R.of o δ) ok) : ∃ a, o = some a ∧ ok a δ := by
  cases o with
  | some a => exact ⟨a, rfl, h⟩
  | none => exact False.elim h
theorem RR.of' {α : Type} {o : Option Env} {f : Env → R α} {ok : α → Env → Prop} (h : RR W E σ H F (R.of' o f) ok) : ∃ a, o = some a ∧ RR W E σ H F (f a) ok := by
  cases o with
  | some a => exact ⟨a, rfl, h⟩
  | none => exact False.elim h

def okV (W : Wd) (σ : L2.St) (H : Hp) (F : List Addr) (Q : VK) : M → Env → Prop := fun m δ' => ∀ v H' G F', Rep W H' v m G → REnv W H' σ δ' F' → (G ++ F').Nodup → Stp W F H (G ++ F') H' → Q v H'
def okVs (W : Wd) (σ : L2.St) (H : Hp) (F : List Addr) (Q : List V → Hp → Prop) : List M → Env → Prop := fun m δ' => ∀ v H' G F', Reps W H' v m G → REnv W H' σ δ' F' → (G ++ F').Nodup → Stp W F H (G ++ F') H' → Q v H'
def okB (W : Wd) (σ : L2.St) (H : Hp) (F : List Addr) (Q : Bool → Hp → Prop) : Bool → Env → Prop := fun b δ' => ∀ H' F', REnv W H' σ δ' F' → F'.Nodup → Stp W F H F' H' → Q b H'
/-- an argument: a value, or a place -/
def RepA1 (W : Wd) (H : Hp) (σ : L2.St) (v : V) (a : Ar) (G : List Addr) : Prop := match a with
  | .v m => Rep W H v m G
  | .q q => PathV W H σ q v ∧ PlW W q ∧ G = []
inductive RepA (W : Wd) (H : Hp) (σ : L2.St) : List V → List Ar → List Addr → Prop
  | nil : RepA W H σ [] [] []
  | cons {v : V} {vs : List V} {a : Ar} {as : List Ar} {G F : List Addr} : RepA1 W H σ v a G → RepA W H σ vs as F → RepA W H σ (v :: vs) (a :: as) (G ++ F)
def okA1 (W : Wd) (σ : L2.St) (H : Hp) (F : List Addr) (Q : VK) : Ar → Env → Prop := fun a δ' => ∀ v H' G F', RepA1 W H' σ v a G → REnv W H' σ δ' F' → (G ++ F').Nodup → Stp W F H (G ++ F') H' → Q v H'
def okA (W : Wd) (σ : L2.St) (H : Hp) (F : List Addr) (Q : List V → Hp → Prop) : List Ar → Env → Prop := fun as δ' => ∀ vs H' G F', RepA W H' σ vs as G → REnv W H' σ δ' F' → (G ++ F').Nodup → Stp W F H (G ++ F') H' → Q vs H'

def zx (W : Wd) (S : Sg) (E : WX) (t : Ix) : TE := fun σ H Q => ∃ δ F, REnv W H σ δ F ∧ F.Nodup ∧ RR W E σ H F (ev S t δ) (okV W σ H F Q)
def zvs (W : Wd) (S : Sg) (E : WX) (t : List Ix) : TA := fun σ H Q => ∃ δ F, REnv W H σ δ F ∧ F.Nodup ∧ RR W E σ H F (evs S t δ) (okVs W σ H F Q)
def ev1 (S : Sg) (e : Ix) (δ : Env) : R Ar := match e with
  | .pl q => (match plGet q δ with
      | .hole => R.bad
      | .i d => .ok (Ar.v (.i d)) δ
      | .rol l => .ok (Ar.v (.rol l)) δ
      | .rg a b => .ok (Ar.v (.rg a b)) δ
      | .ftp l => .ok (Ar.v (.ftp l)) δ
      | _ => .ok (Ar.q q) δ)
  | e => (ev S e δ).bnd fun m δ1 => .ok (Ar.v m) δ1
theorem eva_cons (S : Sg) (e : Ix) (es : List Ix) (δ : Env) : eva S (e :: es) δ = (ev1 S e δ).bnd fun a δ1 => (eva S es δ1).bnd fun as δ2 => .ok (a :: as) δ2 := by
  cases e <;> rfl
def za1 (W : Wd) (S : Sg) (E : WX) (t : Ix) : TE := fun σ H Q => ∃ δ F, REnv W H σ δ F ∧ F.Nodup ∧ RR W E σ H F (ev1 S t δ) (okA1 W σ H F Q)
def zas (W : Wd) (S : Sg) (E : WX) (t : List Ix) : TA := fun σ H Q => ∃ δ F, REnv W H σ δ F ∧ F.Nodup ∧ RR W E σ H F (eva S t δ) (okA W σ H F Q)
def zpl (W : Wd) (q : Pl) : TE := fun σ H Q => ∃ v, PathV W H σ q v ∧ Q v H

theorem RepA1.past (s : Stp W F H A H1) {v : V} {a : Ar} (r : RepA1 W H σ v a G) (nd : (G ++ F).Nodup) : RepA1 W H1 σ v a G := by
  cases a with
  | v m => exact Rep.past s (show Rep W H v m G from r) nd
  | q q => exact ⟨r.1.step r.2.1 s, r.2.1, r.2.2⟩
theorem Rep.own' {v : V} {m : M} (r : Rep W H v m G) : ∀ x ∈ G, ∃ o, H x = some o := fun x hx => by
  obtain ⟨o, h, _⟩ := r.own m x hx
  exact ⟨o, h⟩
theorem RepA1.own {v : V} {a : Ar} (r : RepA1 W H σ v a G) : ∀ x ∈ G, ∃ o, H x = some o := by
  cases a with
  | v m => exact Rep.own' (show Rep W H v m G from r)
  | q q => rw [r.2.2]; exact fun x hx => by cases hx
theorem REnv.own' {δ : Env} (r : REnv W H σ δ F) : ∀ x ∈ F, ∃ o, H x = some o := fun x hx => by
  obtain ⟨o, h, _⟩ := r.own x hx
  exact ⟨o, h⟩

/-! ### arguments taken out and put back -/
theorem take_ok : ∀ {as : List Ar} {vs : List V} {δ : Env} {G F : List Addr} {ms : List M} {δ2 : Env}, REnv W H σ δ F → RepA W H σ vs as G → (G ++ F).Nodup → takeAll as δ = some (ms, δ2) →
    ∃ G2 F2, Reps W H vs ms G2 ∧ REnv W H σ δ2 F2 ∧ (G2 ++ F2).Nodup ∧ ∀ a, a ∈ G2 ++ F2 → a ∈ G ++ F
  | [], _, δ, G, F, ms, δ2, r, ra, nd, e => by
    cases ra
    cases (show some (([] : List M), δ) = some (ms, δ2) from e)
    exact ⟨[], F, .nil, r, nd, fun a h => h⟩
  | .v m :: as, _, δ, _, F, ms, δ2, r, ra, nd, e => by
    cases ra with
    | @cons v vs _ _ G1 Gr r1 r2 =>
      simp only [takeAll, Option.bind_eq_bind, Option.bind_eq_some_iff] at e
      obtain ⟨⟨ms1, δ1⟩, e1, e2⟩ := e
      cases (show some (m :: ms1, δ1) = some (ms, δ2) from e2)
      rw [List.append_assoc] at nd
      obtain ⟨G2, F2, h1, h2, h3, h4⟩ := take_ok r r2 (nd_right nd) e1
      refine ⟨G1 ++ G2, F2, .cons r1 h1, h2, ?_, fun a ha => ?_⟩
      · rw [List.append_assoc]
        exact nd_mk (nd_left nd) h3 fun a ha hb => nd_ne nd ha (h4 a hb)
      · rw [List.append_assoc] at ha ⊢
        rcases List.mem_append.mp ha with z | z
        · exact List.mem_append_left _ z
        · exact List.mem_append_right _ (h4 a z)
  | .q q :: as, _, δ, _, F, ms, δ2, r, ra, nd, e => by
    cases ra with
    | @cons v vs _ _ G1 Gr r1 r2 =>
      obtain ⟨pv, pw, hG1⟩ := r1
      subst hG1
      have hne : plGet q δ ≠ .hole := fun z => by
        simp only [takeAll, z] at e
        cases e
      have e' : ∃ ms1, takeAll as (plSet q .hole δ) = some (ms1, δ2) ∧ ms = plGet q δ :: ms1 := by
        simp only [takeAll] at e
        simp only [Option.bind_eq_bind, Option.bind_eq_some_iff] at e
        obtain ⟨⟨ms1, δ1⟩, e1, e2⟩ := e
        cases (show some (plGet q δ :: ms1, δ1) = some (ms, δ2) from e2)
        exact ⟨ms1, e1, rfl⟩
      obtain ⟨ms1, e1, rfl⟩ := e'
      obtain ⟨A, Gq, B, eF, c1, _, cl⟩ := r.at_ pw (plOk_of rfl hne)
      have rq := c1 v (.inl pv) pv
      have r3 := cl H .hole [] (Kp.refl H) (fun _ _ _ h _ => h) (fun u _ => .hole u) (.inl ⟨rfl, rfl⟩)
      rw [List.nil_append] at r3
      have nd2 : (Gr ++ (A ++ B)).Nodup ∧ (Gq ++ (Gr ++ (A ++ B))).Nodup := by
        rw [eF] at nd
        have p : ([] ++ Gr ++ (A ++ (Gq ++ B))).Perm (Gq ++ (Gr ++ (A ++ B))) := by
          rw [List.nil_append]
          refine (List.Perm.append_left Gr (t₂ := Gq ++ (A ++ B)) ?_).trans ?_
          · rw [← List.append_assoc, ← List.append_assoc]; exact List.Perm.append_right B List.perm_append_comm
          · have := List.Perm.append_right (A ++ B) (List.perm_append_comm (l₁ := Gr) (l₂ := Gq))
            simpa only [List.append_assoc] using this
        have q := p.nodup_iff.mp nd
        exact ⟨nd_right q, q⟩
      obtain ⟨G2, F2, h1, h2, h3, h4⟩ := take_ok r3 r2 nd2.1 e1
      refine ⟨Gq ++ G2, F2, .cons rq h1, h2, ?_, fun a ha => ?_⟩
      · rw [List.append_assoc]
        exact nd_mk (nd_left nd2.2) h3 fun a ha hb => nd_ne nd2.2 ha (h4 a hb)
      · rw [eF, List.nil_append]
        rw [List.append_assoc] at ha
        simp only [List.mem_append] at ha h4 ⊢
        rcases ha with z | z
        · exact .inr (.inr (.inl z))
        · rcases h4 a z with z | z | z
          · exact .inl z
          · exact .inr (.inl z)
          · exact .inr (.inr (.inr z))
/-- the places among arguments, behind a call -/
def Pths (W : Wd) (H : Hp) (σ : L2.St) : List V → List Ar → Prop
  | v :: vs, .q q :: as => (PathV W H σ q v ∧ PlW W q) ∧ Pths W H σ vs as
  | _ :: vs, .v _ :: as => Pths W H σ vs as
  | [], [] => True
  | _, _ => False
theorem RepA.pths {vs : List V} {as : List Ar} (r : RepA W H σ vs as G) : Pths W H σ vs as := by
  induction r with
  | nil => trivial
  | @cons v vs a as G1 G2 r1 r2 ih =>
    cases a with
    | v m => exact ih
    | q q => exact ⟨⟨r1.1, r1.2.1⟩, ih⟩
theorem Pths.step (s : Stp W F H A H1) : ∀ {vs : List V} {as : List Ar}, Pths W H σ vs as → Pths W H1 σ vs as
  | v :: vs, .q q :: as, h => ⟨⟨h.1.1.step h.1.2 s, h.1.2⟩, Pths.step s h.2⟩
  | _ :: vs, .v _ :: as, h => Pths.step (vs := vs) (as := as) s h
  | [], [], _ => trivial
  | [], .q _ :: _, h => h
  | [], .v _ :: _, h => h
  | _ :: _, [], h => h
theorem put_ok : ∀ {as : List Ar} {vs : List V} {δ : Env} {G F : List Addr} {ms : List M} {δ3 : Env}, REnv W H σ δ F → Pths W H σ vs as → Reps W H vs ms G → (G ++ F).Nodup → putAll as ms δ = some δ3 →
    ∃ F3, REnv W H σ δ3 F3 ∧ F3.Nodup ∧ ∀ a ∈ F3, a ∈ G ++ F
  | [], vs, δ, G, F, ms, δ3, r, _, _, nd, e => by
    have e : some δ = some δ3 := by cases ms <;> exact e
    cases e
    exact ⟨F, r, nd_right nd, fun a h => List.mem_append_right _ h⟩
  | .v m0 :: as, vs, δ, G, F, ms, δ3, r, p, rs, nd, e => by
    cases rs with
    | nil => cases e
    | @cons v vs m ms G1 Gr r1 r2 =>
      have e : putAll as ms δ = some δ3 := e
      have p : Pths W H σ vs as := p
      rw [List.append_assoc] at nd
      obtain ⟨F3, h1, h2, h3⟩ := put_ok r p r2 (nd_right nd) e
      exact ⟨F3, h1, h2, fun a h => by rw [List.append_assoc]; exact List.mem_append_right _ (h3 a h)⟩
  | .q q :: as, vs, δ, G, F, ms, δ3, r, p, rs, nd, e => by
    cases rs with
    | nil => cases e
    | @cons v vs m ms G1 Gr r1 r2 =>
      obtain ⟨⟨pv, pw⟩, p⟩ : (PathV W H σ q v ∧ PlW W q) ∧ Pths W H σ vs as := p
      obtain ⟨δ1, e1, e2⟩ := Option.bind_eq_some_iff.mp (show (putAll as ms δ).bind (fun δ1 => if plOk q δ1 then some (plSet q m δ1) else none) = some δ3 from e)
      rw [List.append_assoc] at nd
      obtain ⟨F3, h1, h2, h3⟩ := put_ok r p r2 (nd_right nd) e1
      split at e2
      · rename_i ok
        cases e2
        obtain ⟨A, Gq, B, eF, _, _, cl⟩ := h1.at_ pw ok
        have r3 := cl H m G1 (Kp.refl H) (fun _ _ _ h _ => h) (fun u hu => by rw [hu.uniq pv]; exact r1) (.inr ⟨v, pv⟩)
        subst eF
        refine ⟨_, r3, ?_, fun a ha => ?_⟩
        · have n1 : (A ++ B).Nodup := h2.sublist (List.Sublist.append_left (List.sublist_append_right Gq B) A)
          have pp : (G1 ++ (A ++ B)).Perm (A ++ (G1 ++ B)) := by
            rw [← List.append_assoc, ← List.append_assoc]; exact List.Perm.append_right B List.perm_append_comm
          refine pp.nodup_iff.mp (nd_mk (nd_left nd) n1 fun a ha hb => nd_ne nd ha (h3 a ?_))
          simp only [List.mem_append] at hb ⊢
          rcases hb with z | z
          · exact .inl z
          · exact .inr (.inr z)
        · rw [List.append_assoc]
          have h3a := h3 a
          simp only [List.mem_append] at ha h3a ⊢
          rcases ha with z | z | z
          · exact .inr (h3a (.inl z))
          · exact .inl z
          · exact .inr (h3a (.inr (.inr z)))
      · cases e2

/-! ### a callee -/
/-- what a callee needs and gives -/
theorem callF_ok {S : Sg} {np : Nat} {f : Nat} {as : List Ar} {δ1 : Env} {vs : List V} {F0 : List Addr} {H0 : Hp} {Q : VK} (hlen : ∀ ms, S.fn f ms ≠ .bad → ms.length = np)
    (h : RR W E σ H0 F0 (callF S f as δ1) (okV W σ H0 F0 Q)) (ra : RepA W H σ vs as G) (re : REnv W H σ δ1 F) (nd : (G ++ F).Nodup) (s : Stp W F0 H0 (G ++ F) H) : spF W np (S.fn f) vs H Q (WE E σ) := by
  unfold callF at h
  split at h
  · rename_i ms δ2 e1
    obtain ⟨G2, F2, h1, h2, h3, h4⟩ := take_ok re ra nd e1
    have pt := ra.pths
    have hl : S.fn f ms ≠ .bad → vs.length = np := fun z => by
      rw [← hlen ms z, h1.length]
    have fin : ∀ {ms' : List M} {δ3 : Env} {v : V} {Gv F' : List Addr} {H' : Hp}, putAll as ms' δ2 = some δ3 → Reps W H' vs ms' F' → (Gv ++ F').Nodup → (∀ a ∈ Gv, ∃ o, H' a = some o) → Stp W G2 H (Gv ++ F') H' →
        ∃ F3, REnv W H' σ δ3 F3 ∧ (Gv ++ F3).Nodup ∧ Stp W F0 H0 (Gv ++ F3) H' := fun {ms' δ3 v Gv F' H'} e2 rs ndv ow st => by
      have nd21 : (F2 ++ G2).Nodup := (List.perm_append_comm).nodup_iff.mp h3
      have re2 := REnv.past st h2 nd21
      have nd5 := st.beside nd21 h2.own' ndv
      have nd6 : (F' ++ F2).Nodup := nd_mk (nd_right ndv) (nd_right h3) fun a ha hb => nd_ne nd5 hb (List.mem_append_right _ ha)
      obtain ⟨F3, k1, k2, k3⟩ := put_ok re2 (pt.step st) rs nd6 e2
      have sub : ∀ a ∈ Gv ++ F3, a ∈ G ++ F ∨ a ∈ Gv ++ F' := fun a ha => by
        rcases List.mem_append.mp ha with z | z
        · exact .inr (List.mem_append_left _ z)
        · rcases List.mem_append.mp (k3 a z) with z | z
          · exact .inr (List.mem_append_right _ z)
          · exact .inl (h4 a (List.mem_append_right _ z))
      refine ⟨F3, k1, nd_mk (nd_left ndv) k2 fun a ha hb => ?_, s.then_ (fun a ha => h4 a (List.mem_append_left _ ha)) st sub⟩
      rcases List.mem_append.mp (k3 a hb) with z | z
      · exact nd_ne ndv ha z
      · exact nd_ne nd5 z (List.mem_append_left _ ha)
    cases hf : S.fn f ms with
    | bad => rw [hf] at h; exact False.elim h
    | ok m ms' =>
      rw [hf] at h
      obtain ⟨δ3, e2, h⟩ := RR.of' h
      refine ⟨hl (by rw [hf]; intro z; cases z), re.tbs, ms, G2, h1, nd_left h3, ?_⟩
      rw [hf]
      exact fun v H' Gv F' rv rs ndv st => by
        obtain ⟨F3, k1, k2, k3⟩ := fin (v := v) e2 rs ndv rv.own' st
        exact h v H' Gv F3 rv k1 k2 k3
    | exc x ms' =>
      rw [hf] at h
      obtain ⟨δ3, e2, h⟩ := RR.of' h
      refine ⟨hl (by rw [hf]; intro z; cases z), re.tbs, ms, G2, h1, nd_left h3, ?_⟩
      rw [hf]
      exact fun cls d H' F' rx rs ndv st => by
        obtain ⟨F3, k1, k2, k3⟩ := fin (v := .non) (Gv := []) e2 rs ndv (fun a ha => by cases ha) st
        exact h cls d H' F3 rx k1 k2 k3
  · exact False.elim h
end
end Zy
end
section
/-! Zy, part L: one rule a form of expression that changes something. -/
namespace Zy
open PySem PySem.Spec PyProof.Rows L2

section
variable {X : Cx} {W : Wd} {S : Sg} {g : Gm} {E : WX}
theorem zx_p {e : Expr} {x : Px} (ha : PE X e (zp W S x)) : PE X e (zx W S E (.p x)) := PE.imp ha fun σ H Q q => by
  obtain ⟨δ, F, r, nd, h⟩ := q
  have h : RR W E σ H F (evP S x δ) (okV W σ H F Q) := h
  unfold evP at h
  split at h
  · rename_i d e1
    refine ⟨δ, F, _, r, e1, fun v H' G rv sm _ => ?_⟩
    cases rv with
    | i rv => exact h v H' [] F (.i rv) (r.same sm) nd (Stp.same sm fun a z => .inl z)
  · rename_i m _ e1
    split at h
    · rename_i hf
      refine ⟨δ, F, _, r, e1, fun v H' G rv sm fr => ?_⟩
      exact h v H' G F rv (r.same sm) ((fr hf).apart r.own' nd) (Stp.same sm fun a z => (List.mem_append.mp z).elim (fun z => .inr ((fr hf).2 a z)) .inl)
    · exact False.elim h
  · exact False.elim h

/-! ### places -/
theorem rPl_shape {e : Expr} {q : Pl} (h : rPl g e = some q) : (∃ x p, e = .Name x p) ∨ ∃ a f p, e = .Attribute a f p := by
  unfold rPl at h
  split at h
  · exact .inl ⟨_, _, rfl⟩
  · exact .inr ⟨_, _, _, rfl⟩
  · cases h
theorem rPl_sup {e : Expr} {q : Pl} (h : rPl g e = some q) : noSup e = true ∧ plainE e = true := by
  rcases rPl_shape h with ⟨x, p, rfl⟩ | ⟨a, f, p, rfl⟩ <;> exact ⟨rfl, rfl⟩
theorem rPl_ok (C : Ct X W S g) (e : Expr) : ∀ (q : Pl), rPl g e = some q → PE X e (zpl W q) ∧ PlW W q := by
  cases e with
  | Name x p =>
    intro q h
    obtain ⟨i, h1, h2⟩ := Option.map_eq_some_iff.mp (show (slotOf g x).map (fun i => (⟨i, []⟩ : Pl)) = some q from h)
    subst h2
    obtain ⟨h3, h4, h5, h6⟩ := C.slot h1
    refine ⟨PE.imp (pe_var h3 h4 h5 h6) fun σ H Q q => ?_, fun f z => (List.not_mem_nil z).elim, fun f z => (List.not_mem_nil z).elim⟩
    obtain ⟨v, ⟨v0, p1, p2⟩, k⟩ := q
    cases p2
    exact ⟨v, p1, k⟩
  | Attribute a f p =>
    intro q h
    have h : (match rPl g a, g.fld.lookup f with | some q, some k => if k % 2 = 0 then some (⟨q.i, q.fs ++ [k]⟩ : Pl) else none | _, _ => none) = some q := h
    split at h
    · rename_i q0 k e1 e2
      split at h
      · rename_i hk
        cases h
        obtain ⟨ih, w1, w2⟩ := rPl_ok C a _ e1
        obtain ⟨f1, f2⟩ := C.fld f k e2
        refine ⟨PE.imp (pe_fld ih (attrBase (rPl_sup e1).1)) fun σ H Q q => ?_, fun j z => ?_, fun j z => ?_⟩
        · obtain ⟨v, ⟨v0, p1, p2⟩, kq⟩ := q
          obtain ⟨w, b, c, dx, vs, p3, gc, rfl, p5, p6⟩ := p2.init
          obtain ⟨c1, c2⟩ := C.cls _ gc
          refine ⟨_, ⟨v0, p1, p3⟩, _, _, _, _, v, rfl, p5, c1, c2 f k e2, ?_, kq⟩
          rw [f1] at p6
          exact p6
        · rcases List.mem_append.mp z with z | z
          · exact w1 j z
          · rw [List.mem_singleton.mp z, f1]; exact f2
        · rcases List.mem_append.mp z with z | z
          · exact w2 j z
          · rw [List.mem_singleton.mp z]; exact hk
      · cases h
    · cases h
  | _ => intro q h; cases h
termination_by structural e
theorem evPl_cases (q : Pl) (δ : Env) : evPl q δ = .bad ∨ (plGet q δ ≠ .hole ∧ ((evPl q δ = .ok (plGet q δ) δ ∧ roM (plGet q δ) = true) ∨ evPl q δ = .ok (plGet q δ) (plSet q .hole δ))) := by
  unfold evPl
  split
  · exact .inl rfl
  · rename_i d e; rw [e]; exact .inr ⟨by simp, .inl ⟨rfl, rfl⟩⟩
  · rename_i d e; rw [e]; exact .inr ⟨by simp, .inl ⟨rfl, rfl⟩⟩
  · rename_i d d2 e; rw [e]; exact .inr ⟨by simp, .inl ⟨rfl, rfl⟩⟩
  · rename_i d e; rw [e]; exact .inr ⟨by simp, .inl ⟨rfl, rfl⟩⟩
  · rename_i h1 _ _ _ _
    split
    · exact .inr ⟨fun z => h1 z, .inr rfl⟩
    · exact .inl rfl
theorem Rep.ro {H : Hp} {v : V} {m : M} {G : List Addr} (r : Rep W H v m G) (h : roM m = true) : G = [] := by
  cases r <;> first | rfl | cases h
theorem zx_pl {e : Expr} {q : Pl} (ha : PE X e (zpl W q)) (w : PlW W q) : PE X e (zx W S E (.pl q)) := PE.imp ha fun σ H Q h => by
  obtain ⟨δ, F, r, nd, h⟩ := h
  have h : RR W E σ H F (evPl q δ) (okV W σ H F Q) := h
  rcases evPl_cases q δ with hb | ⟨hn, ⟨e1, ro⟩ | e1⟩
  · rw [hb] at h; exact False.elim h
  · rw [e1] at h
    obtain ⟨A, G, B, eF, _, c2, _⟩ := r.at_ w (plOk_of rfl hn)
    obtain ⟨v, pv, rv⟩ := c2 hn
    have hG := rv.ro ro
    subst hG
    exact ⟨v, pv, h v H [] F rv r nd Stp.refl⟩
  · rw [e1] at h
    obtain ⟨A, G, B, eF, _, c2, cl⟩ := r.at_ w (plOk_of rfl hn)
    obtain ⟨v, pv, rv⟩ := c2 hn
    have r3 := cl H .hole [] (Kp.refl H) (fun _ _ _ h _ => h) (fun u _ => .hole u) (.inl ⟨rfl, rfl⟩)
    rw [List.nil_append] at r3
    have p : (A ++ (G ++ B)).Perm (G ++ (A ++ B)) := by
      have := List.Perm.append_right B (List.perm_append_comm (l₁ := A) (l₂ := G))
      simpa only [List.append_assoc] using this
    subst eF
    exact ⟨v, pv, h v H G (A ++ B) rv r3 (p.nodup_iff.mp nd) (Stp.same (Same.refl H) fun a z => .inl (p.mem_iff.mpr z))⟩
theorem za1_pl {e : Expr} {q : Pl} (ha : PE X e (zpl W q)) (w : PlW W q) : PE X e (za1 W S E (.pl q)) := PE.imp ha fun σ H Q h => by
  obtain ⟨δ, F, r, nd, h⟩ := h
  have fin : plGet q δ ≠ .hole → ∃ v G, PathV W H σ q v ∧ Rep W H v (plGet q δ) G := fun hn => by
    obtain ⟨A, G, B, eF, _, c2, _⟩ := r.at_ w (plOk_of rfl hn)
    obtain ⟨v, pv, rv⟩ := c2 hn
    exact ⟨v, G, pv, rv⟩
  simp only [ev1] at h
  split at h
  · exact False.elim h
  · rename_i d e1
    obtain ⟨v, G, pv, rv⟩ := fin (by rw [e1]; simp)
    rw [e1] at rv
    cases rv.ro rfl
    exact ⟨v, pv, h v H [] F rv r nd Stp.refl⟩
  · rename_i d e1
    obtain ⟨v, G, pv, rv⟩ := fin (by rw [e1]; simp)
    rw [e1] at rv
    cases rv.ro rfl
    exact ⟨v, pv, h v H [] F rv r nd Stp.refl⟩
  · rename_i d d2 e1
    obtain ⟨v, G, pv, rv⟩ := fin (by rw [e1]; simp)
    rw [e1] at rv
    cases rv.ro rfl
    exact ⟨v, pv, h v H [] F rv r nd Stp.refl⟩
  · rename_i d e1
    obtain ⟨v, G, pv, rv⟩ := fin (by rw [e1]; simp)
    rw [e1] at rv
    cases rv.ro rfl
    exact ⟨v, pv, h v H [] F rv r nd Stp.refl⟩
  · rename_i h1 _ _ _ _
    obtain ⟨v, G, pv, rv⟩ := fin h1
    exact ⟨v, pv, h v H [] F ⟨pv, w, rfl⟩ r nd Stp.refl⟩
theorem ev1_of {x : Ix} (hx : ∀ q, x ≠ .pl q) (δ : Env) : ev1 S x δ = (ev S x δ).bnd fun m δ1 => .ok (Ar.v m) δ1 := by
  cases x with
  | pl q => exact absurd rfl (hx q)
  | _ => rfl
theorem za1_of {e : Expr} {x : Ix} (hx : ∀ q, x ≠ .pl q) (ha : PE X e (zx W S E x)) : PE X e (za1 W S E x) := PE.imp ha fun σ H Q h => by
  obtain ⟨δ, F, r, nd, h⟩ := h
  rw [ev1_of hx] at h
  exact ⟨δ, F, r, nd, RR.bind h fun m δ1 h1 => fun v H' G F' rv re nd' st => h1 v H' G F' rv re nd' st⟩

/-! ### lists of expressions -/
theorem zas_nil : PA X [] (zas W S E []) := PA.imp pa_nil fun σ H Q q => by
  obtain ⟨δ, F, r, nd, h⟩ := q
  exact h [] H [] F .nil r nd Stp.refl
theorem zas_cons {e : Expr} {es : List Expr} {x : Ix} {xs : List Ix} (hp : plainE e = true) (ha : PE X e (za1 W S E x)) (hr : PA X es (zas W S E xs)) : PA X (e :: es) (zas W S E (x :: xs)) := by
  refine PA.imp (pa_cons ha hr (star_plain hp es X.env)) fun σ H Q q => ?_
  obtain ⟨δ, F, r, nd, h⟩ := q
  rw [eva_cons] at h
  refine ⟨δ, F, r, nd, RR.bind h fun a δ1 h1 => fun v H1 G1 F1 ra r1 nd1 s1 => ?_⟩
  refine ⟨δ1, F1, r1, nd_right nd1, RR.bind (RR.from_ h1 s1 (fun a z => List.mem_append_right _ z) fun _ _ h => h) fun as δ2 h2 => fun vs H2 G2 F2 ras r2 nd2 s2 => ?_⟩
  have nd3 := s2.beside nd1 ra.own nd2
  refine h2 (v :: vs) H2 (G1 ++ G2) F2 (.cons (ra.past s2 nd1) ras) r2 (by rw [List.append_assoc]; exact nd3) (s1.then_ (fun a z => List.mem_append_right _ z) s2 fun a z => ?_)
  rw [List.append_assoc] at z
  exact (List.mem_append.mp z).imp (List.mem_append_left _) id
theorem zvs_nil : PA X [] (zvs W S E []) := PA.imp pa_nil fun σ H Q q => by
  obtain ⟨δ, F, r, nd, h⟩ := q
  exact h [] H [] F .nil r nd Stp.refl
theorem zvs_cons {e : Expr} {es : List Expr} {x : Ix} {xs : List Ix} (hp : plainE e = true) (ha : PE X e (zx W S E x)) (hr : PA X es (zvs W S E xs)) : PA X (e :: es) (zvs W S E (x :: xs)) := by
  refine PA.imp (pa_cons ha hr (star_plain hp es X.env)) fun σ H Q q => ?_
  obtain ⟨δ, F, r, nd, h⟩ := q
  refine ⟨δ, F, r, nd, RR.bind h fun a δ1 h1 => fun v H1 G1 F1 ra r1 nd1 s1 => ?_⟩
  refine ⟨δ1, F1, r1, nd_right nd1, RR.bind (RR.from_ h1 s1 (fun a z => List.mem_append_right _ z) fun _ _ h => h) fun as δ2 h2 => fun vs H2 G2 F2 ras r2 nd2 s2 => ?_⟩
  have nd3 := s2.beside nd1 ra.own' nd2
  refine h2 (v :: vs) H2 (G1 ++ G2) F2 (.cons (ra.past s2 nd1) ras) r2 (by rw [List.append_assoc]; exact nd3) (s1.then_ (fun a z => List.mem_append_right _ z) s2 fun a z => ?_)
  rw [List.append_assoc] at z
  exact (List.mem_append.mp z).imp (List.mem_append_left _) id

/-! ### calls -/
theorem zx_call (tk : Takes X E) (C : Ct X W S g) {x : Str} {k : Nat} {io : Bool} {es : List Expr} {ts : List Ix} {p pos : Pos} (hg : glB g.sc x = true) (hf : g.fns.lookup x = some (k, io)) (hp : es.all plainE = true) (hd : (x == ("__debug__" : Str)) = false) (hz : es = [] → ts = [])
    (ha : PA X es (zas W S E ts)) : PE X (.Call (.Name x p) es [] pos) (zx W S E (.call k ts)) := by
  obtain ⟨np, kk, f, fd, ps, Fn, hr0, hm, hkp, hb, hlen⟩ := (C.fns x k io hf).ex
  have hr := hr0.mono (Nat.le_add_right kk (gup g))
  have main : PE X (.Call (.Name x p) es [] pos) (tCallS (spF W np (S.fn k)) (WE E) (zas W S E ts)) := by
    cases es with
    | cons e es =>
      rw [List.all_cons, Bool.and_eq_true] at hp
      exact pe_callS Fn hr (C.gl hg) hm hkp hb (fun σ => passAt tk σ) ha hd (star_plain hp.1 es X.env) (star_any hp.2)
    | nil =>
      refine ⟨fun pins s σ H Q I h => ?_⟩
      refine wpAny_Call_Name_kw (ld_glob I (C.gl hg) hm ?_ hd)
      refine PySem.W.callWith_K0 I.kIn hkp ?_
      obtain ⟨δ, F, r, nd, h⟩ := h
      cases hz rfl
      exact run_fnS (us := []) Fn hr hb (passAt tk σ) I .nil (h [] H [] F .nil r nd Stp.refl)
  refine PE.imp main fun σ H Q q => ?_
  obtain ⟨δ, F, r, nd, h⟩ := q
  exact ⟨δ, F, r, nd, RR.bind h fun as δ1 h1 => fun vs H' G F' ra re nd' st => callF_ok hlen h1 ra re nd' st⟩
theorem RepF.noname {H : Hp} {y : Str} (hn : ∀ j, W.fn j ≠ y) : ∀ {vs : List (Str × V)} {fs : List (Nat × M)} {F : List Addr}, RepF W H vs fs F → vs.lookup y = none
  | _, _, _, .nil => rfl
  | _, _, _, .cons e r t => by
    rw [List.lookup_cons, beq_eq_false_iff_ne.mpr (fun z => hn _ z.symm)]
    exact RepF.noname hn t
theorem star_all {pos : Pos} {env : PySem.Env} : ∀ {es : List Expr}, es.all plainE = true → (backTo pos (starEach es env)).all (fun x => !x.1) = true
  | [], _ => rfl
  | e :: es, h => by
    rw [List.all_cons, Bool.and_eq_true] at h
    rw [star_plain h.1]
    show (true && (backTo pos (starEach es env)).all (fun x => !x.1)) = true
    rw [star_all h.2]; rfl
theorem meth_eval {o : Expr} {m : Str} {es : List Expr} {apos pos : Pos} {env : PySem.Env} (hs : noSup o = true) (hp : es.all plainE = true) (hl : (apos.endLine == pos.line) = true) (hn : es.length < 30) :
    eval (.Call (.Attribute o m apos) es [] pos) env = (do
      let ov ← eval o env
      standAt apos.atName
      let (f, first) ← holding [ov] (getMethod ov m (plainOf o env))
      callWith pos f first (backTo pos (starEach es env)) (backToKw pos (keywordEach [] env))) := by
  have hf : methodCallForm (es.length + ([] : List Keyword).length) (backTo pos (starEach es env)) (backToKw pos (keywordEach [] env)) = true := by
    show ((backTo pos (starEach es env)).all (fun x => !x.1) && true && decide (es.length + 0 + 0 < 30)) = true
    rw [star_all hp, decide_eq_true (by omega)]
    rfl
  rw [arm_eval_Call, attrBase hs]
  simp only [mcall_line hf hl]
theorem zx_meth (tk : Takes X E) (C : Ct X W S g) {o : Expr} {m : Str} {q : Pl} {k : Nat} {es : List Expr} {ts : List Ix} {ap pos : Pos} (ho : PE X o (zpl W q)) (w : PlW W q) (hs : noSup o = true) (hm : g.mth.lookup m = some k) (hp : es.all plainE = true) (hl : (ap.endLine == pos.line) = true) (hn : es.length < 30)
    (hz : es = [] → ts = []) (ha : PA X es (zas W S E ts)) : PE X (.Call (.Attribute o m ap) es [] pos) (zx W S E (.meth q k ts)) := by
  refine ⟨fun pins s σ H Q I h => ?_⟩
  obtain ⟨δ, F, r, nd, h⟩ := h
  simp only [ev] at h
  split at h
  · rename_i c fs0 hq
    split at h
    · rename_i f hf
      obtain ⟨A, G0, B, eF, _, c2, _⟩ := r.at_ w (plOk_of hq (by simp))
      obtain ⟨v, pv, rv⟩ := c2 (by rw [hq]; simp)
      rw [hq] at rv
      cases rv with
      | @ins a dx _ vs _ F0 gc ea rf =>
      obtain ⟨fa, Mt, hfa⟩ := C.mth m k c f hm hf gc
      obtain ⟨np, kk, fd, ps, Fn, hr, hb, hlen⟩ := hfa.ex
      have cl := (C.cls c gc).1
      refine PySem.W.methodCall_KW (pl := plainOf o X.env) (thn (ho.run pins s σ H (fun x H1 => x = .ref a ∧ H1 = H) I ⟨_, pv, rfl, rfl⟩) fun u s1 ⟨x, H1, I1, rx, ex, eH⟩ => ?_) (meth_eval hs hp hl hn)
      subst ex
      subst eH
      obtain rfl : u = Value.ref a := rx
      refine getmeth_ok I1 ea cl Mt (rf.noname (C.mnf m k hm)) ?_
      have fin : zas W S E ts σ H1 (fun vs H2 => spF W np (S.fn f) (.ref a :: vs) H2 Q (WE E σ)) :=
        ⟨δ, F, r, nd, RR.bind h fun as δ1 h1 => fun vs H' G F' ra re nd' st => callF_ok (as := .q q :: as) (G := [] ++ G) hlen h1 (.cons ⟨pv.step w st, w, rfl⟩ ra) re nd' st⟩
      cases es with
      | cons e es =>
        rw [List.all_cons, Bool.and_eq_true] at hp
        refine PySem.W.callWith_K (first := [.ref a]) (h₀ := X.base) I.ok.mod.kin Mt.kp (thn (ha.run pos pins s1 σ H1 _ I1 fin) fun us s2 ⟨vs, H2, I2, r, q2⟩ => ⟨I2.kIn, ?_⟩) (star_plain hp.1 es X.env) (star_any hp.2)
        exact run_fnS (us := .ref a :: us) (vs := .ref a :: vs) Fn hr hb (passAt tk σ) I2 (.cons rfl r) q2
      | nil =>
        cases hz rfl
        obtain ⟨δ', F', r', nd', h'⟩ := fin
        refine PySem.W.callWith_K0 (first := [.ref a]) I1.kIn Mt.kp (run_fnS (us := [.ref a]) (vs := [.ref a]) Fn hr hb (passAt tk σ) I1 (.cons rfl .nil) (h' [] H1 [] F' .nil r' nd' Stp.refl))
    · exact False.elim h
  · exact False.elim h

/-! ### new instances -/
theorem run_makeS {pins : List (Addr × Obj)} {σ : L2.St} {H : Hp} {s : Shared} {Q : VK} {us : List Value} {vs : List V} {C f : Addr} {CX : CXT} {k : Nat} {fd : FuncData} {ps : List Str} {sp : Sp} {E : L2.St → XK} (M : Mk X.K C f) (F : FnOk X.prog X.w X.K X.mg X.base CX k f fd ps sp)
    (hr : Room (k + 1) X.A) (hb : Binds X.K fd ps []) (hx : PassesAt CX X σ (E σ)) (I : Inv X pins σ H s) (r : Vals vs us)
    (h : ∀ x dx, H x = none → H dx = none → dx ≠ x → sp (.ref x :: vs) (upd (upd H dx (.own x)) x (.ins C dx [])) (fun v H2 => v = .non ∧ Q (.ref x) H2) (E σ)) :
    wpAny (model X.prog X.w) X.A (call (.ref C) us) (EP X pins σ Q) X.xe s := by
  have hq := h (s.heap.objs.size + 1) s.heap.objs.size (I.hok.fresh (Nat.le_succ _)) (I.hok.fresh (Nat.le_refl _)) (Nat.ne_of_lt (Nat.lt_succ_self _))
  have I2 := Inv.made (C := C) I
  have r2 : Vals (V.ref (s.heap.objs.size + 1) :: vs) (Value.ref (s.heap.objs.size + 1) :: us) := .cons rfl r
  have hl : (Value.ref (s.heap.objs.size + 1) :: us ++ []).length = ps.length := by
    have e := r2.length
    rw [F.len _ _ _ _ hq] at e
    rw [List.append_nil]
    exact e.symm
  have b := hb _ (Value.ref (s.heap.objs.size + 1) :: us) I2.kIn hl
  rw [List.append_nil] at b
  refine wpAny_call (make_map (f := f) I.kIn M.makes M.init (beq_iff_eq.mp M.fn) (codeAny_mono (F.run _ X.stack _ _ ⟨Value.ref (s.heap.objs.size + 1) :: us, []⟩ (Value.ref (s.heap.objs.size + 1) :: us) _ _ (E σ) (hr.make C us [])
    (I2.env0.make C us []) b r2 hq) fun r s' hq' => ?_))
  cases r with
  | error e => exact hx pins _ _ e s' I2 hq'
  | ok fl =>
    cases fl with
    | ret u =>
      obtain ⟨v, H', I3, rv, ev, q3⟩ := I2.after hq'
      subst ev
      exact ⟨rv, ⟨V.ref (s.heap.objs.size + 1), H', I3, rfl, q3⟩⟩
    | next => exact False.elim hq'
    | brk => exact False.elim hq'
    | cont => exact False.elim hq'
theorem after_ok {σ : L2.St} {H H' H0 : Hp} {F0 A G2 F2 Gv F' : List Addr} {as : List Ar} {vs : List V} {δ2 δ3 : Env} {ms' : List M} (h2 : REnv W H σ δ2 F2) (pt : Pths W H σ vs as) (h3 : (G2 ++ F2).Nodup) (sub : ∀ a, a ∈ G2 ++ F2 → a ∈ A) (s : Stp W F0 H0 A H)
    (e2 : putAll as ms' δ2 = some δ3) (rs : Reps W H' vs ms' F') (ndv : (Gv ++ F').Nodup) (ow : ∀ a ∈ Gv, ∃ o, H' a = some o) (st : Stp W G2 H (Gv ++ F') H') : ∃ F3, REnv W H' σ δ3 F3 ∧ (Gv ++ F3).Nodup ∧ Stp W F0 H0 (Gv ++ F3) H' := by
  have nd21 : (F2 ++ G2).Nodup := (List.perm_append_comm).nodup_iff.mp h3
  have re2 := REnv.past st h2 nd21
  have nd5 := st.beside nd21 h2.own' ndv
  have nd6 : (F' ++ F2).Nodup := nd_mk (nd_right ndv) (nd_right h3) fun a ha hb => nd_ne nd5 hb (List.mem_append_right _ ha)
  obtain ⟨F3, k1, k2, k3⟩ := put_ok re2 (pt.step st) rs nd6 e2
  have sub2 : ∀ a ∈ Gv ++ F3, a ∈ A ∨ a ∈ Gv ++ F' := fun a ha => by
    rcases List.mem_append.mp ha with z | z
    · exact .inr (List.mem_append_left _ z)
    · rcases List.mem_append.mp (k3 a z) with z | z
      · exact .inr (List.mem_append_right _ z)
      · exact .inl (sub a (List.mem_append_right _ z))
  refine ⟨F3, k1, nd_mk (nd_left ndv) k2 fun a ha hb => ?_, s.then_ (fun a ha => sub a (List.mem_append_left _ ha)) st sub2⟩
  rcases List.mem_append.mp (k3 a hb) with z | z
  · exact nd_ne ndv ha z
  · exact nd_ne nd5 z (List.mem_append_left _ ha)
theorem mk_ok {σ : L2.St} {H H0 : Hp} {F F0 G : List Addr} {np c f : Nat} {as : List Ar} {δ1 : Env} {vs : List V} {Q : VK} (hlen : ∀ ms, S.fn f ms ≠ .bad → ms.length = np) (gc : W.gc c)
    (h : RR W E σ H0 F0 (match takeAll as δ1 with
      | some (ms, δ2) => (match S.fn f (.ins c [] :: ms) with
        | .ok (.i .non) (m :: ms') => R.of' (putAll as ms' δ2) fun δ3 => .ok m δ3
        | .exc x (_ :: ms') => R.of' (putAll as ms' δ2) fun δ3 => .exc x δ3
        | _ => .bad)
      | none => .bad) (okV W σ H0 F0 Q)) (ra : RepA W H σ vs as G) (re : REnv W H σ δ1 F) (nd : (G ++ F).Nodup) (s : Stp W F0 H0 (G ++ F) H) {x dx : Addr} (hx : H x = none) (hdx : H dx = none) (ne : dx ≠ x) :
    spF W np (S.fn f) (.ref x :: vs) (upd (upd H dx (.own x)) x (.ins (W.ca c) dx [])) (fun v H2 => v = .non ∧ Q (.ref x) H2) (WE E σ) := by
  split at h
  · rename_i ms δ2 e1
    obtain ⟨G2, F2, h1, h2, h3, h4⟩ := take_ok re ra nd e1
    have sm : Same H (upd (upd H dx (.own x)) x (.ins (W.ca c) dx [])) := (Same.new hdx).trans (Same.new (by rw [upd_ne (Ne.symm ne)]; exact hx))
    generalize hH2 : upd (upd H dx (.own x)) x (.ins (W.ca c) dx []) = H2 at sm ⊢
    have hx2 : H2 x = some (.ins (W.ca c) dx []) := by rw [← hH2]; exact upd_same
    have pt : Pths W H2 σ vs as := ra.pths.step (F := []) (A := []) (Stp.same sm fun a z => (List.not_mem_nil z).elim)
    have xf : ∀ a ∈ G2 ++ F2, a ≠ x := fun a ha e => by
      subst e
      rcases List.mem_append.mp ha with z | z
      · obtain ⟨o, ho, _⟩ := h1.own ms a z
        rw [hx] at ho; cases ho
      · obtain ⟨o, ho⟩ := h2.own' a z
        rw [hx] at ho; cases ho
    have rs2 : Reps W H2 (.ref x :: vs) (.ins c [] :: ms) ([x] ++ G2) := .cons (.ins gc hx2 .nil) (h1.same sm)
    have nd3 : (([x] ++ G2) ++ F2).Nodup := by
      show (x :: (G2 ++ F2)).Nodup
      exact List.nodup_cons.mpr ⟨fun z => xf x z rfl, h3⟩
    have s2 : Stp W F0 H0 ([x] ++ (G ++ F)) H2 := s.then_ (fun a z => z) (Stp.same sm (G := [x] ++ (G ++ F)) fun a z => (List.mem_append.mp z).elim (fun z => .inr (by rw [List.mem_singleton.mp z]; exact hx)) .inl) fun a z => .inr z
    have sub : ∀ a, a ∈ ([x] ++ G2) ++ F2 → a ∈ [x] ++ (G ++ F) := fun a z => by
      rw [List.append_assoc] at z
      rcases List.mem_append.mp z with z | z
      · exact List.mem_append_left _ z
      · exact List.mem_append_right _ (h4 a z)
    have hl : S.fn f (.ins c [] :: ms) ≠ .bad → (V.ref x :: vs).length = np := fun z => by
      rw [← hlen _ z, rs2.length]
    cases hf : S.fn f (.ins c [] :: ms) with
    | bad => rw [hf] at h; exact False.elim h
    | ok m0 ms0 =>
      rw [hf] at h
      refine ⟨hl (by rw [hf]; intro z; cases z), (re.same sm).tbs, _, _, rs2, nd_left nd3, ?_⟩
      rw [hf]
      intro v H' Gv F' rv rs ndv st
      split at h
      · rename_i m ms' e3
        cases e3
        obtain ⟨δ3, e2, h⟩ := RR.of' h
        cases rv with
        | i rv =>
        cases rv
        cases rs with
        | @cons _ _ _ _ Gx Fr r1 r2 =>
        obtain ⟨F3, k1, k2, k3⟩ := after_ok (Gv := Gx) (F' := Fr) (h2.same sm) pt nd3 sub s2 e2 r2 ndv r1.own' st
        exact ⟨rfl, h _ H' Gx F3 r1 k1 k2 k3⟩
      · rename_i x0 m ms' e3
        cases e3
      · exact False.elim h
    | exc x0 ms0 =>
      rw [hf] at h
      refine ⟨hl (by rw [hf]; intro z; cases z), (re.same sm).tbs, _, _, rs2, nd_left nd3, ?_⟩
      rw [hf]
      intro cls d H' F' rx rs ndv st
      split at h
      · rename_i m ms' e3
        cases e3
      · rename_i x1 m ms' e3
        cases e3
        obtain ⟨δ3, e2, h⟩ := RR.of' h
        cases rs with
        | @cons _ _ _ _ Gx Fr r1 r2 =>
        obtain ⟨F3, k1, k2, k3⟩ := after_ok (Gv := Gx) (F' := Fr) (h2.same sm) pt nd3 sub s2 e2 r2 ndv r1.own' st
        exact h cls d H' F3 rx k1 (nd_right k2) (k3.sub fun a z => List.mem_append_right _ z)
      · exact False.elim h
  · exact False.elim h
theorem zx_mk (tk : Takes X E) (C : Ct X W S g) {x : Str} {c : Nat} {es : List Expr} {ts : List Ix} {p pos : Pos} (hg : glB g.sc x = true) (hf : g.cls.lookup x = some c) (hp : es.all plainE = true) (hd : (x == ("__debug__" : Str)) = false) (hz : es = [] → ts = [])
    (ha : PA X es (zas W S E ts)) : PE X (.Call (.Name x p) es [] pos) (zx W S E (.mk c ts)) := by
  refine ⟨fun pins s σ H Q I h => ?_⟩
  obtain ⟨δ, F, r, nd, h⟩ := h
  simp only [ev] at h
  split at h
  · rename_i f hi
    obtain ⟨gc, hm, fa, Mk0, hfa⟩ := C.mkc x c f hf hi
    obtain ⟨np, kk, fd, ps, Fn, hr, hb, hlen⟩ := hfa.ex
    have fin : zas W S E ts σ H (fun vs H1 => ∀ x dx, H1 x = none → H1 dx = none → dx ≠ x → spF W np (S.fn f) (.ref x :: vs) (upd (upd H1 dx (.own x)) x (.ins (W.ca c) dx [])) (fun v H2 => v = .non ∧ Q (.ref x) H2) (WE E σ)) :=
      ⟨δ, F, r, nd, RR.bind h fun as δ1 h1 => fun vs H' G F' ra re nd' st => fun x dx hx hdx ne => mk_ok hlen gc h1 ra re nd' st hx hdx ne⟩
    refine wpAny_Call_Name_kw (ld_glob I (C.gl hg) hm ?_ hd)
    cases es with
    | cons e es =>
      rw [List.all_cons, Bool.and_eq_true] at hp
      refine PySem.W.callWith_K (h₀ := X.base) I.ok.mod.kin Mk0.kp (thn (ha.run pos pins s σ H _ I fin) fun us s1 ⟨vs, H1, I1, r, q⟩ => ⟨I1.kIn, ?_⟩) (star_plain hp.1 es X.env) (star_any hp.2)
      exact run_makeS Mk0 Fn hr hb (passAt tk σ) I1 r q
    | nil =>
      cases hz rfl
      obtain ⟨δ', F', r', nd', h'⟩ := fin
      exact PySem.W.callWith_K0 I.kIn Mk0.kp (run_makeS (us := []) Mk0 Fn hr hb (passAt tk σ) I .nil (h' [] H [] F' .nil r' nd' Stp.refl))
  · exact False.elim h
end
end Zy
end
section
/-! Zy, part P: comprehensions whose turns change what the slots own. -/
namespace Zy
open PySem PySem.Spec PyProof.Rows L2

section
variable {X : Cx} {W : Wd} {S : Sg} {g : Gm} {E : WX}
theorem Stp.put_new {H1 H4 : Hp} {F A : List Addr} {p : Addr} {o : HO} (hp : H1 p = none) (nc : NoC H4 p) (s : Stp W F H1 A H4) : Stp W F H1 A (upd H4 p o) := by
  have ne : ∀ {a : Addr} {u : HO}, H1 a = some u → a ≠ p := fun {a u} h z => by rw [z, hp] at h; cases h
  refine ⟨fun a o' h hF n => ?_, s.new, ⟨fun a xs h => ?_, fun a o' u h => ?_, fun a o' u h => ?_, fun a ps h => ?_⟩, fun a C dx vs h => ?_⟩
  · rw [upd_ne (ne h)]; exact s.out a o' h hF n
  · rw [upd_ne (ne h)]; exact s.kp.t a xs h
  · rw [upd_ne (ne h)]; exact s.kp.f a o' u h
  · rw [upd_ne (ne h)]; exact s.kp.r a o' u h
  · obtain ⟨ps', h', k⟩ := s.kp.b a ps h
    exact ⟨ps', by rw [upd_ne (ne h)]; exact h', fun t => (k t).upd nc⟩
  · rw [upd_ne (ne h)]; exact s.once a C dx vs h
/-- wiping what owns nothing leaves what is owned -/
theorem REnv.wipe_nd {H : Hp} {σ : L2.St} {δ : Env} {F : List Addr} (r : REnv W H σ δ F) (nd : F.Nodup) : ∀ vs : List Nat, ∃ F', REnv W H (L2.wipe σ vs) (wipeE δ vs) F' ∧ (∀ a ∈ F', a ∈ F) ∧ F'.Nodup
  | [] => ⟨F, r, fun _ h => h, nd⟩
  | v :: vs => by
    obtain ⟨F', r', sub, nd'⟩ := REnv.wipe_nd r nd vs
    show ∃ F'', REnv W H ((L2.wipe σ vs).set v none) ((wipeE δ vs).set v .hole) F'' ∧ _
    by_cases hv : v < (wipeE δ vs).length
    · obtain ⟨A, G, B, ov, e, _, _, cl⟩ := r'.focus hv
      refine ⟨A ++ ([] ++ B), cl H none .hole [] (Kp.refl H) (fun _ _ _ h _ => h) (.hole none), fun a ha => sub a ?_, ?_⟩
      · rw [e]
        rcases List.mem_append.mp ha with z | z
        · exact List.mem_append_left _ z
        · exact List.mem_append_right _ (List.mem_append_right _ z)
      · rw [e] at nd'
        exact nd'.sublist ((List.Sublist.refl A).append ((List.nil_sublist G).append (List.Sublist.refl B)))
    · rw [List.set_eq_of_length_le (by rw [r'.length]; omega), List.set_eq_of_length_le (by omega)]
      exact ⟨F', r', sub, nd'⟩
theorem set_map {α : Type} (l : List α) (v i : Nat) (x : α) : (l.set v x)[i]? = if v = i then l[i]?.map fun _ => x else l[i]? := by
  rw [List.getElem?_set]
  by_cases h : v = i
  · subst h
    rw [if_pos rfl, if_pos rfl]
    by_cases h2 : v < l.length
    · rw [if_pos h2, List.getElem?_eq_getElem h2]; rfl
    · rw [if_neg h2, List.getElem?_eq_none (by omega)]; rfl
  · rw [if_neg h, if_neg h]
theorem wipeE_get : ∀ (vs : List Nat) (δ : Env) (i : Nat), (wipeE δ vs)[i]? = if i ∈ vs then δ[i]?.map (fun _ => M.hole) else δ[i]?
  | [], δ, i => by simp [wipeE]
  | v :: vs, δ, i => by
    show ((wipeE δ vs).set v .hole)[i]? = _
    rw [set_map, wipeE_get vs δ i]
    by_cases h : v = i
    · subst h
      rw [if_pos rfl, if_pos List.mem_cons_self]
      split <;> cases δ[v]? <;> rfl
    · rw [if_neg h]
      by_cases h2 : i ∈ vs
      · rw [if_pos h2, if_pos (List.mem_cons_of_mem _ h2)]
      · rw [if_neg h2, if_neg (by rw [List.mem_cons, not_or]; exact ⟨fun z => h z.symm, h2⟩)]
theorem restE_get (δ0 : Env) : ∀ (vs : List Nat) (δ : Env) (i : Nat), (restE δ0 δ vs)[i]? = if i ∈ vs then δ[i]?.map (fun _ => slot δ0 i) else δ[i]?
  | [], δ, i => by simp [restE]
  | v :: vs, δ, i => by
    show ((restE δ0 δ vs).set v (slot δ0 v))[i]? = _
    rw [set_map, restE_get δ0 vs δ i]
    by_cases h : v = i
    · subst h
      rw [if_pos rfl, if_pos List.mem_cons_self]
      split <;> cases δ[v]? <;> rfl
    · rw [if_neg h]
      by_cases h2 : i ∈ vs
      · rw [if_pos h2, if_pos (List.mem_cons_of_mem _ h2)]
      · rw [if_neg h2, if_neg (by rw [List.mem_cons, not_or]; exact ⟨fun z => h z.symm, h2⟩)]
def fillS (σ0 σ : L2.St) : List Nat → L2.St
  | [] => σ
  | v :: vs => (fillS σ0 σ vs).set v ((σ0[v]?).getD none)
theorem fillS_get (σ0 : L2.St) : ∀ (vs : List Nat) (σ : L2.St) (i : Nat), (fillS σ0 σ vs)[i]? = if i ∈ vs then σ[i]?.map (fun _ => (σ0[i]?).getD none) else σ[i]?
  | [], σ, i => by simp [fillS]
  | v :: vs, σ, i => by
    show ((fillS σ0 σ vs).set v _)[i]? = _
    rw [set_map, fillS_get σ0 vs σ i]
    by_cases h : v = i
    · subst h
      rw [if_pos rfl, if_pos List.mem_cons_self]
      split <;> cases σ[v]? <;> rfl
    · rw [if_neg h]
      by_cases h2 : i ∈ vs
      · rw [if_pos h2, if_pos (List.mem_cons_of_mem _ h2)]
      · rw [if_neg h2, if_neg (by rw [List.mem_cons, not_or]; exact ⟨fun z => h z.symm, h2⟩)]
theorem restE_len (δ0 δ : Env) : ∀ vs, (restE δ0 δ vs).length = δ.length
  | [] => rfl
  | v :: vs => by show ((restE δ0 δ vs).set v _).length = _; rw [List.length_set, restE_len δ0 δ vs]
/-- the slots of the frame as they were, over the others as they are now -/
theorem REnv.fill {H0 H : Hp} {σ0 : L2.St} {δ0 : Env} {F0 : List Addr} (r0 : REnv W H0 σ0 δ0 F0) (kp : Kp H0 H) {σ : L2.St} {δ : Env} {F : List Addr} (hl : δ.length = δ0.length) (r : REnv W H σ δ F) (nd : F.Nodup) :
    ∀ vs : List Nat, (∀ v ∈ vs, roH (slot δ0 v) = true) → ∃ F2, REnv W H (fillS σ0 σ vs) (restE δ0 δ vs) F2 ∧ (∀ a ∈ F2, a ∈ F) ∧ F2.Nodup
  | [], _ => ⟨F, r, fun _ h => h, nd⟩
  | v :: vs, h => by
    obtain ⟨F2, r2, sub, nd2⟩ := REnv.fill r0 kp hl r nd vs fun w hw => h w (List.mem_cons_of_mem _ hw)
    show ∃ F3, REnv W H ((fillS σ0 σ vs).set v ((σ0[v]?).getD none)) ((restE δ0 δ vs).set v (slot δ0 v)) F3 ∧ _
    by_cases hv : v < (restE δ0 δ vs).length
    · have value : RepO W H ((σ0[v]?).getD none) (slot δ0 v) [] := by
        obtain ⟨A, G, B, ov, _, e2, ro, _⟩ := r0.focus (i := v) (by rw [restE_len] at hv; omega)
        have hr := h v List.mem_cons_self
        rw [e2]
        show RepO W H ov (slot δ0 v) []
        generalize slot δ0 v = m at ro hr
        cases ro with
        | hole => exact .hole ov
        | some rv =>
          cases m with
          | hole => exact .hole _
          | _ =>
            have hG := rv.ro (show roM _ = true from hr)
            subst hG
            exact .some (rv.mono kp _ fun a ha => by cases ha)
      obtain ⟨A, G, B, ov, e, _, _, cl⟩ := r2.focus hv
      refine ⟨A ++ ([] ++ B), cl H _ _ [] (Kp.refl H) (fun _ _ _ h _ => h) value, fun a ha => sub a ?_, ?_⟩
      · rw [e]
        rcases List.mem_append.mp ha with z | z
        · exact List.mem_append_left _ z
        · exact List.mem_append_right _ (List.mem_append_right _ z)
      · rw [e] at nd2
        exact nd2.sublist ((List.Sublist.refl A).append ((List.nil_sublist G).append (List.Sublist.refl B)))
    · rw [List.set_eq_of_length_le (by rw [r2.length]; omega), List.set_eq_of_length_le (by omega)]
      exact ⟨F2, r2, sub, nd2⟩
theorem REnv.back {H0 H : Hp} {σ : L2.St} {δ : Env} {F : List Addr} (r0 : REnv W H0 σ δ F) (kp : Kp H0 H) {vs : List Nat} {δ1 : Env} {F1 : List Addr} (ha : vs.all (fun i => roH (slot δ i)) = true) (r : REnv W H (L2.wipe σ vs) (wipeE δ1 vs) F1) (nd : F1.Nodup) :
    ∃ F2, REnv W H σ (restE δ δ1 vs) F2 ∧ (∀ a ∈ F2, a ∈ F1) ∧ F2.Nodup := by
  have l1 : (wipeE δ1 vs).length = δ.length := by rw [← r.length, wipe_len, r0.length]
  obtain ⟨F2, r2, sub, nd2⟩ := REnv.fill r0 kp l1 r nd vs fun v hv => List.all_eq_true.mp ha v hv
  have e1 : fillS σ (L2.wipe σ vs) vs = σ := by
    apply List.ext_getElem?
    intro i
    rw [fillS_get, wipe_get]
    split
    · cases σ[i]? <;> rfl
    · rfl
  have e2 : restE δ (wipeE δ1 vs) vs = restE δ δ1 vs := by
    apply List.ext_getElem?
    intro i
    rw [restE_get, restE_get, wipeE_get]
    split
    · cases δ1[i]? <;> rfl
    · rfl
  rw [e1, e2] at r2
  exact ⟨F2, r2, sub, nd2⟩

/-! ### the loop -/
def zxt (W : Wd) (S : Sg) (E : WX) (t : Tx) : TT := fun σ H Q => ∃ δ F, REnv W H σ δ F ∧ F.Nodup ∧ RR W E σ H F (tx S t δ) (okB W σ H F Q)
def lcxB (S : Sg) (own : List Nat) (t : Tg) (c e : Ix) : D → Env → R (Option D) := fun d δ1 => match tgSet t d (wipeE δ1 own) with
        | some δ2 => (ev S c δ2).bnd fun m δ3 => (R.of (truM m) δ3).bnd fun k δ4 => if k then (ev S e δ4).bnd fun m δ5 => (match m with
          | .i d => .ok (some d) δ5
          | _ => .bad) else .ok none δ4
        | none => .bad
theorem ev_lcx {own : List Nat} {t : Tg} {it : Ti} {c e : Ix} {δ : Env} : ev S (.lcx own t it c e) δ = match tiL S it δ with
    | some l => if own.all (fun i => roH (slot δ i)) = true ∧ itRo S it δ = true then (match lcxL (lcxB S own t c e) l δ with
      | .ok r δ1 => if r.length < sizeLine then .ok (.lst r) (restE δ δ1 own) else .bad
      | _ => .bad) else .bad
    | none => .bad := rfl
theorem bnd_ok {α β : Type} {r : R α} {f : α → Env → R β} {b : β} {δ : Env} (h : r.bnd f = .ok b δ) : ∃ a δ1, r = .ok a δ1 ∧ f a δ1 = .ok b δ := by
  cases r with
  | ok a δ1 => exact ⟨a, δ1, rfl, h⟩
  | exc _ _ => cases h
  | bad => cases h
/-- a turn, seen apart -/
theorem lcxB_ok {own : List Nat} {t : Tg} {c e : Ix} {d : D} {δ1 δ' : Env} {x : Option D} (h : lcxB S own t c e d δ1 = .ok x δ') : ∃ δ2 m δ3 k, tgSet t d (wipeE δ1 own) = some δ2 ∧ ev S c δ2 = .ok m δ3 ∧ truM m = some k ∧
    if k then ∃ d', ev S e δ3 = .ok (.i d') δ' ∧ x = some d' else x = none ∧ δ' = δ3 := by
  unfold lcxB at h
  split at h
  · rename_i δ2 h1
    obtain ⟨m, δ3, h2, h3⟩ := bnd_ok h
    cases hk : truM m with
    | none => rw [hk] at h3; cases h3
    | some k =>
      rw [hk] at h3
      have h3 : (if k then (ev S e δ3).bnd fun m δ5 => (match m with
          | .i d => R.ok (some d) δ5
          | _ => .bad) else .ok none δ3) = .ok x δ' := h3
      refine ⟨δ2, m, δ3, k, h1, h2, hk, ?_⟩
      cases k with
      | true =>
        rw [if_pos rfl] at h3 ⊢
        obtain ⟨m2, δ5, h4, h5⟩ := bnd_ok h3
        split at h5
        · cases h5
          exact ⟨_, h4, rfl⟩
        · cases h5
      | false =>
        rw [if_neg Bool.false_ne_true] at h3 ⊢
        cases h3
        exact ⟨rfl, rfl⟩
  · cases h
theorem lcx_imp {t : Tg} {it : Ti} {c x : Ix} {vs : List Nat} (E0 : WX) (ht : tgW t ⊆ vs) : ∀ σ H Q, zx W S E (.lcx vs t it c x) σ H Q → tLc (zi W S it) (gz W t) (zxt W S E0 (.v c)) (zx W S E0 x) vs σ H Q := fun σ H Q q => by
  obtain ⟨δ, F, r, nd, h⟩ := q
  rw [ev_lcx] at h
  cases e1 : tiL S it δ with
  | none => rw [e1] at h; exact False.elim h
  | some l =>
  rw [e1] at h
  dsimp only at h
  by_cases hg : vs.all (fun i => roH (slot δ i)) = true ∧ itRo S it δ = true
  · rw [if_pos hg] at h
    cases e2 : lcxL (lcxB S vs t c x) l δ with
    | exc _ _ => rw [e2] at h; exact False.elim h
    | bad => rw [e2] at h; exact False.elim h
    | ok rr δe =>
    rw [e2] at h
    dsimp only at h
    by_cases hz : rr.length < sizeLine
    · rw [if_pos hz] at h
      have h : okV W σ H F Q (.lst rr) (restE δ δe vs) := h
      refine ⟨δ, F, l, r, e1, fun J H1 A sm ok1 hA D hD => ?_⟩
      have hA0 : A = [] := hA.2.2 hg.2
      subst hA0
      have r1 := r.same sm
      obtain ⟨Fw, rw1, subw, ndw⟩ := r1.wipe_nd nd vs
      have hDF : D ∉ Fw := fun z => by
        obtain ⟨o, ho⟩ := r1.own' D (subw D z)
        rw [hD] at ho; cases ho
      refine ⟨fun i n H' => n = l.length - i ∧ i ≤ l.length ∧ ∃ δi Fi acc ds rest, lcxL (lcxB S vs t c x) (l.drop i) δi = .ok rest δe ∧ ds ++ rest = rr ∧ REnv W H' (L2.wipe σ vs) (wipeE δi vs) Fi ∧ Fi.Nodup ∧ D ∉ Fi ∧ H' D = some (.lst acc) ∧ RepDs W.kk H' acc ds ∧ Stp W F H1 Fi H',
        ⟨l.length, rfl, Nat.zero_le _, δ, Fw, [], [], rr, e2, rfl, ?_, ndw, hDF, upd_same, .nil, ?_⟩, ?_⟩
      · have s1 : Same H1 (upd H1 D (.lst [])) := Same.new hD
        exact rw1.same s1
      · exact Stp.put_new hD (fun c q z => by rw [hD] at z; cases z) (Stp.refl.sub (B := Fw) subw)
      · rintro i n H' ⟨rfl, hi', δi, Fi, acc, ds, rest, hrun, hds, re, ndi, hDi, hacc, rd, st⟩
        obtain ⟨ok2, ok3⟩ := ok1 H' st.kp fun a ha => by cases ha
        by_cases hlt : i < l.length
        · refine .inr ?_
          obtain ⟨go, yl⟩ := ok2 i l[i] (List.getElem?_eq_getElem hlt)
          rw [List.drop_eq_getElem_cons hlt] at hrun
          obtain ⟨y, δ', h5, h6⟩ := bnd_ok (show R.bnd _ _ = _ from hrun)
          obtain ⟨ys, δ'', h7, h8⟩ := bnd_ok h6
          cases h8
          obtain ⟨δ2, m, δ3, k, b1, b2, b3, b4⟩ := lcxB_ok h5
          refine ⟨go, fun H2 => ∃ δi Fi acc ds rest, lcxL (lcxB S vs t c x) (l.drop (i + 1)) δi = .ok rest δe ∧ ds ++ rest = rr ∧ REnv W H2 (L2.wipe σ vs) (wipeE δi vs) Fi ∧ Fi.Nodup ∧ D ∉ Fi ∧ H2 D = some (.lst acc) ∧ RepDs W.kk H2 acc ds ∧ Stp W F H1 Fi H2,
            fun H2 z => ⟨l.length - (i + 1), by omega, rfl, hlt, z⟩, fun v H2 hy => ?_⟩
          obtain ⟨e5, rv⟩ := yl v H2 hy
          subst e5
          refine ⟨_, rv, wipeE δi vs, Fi, δ2, re, b1, fun σ2 F2 r2 sub2 nd2 out hlen2 => ⟨wipe_back ht out hlen2, δ2, F2, r2, nd2 ndi, ?_⟩⟩
          have eT : tx S (.v c) δ2 = .ok k δ3 := by
            show (ev S c δ2).bnd (fun m δ1 => R.of (truM m) δ1) = _
            rw [b2]
            show R.of (truM m) δ3 = _
            rw [b3]; rfl
          rw [eT]
          intro H3 F3 r3 nd3 s3
          have s13 : Stp W F H1 F3 H3 := st.then_ sub2 s3 fun a z => .inr z
          have hD3 : H3 D = some (.lst acc) := s3.out D _ hacc (fun z => hDi (sub2 D z)) nofun
          have hDF3 : D ∉ F3 := fun z => by
            rcases s3.new D z with z | z
            · exact hDi (sub2 D z)
            · rw [hacc] at z; cases z
          have rd3 : RepDs W.kk H3 acc ds := RepDs.mono s3.kp _ rd
          have eW : ∀ {σx : L2.St}, L2.wipe σ2 vs = L2.wipe σ vs := wipe_back ht out hlen2
          cases k with
          | false =>
            rw [if_neg Bool.false_ne_true] at b4 ⊢
            obtain ⟨rfl, rfl⟩ := b4
            obtain ⟨F5, r5, sub5, nd5⟩ := r3.wipe_nd nd3 vs
            rw [wipe_back ht out hlen2] at r5
            exact ⟨δ', F5, acc, ds, ys, h7, hds, r5, nd5, fun z => hDF3 (sub5 D z), hD3, rd3, s13.sub sub5⟩
          | true =>
            rw [if_pos rfl] at b4 ⊢
            obtain ⟨d', b5, rfl⟩ := b4
            refine ⟨δ3, F3, r3, nd3, ?_⟩
            rw [b5]
            intro w H4 G F4 rw4 r4 nd4 s4
            cases rw4 with
            | i rw4 =>
            rw [List.nil_append] at nd4 s4
            have hD4 : H4 D = some (.lst acc) := s4.out D _ hD3 hDF3 nofun
            have hDF4 : D ∉ F4 := fun z => by
              rcases s4.new D z with z | z
              · exact hDF3 z
              · rw [hD3] at z; cases z
            obtain ⟨F5, r5, sub5, nd5⟩ := r4.wipe_nd nd4 vs
            rw [wipe_back ht out hlen2] at r5
            have s14 : Stp W F H1 F5 H4 := (s13.then_ (fun a z => z) s4 fun a z => .inr z).sub sub5
            have hDF5 : D ∉ F5 := fun z => hDF4 (sub5 D z)
            have hlen : acc.length < sizeLine := by
              have := congrArg List.length hds
              rw [List.length_append, List.length_append] at this
              rw [rd.length]
              have e : (some d').toList.length = 1 := rfl
              omega
            have k5 := Kp.put hD4 trivial (o' := .lst (acc ++ [w]))
            refine ⟨acc, hD4, hlen, δ', F5, acc ++ [w], ds ++ [d'], ys, h7, ?_, ?_, nd5, hDF5, upd_same, ((RepDs.mono s4.kp _ rd3).mono k5 _).app (.cons (rw4.mono k5 _) .nil), Stp.put_new hD (NoC.lst hD4) s14⟩
            · rw [List.append_assoc]; exact hds
            · exact r5.mono k5 fun a ha o ho _ => by rw [upd_ne fun z : a = D => hDF5 (by rw [← z]; exact ha)]; exact ho
        · have e5 : i = l.length := by omega
          subst e5
          refine .inl ⟨ok3 _ (Nat.le_refl _), ?_⟩
          rw [List.drop_length] at hrun
          cases (show R.ok [] δi = R.ok rest δe from hrun)
          rw [List.append_nil] at hds
          subst hds
          obtain ⟨F2, r2, sub2, nd2⟩ := REnv.back r1 st.kp hg.1 re ndi
          have s0 : Stp W F H Fi H' := (Stp.same (W := W) (F := F) (G := F) sm fun _ z => .inl z).then_ (fun a z => z) st fun a z => .inr z
          refine h _ H' [D] F2 (.lst hacc rd) r2 ?_ ⟨s0.out, fun a ha => ?_, s0.kp, s0.once⟩
          · exact List.nodup_cons.mpr ⟨fun z => hDi (sub2 D z), nd2⟩
          · rcases List.mem_append.mp ha with z | z
            · rw [List.mem_singleton.mp z]
              exact .inr (sm.free hD)
            · exact s0.new a (sub2 a z)
    · rw [if_neg hz] at h; exact False.elim h
  · rw [if_neg hg] at h; exact False.elim h
/-- no exception leaves a turn -/
def noX : WX := fun _ _ _ _ => False
theorem takes_no {X : Cx} : Takes X noX := fun _ _ ⟨_, _, _, _, _, _, _, _, _, _, _, _, _, _, _, _, w⟩ => w.elim
theorem zx_lcx (C : Ct X W S g) {elt tg iter : Expr} {ifs : List Expr} {scope : Scope} {own : List (Str × Nat)} {pos : Pos} {t : Tg} {it : Ti} {c x : Ix} (hi : PI X tg iter (zi W S it)) (ok : BlkOk X.N X.env.scope scope own)
    (hs : ∀ x, foldedSetIterable iter X.env x = pure x) (ht : tgW t ⊆ own.map (·.2))
    (hg : ∀ (s : Shared) (H : Hp) (D : Addr) (cl : List (Str × Addr)) (fp : List Addr), PG (X.blk s H scope (compEnvC scope cl D X.env) fp) tg (gz W t))
    (hc : ∀ (s : Shared) (H : Hp) (D : Addr) (cl : List (Str × Addr)) (fp : List Addr), PTs (X.blk s H scope (compEnvC scope cl D X.env) fp) ifs (zxt W S noX (.v c)))
    (he : ∀ (s : Shared) (H : Hp) (D : Addr) (cl : List (Str × Addr)) (fp : List Addr), PE (X.blk s H scope (compEnvC scope cl D X.env) fp) elt (zx W S noX x)) :
    PE X (.ListComp elt [⟨tg, iter, ifs, 0⟩] scope pos) (zx W S E (.lcx (own.map (·.2)) t it c x)) := by
  have nd : X.N.Nodup := by rw [C.N]; exact C.nd
  exact PE.imp (pe_lc C.calm nd hi ok hg hc he hs) (lcx_imp noX ht)
end
end Zy
end
section
/-! Zy, part M: the other expressions; tests. -/
namespace Zy
open PySem PySem.Spec PyProof.Rows L2

section
variable {X : Cx} {W : Wd} {S : Sg} {g : Gm} {E : WX}
/-- an object that is owned is written in place -/
theorem Stp.put {H : Hp} {F F' : List Addr} {a : Addr} {o o' : HO} (ha : a ∈ F) (e : H a = some o) (ho : Own o) (sub : ∀ b ∈ F', b ∈ F) (h : ∀ C dx vs, o = .ins C dx vs → ∃ vs', o' = .ins C dx vs' ∧ ∀ k v, k % 2 = 0 → W.fi (W.fn k) = k → vs.lookup (W.fn k) = some v → vs'.lookup (W.fn k) = some v) :
    Stp W F H F' (upd H a o') := by
  refine ⟨fun b o1 hb hF _ => ?_, fun b hb => .inl (sub b hb), Kp.put e ho, fun b C dx vs hb => ?_⟩
  · rw [upd_ne (fun z => hF (by rw [z]; exact ha))]; exact hb
  · by_cases hz : b = a
    · subst hz
      rw [e] at hb
      cases hb
      obtain ⟨vs', h1, h2⟩ := h C dx vs rfl
      exact ⟨vs', by rw [upd_same, h1], h2⟩
    · exact ⟨vs, by rw [upd_ne hz]; exact hb, fun _ _ _ _ h => h⟩
theorem REnv.poke {σ : L2.St} {H : Hp} {δ : Env} {F : List Addr} (r : REnv W H σ δ F) (nd : F.Nodup) {q : Pl} (w : PlW W q) {m : M} (hm : plGet q δ = m) (hn : m ≠ .hole) :
    ∃ v A G B, F = A ++ (G ++ B) ∧ PathV W H σ q v ∧ Rep W H v m G ∧ ∀ a o o' m' G', a ∈ G → H a = some o → Own o → Rep W (upd H a o') v m' G' → REnv W (upd H a o') σ (plSet q m' δ) (A ++ (G' ++ B)) := by
  subst hm
  obtain ⟨A, G, B, eF, _, c2, cl⟩ := r.at_ w (plOk_of rfl hn)
  obtain ⟨v, pv, rv⟩ := c2 hn
  refine ⟨v, A, G, B, eF, pv, rv, fun a o o' m' G' ha e ho r' => cl _ m' G' (Kp.put e ho) (fun b hb o1 e1 _ => ?_) (fun u hu => by rw [hu.uniq pv]; exact r') (.inr ⟨v, pv⟩)⟩
  rw [upd_ne]
  · exact e1
  · intro z
    subst z
    subst eF
    rcases hb with z | z
    · exact nd_ne nd z (List.mem_append_left _ ha)
    · exact nd_ne (nd_right nd) ha z

theorem two_ev {x y : Ix} {f : M → M → Env → R M} {σ : L2.St} {H : Hp} {δ : Env} {F : List Addr} {ok : M → Env → Prop} {Rr : V → V → Hp → Prop} (r : REnv W H σ δ F) (nd : F.Nodup) (h : RR W E σ H F ((ev S x δ).bnd fun m1 δ1 => (ev S y δ1).bnd fun m2 δ2 => f m1 m2 δ2) ok)
    (k : ∀ m1 m2 δ2 v w H2 G1 G2 F2 H1 F1, RR W E σ H1 F1 (f m1 m2 δ2) ok → Rep W H2 v m1 G1 → Rep W H2 w m2 G2 → REnv W H2 σ δ2 F2 → (G1 ++ (G2 ++ F2)).Nodup → Stp W F H (G1 ++ (G2 ++ F2)) H2 → Rr v w H2) :
    zx W S E x σ H fun v H1 => zx W S E y σ H1 fun w H2 => Rr v w H2 :=
  ⟨δ, F, r, nd, RR.bind h fun m1 δ1 h1 => fun v H1 G1 F1 r1 re1 nd1 s1 => ⟨δ1, F1, re1, nd_right nd1, RR.bind (RR.from_ h1 s1 (fun a z => List.mem_append_right _ z) fun _ _ h => h) fun m2 δ2 h2 => fun w H2 G2 F2 r2 re2 nd2 s2 => by
    have nd3 := s2.beside nd1 r1.own' nd2
    exact k m1 m2 δ2 v w H2 G1 G2 F2 _ _ h2 (r1.past s2 nd1) r2 re2 nd3 (s1.then_ (fun a z => List.mem_append_right _ z) s2 fun a z => (List.mem_append.mp z).imp (List.mem_append_left _) id)⟩⟩
/-- a new value behind a step -/
theorem okV.gv {σ : L2.St} {H H2 : Hp} {F F2 A : List Addr} {m : M} {δ2 : Env} {Q : VK} (h : okV W σ H F Q m δ2) (re : REnv W H2 σ δ2 F2) (nd : F2.Nodup) (s : Stp W F H A H2) (sub : ∀ a ∈ F2, a ∈ A) : Gv W H2 m Q := fun v H' G rv sm fr =>
  h v H' G F2 rv (re.same sm) (fr.apart re.own' nd) ⟨(s.trans (fun a z => z) (Stp.same sm (F := A) (G := A) fun a z => .inl z)).out, fun a z => (List.mem_append.mp z).elim (fun z => by
    by_cases hF : a ∈ F
    · exact .inl hF
    · cases e : H a with
      | none => exact .inr rfl
      | some o =>
        obtain ⟨o', this⟩ := s.there e hF
        rw [fr.2 a z] at this; cases this) fun z => s.new a (sub a z), s.kp.trans (Kp.same sm), (s.trans (fun a z => z) (Stp.same sm (F := A) (G := A) fun a z => .inl z)).once⟩
theorem zx_bop (C : Ct X W S g) {a b : Expr} {x y : Ix} {op : Operator} {o : Bop} {pos : Pos} (ho : bopOf op = some o) (ha : PE X a (zx W S E x)) (hb : PE X b (zx W S E y)) : PE X (.BinOp a op b pos) (zx W S E (.bop o x y)) := by
  have e0 : op = oprOf o := by cases op <;> first | (cases ho; rfl) | cases ho
  subst e0
  refine PE.imp (pe_op (op_bop C.K o) ha hb) fun σ H Q q => ?_
  obtain ⟨δ, F, r, nd, h⟩ := q
  exact two_ev r nd h fun m1 m2 δ2 v w H2 G1 G2 F2 _ _ hf r1 r2 re nd3 s => by
    obtain ⟨m, e, hm⟩ := RR.of_ hf
    exact ⟨m1, m2, G1, G2, m, r1, r2, e, okV.gv hm re (nd_right (nd_right nd3)) s fun a z => List.mem_append_right _ (List.mem_append_right _ z)⟩
theorem zx_cmp (C : Ct X W S g) {a b : Expr} {x y : Ix} {op : CmpOp} {o : Cop} {pos : Pos} (ho : copOf op = some o) (hm : plainE b = true) (ha : PE X a (zx W S E x)) (hb : PE X b (zx W S E y)) : PE X (.Compare a [op] [b] pos) (zx W S E (.cmp o x y)) := by
  have e0 := cop_of ho
  subst e0
  refine PE.imp (pe_cmpR (op_cop C.K C.hu65 o) ha hb (nomk hm _)) fun σ H Q q => ?_
  obtain ⟨δ, F, r, nd, h⟩ := q
  exact two_ev r nd h fun m1 m2 δ2 v w H2 G1 G2 F2 _ _ hf r1 r2 re nd3 s => by
    obtain ⟨m, e, hm⟩ := RR.of_ hf
    obtain ⟨bb, e4, e5⟩ := Option.map_eq_some_iff.mp e
    subst e5
    exact ⟨m1, m2, G1, G2, bb, r1, r2, e4, okV.gv hm re (nd_right (nd_right nd3)) s (fun a z => List.mem_append_right _ (List.mem_append_right _ z)) _ H2 [] (.i (.bl bb)) (Same.refl H2) (Fresh.nil H2)⟩
theorem idxM_imm {d : D} {y m : M} (e : idxM (.i d) y = some m) : ∃ d', m = .i d' := by
  unfold idxM at e
  split at e
  all_goals first
    | contradiction
    | (obtain ⟨z, _, hz⟩ := Option.map_eq_some_iff.mp e; exact ⟨_, hz.symm⟩)
    | (split at e
       · obtain ⟨z, _, hz⟩ := Option.map_eq_some_iff.mp e; exact ⟨_, hz.symm⟩
       · cases e)
theorem zx_idx (C : Ct X W S g) {a b : Expr} {x y : Ix} {pos : Pos} (hm : plainE b = true) (ha : PE X a (zx W S E x)) (hb : PE X b (zx W S E y)) : PE X (.Subscript a b pos) (zx W S E (.idx x y)) := by
  refine PE.imp (pe_ix (ix_M C.K (by have := C.hu; omega)) ha hb (plainIx hm)) fun σ H Q q => ?_
  obtain ⟨δ, F, r, nd, h⟩ := q
  exact two_ev r nd h fun m1 m2 δ2 v w H2 G1 G2 F2 _ _ hf r1 r2 re nd3 s => by
    split at hf
    · rename_i d e
      refine ⟨m1, m2, G1, G2, .i d, r1, r2, e, fun u G ru => ?_⟩
      cases ru with
      | i ru => exact hf u H2 [] F2 (.i ru) re (nd_right (nd_right nd3)) (s.sub fun a z => List.mem_append_right _ (List.mem_append_right _ z))
    · exact False.elim hf
theorem zx_idxq (C : Ct X W S g) {a b : Expr} {q : Pl} {y : Ix} {pos : Pos} (hm : plainE b = true) (ha : PE X a (zpl W q)) (w : PlW W q) (hb : PE X b (zx W S E y)) : PE X (.Subscript a b pos) (zx W S E (.idxq q y)) := by
  refine PE.imp (pe_ix (ix_M C.K (by have := C.hu; omega)) ha hb (plainIx hm)) fun σ H Q h => ?_
  obtain ⟨δ, F, r, nd, h⟩ := h
  simp only [ev] at h
  split at h
  · exact False.elim h
  · rename_i hne
    obtain ⟨A, G, B, eF, _, c2, _⟩ := r.at_ w (plOk_of rfl hne)
    obtain ⟨v, pv, rv⟩ := c2 hne
    refine ⟨v, pv, δ, F, r, nd, RR.bind h fun m2 δ1 h1 => fun u H1 G1 F1 r1 re nd1 s => ?_⟩
    split at h1
    · rename_i d e
      have hn1 : plGet q δ1 ≠ .hole := fun z => by rw [z] at e; cases e
      obtain ⟨A1, G2, B1, eF1, _, c3, _⟩ := re.at_ w (plOk_of rfl hn1)
      obtain ⟨v', pv', rv'⟩ := c3 hn1
      cases (pv'.uniq (pv.step w s))
      refine ⟨_, m2, G2, G1, .i d, rv', r1, e, fun u2 G3 ru => ?_⟩
      cases ru with
      | i ru => exact h1 u2 H1 [] F1 (.i ru) re (nd_right nd1) (s.sub fun a z => List.mem_append_right _ z)
    · exact False.elim h1
theorem idxM_lst {l : List D} {y m : M} (e : idxM (.lst l) y = some m) : ∃ j d, y = .i (.int j) ∧ L2.atI l j = some d ∧ m = .i d := by
  cases y with
  | i z =>
    cases z with
    | int j =>
      obtain ⟨d, h1, h2⟩ := Option.map_eq_some_iff.mp (show (L2.atI l j).map M.i = some m from e)
      exact ⟨j, d, rfl, h1, h2.symm⟩
    | _ => cases e
  | _ => cases e
theorem zx_idxm (C : Ct X W S g) {o a b : Expr} {q : Pl} {x : Px} {y : Ix} {p1 pos : Pos} (hm1 : plainE a = true) (hm : plainE b = true) (ho : PE X o (zpl W q)) (w : PlW W q) (ha : PE X a (zp W S x)) (hb : PE X b (zx W S E y)) :
    PE X (.Subscript (.Subscript o a p1) b pos) (zx W S E (.idxm q x y)) := by
  refine PE.imp (pe_ix ix_list (pe_ix ix_list ho ha (plainIx hm1)) hb (plainIx hm)) fun σ H Q h => ?_
  obtain ⟨δ, F, r, nd, h⟩ := h
  simp only [ev] at h
  split at h
  · rename_i l k e1 e2
    split at h
    · rename_i rr ms δ1 e3 e4
      obtain ⟨v, A, G, B, eF, pv, rv, _⟩ := r.poke nd w e1 (by simp)
      cases rv with
      | @mls b xs _ Fi hb0 rs =>
      refine ⟨_, pv, δ, F, _, r, e2, fun vk H1 Gk rk sm _ => ?_⟩
      cases rk with
      | i rk =>
      cases rk
      have re := r.same sm
      have sF : Stp W F H F H1 := Stp.same sm fun a z => .inl z
      have pv1 := pv.step w sF
      have hb1 := sm.s _ _ hb0 nofun
      obtain ⟨G2, F2, t1, t2, t3, t4⟩ := take_ok re (RepA.cons (show RepA1 W H1 σ (V.ref b) (.q q) [] from ⟨pv1, w, rfl⟩) .nil) (show (([] ++ []) ++ F).Nodup from nd) e4
      have em : ms = [.mls l] := by
        simp only [takeAll, e1, Option.bind_eq_bind, Option.bind_some, Option.pure_def] at e4
        cases e4
        rfl
      subst em
      have t0 := t1
      cases t0 with
      | @cons _ _ _ _ G3 G4 r3 r4 =>
      cases r4
      cases r3 with
      | @mls _ xs' _ Fj hb2 rs2 =>
      rw [hb1] at hb2
      cases hb2
      obtain ⟨u, Gu, h3, h4, hsub⟩ := rs2.atS rs2.length e3
      have ndu : (Gu ++ F2).Nodup := t3.sublist (List.Sublist.append (hsub.trans ((List.sublist_cons_self _ _).trans (List.sublist_append_left _ _))) (List.Sublist.refl _))
      refine ⟨b, xs, k, u, rfl, rfl, SqL.of hb1, h3, ?_⟩
      refine ⟨δ1, F2, t2, nd_right t3, RR.from_ (RR.bind h fun m2 δ2 h1 => h1) sF (fun a ha => by simpa using t4 a (List.mem_append_right _ ha)) fun m2 δ2 h1 => fun u2 H2 Gy Fy ry rey ndy s => ?_⟩
      obtain ⟨δ3, e5, h2⟩ := RR.of' h1
      have ndq := s.beside t3 (fun a ha => by obtain ⟨o, h, _⟩ := Reps.own [.mls l] t1 a ha; exact ⟨o, h⟩) ndy
      obtain ⟨F3, k1, k2, k3⟩ := put_ok rey (show Pths W H2 σ [V.ref b] [.q q] from ⟨⟨pv1.step w s, w⟩, trivial⟩) (Reps.past s t1 t3) (ndq.sublist (List.Sublist.append (List.Sublist.refl _) (List.sublist_append_right _ _))) e5
      have st : Stp W F H F3 H2 := sF.then_ (fun a ha => by simpa using t4 a (List.mem_append_right _ ha)) s fun a ha => by
        rcases List.mem_append.mp (k3 a ha) with z | z
        · exact .inl (by simpa using t4 a (List.mem_append_left _ z))
        · exact .inr (List.mem_append_right _ z)
      have ru := Rep.past s h4 ndu
      cases ru with
      | @lst c zs _ hc rd =>
      split at h2
      · rename_i d e6
        obtain ⟨j, d', rfl, e7, e8⟩ := idxM_lst e6
        cases e8
        cases ry with
        | i ry =>
        cases ry
        obtain ⟨w2, e9, rw⟩ := rd.atI e7
        exact ⟨c, zs, j, w2, rfl, rfl, SqL.of hc, e9, h2 w2 H2 [] F3 (.i rw) k1 k2 st⟩
      · exact False.elim h2
    · exact False.elim h
  · exact False.elim h
theorem zx_slm (C : Ct X W S g) {o a b : Expr} {q : Pl} {x : Px} {y : Ix} {p1 p2 pos : Pos} (hm1 : plainE a = true) (ho : PE X o (zpl W q)) (w : PlW W q) (ha : PE X a (zp W S x)) (hb : PE X b (zx W S E y)) :
    PE X (.Subscript (.Subscript o a p1) (.Slice none (some b) none p2) pos) (zx W S E (.slm q x y)) := by
  refine PE.imp (pe_slice sl_list (pe_ix ix_list ho ha (plainIx hm1)) po_none (po_some hb)) fun σ H Q h => ?_
  obtain ⟨δ, F, r, nd, h⟩ := h
  simp only [ev] at h
  split at h
  · rename_i l k e1 e2
    split at h
    · rename_i rr ms δ1 e3 e4
      obtain ⟨v, A, G, B, eF, pv, rv, _⟩ := r.poke nd w e1 (by simp)
      cases rv with
      | @mls b xs _ Fi hb0 rs =>
      refine ⟨_, pv, δ, F, _, r, e2, fun vk H1 Gk rk sm _ => ?_⟩
      cases rk with
      | i rk =>
      cases rk
      have re := r.same sm
      have sF : Stp W F H F H1 := Stp.same sm fun a z => .inl z
      have pv1 := pv.step w sF
      have hb1 := sm.s _ _ hb0 nofun
      obtain ⟨G2, F2, t1, t2, t3, t4⟩ := take_ok re (RepA.cons (show RepA1 W H1 σ (V.ref b) (.q q) [] from ⟨pv1, w, rfl⟩) .nil) (show (([] ++ []) ++ F).Nodup from nd) e4
      have em : ms = [.mls l] := by
        simp only [takeAll, e1, Option.bind_eq_bind, Option.bind_some, Option.pure_def] at e4
        cases e4
        rfl
      subst em
      have t0 := t1
      cases t0 with
      | @cons _ _ _ _ G3 G4 r3 r4 =>
      cases r4
      cases r3 with
      | @mls _ xs' _ Fj hb2 rs2 =>
      rw [hb1] at hb2
      cases hb2
      obtain ⟨u, Gu, h3, h4, hsub⟩ := rs2.atS rs2.length e3
      have ndu : (Gu ++ F2).Nodup := t3.sublist (List.Sublist.append (hsub.trans ((List.sublist_cons_self _ _).trans (List.sublist_append_left _ _))) (List.Sublist.refl _))
      refine ⟨b, xs, k, u, rfl, rfl, SqL.of hb1, h3, ?_⟩
      refine ⟨δ1, F2, t2, nd_right t3, RR.from_ (RR.bind h fun m2 δ2 h1 => h1) sF (fun a ha => by simpa using t4 a (List.mem_append_right _ ha)) fun m2 δ2 h1 => fun u2 H2 Gy Fy ry rey ndy s => ?_⟩
      obtain ⟨δ3, e5, h2⟩ := RR.of' h1
      have ndq := s.beside t3 (fun a ha => by obtain ⟨o, h, _⟩ := Reps.own [.mls l] t1 a ha; exact ⟨o, h⟩) ndy
      obtain ⟨F3, k1, k2, k3⟩ := put_ok rey (show Pths W H2 σ [V.ref b] [.q q] from ⟨⟨pv1.step w s, w⟩, trivial⟩) (Reps.past s t1 t3) (ndq.sublist (List.Sublist.append (List.Sublist.refl _) (List.sublist_append_right _ _))) e5
      have st : Stp W F H F3 H2 := sF.then_ (fun a ha => by simpa using t4 a (List.mem_append_right _ ha)) s fun a ha => by
        rcases List.mem_append.mp (k3 a ha) with z | z
        · exact .inl (by simpa using t4 a (List.mem_append_left _ z))
        · exact .inr (List.mem_append_right _ z)
      have ru := Rep.past s h4 ndu
      cases ru with
      | @lst c zs _ hc rd =>
      split at h2
      · rename_i hi
        cases ry with
        | i ry =>
        cases ry
        refine ⟨hi, rfl, c, zs, rfl, SqL.of hc, fun p hp => ?_⟩
        have s2 : Same H2 (upd H2 p (.lst (cutV zs none (some hi)))) := Same.new hp
        have fr : p ∉ F3 := fun z => by
          obtain ⟨o, h⟩ := k1.own' p z
          rw [hp] at h
          cases h
        exact h2 _ _ [p] F3 (.lst upd_same ((rd.cut none (some hi)).mono (Kp.same s2))) (k1.same s2) (List.nodup_cons.mpr ⟨fr, k2⟩) (st.then_ (fun a z => z) (Stp.same s2 (F := F3) (G := p :: F3) fun a z => by
          rcases List.mem_cons.mp z with rfl | z
          · exact .inr hp
          · exact .inl z) fun a z => .inr z)
      · exact False.elim h2
    · exact False.elim h
  · exact False.elim h
theorem rMl_eq {g : Gm} {e c : Expr} {i : Nat} (h : rMl g e = some (i, c)) : ∃ v p p1, e = .Subscript (.Name v p) c p1 ∧ plainE c = true ∧ slotOf g v = some i := by
  unfold rMl at h
  split at h
  · rename_i v p c' p1
    split at h
    · rename_i hc
      rw [Bool.and_eq_true] at hc
      obtain ⟨j, e1, e2⟩ := Option.map_eq_some_iff.mp h
      cases e2
      exact ⟨v, p, p1, rfl, hc.2, e1⟩
    · cases h
  · cases h
theorem zx_and {a b : Expr} {rest : List Expr} {x y : Ix} {pos : Pos} (ha : PE X a (zx W S E x)) (hb : PE X (.BoolOp .And (b :: rest) pos) (zx W S E y)) : PE X (.BoolOp .And (a :: b :: rest) pos) (zx W S E (.and x y)) := by
  refine PE.imp (pe_and ha hb) fun σ H Q q => ?_
  obtain ⟨δ, F, r, nd, h⟩ := q
  refine ⟨δ, F, r, nd, RR.bind h fun m δ1 h1 => fun v H1 G F1 rv re nd1 s => ?_⟩
  split at h1
  · rename_i kk
    cases rv with
    | i rv =>
      cases rv
      refine ⟨_, rfl, ?_⟩
      cases kk with
      | false =>
        rw [if_neg Bool.false_ne_true] at h1 ⊢
        exact h1 _ H1 [] F1 (.i (.bl false)) re nd1 s
      | true =>
        rw [if_pos rfl] at h1 ⊢
        exact ⟨δ1, F1, re, nd1, RR.from_ h1 s (fun a z => z) fun m2 δ2 h2 => fun u H2 G2 F2 r2 re2 nd2 s2 => h2 u H2 G2 F2 r2 re2 nd2 (Stp.trans s (fun a z => z) s2)⟩
  · exact False.elim h1
theorem lrOf_eq {g : Gm} {e a : Expr} (h : lrOf g e = some a) : ∃ p p1 pos1 pos, e = .Call (.Name "list" p) [.Call (.Name "range" p1) [a] [] pos1] [] pos ∧ bltN g "list" = true ∧ bltN g "range" = true ∧ plainE a = true := by
  unfold lrOf at h
  split at h
  · split at h
    · rename_i hc
      cases h
      simp only [Bool.and_eq_true, beq_iff_eq] at hc
      obtain ⟨⟨⟨⟨h1, h2⟩, h3⟩, h4⟩, h5⟩ := hc
      have h1 := of_decide_eq_true h1
      have h2 := of_decide_eq_true h2
      subst h1
      subst h2
      exact ⟨_, _, _, _, rfl, h3, h4, h5⟩
    · cases h
  · cases h
theorem rep_rg {K : Kc} {H : Hp} : ∀ (n : Nat) (a : Int), RepDs K H ((List.range n).map fun i => V.int (a + (i : Nat))) (rngL a n)
  | 0, _ => .nil
  | n + 1, a => by
    rw [List.range_succ_eq_map, List.map_cons, List.map_map, rngL]
    have h0 : (a + ((0 : Nat) : Int)) = a := by simp
    rw [h0]
    refine .cons (.int a) ?_
    have := rep_rg (K := K) (H := H) n (a + 1)
    have e : ((fun i : Nat => V.int (a + (i : Nat))) ∘ Nat.succ) = fun i : Nat => V.int (a + 1 + (i : Nat)) := by
      funext i
      show V.int (a + ((i + 1 : Nat) : Int)) = V.int (a + 1 + (i : Nat))
      congr 1
      omega
    rw [e]
    exact this
theorem zx_lrng (C : Ct X W S g) {a : Expr} {x : Ix} {p p1 pos1 pos : Pos} (hb : bltN g "list" = true) (hr : bltN g "range" = true) (hp : plainE a = true) (ha : PE X a (zx W S E x)) : PE X (.Call (.Name "list" p) [.Call (.Name "range" p1) [a] [] pos1] [] pos) (zx W S E (.lrng x)) := by
  obtain ⟨g1, m1⟩ := C.bltn hb
  obtain ⟨g2, m2⟩ := C.bltn hr
  refine PE.imp (pe_listRg C.calm g1 m1 (prg_1 g2 m2 ha (star_plain hp [] X.env)) (star_plain (e := .Call (.Name "range" p1) [a] [] pos1) rfl [] X.env)) fun σ H Q q => ?_
  obtain ⟨δ, F, r, nd, h⟩ := q
  refine ⟨δ, F, r, nd, RR.bind h fun m δ1 h1 => fun v H1 G F1 rv re nd1 s => ?_⟩
  split at h1
  · rename_i k
    split at h1
    · rename_i hz
      cases rv with
      | i rv =>
        cases rv
        obtain ⟨z1, z2⟩ := rngOk_iff hz.1
        refine ⟨_, rfl, ⟨by omega, by omega, z1, z2, by have := hz.2; omega⟩, fun q hq => ?_⟩
        have gv := okV.gv (m := .lst (rngL 0 k.toNat)) h1 re nd1 s (fun a z => z)
        have rp := rep_rg (K := W.kk) (H := upd H1 q (.lst (rgV 0 k))) k.toNat 0
        have e : (k - 0).toNat = k.toNat := by rw [Int.sub_zero]
        refine gv _ _ [q] (.lst upd_same ?_) (Same.new hq) (Fresh.one hq)
        unfold rgV
        rw [e]
        unfold rgV at rp
        rw [e] at rp
        exact rp
    · exact False.elim h1
  · exact False.elim h1
theorem zx_not {a : Expr} {x : Ix} {pos : Pos} (ha : PE X a (zx W S E x)) : PE X (.UnaryOp .Not a pos) (zx W S E (.not x)) := by
  refine PE.imp (pe_not ha) fun σ H Q q => ?_
  obtain ⟨δ, F, r, nd, h⟩ := q
  refine ⟨δ, F, r, nd, RR.bind h fun m δ1 h1 => fun v H1 G F1 rv re nd1 s => ?_⟩
  split at h1
  · rename_i kk
    cases rv with
    | i rv =>
      cases rv
      exact ⟨_, rfl, h1 _ H1 [] F1 (.i (.bl _)) re nd1 s⟩
  · exact False.elim h1
theorem zx_or {a b : Expr} {rest : List Expr} {x y : Ix} {pos : Pos} (ha : PE X a (zx W S E x)) (hb : PE X (.BoolOp .Or (b :: rest) pos) (zx W S E y)) : PE X (.BoolOp .Or (a :: b :: rest) pos) (zx W S E (.or x y)) := by
  refine PE.imp (pe_or ha hb) fun σ H Q q => ?_
  obtain ⟨δ, F, r, nd, h⟩ := q
  refine ⟨δ, F, r, nd, RR.bind h fun m δ1 h1 => fun v H1 G F1 rv re nd1 s => ?_⟩
  split at h1
  · rename_i kk
    cases rv with
    | i rv =>
      cases rv
      refine ⟨_, rfl, ?_⟩
      cases kk with
      | true =>
        rw [if_pos rfl] at h1 ⊢
        exact h1 _ H1 [] F1 (.i (.bl true)) re nd1 s
      | false =>
        rw [if_neg Bool.false_ne_true] at h1 ⊢
        exact ⟨δ1, F1, re, nd1, RR.from_ h1 s (fun a z => z) fun m2 δ2 h2 => fun u H2 G2 F2 r2 re2 nd2 s2 => h2 u H2 G2 F2 r2 re2 nd2 (Stp.trans s (fun a z => z) s2)⟩
  · exact False.elim h1
theorem zx_blt1 (C : Ct X W S g) {b : Blt} (hno : b = .sorted → ∀ a xs, ¬ W.kk a xs) {e : Expr} {x : Ix} {p pos : Pos} (hb : bltN g (bltS b) = true) (hp : plainE e = true) (ha : PE X e (zx W S E x)) : PE X (.Call (.Name (bltS b) p) [e] [] pos) (zx W S E (.blt1 b x)) := by
  refine PE.imp (pe_bltG C hno hb (by rw [List.all_cons, hp]; rfl) (pa_cons ha pa_nil (star_plain hp [] X.env))) fun σ H Q q => ?_
  obtain ⟨δ, F, r, nd, h⟩ := q
  refine ⟨δ, F, r, nd, RR.bind h fun m δ1 h1 => fun v H1 G F1 rv re nd1 s => ?_⟩
  obtain ⟨m', e1, hm⟩ := RR.of_ h1
  exact ⟨[m], G ++ [], m', .cons rv .nil, e1, okV.gv hm re (nd_right nd1) s fun a z => List.mem_append_right _ z⟩
theorem zx_tup {es : List Expr} {ts : List Ix} {k : Nat} {pos : Pos} (h : PA X es (zvs W S E ts)) : PE X (.Tuple es k pos) (zx W S E (.tup ts)) := by
  refine PE.imp (pe_tup h) fun σ H Q q => ?_
  obtain ⟨δ, F, r, nd, h⟩ := q
  refine ⟨δ, F, r, nd, RR.bind h fun ms δ1 h1 => fun vs H1 G F1 rs re nd1 s => ?_⟩
  split at h1
  · rename_i ds e1
    split at h1
    · rename_i hz
      have d := imms_reps e1 rs
      refine ⟨by rw [d.length]; exact hz, fun p hp => ?_⟩
      have s2 : Same H1 (upd H1 p (.tup vs)) := Same.new hp
      have gv := okV.gv (m := .i (.tup ds)) h1 re (nd_right nd1) s (fun a z => List.mem_append_right _ z)
      exact gv _ _ [] (.i (.tup (.inl upd_same) (d.mono (Kp.same s2)))) s2 (Fresh.nil H1)
    · exact False.elim h1
  · split at h1
    · rename_i hz
      refine ⟨by rw [rs.length]; exact hz, fun p hp => ?_⟩
      have s2 : Same H1 (upd H1 p (.tup vs)) := Same.new hp
      exact h1 _ (upd H1 p (.tup vs)) G F1 (.mtp upd_same (rs.same s2)) (re.same s2) nd1 (s.then_ (fun a z => z) (Stp.same s2 (G := G ++ F1) fun a z => .inl z) fun a z => .inr z)
    · exact False.elim h1
theorem zx_lst {es : List Expr} {ts : List Ix} {pos : Pos} (h : PA X es (zvs W S E ts)) : PE X (.List es pos) (zx W S E (.lst ts)) := by
  refine PE.imp (pe_lst h) fun σ H Q q => ?_
  obtain ⟨δ, F, r, nd, h⟩ := q
  refine ⟨δ, F, r, nd, RR.bind h fun ms δ1 h1 => fun vs H1 G F1 rs re nd1 s => ?_⟩
  split at h1
  · rename_i hz
    refine ⟨by rw [rs.length]; exact hz, fun p hp => ?_⟩
    have s2 : Same H1 (upd H1 p (.lst vs)) := Same.new hp
    split at h1
    · rename_i ds e1
      have d := imms_reps e1 rs
      have gv := okV.gv (m := .lst ds) h1 re (nd_right nd1) s (fun a z => List.mem_append_right _ z)
      exact gv _ _ [p] (.lst upd_same (d.mono (Kp.same s2))) s2 (Fresh.one hp)
    · have pn : ∀ a ∈ G ++ F1, a ≠ p := fun a z e => by
        subst e
        rcases List.mem_append.mp z with z | z
        · obtain ⟨o, ho, _⟩ := rs.own ms a z
          rw [hp] at ho; cases ho
        · obtain ⟨o, ho⟩ := re.own' a z
          rw [hp] at ho; cases ho
      refine h1 _ (upd H1 p (.lst vs)) (p :: G) F1 (.mls upd_same (rs.same s2)) (re.same s2) (List.nodup_cons.mpr ⟨fun z => pn p z rfl, nd1⟩) (s.then_ (fun a z => z) (Stp.same s2 (G := p :: (G ++ F1)) fun a z => (List.mem_cons.mp z).elim (fun z => .inr (z ▸ hp)) .inl) fun a z => .inr z)
  · exact False.elim h1
theorem zx_pop (C : Ct X W S g) {o a : Expr} {q : Pl} {x : Px} {ap cp : Pos} (hl : (ap.endLine == cp.line) = true) (hs : noSup o = true) (hp : plainE a = true) (ho : PE X o (zpl W q)) (w : PlW W q) (ha : PE X a (zp W S x)) :
    PE X (.Call (.Attribute o "pop" ap) [a] [] cp) (zx W S E (.pop q x)) := by
  have hfew : ((backTo cp (starEach (a :: []) X.env)).all (fun x => !x.1) && (backToKw cp (keywordEach [] X.env)).all (fun x => x.1.isSome)
      && decide ((a :: ([] : List Expr)).length + ([] : List Keyword).length + (if ([] : List Keyword).isEmpty then 0 else 1) < 30)) = true := by
    rw [star_plain hp]; rfl
  have pa := pa_cons ha (pa_nil (X := X)) (star_plain hp [] X.env)
  refine PE.imp (pe_bm PySem.F.plainAttrs_list PySem.F.slot_list_pop PySem.F.type_list_pop mt_popAt ho pa (attrBase hs) hfew hl (star_plain hp [] X.env) rfl) fun σ H Q h => ?_
  obtain ⟨δ, F, r, nd, h⟩ := h
  simp only [ev] at h
  split at h
  · rename_i k l e1 e2
    split at h
    · rename_i d l2 e3
      obtain ⟨v, A, G, B, eF, pv, rv, _⟩ := r.poke nd w e2 (by simp)
      cases rv with
      | @lst b xs _ hb rd =>
      refine ⟨_, pv, .inl ⟨rfl, _, SqL.of hb⟩, δ, F, _, r, e1, fun vk H1 Gk rk sm _ => ?_⟩
      cases rk with
      | i rk =>
      cases rk
      have re := r.same sm
      obtain ⟨v', A', G', B', eF', pv', rv', cl⟩ := re.poke nd w e2 (by simp)
      cases (pv'.uniq (pv.step w (Stp.same (F := F) (G := F) sm fun a z => .inl z)))
      cases rv' with
      | @lst _ xs' _ hb' rd' =>
      unfold dropL at e3
      split at e3
      · rename_i hk
        obtain ⟨hk1, hk2⟩ := rngOk_iff hk
        obtain ⟨j, h1, h2⟩ := Option.bind_eq_some_iff.mp e3
        obtain ⟨d', h3, h4⟩ := Option.map_eq_some_iff.mp h2
        cases h4
        obtain ⟨y, h5, h6⟩ := rd'.get h3
        obtain ⟨sq1, _⟩ := ixN_seq h1
        have kp := Kp.put (o' := .lst (xs'.eraseIdx j)) hb' trivial
        have rep := cl b _ (.lst (xs'.eraseIdx j)) (.lst (l.eraseIdx j)) [b] List.mem_cons_self hb' trivial (.lst upd_same ((rd'.erase j).mono kp))
        rw [← eF'] at rep
        refine ⟨b, xs', k, j, y, rfl, rfl, hb', by omega, by omega, by rw [rd'.length]; exact sq1, h5, ?_⟩
        refine h y _ [] F (.i (h6.mono kp)) rep nd ((Stp.same sm (F := F) (G := F) fun a z => .inl z).trans (fun a z => z) (Stp.put ?_ hb' trivial (fun b z => z) fun C dx vs z => by cases z))
        rw [eF']
        exact List.mem_append_right _ List.mem_cons_self
      · cases e3
    · exact False.elim h
  · exact False.elim h
/-- a pop at a place that is found with effects -/
theorem zx_popx (C : Ct X W S g) {o a : Expr} {q : Pl} {x : Ix} {ap cp : Pos} (hl : (ap.endLine == cp.line) = true) (hs : noSup o = true) (hp : plainE a = true) (ho : PE X o (zpl W q)) (w : PlW W q) (ha : PE X a (zx W S E x)) :
    PE X (.Call (.Attribute o "pop" ap) [a] [] cp) (zx W S E (.popx q x)) := by
  have hfew : ((backTo cp (starEach (a :: []) X.env)).all (fun x => !x.1) && (backToKw cp (keywordEach [] X.env)).all (fun x => x.1.isSome)
      && decide ((a :: ([] : List Expr)).length + ([] : List Keyword).length + (if ([] : List Keyword).isEmpty then 0 else 1) < 30)) = true := by
    rw [star_plain hp]; rfl
  have pa := pa_cons ha (pa_nil (X := X)) (star_plain hp [] X.env)
  refine PE.imp (pe_bm PySem.F.plainAttrs_list PySem.F.slot_list_pop PySem.F.type_list_pop mt_popAt ho pa (attrBase hs) hfew hl (star_plain hp [] X.env) rfl) fun σ H Q h => ?_
  obtain ⟨δ, F, r, nd, h⟩ := h
  simp only [ev] at h
  split at h
  · rename_i l0 e0
    obtain ⟨v, A, G, B, eF, pv, rv, _⟩ := r.poke nd w e0 (by simp)
    cases rv with
    | @lst b xs _ hb rd =>
    refine ⟨_, pv, .inl ⟨rfl, _, SqL.of hb⟩, δ, F, r, nd, RR.bind h fun m δ1 h1 => fun vk H1 Gk F1 rk re nd1 s => ?_⟩
    split at h1
    · rename_i k l e2
      split at h1
      · rename_i d l2 e3
        cases rk with
        | i rk =>
        cases rk
        have nd1 := nd_right nd1
        have s1 : Stp W F H F1 H1 := s.sub fun a z => List.mem_append_right _ z
        obtain ⟨v', A', G', B', eF', pv', rv', cl⟩ := re.poke nd1 w e2 (by simp)
        cases (pv'.uniq (pv.step w s1))
        cases rv' with
        | @lst _ xs' _ hb' rd' =>
        unfold dropL at e3
        split at e3
        · rename_i hk
          obtain ⟨hk1, hk2⟩ := rngOk_iff hk
          obtain ⟨j, h3, h2⟩ := Option.bind_eq_some_iff.mp e3
          obtain ⟨d', h4, h5⟩ := Option.map_eq_some_iff.mp h2
          cases h5
          obtain ⟨y, h6, h7⟩ := rd'.get h4
          obtain ⟨sq1, _⟩ := ixN_seq h3
          have kp := Kp.put (o' := .lst (xs'.eraseIdx j)) hb' trivial
          have rep := cl b _ (.lst (xs'.eraseIdx j)) (.lst (l.eraseIdx j)) [b] List.mem_cons_self hb' trivial (.lst upd_same ((rd'.erase j).mono kp))
          rw [← eF'] at rep
          refine ⟨b, xs', k, j, y, rfl, rfl, hb', by omega, by omega, by rw [rd'.length]; exact sq1, h6, ?_⟩
          refine h1 y _ [] F1 (.i (h7.mono kp)) rep nd1 (s1.trans (fun a z => z) (Stp.put ?_ hb' trivial (fun b z => z) fun C dx vs z => by cases z))
          rw [eF']
          exact List.mem_append_right _ List.mem_cons_self
        · cases e3
      · exact False.elim h1
    · exact False.elim h1
  · exact False.elim h
/-! ### tests -/
theorem zxt_p {e : Expr} {x : Pt} (ha : PT X e (zt W S x)) : PT X e (zxt W S E (.p x)) := PT.imp ha fun σ H Q q => by
  obtain ⟨δ, F, r, nd, h⟩ := q
  obtain ⟨b, e1, h1⟩ := RR.of_ h
  exact ⟨δ, F, b, r, e1, fun H' sm => h1 H' F (r.same sm) nd (Stp.same sm fun a z => .inl z)⟩
theorem zxt_v (C : Ct X W S g) {a : Expr} {x : Ix} (he : ∀ whole, isTrue a X.env whole = (do let v ← whole; standAt a.pos; holding [v] (truthy v))) (ha : PE X a (zx W S E x)) : PT X a (zxt W S E (.v x)) := by
  refine PT.imp (pt_truth ha he) fun σ H Q q => ?_
  obtain ⟨δ, F, r, nd, h⟩ := q
  refine ⟨δ, F, r, nd, RR.bind h fun m δ1 h1 => fun v H' G F' rv re nd' s => ?_⟩
  obtain ⟨b, e1, h2⟩ := RR.of_ h1
  exact ⟨b, by rw [C.K]; exact rv.tru e1, h2 H' F' re (nd_right nd') (s.sub fun a z => List.mem_append_right _ z)⟩
theorem zxt_cmp (C : Ct X W S g) {a b : Expr} {x y : Ix} {op : CmpOp} {o : Cop} {pos : Pos} (ho : copOf op = some o) (hm : plainE b = true) (ha : PE X a (zx W S E x)) (hb : PE X b (zx W S E y)) : PT X (.Compare a [op] [b] pos) (zxt W S E (.v (.cmp o x y))) := by
  have e0 := cop_of ho
  subst e0
  refine PT.imp (pt_cmpR (op_cop C.K C.hu65 o) ha hb (nomk hm _)) fun σ H Q q => ?_
  obtain ⟨δ, F, r, nd, h⟩ := q
  have h : RR W E σ H F ((ev S x δ).bnd fun m1 δ1 => (ev S y δ1).bnd fun m2 δ2 => (R.of ((copM o m1 m2).map fun b => M.i (.bl b)) δ2).bnd fun m δ3 => R.of (truM m) δ3) (okB W σ H F Q) := by
    have e1 : tx S (.v (.cmp o x y)) δ = ((ev S x δ).bnd fun m1 δ1 => (ev S y δ1).bnd fun m2 δ2 => (R.of ((copM o m1 m2).map fun b => M.i (.bl b)) δ2).bnd fun m δ3 => R.of (truM m) δ3) := by
      simp only [tx, ev]
      cases ev S x δ with
      | ok m1 δ1 =>
        show ((ev S y δ1).bnd _).bnd _ = (ev S y δ1).bnd _
        cases ev S y δ1 <;> rfl
      | exc _ _ => rfl
      | bad => rfl
    rw [e1] at h
    exact h
  refine ⟨δ, F, r, nd, RR.bind h fun m1 δ1 h1 => fun v H1 G1 F1 r1 re1 nd1 s1 => ⟨δ1, F1, re1, nd_right nd1, RR.bind (RR.from_ h1 s1 (fun a z => List.mem_append_right _ z) fun _ _ h => h) fun m2 δ2 h2 => fun w H2 G2 F2 r2 re2 nd2 s2 => ?_⟩⟩
  have nd3 := s2.beside nd1 r1.own' nd2
  have s3 := s1.then_ (fun a z => List.mem_append_right _ z) s2 (D := F2) fun a z => .inr (List.mem_append_right _ z)
  cases hc : copM o m1 m2 with
  | none => rw [hc] at h2; exact False.elim h2
  | some bb =>
    rw [hc] at h2
    have h2 : okB W σ H F Q bb δ2 := h2
    exact ⟨m1, m2, G1, G2, bb, r1.past s2 nd1, r2, hc, _, rfl, h2 H2 F2 re2 (nd_right nd2) s3⟩
theorem zxt_not {a : Expr} {x : Tx} {pos : Pos} (ha : PT X a (zxt W S E x)) : PT X (.UnaryOp .Not a pos) (zxt W S E (.not x)) := by
  refine PT.imp (pt_not ha) fun σ H Q q => ?_
  obtain ⟨δ, F, r, nd, h⟩ := q
  exact ⟨δ, F, r, nd, RR.bind h fun b δ1 h1 => h1⟩
theorem zxw_and {a b : Expr} {rest : List Expr} {x y : Tx} {pos : Pos} (ha : PT X a (zxt W S E x)) (hb : PW X (.BoolOp .And (b :: rest) pos) (zxt W S E y)) : PW X (.BoolOp .And (a :: b :: rest) pos) (zxt W S E (.and x y)) := by
  refine ⟨fun wh pins s σ H Q I q => (pw_and ha hb).run wh pins s σ H Q I ?_⟩
  obtain ⟨δ, F, r, nd, h⟩ := q
  refine ⟨δ, F, r, nd, RR.bind h fun b δ1 h1 => fun H' F' re nd' s => ?_⟩
  cases b with
  | false =>
    rw [if_neg Bool.false_ne_true] at h1 ⊢
    exact h1 H' F' re nd' s
  | true =>
    rw [if_pos rfl] at h1 ⊢
    exact ⟨δ1, F', re, nd', RR.from_ h1 s (fun a z => z) fun b δ2 h2 => fun H2 F2 re2 nd2 s2 => h2 H2 F2 re2 nd2 (s.trans (fun a z => z) s2)⟩
theorem zxw_or {a b : Expr} {rest : List Expr} {x y : Tx} {pos : Pos} (ha : PT X a (zxt W S E x)) (hb : PW X (.BoolOp .Or (b :: rest) pos) (zxt W S E y)) : PW X (.BoolOp .Or (a :: b :: rest) pos) (zxt W S E (.or x y)) := by
  refine ⟨fun wh pins s σ H Q I q => (pw_or ha hb).run wh pins s σ H Q I ?_⟩
  obtain ⟨δ, F, r, nd, h⟩ := q
  refine ⟨δ, F, r, nd, RR.bind h fun b δ1 h1 => fun H' F' re nd' s => ?_⟩
  cases b with
  | true =>
    rw [if_pos rfl] at h1 ⊢
    exact h1 H' F' re nd' s
  | false =>
    rw [if_neg Bool.false_ne_true] at h1 ⊢
    exact ⟨δ1, F', re, nd', RR.from_ h1 s (fun a z => z) fun b δ2 h2 => fun H2 F2 re2 nd2 s2 => h2 H2 F2 re2 nd2 (s.trans (fun a z => z) s2)⟩

/-! ### what the reader reads -/
structure Iok (W : Wd) (S : Sg) (n : Nat) : Prop where
  I : ∀ {X : Cx} {g : Gm} {E : WX} {e : Expr} {x : Ix}, Takes X E → Ct X W S g → rI n g e = some x → PE X e (zx W S E x) ∧ PE X e (za1 W S E x)
  J : ∀ {X : Cx} {g : Gm} {E : WX} {e : Expr} {x : Ix}, Takes X E → Ct X W S g → rJ n g e = some x → PE X e (zx W S E x) ∧ ∀ q, x ≠ .pl q
  Cm : ∀ {X : Cx} {g : Gm} {E : WX} {a : Expr} {ops : List CmpOp} {cs : List Expr} {pos : Pos} {x : Ix}, Takes X E → Ct X W S g → rI n g (.Compare a ops cs pos) = some x → PT X (.Compare a ops cs pos) (zxt W S E (.v x))
  CJ : ∀ {X : Cx} {g : Gm} {E : WX} {a : Expr} {ops : List CmpOp} {cs : List Expr} {pos : Pos} {x : Ix}, Takes X E → Ct X W S g → rJ n g (.Compare a ops cs pos) = some x → PT X (.Compare a ops cs pos) (zxt W S E (.v x))
  XA : ∀ {X : Cx} {g : Gm} {E : WX} {es : List Expr} {x : Ix} {pos : Pos}, Takes X E → Ct X W S g → rXA n g es = some x → PE X (.BoolOp .And es pos) (zx W S E x)
  XO : ∀ {X : Cx} {g : Gm} {E : WX} {es : List Expr} {x : Ix} {pos : Pos}, Takes X E → Ct X W S g → rXO n g es = some x → PE X (.BoolOp .Or es pos) (zx W S E x)
  Cd : ∀ {X : Cx} {g : Gm} {E : WX} {es : List Expr} {c : Ix}, Takes X E → Ct X W S g → rCd n g es = some c → PTs X es (zxt W S E (.v c))
  Is : ∀ {X : Cx} {g : Gm} {E : WX} {es : List Expr} {xs : List Ix}, Takes X E → Ct X W S g → rIs n g es = some xs → es.all plainE = true ∧ (es = [] → xs = []) ∧ PA X es (zas W S E xs) ∧ PA X es (zvs W S E xs)
theorem iok_Is {n : Nat} (h : Iok W S n) {es : List Expr} {xs : List Ix} (tk : Takes X E) (C : Ct X W S g) (e : rIs (n + 1) g es = some xs) : es.all plainE = true ∧ (es = [] → xs = []) ∧ PA X es (zas W S E xs) ∧ PA X es (zvs W S E xs) := by
  unfold rIs at e
  split at e
  · cases e; exact ⟨rfl, fun _ => rfl, zas_nil, zvs_nil⟩
  · cases e
  · rename_i hz
    cases hz
    split at e
    · rename_i hp
      split at e
      · rename_i e1 e2
        cases e
        obtain ⟨h1, h2, h3, h4⟩ := h.Is tk C e2
        obtain ⟨h5, h6⟩ := h.I tk C e1
        exact ⟨by rw [List.all_cons, hp, h1]; rfl, fun z => absurd z (by simp), zas_cons hp h6 h3, zvs_cons hp h5 h4⟩
      · cases e
    · cases e
theorem iok_I {n : Nat} (h : Iok W S n) {e0 : Expr} {x : Ix} (tk : Takes X E) (C : Ct X W S g) (e : rI (n + 1) g e0 = some x) : PE X e0 (zx W S E x) ∧ PE X e0 (za1 W S E x) := by
  simp only [rI] at e
  split at e
  · rename_i q hq
    cases e
    obtain ⟨h1, h2⟩ := rPl_ok C e0 q hq
    exact ⟨zx_pl h1 h2, za1_pl h1 h2⟩
  · suffices PE X e0 (zx W S E x) ∧ ∀ q, x ≠ .pl q from ⟨this.1, za1_of this.2 this.1⟩
    split at e
    · rename_i y hy
      have hp := zx_p (E := E) ((rok_all n).P C hy)
      split at e
      · split at e
        · rename_i e1
          cases e
          exact h.J tk C e1
        · cases e
          exact ⟨hp, fun q z => by cases z⟩
      · cases e
        exact ⟨hp, fun q z => by cases z⟩
    · exact h.J tk C e
theorem iok_J {n : Nat} (h : Iok W S n) {e0 : Expr} {x : Ix} (tk : Takes X E) (C : Ct X W S g) (e : rJ (n + 1) g e0 = some x) : PE X e0 (zx W S E x) ∧ ∀ q, x ≠ .pl q := by
  simp only [rJ] at e
  split at e
  · rename_i a hl
    obtain ⟨y, e1, e2⟩ := Option.map_eq_some_iff.mp e
    subst e2
    obtain ⟨p, p1, pos1, pos, he, h1, h2, h3⟩ := lrOf_eq hl
    subst he
    exact ⟨zx_lrng C h1 h2 h3 (h.I tk C e1).1, fun q z => by cases z⟩
  rename_i hlr
  clear hlr
  split at e
  · obtain ⟨y, e1, e2⟩ := Option.map_eq_some_iff.mp e
    subst e2
    exact ⟨zx_tup (h.Is tk C e1).2.2.2, fun q z => by cases z⟩
  · obtain ⟨y, e1, e2⟩ := Option.map_eq_some_iff.mp e
    subst e2
    exact ⟨zx_lst (h.Is tk C e1).2.2.2, fun q z => by cases z⟩
  · split at e
    · rename_i e1 e2 e3
      cases e
      exact ⟨zx_bop C e1 (h.I tk C e2).1 (h.I tk C e3).1, fun q z => by cases z⟩
    · cases e
  · split at e
    · rename_i hp
      split at e
      · rename_i e1 e2 e3
        cases e
        exact ⟨zx_cmp C e1 hp (h.I tk C e2).1 (h.I tk C e3).1, fun q z => by cases z⟩
      · cases e
    · cases e
  · rename_i v pv c pc b p2 p3
    split at e
    · rename_i hp
      simp only [Bool.and_eq_true] at hp
      split at e
      · rename_i i0 _ _ e1 e2 e3
        cases e
        have hpl : rPl g (.Name v pv) = some ⟨i0, []⟩ := by
          unfold rPl
          rw [e1]
          rfl
        obtain ⟨ho, hw⟩ := rPl_ok C _ _ hpl
        exact ⟨zx_slm C hp.1.2 ho hw ((rok_all n).P C e2) (h.I tk C e3).1, fun q z => by cases z⟩
      · cases e
    · cases e
  · split at e
    · rename_i hp
      split at e
      · rename_i i0 _ _ e1 e2
        obtain ⟨x, e3, e4⟩ := Option.map_eq_some_iff.mp e
        subst e4
        obtain ⟨v, p, p1, rfl, hp1, e5⟩ := rMl_eq e1
        have hpl : rPl g (.Name v p) = some ⟨i0, []⟩ := by
          unfold rPl
          rw [e5]
          rfl
        obtain ⟨ho, hw⟩ := rPl_ok C _ _ hpl
        exact ⟨zx_idxm C hp1 hp ho hw ((rok_all n).P C e3) (h.I tk C e2).1, fun q z => by cases z⟩
      · split at e
        · rename_i e1 e2
          cases e
          obtain ⟨ho, hw⟩ := rPl_ok C _ _ e1
          exact ⟨zx_idxq C hp ho hw (h.I tk C e2).1, fun q z => by cases z⟩
        · rename_i e2
          obtain ⟨y, e1, e3⟩ := Option.map_eq_some_iff.mp e
          subst e3
          exact ⟨zx_idx C hp (h.I tk C e1).1 (h.I tk C e2).1, fun q z => by cases z⟩
        · cases e
    · cases e
  · split at e
    · rename_i e1 e2
      cases e
      exact ⟨zx_and (h.I tk C e1).1 (h.XA tk C e2), fun q z => by cases z⟩
    · cases e
  · split at e
    · rename_i e1 e2
      cases e
      exact ⟨zx_or (h.I tk C e1).1 (h.XO tk C e2), fun q z => by cases z⟩
    · cases e
  · obtain ⟨y, e1, e2⟩ := Option.map_eq_some_iff.mp e
    subst e2
    exact ⟨zx_not (h.I tk C e1).1, fun q z => by cases z⟩
  · split at e
    · rename_i hc
      simp only [Bool.and_eq_true] at hc
      split at e
      · rename_i e1 e2 e3 e4
        split at e
        · rename_i ht
          cases e
          exact ⟨zx_lcx C ((rok_all n).I C e2 _) (blkOk_by (by rw [C.N, C.sc]; exact hc.1.1)) (fun x => fset hc.1.2 _ x) (fun a ha => by simpa using List.all_eq_true.mp ht a ha) (fun s H D cl fp => gz_ok (C.blk _ s H D cl fp) e1)
            (fun s H D cl fp => h.Cd takes_no (C.blk _ s H D cl fp) e3) (fun s H D cl fp => (h.I takes_no (C.blk _ s H D cl fp) e4).1), fun q z => by cases z⟩
        · cases e
      · cases e
    · cases e
  · split at e
    · rename_i hb
      split at e
      · rename_i e1
        split at e
        · rename_i hp
          obtain ⟨y, e2, e3⟩ := Option.map_eq_some_iff.mp e
          subst e3
          obtain ⟨this, hs⟩ := bltK_eq e1
          subst this
          exact ⟨zx_blt1 C (fun z => C.ktn (hs z)) hb hp (h.I tk C e2).1, fun q z => by cases z⟩
        · cases e
      · cases e
    · split at e
      · rename_i hc
        obtain ⟨h1, h2⟩ := glC_of hc
        split at e
        · rename_i e1 e2
          cases e
          obtain ⟨h3, h4, h5, _⟩ := h.Is tk C e2
          exact ⟨zx_call tk C h1 e1 h3 h2 h4 h5, fun q z => by cases z⟩
        · rename_i e1 e2 e3
          cases e
          obtain ⟨h3, h4, h5, _⟩ := h.Is tk C e3
          exact ⟨zx_mk tk C h1 e2 h3 h2 h4 h5, fun q z => by cases z⟩
        · cases e
      · cases e
  · split at e
    · rename_i q hq
      obtain ⟨ho, hw⟩ := rPl_ok C _ q hq
      have hs := (rPl_sup hq).1
      split at e
      · rename_i k hk
        split at e
        · rename_i hc
          rw [Bool.and_eq_true, decide_eq_true_eq] at hc
          obtain ⟨y, e1, e2⟩ := Option.map_eq_some_iff.mp e
          subst e2
          obtain ⟨h3, h4, h5, _⟩ := h.Is tk C e1
          exact ⟨zx_meth tk C ho hw hs hk h3 hc.1 hc.2 h4 h5, fun q z => by cases z⟩
        · cases e
      · split at e
        · rename_i hc
          rw [Bool.and_eq_true, decide_eq_true_eq] at hc
          obtain ⟨rfl, hl⟩ := hc
          split at e
          · split at e
            · rename_i hp
              split at e
              · rename_i x e1
                cases e
                exact ⟨zx_pop C hl hs hp ho hw ((rok_all n).P C e1), fun q z => by cases z⟩
              · obtain ⟨y, e1, e2⟩ := Option.map_eq_some_iff.mp e
                subst e2
                exact ⟨zx_popx C hl hs hp ho hw (h.I tk C e1).1, fun q z => by cases z⟩
            · cases e
          · cases e
        · cases e
    · cases e
  · cases e
theorem zxt_vp {e : Expr} {x : Px} (ha : PT X e (zt W S (.v x))) : PT X e (zxt W S E (.v (.p x))) := PT.imp ha fun σ H Q q => by
  obtain ⟨δ, F, r, nd, h⟩ := q
  have h : RR W E σ H F ((evP S x δ).bnd fun m δ1 => R.of (truM m) δ1) (okB W σ H F Q) := h
  have : ∃ m, pv S x δ = some m ∧ evP S x δ = .ok m δ := by
    unfold evP at h ⊢
    split at h
    · exact ⟨_, by assumption, rfl⟩
    · split at h
      · rename_i hf
        exact ⟨_, by assumption, by rw [if_pos hf]⟩
      · exact False.elim h
    · exact False.elim h
  obtain ⟨m, e1, e2⟩ := this
  rw [e2] at h
  obtain ⟨b, e3, h1⟩ := RR.of_ (show RR W E σ H F (R.of (truM m) δ) (okB W σ H F Q) from h)
  refine ⟨δ, F, b, r, ?_, fun H' sm => h1 H' F (r.same sm) nd (Stp.same sm fun a z => .inl z)⟩
  show (do truM (← pv S x δ)) = some b
  rw [e1]
  exact e3
theorem iok_Cm {n : Nat} (h : Iok W S n) {a : Expr} {ops : List CmpOp} {cs : List Expr} {pos : Pos} {x : Ix} (tk : Takes X E) (C : Ct X W S g) (e : rI (n + 1) g (.Compare a ops cs pos) = some x) : PT X (.Compare a ops cs pos) (zxt W S E (.v x)) := by
  simp only [rI] at e
  split at e
  · rename_i q hq
    cases hq
  · split at e
    · rename_i y hy
      have hp := zxt_vp (E := E) ((rok_all n).Cm C hy)
      split at e
      · split at e
        · rename_i e1
          cases e
          exact h.CJ tk C e1
        · cases e
          exact hp
      · cases e
        exact hp
    · exact h.CJ tk C e
theorem iok_CJ {n : Nat} (h : Iok W S n) {a : Expr} {ops : List CmpOp} {cs : List Expr} {pos : Pos} {x : Ix} (tk : Takes X E) (C : Ct X W S g) (e : rJ (n + 1) g (.Compare a ops cs pos) = some x) : PT X (.Compare a ops cs pos) (zxt W S E (.v x)) := by
  simp only [rJ, lrOf] at e
  split at e
  all_goals first
    | (rename_i hz; cases hz; done)
    | skip
  · rename_i hz
    cases hz
    split at e
    · rename_i hp
      split at e
      · rename_i e1 e2 e3
        cases e
        exact zxt_cmp C e1 hp (h.I tk C e2).1 (h.I tk C e3).1
      · cases e
    · cases e
  · cases e
theorem iok_XA {n : Nat} (h : Iok W S n) {es : List Expr} {x : Ix} {pos : Pos} (tk : Takes X E) (C : Ct X W S g) (e : rXA (n + 1) g es = some x) : PE X (.BoolOp .And es pos) (zx W S E x) := by
  unfold rXA at e
  split at e
  · cases e
  · rename_i hz
    cases hz
    exact pe_one (h.I tk C e).1
  · rename_i es0 hne hz
    cases hz
    split at e
    · rename_i e1 e2
      cases e
      cases es0 with
      | nil => exact absurd rfl hne
      | cons b r => exact zx_and (h.I tk C e1).1 (h.XA tk C e2)
    · cases e
  · cases e
theorem iok_XO {n : Nat} (h : Iok W S n) {es : List Expr} {x : Ix} {pos : Pos} (tk : Takes X E) (C : Ct X W S g) (e : rXO (n + 1) g es = some x) : PE X (.BoolOp .Or es pos) (zx W S E x) := by
  unfold rXO at e
  split at e
  · cases e
  · rename_i hz
    cases hz
    exact pe_one (h.I tk C e).1
  · rename_i es0 hne hz
    cases hz
    split at e
    · rename_i e1 e2
      cases e
      cases es0 with
      | nil => exact absurd rfl hne
      | cons b r => exact zx_or (h.I tk C e1).1 (h.XO tk C e2)
    · cases e
  · cases e
theorem iok_Cd0 {es : List Expr} {c : Ix} (he : es = []) (hc : c = .p (.lit (.bl true))) : PTs X es (zxt W S E (.v c)) := by
  subst he hc
  exact ⟨fun pins s σ H Q I q => pts_nil.run pins s σ H Q I (by
    obtain ⟨δ, F, r, nd, h⟩ := q
    exact (show okB W σ H F Q true δ from h) H F r nd Stp.refl)⟩
theorem iok_Cd {n : Nat} (h : Iok W S n) {es : List Expr} {c : Ix} (tk : Takes X E) (C : Ct X W S g) (e : rCd (n + 1) g es = some c) : PTs X es (zxt W S E (.v c)) := by
  unfold rCd at e
  split at e
  · cases e; exact iok_Cd0 rfl rfl
  · cases e
  · rename_i hz
    cases hz
    exact pts_one (h.Cm tk C e)
  · cases e
theorem iok_all : ∀ n, Iok W S n
  | 0 => by
    refine ⟨fun _ _ e => ?_, fun _ _ e => ?_, fun _ _ e => ?_, fun _ _ e => ?_, fun _ _ e => ?_, fun _ _ e => ?_, fun _ _ e => ?_, fun _ _ e => ?_⟩
    · cases e
    · cases e
    · cases e
    · cases e
    · cases e
    · cases e
    · unfold rCd at e
      split at e <;> first | (cases e; exact iok_Cd0 rfl rfl) | (cases e; done) | (exact absurd ‹0 = Nat.succ _› (Nat.succ_ne_zero _).symm)
    · unfold rIs at e
      split at e <;> first | (cases e; exact ⟨rfl, fun _ => rfl, zas_nil, zvs_nil⟩) | (cases e; done) | (exact absurd ‹0 = Nat.succ _› (Nat.succ_ne_zero _).symm)
  | n + 1 => ⟨iok_I (iok_all n), iok_J (iok_all n), iok_Cm (iok_all n), iok_CJ (iok_all n), iok_XA (iok_all n), iok_XO (iok_all n), iok_Cd (iok_all n), iok_Is (iok_all n)⟩
structure Tok (W : Wd) (S : Sg) (n : Nat) : Prop where
  U : ∀ {X : Cx} {g : Gm} {E : WX} {e : Expr} {x : Tx}, Takes X E → Ct X W S g → rU n g e = some x → PT X e (zxt W S E x)
  T : ∀ {X : Cx} {g : Gm} {E : WX} {e : Expr} {x : Tx}, Takes X E → Ct X W S g → rT n g e = some x → PT X e (zxt W S E x)
  A : ∀ {X : Cx} {g : Gm} {E : WX} {es : List Expr} {x : Tx} {pos : Pos}, Takes X E → Ct X W S g → rTA n g es = some x → PW X (.BoolOp .And es pos) (zxt W S E x)
  O : ∀ {X : Cx} {g : Gm} {E : WX} {es : List Expr} {x : Tx} {pos : Pos}, Takes X E → Ct X W S g → rTO n g es = some x → PW X (.BoolOp .Or es pos) (zxt W S E x)
theorem tok_A {n : Nat} (h : Tok W S n) {es : List Expr} {c : Tx} {pos : Pos} (tk : Takes X E) (C : Ct X W S g) (e : rTA (n + 1) g es = some c) : PW X (.BoolOp .And es pos) (zxt W S E c) := by
  unfold rTA at e
  split at e
  · cases e
  · rename_i hz
    cases hz
    exact pw_and1 (h.T tk C e)
  · rename_i es0 hne hz
    cases hz
    split at e
    · rename_i e1 e2
      cases e
      cases es0 with
      | nil => exact absurd rfl hne
      | cons b r => exact zxw_and (h.T tk C e1) (h.A tk C e2)
    · cases e
  · cases e
theorem tok_O {n : Nat} (h : Tok W S n) {es : List Expr} {c : Tx} {pos : Pos} (tk : Takes X E) (C : Ct X W S g) (e : rTO (n + 1) g es = some c) : PW X (.BoolOp .Or es pos) (zxt W S E c) := by
  unfold rTO at e
  split at e
  · cases e
  · rename_i hz
    cases hz
    exact pw_or1 (h.T tk C e)
  · rename_i es0 hne hz
    cases hz
    split at e
    · rename_i e1 e2
      cases e
      cases es0 with
      | nil => exact absurd rfl hne
      | cons b r => exact zxw_or (h.T tk C e1) (h.O tk C e2)
    · cases e
  · cases e
theorem tok_T {n : Nat} (h : Tok W S n) {e0 : Expr} {c : Tx} (tk : Takes X E) (C : Ct X W S g) (e : rT (n + 1) g e0 = some c) : PT X e0 (zxt W S E c) := by
  simp only [rT] at e
  split at e
  · rename_i y hy
    have hp := zxt_p (E := E) ((rok_all n).T C hy)
    split at e
    · split at e
      · rename_i e1
        cases e
        exact h.U tk C e1
      · cases e
        exact hp
    · cases e
      exact hp
  · exact h.U tk C e
theorem tok_U {n : Nat} (h : Tok W S n) {e0 : Expr} {c : Tx} (tk : Takes X E) (C : Ct X W S g) (e : rU (n + 1) g e0 = some c) : PT X e0 (zxt W S E c) := by
  simp only [rU] at e
  split at e
  · exact (h.A tk C e).pt
  · exact (h.O tk C e).pt
  · obtain ⟨y, e1, e2⟩ := Option.map_eq_some_iff.mp e
    subst e2
    exact zxt_not (h.T tk C e1)
  · cases e
  · rename_i n1 n2 n3 n4
    obtain ⟨y, e1, e2⟩ := Option.map_eq_some_iff.mp e
    subst e2
    have hp := ((iok_all n).I tk C e1).1
    cases e0 with
    | BoolOp op es pos => cases op with
      | And => exact absurd rfl (n1 _ _)
      | Or => exact absurd rfl (n2 _ _)
    | UnaryOp op a pos => cases op with
      | Not => exact absurd rfl (n3 _ _)
      | _ => exact zxt_v C (fun _ => rfl) hp
    | IfExp _ _ _ _ => exact absurd rfl (n4 _ _ _ _)
    | Compare a ops cs pos => exact (iok_all n).Cm tk C e1
    | _ => exact zxt_v C (fun _ => rfl) hp
theorem tok_all : ∀ n, Tok W S n
  | 0 => by
    refine ⟨fun _ _ e => ?_, fun _ _ e => ?_, fun _ _ e => ?_, fun _ _ e => ?_⟩
    · cases e
    · cases e
    · cases e
    · cases e
  | n + 1 => ⟨tok_U (tok_all n), tok_T (tok_all n), tok_A (tok_all n), tok_O (tok_all n)⟩
end
end Zy
end
section
/-! Zy, part N: statements. -/
namespace Zy
open PySem PySem.Spec PyProof.Rows L2

/-- what is protected keeps its value -/
def Kee (pr : List Nat) (σ σ' : L2.St) : Prop := ∀ i ∈ pr, σ'[i]? = σ[i]?
theorem Kee.refl (pr : List Nat) (σ : L2.St) : Kee pr σ σ := fun _ _ => rfl
theorem Kee.trans {pr : List Nat} {σ σ1 σ2 : L2.St} (a : Kee pr σ σ1) (b : Kee pr σ1 σ2) : Kee pr σ σ2 := fun i h => (b i h).trans (a i h)
theorem Kee.sub {p q : List Nat} {σ σ' : L2.St} (a : Kee q σ σ') (h : ∀ i ∈ p, i ∈ q) : Kee p σ σ' := fun i z => a i (h i z)

section
variable {X : Cx} {W : Wd} {S : Sg} {g : Gm} {E : WX} {pr : List Nat} {σ σ1 : L2.St} {H H1 : Hp} {F F1 : List Addr} {D : Ends}
def Fin (W : Wd) (E : WX) (pr : List Nat) (σ : L2.St) (H : Hp) (F : List Addr) (D : Ends) : Fl → Prop
  | .nx δ' => ∀ σ' H' F', REnv W H' σ' δ' F' → F'.Nodup → Stp W F H F' H' → Kee pr σ σ' → D.nx σ' H'
  | .bk δ' => ∀ σ' H' F', REnv W H' σ' δ' F' → F'.Nodup → Stp W F H F' H' → Kee pr σ σ' → D.bk σ' H'
  | .ct δ' => ∀ σ' H' F', REnv W H' σ' δ' F' → F'.Nodup → Stp W F H F' H' → Kee pr σ σ' → D.ct σ' H'
  | .rt m δ' => ∀ v σ' H' G F', Rep W H' v m G → REnv W H' σ' δ' F' → (G ++ F').Nodup → Stp W F H (G ++ F') H' → Kee pr σ σ' → D.rt v H'
  | .exc x δ' => ∀ cls d σ' H' F', RepX W H' cls d x → REnv W H' σ' δ' F' → F'.Nodup → Stp W F H F' H' → Kee pr σ σ' → E cls d σ' H'
  | .bad => False
/-- seen from further on -/
theorem Fin.from_ {r : Fl} (h : Fin W E pr σ H F D r) (s : Stp W F H F1 H1) (k : Kee pr σ σ1) : Fin W E pr σ1 H1 F1 D r := by
  cases r with
  | nx δ' => exact fun σ' H' F' a b c d => h σ' H' F' a b (s.trans (fun _ z => z) c) (k.trans d)
  | bk δ' => exact fun σ' H' F' a b c d => h σ' H' F' a b (s.trans (fun _ z => z) c) (k.trans d)
  | ct δ' => exact fun σ' H' F' a b c d => h σ' H' F' a b (s.trans (fun _ z => z) c) (k.trans d)
  | rt m δ' => exact fun v σ' H' G F' a b c d e => h v σ' H' G F' a b c (s.trans (fun _ z => z) d) (k.trans e)
  | exc x δ' => exact fun v d σ' H' F' a b c e f => h v d σ' H' F' a b c (s.trans (fun _ z => z) e) (k.trans f)
  | bad => exact h
/-- with other ends -/
theorem Fin.ends {r : Fl} {D' : Ends} (h : Fin W E pr σ H F D r) (n : ∀ δ', r = .nx δ' → Fin W E pr σ H F D (.nx δ') → Fin W E pr σ H F D' (.nx δ')) (b : ∀ δ', r = .bk δ' → Fin W E pr σ H F D (.bk δ') → Fin W E pr σ H F D' (.bk δ'))
    (c : ∀ δ', r = .ct δ' → Fin W E pr σ H F D (.ct δ') → Fin W E pr σ H F D' (.ct δ')) (t : D.rt = D'.rt) : Fin W E pr σ H F D' r := by
  cases r with
  | nx δ' => exact n δ' rfl h
  | bk δ' => exact b δ' rfl h
  | ct δ' => exact c δ' rfl h
  | rt m δ' => intro v σ' H' G F' a b c d e; rw [← t]; exact h v σ' H' G F' a b c d e
  | exc x δ' => exact h
  | bad => exact h
theorem Fin.of_ {α : Type} {r : R α} {f : α → Env → Fl} (h : Fin W E pr σ H F D (Fl.of r f)) : RR W E σ H F r fun a δ1 => Fin W E pr σ H F D (f a δ1) := by
  cases r with
  | ok a δ => exact h
  | exc x δ => exact fun cls d H' F' h1 h2 h3 h4 => h cls d σ H' F' h1 h2 h3 h4 (Kee.refl _ _)
  | bad => exact h
theorem RR.mono {α : Type} {r : R α} {ok ok' : α → Env → Prop} (h : RR W E σ H F r ok) (k : ∀ a δ', ok a δ' → ok' a δ') : RR W E σ H F r ok' := by
  cases r with
  | ok a δ' => exact k a δ' h
  | exc x δ' => exact h
  | bad => exact h

def zs (W : Wd) (S : Sg) (E : WX) (pr : List Nat) (t : Sm) : TS := fun D σ H => ∃ δ F, REnv W H σ δ F ∧ F.Nodup ∧ Fin W E pr σ H F D (exec S t δ)
def zss (W : Wd) (S : Sg) (E : WX) (pr : List Nat) (t : List Sm) : TS := fun D σ H => ∃ δ F, REnv W H σ δ F ∧ F.Nodup ∧ Fin W E pr σ H F D (execs S t δ)
theorem PS.imp {st : Stmt} {t t' : TS} (h : PS X st t) (i : ∀ D σ H, t' D σ H → t D σ H) : PS X st t' := ⟨fun pins s σ H D I q => h.run pins s σ H D I (i D σ H q)⟩
theorem PSs.imp {st : List Stmt} {t t' : TS} (h : PSs X st t) (i : ∀ D σ H, t' D σ H → t D σ H) : PSs X st t' := ⟨fun pins s σ H D I q => h.run pins s σ H D I (i D σ H q)⟩

theorem zss_nil : PSs X [] (zss W S E pr []) := PSs.imp pss_nil fun D σ H q => by
  obtain ⟨δ, F, r, nd, h⟩ := q
  exact h σ H F r nd Stp.refl (Kee.refl _ _)
theorem zss_cons {st : Stmt} {rest : List Stmt} {x : Sm} {xs : List Sm} (h1 : PS X st (zs W S E pr x)) (h2 : PSs X rest (zss W S E pr xs)) : PSs X (st :: rest) (zss W S E pr (x :: xs)) := by
  refine PSs.imp (pss_cons h1 h2) fun D σ H q => ?_
  obtain ⟨δ, F, r, nd, h⟩ := q
  refine ⟨δ, F, r, nd, ?_⟩
  have h : Fin W E pr σ H F D ((exec S x δ).seq fun δ1 => execs S xs δ1) := h
  cases he : exec S x δ with
  | nx δ1 =>
    rw [he] at h
    exact fun σ' H' F' a b c d => ⟨δ1, F', a, b, Fin.from_ h c d⟩
  | bk δ1 => rw [he] at h; exact h
  | ct δ1 => rw [he] at h; exact h
  | rt m δ1 => rw [he] at h; exact h
  | exc x δ1 => rw [he] at h; exact h
  | bad => rw [he] at h; exact h

/-! ### simple ones -/
theorem zs_pass : PS X (.Pass pos) (zs W S E pr .pass) := PS.imp ps_pass fun D σ H q => by
  obtain ⟨δ, F, r, nd, h⟩ := q
  exact h σ H F r nd Stp.refl (Kee.refl _ _)
theorem zs_doc {x : Str} {j : Nat} {p p' : Pos} : PS X (.Expr (.Constant (.str x) j p) p') (zs W S E pr .pass) := PS.imp ps_doc fun D σ H q => by
  obtain ⟨δ, F, r, nd, h⟩ := q
  exact h σ H F r nd Stp.refl (Kee.refl _ _)
/-- a statement that is never come to -/
theorem zs_bad {st : Stmt} : PS X st (zs W S E pr .bad) := ⟨fun pins s σ H D I q => by
  obtain ⟨δ, F, r, nd, h⟩ := q
  exact False.elim h⟩
theorem zs_brk {pos : Pos} : PS X (.Break pos) (zs W S E pr .brk) := PS.imp ps_break fun D σ H q => by
  obtain ⟨δ, F, r, nd, h⟩ := q
  exact h σ H F r nd Stp.refl (Kee.refl _ _)
theorem zs_cnt {pos : Pos} : PS X (.Continue pos) (zs W S E pr .cnt) := PS.imp ps_continue fun D σ H q => by
  obtain ⟨δ, F, r, nd, h⟩ := q
  exact h σ H F r nd Stp.refl (Kee.refl _ _)
theorem zs_retN {pos : Pos} : PS X (.Return none pos) (zs W S E pr .retN) := PS.imp ps_retN fun D σ H q => by
  obtain ⟨δ, F, r, nd, h⟩ := q
  exact h .non σ H [] F (.i .non) r nd Stp.refl (Kee.refl _ _)
theorem zs_ret {e : Expr} {x : Ix} {pos : Pos} (ha : PE X e (zx W S E x)) : PS X (.Return (some e) pos) (zs W S E pr (.ret x)) := PS.imp (ps_ret ha) fun D σ H q => by
  obtain ⟨δ, F, r, nd, h⟩ := q
  exact ⟨δ, F, r, nd, (Fin.of_ h).mono fun m δ1 h1 => fun v H' G F' rv re nd' s => h1 v σ H' G F' rv re nd' s (Kee.refl _ _)⟩
theorem sw_none {e : Expr} (h : isLC e = false) (t : Option Expr) (l : Nat) (env : PySem.Env) : swapsWith e t l env = pure false := by
  cases e <;> first | rfl | cases h
theorem zs_ex {e : Expr} {x : Ix} {pos : Pos} (hl : isLC e = false) (ha : PE X e (zx W S E x)) : PS X (.Expr e pos) (zs W S E pr (.ex x)) := PS.imp (ps_expr ha (sw_none hl _ _ _)) fun D σ H q => by
  obtain ⟨δ, F, r, nd, h⟩ := q
  exact ⟨δ, F, r, nd, (Fin.of_ h).mono fun m δ1 h1 => fun v H' G F' rv re nd' s => h1 σ H' F' re (nd_right nd') (s.sub fun a z => List.mem_append_right _ z) (Kee.refl _ _)⟩
theorem zs_if {c : Expr} {a b : List Stmt} {x : Tx} {y z : List Sm} {pos : Pos} (hc : PT X c (zxt W S E x)) (ha : PSs X a (zss W S E pr y)) (hb : PSs X b (zss W S E pr z)) : PS X (.If c a b pos) (zs W S E pr (.ite x y z)) := PS.imp (ps_if hc ha hb) fun D σ H q => by
  obtain ⟨δ, F, r, nd, h⟩ := q
  refine ⟨δ, F, r, nd, (Fin.of_ h).mono fun k δ1 h1 => fun H' F' re nd' s => ?_⟩
  cases k with
  | true =>
    rw [if_pos rfl] at h1 ⊢
    exact ⟨δ1, F', re, nd', Fin.from_ h1 s (Kee.refl _ _)⟩
  | false =>
    rw [if_neg Bool.false_ne_true] at h1 ⊢
    exact ⟨δ1, F', re, nd', Fin.from_ h1 s (Kee.refl _ _)⟩

/-! ### stores -/
/-- a value is stored in a slot -/
theorem REnv.store {δ : Env} {G : List Addr} {i : Nat} {v : V} {m : M} (r : REnv W H σ δ F) (rv : Rep W H v m G) (nd : (G ++ F).Nodup) (hi : i < δ.length) : ∃ F', REnv W H (σ.set i (some v)) (δ.set i m) F' ∧ F'.Nodup ∧ ∀ a ∈ F', a ∈ G ++ F := by
  obtain ⟨A, G0, B, ov, e, _, _, cl⟩ := r.focus hi
  subst e
  refine ⟨A ++ (G ++ B), cl H (some v) m G (Kp.refl H) (fun _ _ _ h _ => h) (.some rv), ?_, fun a z => ?_⟩
  · have n1 : (A ++ B).Nodup := (nd_right nd).sublist (List.Sublist.append_left (List.sublist_append_right G0 B) A)
    have p : (A ++ (G ++ B)).Perm (G ++ (A ++ B)) := by
      have := List.Perm.append_right B (List.perm_append_comm (l₁ := A) (l₂ := G))
      simpa only [List.append_assoc] using this
    refine p.nodup_iff.mpr (nd_mk (nd_left nd) n1 fun a z1 z2 => nd_ne nd z1 ?_)
    simp only [List.mem_append] at z2 ⊢
    rcases z2 with z | z
    · exact .inl z
    · exact .inr (.inr z)
  · simp only [List.mem_append] at z ⊢
    rcases z with z | z | z
    · exact .inr (.inl z)
    · exact .inl z
    · exact .inr (.inr (.inr z))
theorem kee_set {i : Nat} {ov : Option V} (h : i ∉ pr) : Kee pr σ (σ.set i ov) := fun j hj => List.getElem?_set_ne (fun z => h (by rw [z]; exact hj))
theorem asg_core {i : Nat} {x : Ix} (hi : i ∉ pr) {D : Ends} {σ : L2.St} {H : Hp} (q : zs W S E pr (.asg i x) D σ H) : tAsg (zx W S E x) (gName i) D σ H := by
  obtain ⟨δ, F, r, nd, h⟩ := q
  refine ⟨δ, F, r, nd, (Fin.of_ h).mono fun m δ1 h1 => fun v H' G F' rv re nd' s => ?_⟩
  split at h1
  · rename_i hl
    obtain ⟨F2, r2, nd2, sub⟩ := re.store rv nd' hl
    exact h1 _ H' F2 r2 nd2 (s.sub sub) (kee_set hi)
  · exact False.elim h1
theorem zs_asg (C : Ct X W S g) {y : Str} {e : Expr} {i : Nat} {x : Ix} {py pos : Pos} (ht : tgNm g (.Name y py) = some i) (hl : isLC e = false) (ha : PE X e (zx W S E x)) : PS X (.Assign [.Name y py] e pos) (zs W S E g.pr (.asg i x)) := by
  obtain ⟨h1, h2, h4, h3⟩ := tgNm_ok C ht
  exact PS.imp (ps_set (by rw [C.N]; exact C.nd) h1 h2 ha (sw_none hl _ _ _) h4) fun D σ H q => asg_core h3 q
/-- a number is added to a slot -/
theorem zs_aug (C : Ct X W S g) {y : Str} {e : Expr} {i : Nat} {x : Px} {op : Operator} {b : Bool} {py pos : Pos} (ht : tgNm g (.Name y py) = some i) (ho : augO op = some b) (ha : PE X e (zp W S x)) : PS X (.AugAssign (.Name y py) op e pos) (zs W S E g.pr (.aug i b x)) := by
  obtain ⟨h1, h2, h4, h3⟩ := tgNm_ok C ht
  have hop : PIp X op (ipI (augF b)) := by
    cases op <;> first | (cases ho; exact ip_add) | (cases ho; exact ip_sub) | cases ho
  refine PS.imp (ps_aug (by rw [C.N]; exact C.nd) h1 h2 ha hop h4) fun D σ H q => ?_
  obtain ⟨δ, F, r, nd, h⟩ := q
  simp only [exec] at h
  split at h
  · rename_i a c e1 e2
    obtain ⟨v, G, ev, rv, _⟩ := r.get e1 (by simp)
    cases rv with
    | i rv =>
      cases rv
      have hl : i < δ.length := by
        rw [← r.length]
        exact (List.getElem?_eq_some_iff.mp ev).1
      refine ⟨_, ev, δ, F, _, r, e2, fun v H' G rv sm _ => ?_⟩
      cases rv with
      | i rv =>
        cases rv
        obtain ⟨F2, r2, nd2, sub⟩ := (r.same sm).store (Rep.i (.int (augF b a c))) (by simpa using nd) hl
        exact ⟨a, c, rfl, rfl, h _ H' F2 r2 nd2 (Stp.same sm fun z hz => .inl (by simpa using sub z hz)) (kee_set h3)⟩
  · exact False.elim h
/-- a comprehension stored to a cell -/
theorem zs_asgC (C : Ct X W S g) {y : Str} {elt : Expr} {gens : List Comprehension} {sc : Scope} {lp : Pos} {i : Nat} {x : Ix} {py pos : Pos} (ht : tgNm g (.Name y py) = some i) (hl : locB g.sc y = false) (ha : PE X (.ListComp elt gens sc lp) (zx W S E x)) : PS X (.Assign [.Name y py] (.ListComp elt gens sc lp) pos) (zs W S E g.pr (.asg i x)) := by
  obtain ⟨h1, h2, h4, h3⟩ := tgNm_ok C ht
  have hk : (X.env.kindOf y == some NameKind.local) = false := by
    show (X.env.scope.names.lookup y == some NameKind.local) = false
    rw [C.sc]; exact hl
  refine PS.imp (ps_set (by rw [C.N]; exact C.nd) h1 h2 ha ?_ h4) fun D σ H q => asg_core h3 q
  unfold swapsWith
  simp only [hk, Bool.and_false, Bool.false_and]
theorem mapM_mem {α β : Type} {f : α → Option β} : ∀ {es : List α} {l : List β}, es.mapM f = some l → ∀ i ∈ l, ∃ e ∈ es, f e = some i
  | [], l, h, i, hi => by
    cases (show some [] = some l from h)
    cases hi
  | e :: es, l, h, i, hi => by
    rw [List.mapM_cons] at h
    simp only [Option.bind_eq_bind, Option.bind_eq_some_iff] at h
    obtain ⟨j, h1, l', h2, h3⟩ := h
    cases (show some (j :: l') = some l from h3)
    rcases List.mem_cons.mp hi with z | z
    · subst z; exact ⟨e, List.mem_cons_self, h1⟩
    · obtain ⟨e0, h4, h5⟩ := mapM_mem h2 i z
      exact ⟨e0, List.mem_cons_of_mem _ h4, h5⟩
theorem zs_unp (C : Ct X W S g) {ts : List Expr} {e : Expr} {l : List Nat} {x : Ix} {j : Nat} {pt pos : Pos} (ht : ts.mapM (tgNm g) = some l) (hl : isLC e = false) (hne : ∀ es k p, e ≠ .Tuple es k p) (ha : PE X e (zx W S E x)) : PS X (.Assign [.Tuple ts j pt] e pos) (zs W S E g.pr (.unp l x)) := by
  have hw : swappedStores [.Tuple ts j pt] e X.env = pure none := by
    cases e <;> first | rfl | exact absurd rfl (hne _ _ _)
  have hs : swapsWithSole [.Tuple ts j pt] e pos.line X.env = pure false := by
    unfold swapsWithSole
    exact sw_none hl _ _ _
  refine PS.imp (ps_asg ha (gz_tp (W := W) C ht (k := j) (pos := pt)) hs hw) fun D σ H q => ?_
  obtain ⟨δ, F, r, nd, h⟩ := q
  refine ⟨δ, F, r, nd, (Fin.of_ h).mono fun m δ1 h1 => fun v H' G F' rv re nd' s => ?_⟩
  split at h1
  · rename_i d
    split at h1
    · rename_i δ2 e2
      cases rv with
      | i rv =>
        have hpr : ∀ i ∈ g.pr, i ∉ l := fun i hi hl => by
          obtain ⟨e0, he0, hn⟩ := mapM_mem ht i hl
          obtain ⟨x0, p0, rfl⟩ := tgNm_name hn
          exact (tgNm_ok C hn).2.2.2 hi
        refine ⟨d, rv, δ1, F', δ2, re, e2, fun σ' F2 re2 sub nd2 out _ => h1 σ' H' F2 re2 (nd2 (nd_right nd')) (s.sub fun a z => List.mem_append_right _ (sub a z)) fun i hi => out i (hpr i hi)⟩
    · exact False.elim h1
  · exact False.elim h1
/-! ### x, y = a, b -/
theorem par_sw {x y : Str} {px py pt p2 : Pos} {k k2 : Nat} {a b : Expr} (C : Ct X W S g) (hp : [a, b].all plainE = true) (h : parB g x px y py a b = true) : swappedStores [.Tuple [.Name x px, .Name y py] k pt] (.Tuple [a, b] k2 p2) X.env = pure (some [x, y]) := by
  unfold parB at h
  simp only [Bool.and_eq_true] at h
  obtain ⟨l1, l2, l3, l4, l5, l6, l7⟩ := h
  have m1 : (X.env.kindOf x == some NameKind.local) = true := by show (X.env.scope.names.lookup x == _) = true; rw [C.sc]; exact l1
  have m2 : (X.env.kindOf y == some NameKind.local) = true := by show (X.env.scope.names.lookup y == _) = true; rw [C.sc]; exact l2
  have m3 : (X.env.blockKind != .function) = false := by
    unfold Env.blockKind
    rw [C.sc]
    show (!(_ == _)) = false
    rw [l7]
    rfl
  have hp1 : plainE a = true := by simp only [List.all_cons, Bool.and_eq_true] at hp; exact hp.1
  have hp2 : plainE b = true := by simp only [List.all_cons, Bool.and_eq_true] at hp; exact hp.2.1
  have e1 : (y == x) = false := by
    have : x ≠ y := by simpa using l4
    simpa using fun z => this z.symm
  have l5' : (foldedForSure 8 a && (foldedForSure 8 b && true)) = false := by rw [Bool.and_true]; exact by simpa only [Bool.not_eq_true'] using l5
  have l6' : (constantsAlone 8 a && (constantsAlone 8 b && true)) = false := by rw [Bool.and_true]; exact by simpa only [Bool.not_eq_true'] using l6
  unfold swappedStores
  simp only [List.length_cons, List.length_nil, m3, List.any_cons, List.any_nil, List.head?_cons, Option.map_some, Option.getD_some, List.filterMap_cons, List.filterMap_nil, Expr.pos, m1, m2, l3, List.all_cons, List.all_nil, l5', l6', List.eraseDups_cons, e1]
  simp [e1, List.eraseDups_cons, m1, m2, l3]
  rintro (z | z)
  · cases a <;> first | (simp [plainE] at hp1; done) | (cases z; done)
  · cases b <;> first | (simp [plainE] at hp2; done) | (cases z; done)
theorem zs_par (C : Ct X W S g) {n : Nat} (hPs : ∀ es xs, rPs n g es = some xs → es.all plainE = true ∧ PA X es (zps W S xs)) {ts : List Expr} {e : Expr} {k : Nat} {pt pos : Pos} {s : Sm} (h : rPar n g ts e = some s) : PS X (.Assign [.Tuple ts k pt] e pos) (zs W S E g.pr s) := by
  unfold rPar at h
  split at h
  · rename_i x px y py a b k2 p2
    split at h
    · rename_i hc
      split at h
      · rename_i i j es e1 e2 e3
        cases h
        obtain ⟨hpl, hA⟩ := hPs _ _ e3
        obtain ⟨h1, h2, h4, h3⟩ := tgNm_ok C e1
        obtain ⟨k1, _, _, k3⟩ := tgNm_ok C e2
        have hw := par_sw (k := k) (pt := pt) (k2 := k2) (p2 := p2) C hpl hc
        unfold parB at hc
        simp only [Bool.and_eq_true] at hc
        obtain ⟨l1, l2, l3, l4, _⟩ := hc
        have hij : i ≠ j := fun z => by
          subst z
          rw [h1] at k1
          have : x ≠ y := by simpa using l4
          exact this (Option.some.inj k1)
        have lx : X.env.scope.names.lookup x = some .local := by rw [C.sc]; exact eq_of_beq l1
        have ly : X.env.scope.names.lookup y = some .local := by rw [C.sc]; exact eq_of_beq l2
        refine PS.imp (ps_par C.calm (by rw [C.N]; exact C.nd) h1 k1 hij lx ly hA hw) fun D σ H q => ?_
        obtain ⟨δ, F, r, nd, h⟩ := q
        simp only [exec, ev, evP, pv, Option.bind_eq_bind] at h
        cases q1 : pvs S es δ with
        | none => rw [q1] at h; exact False.elim h
        | some ms =>
          rw [q1] at h
          simp only [Option.bind_some] at h
          cases q2 : imms ms with
          | none => rw [q2] at h; exact False.elim h
          | some ds =>
            rw [q2] at h
            simp only [Option.bind_some] at h
            by_cases hz : ds.length ≤ sizeLine
            · rw [if_pos hz] at h
              simp only [Fl.of, tgSet] at h
              by_cases hl : [i, j].length = ds.length ∧ ([i, j].all (· < δ.length)) = true
              · rw [if_pos hl] at h
                obtain ⟨d1, d2, rfl⟩ : ∃ d1 d2, ds = [d1, d2] := by
                  match ds, hl.1 with
                  | [d1, d2], _ => exact ⟨d1, d2, rfl⟩
                have b1 : i < δ.length := by have := hl.2; simp at this; exact this.1
                have b2 : j < δ.length := by have := hl.2; simp at this; exact this.2
                refine ⟨δ, F, ms, r, q1, fun vs H' G rs sm => ?_⟩
                have rd := imms_reps q2 rs
                cases rd with
                | cons ra rb =>
                  cases rb with
                  | cons rb rc =>
                    cases rc
                    obtain ⟨F2, r2, nd2, sub2⟩ := (r.same sm).store (Rep.i ra) (by simpa using nd) b1
                    obtain ⟨F3, r3, nd3, sub3⟩ := r2.store (Rep.i rb) (by simpa using nd2) (by simpa using b2)
                    exact ⟨_, _, rfl, h _ H' F3 r3 nd3 (Stp.same sm fun z hz => .inl (by
                      have := sub3 z hz
                      have := sub2 z (by simpa using this)
                      simpa using this)) ((kee_set h3).trans (kee_set k3))⟩
              · rw [if_neg hl] at h; exact False.elim h
            · rw [if_neg hz] at h; exact False.elim h
      · cases h
    · cases h
  · cases h
end
end Zy
end
section
/-! Zy, part O: stores into objects; loops. -/
namespace Zy
open PySem PySem.Spec PyProof.Rows L2

section
variable {X : Cx} {W : Wd} {S : Sg} {g : Gm} {E : WX} {pr : List Nat} {σ σ1 : L2.St} {H H1 : Hp} {F F1 : List Addr} {D : Ends}

/-! ### x = [.. for ..] -/
theorem all_sub {l m : List Nat} (h : l.all m.contains = true) : l ⊆ m := fun a ha => by simpa using List.all_eq_true.mp h a ha
theorem zs_lcx (C : Ct X W S g) {n : Nat} {y : Str} {py pos spos : Pos} {i : Nat} {elt : Expr} {gens : List Comprehension} {scope : Scope} {x : Ix} (hr : rJ n g (.ListComp elt gens scope pos) = some x) (ht : tgNm g (.Name y py) = some i) (hl : (py.line == pos.line) = true) (hloc : locB g.sc y = true)
    (ha : (scope.names.any fun (n, k) => n == y && (k == .local || k == .cell)) = false) : PS X (.Assign [.Name y py] (.ListComp elt gens scope pos) spos) (zs W S E g.pr (.asg i x)) := by
  obtain ⟨h1, _, _, h3⟩ := tgNm_ok C ht
  have h2 : X.env.scope.names.lookup y = some .local := by rw [C.sc]; exact eq_of_beq hloc
  have nd : X.N.Nodup := by rw [C.N]; exact C.nd
  cases n with
  | zero => cases hr
  | succ n =>
  have h := iok_all (W := W) (S := S) n
  simp only [rJ, lrOf] at hr
  split at hr
  all_goals first
    | (rename_i hz; cases hz; done)
    | skip
  · rename_i hz
    cases hz
    split at hr
    · rename_i hc
      simp only [Bool.and_eq_true] at hc
      split at hr
      · rename_i e1 e2 e3 e4
        split at hr
        · rename_i htt
          cases hr
          have sub := all_sub htt
          refine ⟨fun pins s σ H D I q => ?_⟩
          exact (ps_setLc C.calm nd h1 h2 (sw_true I.ok.kind h2 hl ha) ((rok_all n).I C e2 _) (blkOk_by (by rw [C.N, C.sc]; exact hc.1.1)) (fun s H D cl fp => gz_ok (C.blk _ s H D cl fp) e1) (fun s H D cl fp => h.Cd takes_no (C.blk _ s H D cl fp) e3) (fun s H D cl fp => (h.I takes_no (C.blk _ s H D cl fp) e4).1) (fun x => fset hc.1.2 _ x)).run pins s σ H D I (lcx_imp noX sub σ H _ (asg_core h3 q))
        · cases hr
      · cases hr
    · cases hr
  · cases hr
/-- a comprehension, stored by its own frame -/
theorem zs_lc (C : Ct X W S g) {n : Nat} {y : Str} {py pos spos : Pos} {i : Nat} {elt : Expr} {gens : List Comprehension} {scope : Scope} {x : Px} (hr : rP n g (.ListComp elt gens scope pos) = some x) (ht : tgNm g (.Name y py) = some i) (hl : (py.line == pos.line) = true) (hloc : locB g.sc y = true)
    (ha : (scope.names.any fun (n, k) => n == y && (k == .local || k == .cell)) = false) : PS X (.Assign [.Name y py] (.ListComp elt gens scope pos) spos) (zs W S E g.pr (.asg i (.p x))) := by
  obtain ⟨h1, _, _, h3⟩ := tgNm_ok C ht
  have h2 : X.env.scope.names.lookup y = some .local := by rw [C.sc]; exact eq_of_beq hloc
  have nd : X.N.Nodup := by rw [C.N]; exact C.nd
  cases n with
  | zero => cases hr
  | succ n =>
  have h := rok_all (W := W) (S := S) n
  simp only [rP] at hr
  split at hr
  all_goals first
    | (rename_i hz; cases hz; done)
    | skip
  · rename_i hz
    cases hz
    split at hr
    · rename_i hc
      simp only [Bool.and_eq_true] at hc
      split at hr
      · rename_i e1 e2 e3 e4
        split at hr
        · rename_i htt
          cases hr
          have sub := all_sub htt
          refine ⟨fun pins s σ H D I q => ?_⟩
          refine (ps_setLc C.calm nd h1 h2 (sw_true I.ok.kind h2 hl ha) (h.I C e2 _) (blkOk_by (by rw [C.N, C.sc]; exact hc.1)) (fun s H D cl fp => gz_ok (C.blk _ s H D cl fp) e1) (fun s H D cl fp => h.F (C.blk _ s H D cl fp) e3) (fun s H D cl fp => h.P (C.blk _ s H D cl fp) e4) (fun x => fset hc.2 _ x)).run pins s σ H D I ?_
          refine lc_imp sub σ H _ ?_
          obtain ⟨δ, F, r, nd', h'⟩ := asg_core h3 q
          have h' : RR W E σ H F (evP S _ δ) (okV W σ H F _) := h'
          unfold evP at h'
          split at h'
          · rename_i d e1
            refine ⟨δ, F, _, r, e1, fun v H' G rv sm _ => ?_⟩
            cases rv with
            | i rv => exact h' v H' [] F (.i rv) (r.same sm) nd' (Stp.same sm fun a z => .inl z)
          · rename_i m _ e1
            split at h'
            · rename_i hf
              refine ⟨δ, F, _, r, e1, fun v H' G rv sm fr => ?_⟩
              exact h' v H' G F rv (r.same sm) ((fr hf).apart r.own' nd') (Stp.same sm fun a z => (List.mem_append.mp z).elim (fun z => .inr ((fr hf).2 a z)) .inl)
            · exact False.elim h'
          · exact False.elim h'
        · cases hr
      · cases hr
    · cases hr
  · cases hr

/-! ### stores into objects -/
theorem Reps.app {W : Wd} {H : Hp} : ∀ {xs ys : List V} {ms ns : List M} {F G : List Addr}, Reps W H xs ms F → Reps W H ys ns G → Reps W H (xs ++ ys) (ms ++ ns) (F ++ G)
  | _, _, _, _, _, _, .nil, r => r
  | _, _, _, _, _, _, .cons h t, r => by
    rw [List.append_assoc]
    exact .cons h (Reps.app t r)
/-- a list whose items may be owned -/
theorem Rep.items {W : Wd} {H : Hp} {v : V} {p m x : M} {G : List Addr} (r : Rep W H v p G) (e : appM p m = some x) (hm : ∀ d, m ≠ .i d ∨ ∃ ms, p = .mls ms) :
    ∃ b xs ms F, v = .ref b ∧ H b = some (.lst xs) ∧ Reps W H xs ms F ∧ G = b :: F ∧ x = .mls (ms ++ [m]) ∧ ms.length < sizeLine := by
  unfold appM at e
  split at e
  · rename_i l d
    rcases hm d with h | ⟨ms, h⟩
    · exact absurd rfl h
    · cases h
  · cases e
    cases r with
    | lst h1 h2 =>
      cases h2
      exact ⟨_, [], [], [], rfl, h1, .nil, rfl, rfl, by decide⟩
  · split at e
    · rename_i hz
      cases e
      cases r with
      | mls h1 h2 => exact ⟨_, _, _, _, rfl, h1, h2, rfl, rfl, hz⟩
    · cases e
  · cases e
theorem zs_app (C : Ct X W S g) {o a : Expr} {q : Pl} {x : Ix} {ap cp pos : Pos} (hl : (ap.endLine == cp.line) = true) (hs : noSup o = true) (hp : plainE a = true) (ho : PE X o (zpl W q)) (w : PlW W q) (ha : PE X a (zx W S E x)) :
    PS X (.Expr (.Call (.Attribute o "append" ap) [a] [] cp) pos) (zs W S E pr (.app q x)) := by
  have hfew : ((backTo cp (starEach (a :: []) X.env)).all (fun x => !x.1) && (backToKw cp (keywordEach [] X.env)).all (fun x => x.1.isSome)
      && decide ((a :: ([] : List Expr)).length + ([] : List Keyword).length + (if ([] : List Keyword).isEmpty then 0 else 1) < 30)) = true := by
    rw [star_plain hp]; rfl
  have pa := pa_cons ha (pa_nil (X := X)) (star_plain hp [] X.env)
  refine PS.imp (ps_expr (pe_bm PySem.F.plainAttrs_list PySem.F.slot_list_append PySem.F.type_list_append mt_append ho pa (attrBase hs) hfew hl (star_plain hp [] X.env) rfl) rfl) fun D σ H h => ?_
  obtain ⟨δ, F, r, nd, h⟩ := h
  simp only [exec] at h
  split at h
  · rename_i hL
    have there : ∃ v b xs, PathV W H σ q v ∧ v = V.ref b ∧ H b = some (.lst xs) := by
      have hn : plGet q δ ≠ .hole := fun z => by rw [z] at hL; cases hL
      obtain ⟨v, A, G, B, eF, pv, rv, _⟩ := r.poke nd w rfl hn
      cases hm : plGet q δ with
      | lst l => rw [hm] at rv; cases rv with | lst h1 h2 => exact ⟨_, _, _, pv, rfl, h1⟩
      | mls l => rw [hm] at rv; cases rv with | mls h1 h2 => exact ⟨_, _, _, pv, rfl, h1⟩
      | _ => rw [hm] at hL; cases hL
    obtain ⟨v, b0, xs0, pv, rfl, hb0⟩ := there
    refine ⟨_, pv, .inl ⟨rfl, _, SqL.of hb0⟩, δ, F, r, nd, (Fin.of_ h).mono fun m δ1 h1 => fun v1 H1 G1 F1 rv1 re nd1 s => ?_⟩
    split at h1
    · rename_i y ey
      have nd2 : F1.Nodup := nd_right nd1
      have s1 : Stp W F H F1 H1 := s.sub fun a z => List.mem_append_right _ z
      by_cases hcase : ∃ l d, plGet q δ1 = .lst l ∧ m = .i d
      · obtain ⟨l, d, e1, rfl⟩ := hcase
        rw [e1] at ey
        simp only [appM] at ey
        split at ey
        · rename_i hz
          cases ey
          cases rv1 with
          | i rv1 =>
          obtain ⟨v', A', G', B', eF', pv', rv', cl⟩ := re.poke nd2 w e1 (by simp)
          cases (pv'.uniq (pv.step w s1))
          cases rv' with
          | @lst _ xs' _ hb' rd' =>
          have kp := Kp.put (o' := .lst (xs' ++ [v1])) hb' trivial
          have rep := cl b0 _ (.lst (xs' ++ [v1])) (.lst (l ++ [d])) [b0] List.mem_cons_self hb' trivial (.lst upd_same ((RepDs.mono kp _ rd').app (.cons (RepD.mono kp _ rv1) .nil)))
          rw [← eF'] at rep
          refine ⟨b0, xs', v1, rfl, rfl, hb', by rw [rd'.length]; exact hz, h1 σ _ F1 rep nd2 (Stp.trans s1 (fun a z => z) (Stp.put ?_ hb' trivial (fun b z => z) fun C dx vs z => by cases z)) (Kee.refl _ _)⟩
          rw [eF']
          exact List.mem_append_right _ List.mem_cons_self
        · cases ey
      · have hn1 : plGet q δ1 ≠ .hole := fun z => by rw [z] at ey; cases ey
        obtain ⟨v', A', G', B', eF', pv', rv', cl⟩ := re.poke nd2 w rfl hn1
        cases (pv'.uniq (pv.step w s1))
        obtain ⟨b, xs, ms, F0, eb, hb, rs, rfl, rfl, hz⟩ := rv'.items ey fun d => by
          by_cases hd : m = .i d
          · right
            subst hd
            cases hp1 : plGet q δ1 with
            | lst l => exact absurd ⟨l, d, hp1, rfl⟩ hcase
            | mls ms => exact ⟨ms, rfl⟩
            | _ => rw [hp1] at ey; cases ey
          · exact .inl hd
        cases eb
        have perm : (A' ++ ((b0 :: (F0 ++ G1)) ++ B')).Perm (G1 ++ F1) := by
          rw [eF']
          refine List.perm_iff_count.mpr fun z => ?_
          simp only [List.count_append, List.count_cons]
          omega
        have nd3 : (A' ++ ((b0 :: (F0 ++ G1)) ++ B')).Nodup := perm.nodup_iff.mpr nd1
        have kp := Kp.put (o' := .lst (xs ++ [v1])) hb trivial
        have hna : b0 ∉ F0 ++ G1 := by
          have h2 : ((b0 :: (F0 ++ G1)) ++ B').Nodup := nd_right nd3
          have h3 := h2.sublist (List.sublist_append_left _ _)
          exact (List.nodup_cons.mp h3).1
        have rs2 : Reps W H1 (xs ++ [v1]) (ms ++ [m]) (F0 ++ (G1 ++ [])) := rs.app (.cons rv1 .nil)
        rw [List.append_nil] at rs2
        have rs3 := rs2.mono kp _ fun c hc o ho _ => by
          rw [upd_ne (fun z => hna (by rw [← z]; exact hc))]
          exact ho
        have rep := cl b0 _ (.lst (xs ++ [v1])) (.mls (ms ++ [m])) (b0 :: (F0 ++ G1)) List.mem_cons_self hb trivial (.mls upd_same rs3)
        refine ⟨b0, xs, v1, rfl, rfl, hb, by rw [rs.length]; exact hz, h1 σ _ _ rep nd3 ((s.trans (fun a z => z) (Stp.put (F := G1 ++ F1) (F' := G1 ++ F1) ?_ hb trivial (fun b z => z) fun C1 dx1 vs1 z => by cases z)).sub fun c z => perm.mem_iff.mp z) (Kee.refl _ _)⟩
        rw [eF']
        exact List.mem_append_right _ (List.mem_append_right _ List.mem_cons_self)
    · exact False.elim h1
  · exact False.elim h
theorem zs_ext (C : Ct X W S g) {o a : Expr} {q : Pl} {x : Ix} {ap cp pos : Pos} (hl : (ap.endLine == cp.line) = true) (hs : noSup o = true) (hp : plainE a = true) (ho : PE X o (zpl W q)) (w : PlW W q) (ha : PE X a (zx W S E x)) :
    PS X (.Expr (.Call (.Attribute o "extend" ap) [a] [] cp) pos) (zs W S E pr (.ext q x)) := by
  have hfew : ((backTo cp (starEach (a :: []) X.env)).all (fun x => !x.1) && (backToKw cp (keywordEach [] X.env)).all (fun x => x.1.isSome)
      && decide ((a :: ([] : List Expr)).length + ([] : List Keyword).length + (if ([] : List Keyword).isEmpty then 0 else 1) < 30)) = true := by
    rw [star_plain hp]; rfl
  have pa := pa_cons ha (pa_nil (X := X)) (star_plain hp [] X.env)
  refine PS.imp (ps_expr (pe_bm PySem.F.plainAttrs_list PySem.F.slot_list_extend PySem.F.type_list_extend mt_extend ho pa (attrBase hs) hfew hl (star_plain hp [] X.env) rfl) rfl) fun D σ H h => ?_
  obtain ⟨δ, F, r, nd, h⟩ := h
  simp only [exec] at h
  split at h
  · rename_i hL
    have there : ∃ v b xs, PathV W H σ q v ∧ v = V.ref b ∧ H b = some (.lst xs) := by
      have hn : plGet q δ ≠ .hole := fun z => by rw [z] at hL; cases hL
      obtain ⟨v, A, G, B, eF, pv, rv, _⟩ := r.poke nd w rfl hn
      cases hm : plGet q δ with
      | lst l => rw [hm] at rv; cases rv with | lst h1 h2 => exact ⟨_, _, _, pv, rfl, h1⟩
      | _ => rw [hm] at hL; cases hL
    obtain ⟨v, b0, xs0, pv, rfl, hb0⟩ := there
    refine ⟨_, pv, .inl ⟨rfl, _, SqL.of hb0⟩, δ, F, r, nd, (Fin.of_ h).mono fun m δ1 h1 => fun v1 H1 G1 F1 rv1 re nd1 s => ?_⟩
    split at h1
    · rename_i y ey
      have nd2 : F1.Nodup := nd_right nd1
      have s1 : Stp W F H F1 H1 := s.sub fun a z => List.mem_append_right _ z
      unfold extM at ey
      split at ey
      · rename_i p1 m1 l rr e1
        split at ey
        · rename_i hz
          cases ey
          cases rv1 with
          | @lst b2 zs _ hb2 rd2 =>
          obtain ⟨v', A', G', B', eF', pv', rv', cl⟩ := re.poke nd2 w e1 (by simp)
          cases (pv'.uniq (pv.step w s1))
          cases rv' with
          | @lst _ xs' _ hb' rd' =>
          have kp := Kp.put (o' := .lst (xs' ++ zs)) hb' trivial
          have rep := cl b0 _ (.lst (xs' ++ zs)) (.lst (l ++ rr)) [b0] List.mem_cons_self hb' trivial (.lst upd_same ((RepDs.mono kp _ rd').app (RepDs.mono kp _ rd2)))
          rw [← eF'] at rep
          refine ⟨b0, b2, xs', zs, rfl, rfl, hb', hb2, by rw [rd'.length, rd2.length]; exact hz, h1 σ _ F1 rep nd2 (Stp.trans s1 (fun a z => z) (Stp.put ?_ hb' trivial (fun b z => z) fun C dx vs z => by cases z)) (Kee.refl _ _)⟩
          rw [eF']
          exact List.mem_append_right _ List.mem_cons_self
        · cases ey
      · cases ey
    · exact False.elim h1
  · exact False.elim h
theorem RepK.any {K : Kc} {H : Hp} (k : Key) : ∀ {es : List (Key × V)} {kvs : List (Zy.D × Zy.D)}, RepK K H es kvs → (es.any fun kv => decide (kv.1 = k)) = (kvs.any fun kv => decide (kv.1 = keyD k))
  | _, _, .nil => rfl
  | _, _, .cons (k := k') r t => by
    rw [List.any_cons, List.any_cons, RepK.any k t]
    congr 1
    show decide (k' = k) = decide (keyD k' = keyD k)
    by_cases h : k' = k
    · subst h; simp
    · rw [decide_eq_false h, decide_eq_false fun z => h (keyD_inj z)]
theorem RepK.length {K : Kc} {H : Hp} {es : List (Key × V)} {kvs : List (Zy.D × Zy.D)} (h : RepK K H es kvs) : es.length = kvs.length := by
  induction h with
  | nil => rfl
  | cons _ _ ih => exact congrArg (· + 1) ih
theorem RepT.length {K : Kc} {H : Hp} {es : List (List Key × V)} {kvs : List (Zy.D × Zy.D)} (h : RepT K H es kvs) : es.length = kvs.length := by
  induction h with
  | nil => rfl
  | cons _ _ ih => exact congrArg (· + 1) ih
theorem RepK.put {K : Kc} {H : Hp} {k : Key} {v : V} {d : Zy.D} {es : List (Key × V)} {kvs : List (Zy.D × Zy.D)} (h : RepK K H es kvs) (r : RepD K H v d) : RepK K H (putK es k v) (putD kvs (keyD k) d) := by
  unfold putK putD
  rw [h.any k]
  split
  · have : ∀ {es : List (Key × V)} {kvs : List (Zy.D × Zy.D)}, RepK K H es kvs → RepK K H (es.map fun kv => if kv.1 = k then (kv.1, v) else kv) (kvs.map fun kv => if kv.1 = keyD k then (kv.1, d) else kv) := by
      intro es kvs h
      induction h with
      | nil => exact .nil
      | @cons k2 w2 _ d2 _ r2 t2 ih2 =>
        rw [List.map_cons, List.map_cons]
        by_cases h3 : k2 = k
        · subst h3; rw [if_pos rfl, if_pos rfl]; exact .cons r ih2
        · rw [if_neg h3, if_neg fun z => h3 (keyD_inj z)]; exact .cons r2 ih2
    exact this h
  · have : ∀ {es : List (Key × V)} {kvs : List (Zy.D × Zy.D)}, RepK K H es kvs → RepK K H (es ++ [(k, v)]) (kvs ++ [(keyD k, d)]) := by
      intro es kvs h
      induction h with
      | nil => exact .cons r .nil
      | cons r2 _ ih2 => exact .cons r2 ih2
    exact this h
theorem RepT.any {K : Kc} {H : Hp} (k : List Key) : ∀ {es : List (List Key × V)} {kvs : List (Zy.D × Zy.D)}, RepT K H es kvs → (es.any fun kv => decide (kv.1 = k)) = (kvs.any fun kv => decide (kv.1 = Zy.D.tup (k.map keyD)))
  | _, _, .nil => rfl
  | _, _, .cons (k := k') r t => by
    rw [List.any_cons, List.any_cons, RepT.any k t]
    congr 1
    show decide (k' = k) = decide (Zy.D.tup (k'.map keyD) = Zy.D.tup (k.map keyD))
    by_cases h : k' = k
    · subst h; simp
    · rw [decide_eq_false h, decide_eq_false fun z => h (keyDs_inj (Zy.D.tup.inj z))]
theorem RepT.put {K : Kc} {H : Hp} {k : List Key} {v : V} {d : Zy.D} {es : List (List Key × V)} {kvs : List (Zy.D × Zy.D)} (h : RepT K H es kvs) (r : RepD K H v d) : RepT K H (putK es k v) (putD kvs (.tup (k.map keyD)) d) := by
  unfold putK putD
  rw [h.any k]
  split
  · have : ∀ {es : List (List Key × V)} {kvs : List (Zy.D × Zy.D)}, RepT K H es kvs → RepT K H (es.map fun kv => if kv.1 = k then (kv.1, v) else kv) (kvs.map fun kv => if kv.1 = Zy.D.tup (k.map keyD) then (kv.1, d) else kv) := by
      intro es kvs h
      induction h with
      | nil => exact .nil
      | @cons k2 w2 _ d2 _ r2 t2 ih2 =>
        rw [List.map_cons, List.map_cons]
        by_cases h3 : k2 = k
        · subst h3; rw [if_pos rfl, if_pos rfl]; exact .cons r ih2
        · rw [if_neg h3, if_neg fun z => h3 (keyDs_inj (Zy.D.tup.inj z))]; exact .cons r2 ih2
    exact this h
  · have : ∀ {es : List (List Key × V)} {kvs : List (Zy.D × Zy.D)}, RepT K H es kvs → RepT K H (es ++ [(k, v)]) (kvs ++ [(Zy.D.tup (k.map keyD), d)]) := by
      intro es kvs h
      induction h with
      | nil => exact .cons r .nil
      | cons r2 _ ih2 => exact .cons r2 ih2
    exact this h
def rSetM : TSet := fun o i v H Q => rSetL o i v H Q ∨ rSetD o i v H Q
theorem set_M (hu : X.A.units + 1 < cLine) : PSet X rSetM := by
  intro pins s σ H o i v ov iv u Q I ro ri rv h
  rcases h with h | h
  · exact set_list pins s σ H o i v ov iv u Q I ro ri rv h
  · exact set_dict hu pins s σ H o i v ov iv u Q I ro ri rv h
theorem Reps.setI {v : V} {d : Zy.D} (r : RepD W.kk H v d) : ∀ {vs : List V} {ms : List M} {F : List Addr} (j : Nat), Reps W H vs ms F → ∃ F', Reps W H (vs.set j v) (ms.set j (.i d)) F' ∧ F'.Sublist F
  | _, _, _, _, .nil => ⟨[], .nil, List.Sublist.refl _⟩
  | _, _, _, 0, .cons (G := G) (F := F0) _ t => ⟨[] ++ F0, .cons (.i r) t, List.sublist_append_right G F0⟩
  | _, _, _, j + 1, .cons (G := G) (F := F0) a t => by
    obtain ⟨F', h1, h2⟩ := Reps.setI r j t
    exact ⟨G ++ F', .cons a h1, List.Sublist.append_left h2 G⟩
theorem zs_setI (C : Ct X W S g) {o k e : Expr} {q : Pl} {y : Px} {x : Ix} {ps pos : Pos} (hl : isLC e = false) (hk : plainE k = true) (ho : PE X o (zpl W q)) (w : PlW W q) (hkk : PE X k (zp W S y)) (ha : PE X e (zx W S E x)) :
    PS X (.Assign [.Subscript o k ps] e pos) (zs W S E pr (.setI q y x)) := by
  have hs : swapsWithSole [.Subscript o k ps] e pos.line X.env = pure false := by
    unfold swapsWithSole
    exact sw_none hl _ _ _
  have hw : swappedStores [.Subscript o k ps] e X.env = pure none := by
    cases e <;> rfl
  have hg : PG X (.Subscript o k ps) (gSub (zpl W q) (zp W S y) rSetM) := pg_sub ho hkk (set_M (by have := C.hu; omega)) (by cases k <;> first | (intro _; rfl) | cases hk)
  refine PS.imp (ps_asg ha hg hs hw) fun D σ H h => ?_
  obtain ⟨δ, F, r, nd, h⟩ := h
  simp only [exec] at h
  refine ⟨δ, F, r, nd, (Fin.of_ h).mono fun m δ1 h1 => fun v1 H1 G1 F1 rv1 re nd1 s => ?_⟩
  have ndF : F1.Nodup := nd_right nd1
  have sF := s.sub (B := F1) fun a z => List.mem_append_right _ z
  split at h1
  · rename_i j l d e1 e2
    split at h1
    · rename_i n e3
      obtain ⟨v', A', G', B', eF', pv', rv', _⟩ := re.poke ndF w e2 (by simp)
      refine ⟨v', pv', δ1, F1, _, re, e1, fun vk H2 Gk rk sm _ => ?_⟩
      obtain ⟨v2, A2, G2, B2, eF2, pv2, rv2, cl⟩ := (re.same sm).poke ndF w e2 (by simp)
      cases (pv2.uniq (pv'.step w (Stp.same (F := F1) (G := F1) sm fun a z => .inl z)))
      cases rk with
      | i rk =>
      cases rk
      cases rv1 with
      | i rv1 =>
      cases rv2 with
      | @lst b xs _ hb rd =>
      have kp := Kp.put (o' := .lst (xs.set n v1)) hb trivial
      have rep := cl b _ (.lst (xs.set n v1)) (.lst (l.set n d)) [b] List.mem_cons_self hb trivial (.lst upd_same ((rd.set (rv1.mono (Kp.same sm) _) n).mono kp _))
      rw [← eF2] at rep
      refine .inl ⟨b, xs, j, n, rfl, rfl, hb, by rw [rd.length]; exact e3, h1 σ _ F1 rep ndF ((sF.trans (fun a z => z) (Stp.same sm (F := F1) (G := F1) fun a z => .inl z)).trans (fun a z => z) (Stp.put ?_ hb trivial (fun b z => z) fun C dx vs z => by cases z)) (Kee.refl _ _)⟩
      rw [eF2]
      exact List.mem_append_right _ List.mem_cons_self
    · exact False.elim h1
  · rename_i j l d e1 e2
    split at h1
    · rename_i n e3
      obtain ⟨v', A', G', B', eF', pv', rv', _⟩ := re.poke ndF w e2 (by simp)
      refine ⟨v', pv', δ1, F1, _, re, e1, fun vk H2 Gk rk sm _ => ?_⟩
      obtain ⟨v2, A2, G2, B2, eF2, pv2, rv2, cl⟩ := (re.same sm).poke ndF w e2 (by simp)
      cases (pv2.uniq (pv'.step w (Stp.same (F := F1) (G := F1) sm fun a z => .inl z)))
      cases rk with
      | i rk =>
      cases rk
      cases rv1 with
      | i rv1 =>
      cases rv2 with
      | @mls b xs _ Fm hb rd =>
      have kp := Kp.put (o' := .lst (xs.set n v1)) hb trivial
      obtain ⟨Fm', rs, sl⟩ := Reps.setI (rv1.mono (Kp.same sm) _) n rd
      have ndb : (b :: Fm).Nodup := nd_left (nd_right (eF2 ▸ ndF))
      have rs2 : Reps W (upd H2 b (.lst (xs.set n v1))) (xs.set n v1) (l.set n (.i d)) Fm' := rs.mono kp _ fun a ha o ho _ => by
        rw [upd_ne (fun z => (List.nodup_cons.mp ndb).1 (by rw [← z]; exact sl.subset ha))]
        exact ho
      have rep := cl b _ (.lst (xs.set n v1)) (.mls (l.set n (.i d))) (b :: Fm') List.mem_cons_self hb trivial (.mls upd_same rs2)
      have sl2 : (A2 ++ ((b :: Fm') ++ B2)).Sublist F1 := by
        rw [eF2]
        exact List.Sublist.append_left (List.Sublist.append_right (sl.cons₂ b) B2) A2
      refine .inl ⟨b, xs, j, n, rfl, rfl, hb, by rw [rd.length]; exact e3, h1 σ _ _ rep (ndF.sublist sl2) ((sF.trans (fun a z => z) (Stp.same sm (F := F1) (G := F1) fun a z => .inl z)).trans (fun a z => z) (Stp.put ?_ hb trivial (fun b z => sl2.subset z) fun C dx vs z => by cases z)) (Kee.refl _ _)⟩
      rw [eF2]
      exact List.mem_append_right _ List.mem_cons_self
    · exact False.elim h1
  · rename_i y0 t kvs d e1 e2
    split at h1
    · rename_i hz
      obtain ⟨v', A', G', B', eF', pv', rv', _⟩ := re.poke ndF w e2 (by simp)
      refine ⟨v', pv', δ1, F1, _, re, e1, fun vk H2 Gk rk sm _ => ?_⟩
      obtain ⟨v2, A2, G2, B2, eF2, pv2, rv2, cl⟩ := (re.same sm).poke ndF w e2 (by simp)
      cases (pv2.uniq (pv'.step w (Stp.same (F := F1) (G := F1) sm fun a z => .inl z)))
      have hmem : ∀ b, G2 = [b] → b ∈ F1 := fun b e => by
        rw [eF2, e]
        exact List.mem_append_right _ List.mem_cons_self
      cases rk with
      | i rk =>
      cases rv1 with
      | i rv1 =>
      have rv1' := RepD.mono (Kp.same sm) _ rv1
      cases rv2 with
      | @dicK b es _ hb rd =>
        obtain ⟨k0, hk0, hk1⟩ := flat_key rk hz.2
        subst hk0
        subst hk1
        have kp := Kp.put (o' := .dK (putK es k0 v1)) hb trivial
        have rep := cl b _ (.dK (putK es k0 v1)) (.dic false (putD kvs (keyD k0) d)) [b] List.mem_cons_self hb trivial (.dicK upd_same ((rd.put rv1').mono kp))
        rw [← eF2] at rep
        have hlen : es.length < sizeLine := by rw [rd.length]; exact hz.1
        exact .inr ⟨b, _, rfl, .k hb hlen, h1 σ _ F1 rep ndF ((sF.trans (fun a z => z) (Stp.same sm (F := F1) (G := F1) fun a z => .inl z)).trans (fun a z => z) (Stp.put (hmem b rfl) hb trivial (fun b z => z) fun C dx vs z => by cases z)) (Kee.refl _ _)⟩
      | @dicT b es _ h0 hb rd =>
        cases rk with
        | @tup p ps ds hp0 rps =>
        have hp := Or.resolve_right hp0 (h0 _ _)
        obtain ⟨ks, hk0, hk1⟩ := flat_keys rps hz.2
        subst hk0
        subst hk1
        have kp := Kp.put (o' := .dT (putK es ks v1)) hb trivial
        have rep := cl b _ (.dT (putK es ks v1)) (.dic true (putD kvs (.tup (ks.map keyD)) d)) [b] List.mem_cons_self hb trivial (.dicT h0 upd_same ((rd.put rv1').mono kp))
        rw [← eF2] at rep
        have hlen : es.length < sizeLine := by rw [rd.length]; exact hz.1
        exact .inr ⟨b, _, rfl, .t hb hp hlen, h1 σ _ F1 rep ndF ((sF.trans (fun a z => z) (Stp.same sm (F := F1) (G := F1) fun a z => .inl z)).trans (fun a z => z) (Stp.put (hmem b rfl) hb trivial (fun b z => z) fun C dx vs z => by cases z)) (Kee.refl _ _)⟩
        | non => cases hz.2
        | bl _ => cases hz.2
        | int _ => cases hz.2
        | str _ => cases hz.2
    · exact False.elim h1
  · exact False.elim h1
theorem RepF.none_ {k : Nat} (hk : W.fi (W.fn k) = k) : ∀ {vs : List (Str × V)} {fs : List (Nat × M)} {F : List Addr}, RepF W H vs fs F → (fs.lookup k).isNone = true → vs.lookup (W.fn k) = none
  | _, _, _, .nil, _ => rfl
  | _, _, _, .cons (k := k') e0 r t, e => by
    rw [List.lookup_cons] at e ⊢
    by_cases h : k = k'
    · subst h
      rw [beq_self_eq_true] at e
      cases e
    · have h2 : ¬ W.fn k = W.fn k' := fun z => h (by rw [← hk, z, e0])
      rw [beq_eq_false_iff_ne.mpr h] at e
      rw [beq_eq_false_iff_ne.mpr h2]
      exact RepF.none_ hk t e
theorem RepF.length : ∀ {vs : List (Str × V)} {fs : List (Nat × M)} {F : List Addr}, RepF W H vs fs F → vs.length = fs.length
  | _, _, _, .nil => rfl
  | _, _, _, .cons _ _ t => congrArg (· + 1) (RepF.length t)
theorem RepF.put {k : Nat} (hk : W.fi (W.fn k) = k) {y : V} {m : M} {G : List Addr} (ry : Rep W H y m G) : ∀ {vs : List (Str × V)} {fs : List (Nat × M)} {F : List Addr}, RepF W H vs fs F → (G ++ F).Nodup →
    ∃ F', RepF W H (putF (W.fn k) y vs) (putFd fs k m) F' ∧ F'.Nodup ∧ ∀ a ∈ F', a ∈ G ++ F
  | _, _, _, .nil, nd => ⟨G ++ [], .cons hk ry .nil, nd, fun a h => h⟩
  | _, _, _, .cons (k := k') (v := v0) (vs := vs0) (m := m0) (fs := fs0) (G := G0) (F := F0) e0 r t, nd => by
    unfold putF putFd
    by_cases h : k = k'
    · subst h
      rw [if_pos rfl, if_pos rfl]
      refine ⟨G ++ F0, .cons hk ry t, nd.sublist (List.Sublist.append_left (List.sublist_append_right G0 F0) G), fun a z => ?_⟩
      simp only [List.mem_append] at z ⊢
      exact z.imp id .inr
    · have h2 : ¬ W.fn k' = W.fn k := fun z => h (by rw [← hk, ← z, e0])
      rw [if_neg h2, if_neg (fun z => h z.symm)]
      have n2 : (G ++ F0).Nodup := nd.sublist (List.Sublist.append_left (List.sublist_append_right G0 F0) G)
      obtain ⟨F', h3, h4, h5⟩ := RepF.put hk ry t n2
      refine ⟨G0 ++ F', .cons e0 r h3, nd_mk (nd_left (nd_right nd)) h4 fun a z1 z2 => ?_, fun a z => ?_⟩
      · rcases List.mem_append.mp (h5 a z2) with z | z
        · exact nd_ne nd z (List.mem_append_left _ z1)
        · exact nd_ne (nd_right nd) z1 z
      · have := h5 a
        simp only [List.mem_append] at z this ⊢
        rcases z with z | z
        · exact .inr (.inl z)
        · exact (this z).imp id .inr
theorem get_list : L2.PGet X (rIxL X.K) := by
  intro pins s σ H x y v u Q I rx ry h
  obtain ⟨p, xs, i, z, rfl, rfl, hq, he, q⟩ := h
  cases rx
  obtain ⟨t, rfl⟩ := ry
  obtain ⟨its, r, pl, hz⟩ := I.list hq
  obtain ⟨j, h1, h2, h3, h4, h5⟩ := atI_get he
  obtain ⟨w, ew, rw'⟩ := r.get h2
  have hl := r.length
  have hn := line63
  have fin : EP X pins σ Q w s := ⟨z, H, I, rw', q⟩
  by_cases h0 : 0 ≤ i
  · have hj : i.toNat = j := by
      rw [seqIndex_of h0 h5] at h1
      exact Option.some.inj h1
    exact wpAny_getItem_list pl.isList h0 (by omega) (by rw [hj]; simpa using ew) fin
  · have hj : (i + (its.toArray.size : Int)).toNat = j := by
      rw [seqIndex_neg (by omega) h4] at h1
      rw [List.size_toArray, ← hl]
      exact Option.some.inj h1
    exact wpAny_getItem_list_neg pl.isList (by omega) (by rw [List.size_toArray] <;> omega) (by omega) (by rw [hj]; simpa using ew) fin
theorem zs_augI (C : Ct X W S g) {o e cf : Expr} {ca : List Expr} {ck : List Keyword} {cp : Pos} {q : Pl} {y x : Px} {op : Operator} {b : Bool} {ps pos : Pos} (ho : PE X o (zpl W q)) (w : PlW W q) (hk : PE X (.Call cf ca ck cp) (zp W S y)) (ha : PE X e (zp W S x)) (hop : augO op = some b) :
    PS X (.AugAssign (.Subscript o (.Call cf ca ck cp) ps) op e pos) (zs W S E pr (.augI q y b x)) := by
  have hp : PIp X op (ipI (augF b)) := by
    cases op <;> first | (cases hop; exact ip_add) | (cases hop; exact ip_sub) | cases hop
  refine PS.imp (ps_augS ho hk get_list ha hp set_list) fun D σ H h => ?_
  obtain ⟨δ, F, r, nd, h⟩ := h
  simp only [exec] at h
  split at h
  · rename_i z ez
    simp only [Option.bind_eq_bind, Option.bind_eq_some_iff] at ez
    obtain ⟨j, e1, c, e2, e3⟩ := ez
    unfold augIM at e3
    split at e3
    · rename_i l j c eq
      split at e3
      · rename_i n a e4 e5
        cases e3
        obtain ⟨v', A', G', B', eF', pv', rv', _⟩ := r.poke nd w eq (by simp)
        refine ⟨v', pv', δ, F, _, r, e1, fun vk H1 Gk rk sm _ => ?_⟩
        cases rk with
        | i rk =>
        cases rk
        cases rv' with
        | @lst a0 xs _ hb0 rd0 =>
        have hb1 := sm.s _ _ hb0 nofun
        have rd1 := RepDs.mono (Kp.same sm) _ rd0
        obtain ⟨va, ea, ra⟩ := rd1.atI e5
        cases ra
        refine ⟨a0, xs, j, _, rfl, rfl, SqL.of hb1, ea, δ, F, _, r.same sm, e2, fun vc H2 Gc rc sm2 _ => ?_⟩
        cases rc with
        | i rc =>
        cases rc
        refine ⟨a, c, rfl, rfl, ?_⟩
        have sm3 := sm.trans sm2
        obtain ⟨v2, A2, G2, B2, eF2, pv2, rv2, cl⟩ := (r.same sm3).poke nd w eq (by simp)
        cases (pv2.uniq (pv'.step w (Stp.same (F := F) (G := F) sm3 fun a z => .inl z)))
        cases rv2 with
        | @lst b2 xs2 _ hb rd =>
        have hxs : xs2 = xs := by
          have := (sm3.s _ _ hb0 nofun).symm.trans hb
          cases this; rfl
        subst hxs
        have kp := Kp.put (o' := .lst (xs2.set n (.int (augF b a c)))) hb trivial
        have rep := cl a0 _ (.lst (xs2.set n (.int (augF b a c)))) (.lst (l.set n (.int (augF b a c)))) [a0] List.mem_cons_self hb trivial (.lst upd_same ((rd.set (.int _) n).mono kp _))
        rw [← eF2] at rep
        refine ⟨a0, xs2, j, n, rfl, rfl, hb, by rw [rd.length]; exact e4, h σ _ F rep nd ((Stp.same (F := F) (G := F) sm3 fun a z => .inl z).trans (fun a z => z) (Stp.put ?_ hb trivial (fun b z => z) fun C dx vs z => by cases z)) (Kee.refl _ _)⟩
        rw [eF2]
        exact List.mem_append_right _ List.mem_cons_self
      · cases e3
    · cases e3
  · exact False.elim h
theorem zs_setF (C : Ct X W S g) {o e : Expr} {q : Pl} {f : Str} {k : Nat} {x : Ix} {ps pos : Pos} (hl : isLC e = false) (hf : g.fld.lookup f = some k) (ho : PE X o (zpl W q)) (w : PlW W q) (ha : PE X e (zx W S E x)) :
    PS X (.Assign [.Attribute o f ps] e pos) (zs W S E pr (.setF q k x)) := by
  obtain ⟨f1, f2⟩ := C.fld f k hf
  refine PS.imp (ps_fld ho ha (sw_none hl _ _ _)) fun D σ H h => ?_
  obtain ⟨δ, F, r, nd, h⟩ := h
  simp only [exec] at h
  refine ⟨δ, F, r, nd, (Fin.of_ h).mono fun m δ1 h1 => fun v1 H1 G1 F1 rv1 re nd1 s => ?_⟩
  have ndF : F1.Nodup := nd_right nd1
  split at h1
  · rename_i c fs e1
    split at h1
    · rename_i hz
      obtain ⟨v', A, G, B, eF, pv, rv, cl⟩ := re.poke ndF w e1 (by simp)
      cases rv with
      | @ins a dx _ vs _ F0 gc hb rf =>
      obtain ⟨c1, c2⟩ := C.cls c gc
      have hk : W.fi (W.fn k) = k := by rw [f1]; exact f2
      have ndb : (G1 ++ (a :: F0)).Nodup := nd1.sublist (List.Sublist.append_left (by rw [eF]; exact (List.sublist_append_left _ B).trans (List.sublist_append_right A _)) G1)
      have nd0 : (G1 ++ F0).Nodup := ndb.sublist (List.Sublist.append_left (List.sublist_cons_self a F0) G1)
      obtain ⟨F', h3, h4, h5⟩ := RepF.put hk rv1 rf nd0
      have kp := Kp.put (o' := .ins (W.ca c) dx (putF f v1 vs)) hb trivial
      have hna : a ∉ F' := fun z => by
        rcases List.mem_append.mp (h5 a z) with z | z
        · exact nd_ne ndb z List.mem_cons_self
        · exact (List.nodup_cons.mp (nd_right ndb)).1 z
      rw [f1] at h3
      have rf2 := h3.mono kp _ fun b hb1 o ho _ => by
        rw [upd_ne (fun z => hna (by rw [← z]; exact hb1))]
        exact ho
      have rep := cl a _ (.ins (W.ca c) dx (putF f v1 vs)) (.ins c (putFd fs k m)) (a :: F') List.mem_cons_self hb trivial (.ins gc upd_same rf2)
      have sub : ∀ b ∈ A ++ ((a :: F') ++ B), b ∈ G1 ++ F1 := fun b z => by
        have := h5 b
        rw [eF]
        simp only [List.mem_append, List.mem_cons] at z this ⊢
        rcases z with z | (z | z) | z
        · exact .inr (.inl z)
        · exact .inr (.inr (.inl (.inl z)))
        · rcases this z with z | z
          · exact .inl z
          · exact .inr (.inr (.inl (.inr z)))
        · exact .inr (.inr (.inr z))
      have nd3 : (A ++ ((a :: F') ++ B)).Nodup := by
        have nF : (A ++ ((a :: F0) ++ B)).Nodup := by rw [← eF]; exact ndF
        have n1 : (A ++ B).Nodup := nF.sublist (List.Sublist.append_left (List.sublist_append_right _ B) A)
        have p : (A ++ ((a :: F') ++ B)).Perm ((a :: F') ++ (A ++ B)) := by
          have := List.Perm.append_right B (List.perm_append_comm (l₁ := A) (l₂ := a :: F'))
          simpa only [List.append_assoc] using this
        refine p.nodup_iff.mpr (nd_mk (List.nodup_cons.mpr ⟨hna, h4⟩) n1 fun b z1 z2 => ?_)
        rcases List.mem_cons.mp z1 with z | z
        · subst z
          rcases List.mem_append.mp z2 with z | z
          · exact nd_ne nF z (List.mem_append_left _ List.mem_cons_self)
          · exact nd_ne (nd_right nF) List.mem_cons_self z
        · rcases List.mem_append.mp (h5 b z) with y | y
          · refine nd_ne nd1 y ?_
            rw [eF]
            rcases List.mem_append.mp z2 with z | z
            · exact List.mem_append_left _ z
            · exact List.mem_append_right _ (List.mem_append_right _ z)
          · rcases List.mem_append.mp z2 with z | z
            · exact nd_ne nF z (List.mem_append_left _ (List.mem_cons_of_mem _ y))
            · exact nd_ne (nd_right nF) (List.mem_cons_of_mem _ y) z
      refine ⟨_, pv, a, W.ca c, dx, vs, rfl, hb, c1, c2 f k hf, by rw [rf.length]; exact hz.1, h1 σ _ _ rep nd3 ((s.trans (fun a z => z) (Stp.put (F := G1 ++ F1) (F' := G1 ++ F1) ?_ hb trivial (fun b z => z) fun C1 dx1 vs1 z => ?_)).sub sub) (Kee.refl _ _)⟩
      · rw [eF]
        exact List.mem_append_right _ (List.mem_append_right _ List.mem_cons_self)
      · cases z
        refine ⟨_, rfl, fun j u h6 h7 h8 => ?_⟩
        rw [lookup_putF]
        by_cases hj : W.fn j = f
        · exfalso
          have : j = k := by rw [← h7, hj, f2]
          subst this
          rcases hz.2 with z | z
          · omega
          · have h9 := rf.none_ hk z
            rw [h8] at h9
            cases h9
        · rw [if_neg hj]
          exact h8
    · exact False.elim h1
  · exact False.elim h1
end
end Zy
end
section
/-! Zy, part Q: loops. -/
namespace Zy
open PySem PySem.Spec PyProof.Rows L2

section
variable {X : Cx} {W : Wd} {S : Sg} {g : Gm} {E : WX} {pr : List Nat} {σ σ1 : L2.St} {H H1 : Hp} {F F1 : List Addr} {D : Ends}
theorem zs_whl (hp : PassesOwn (model X.prog X.w) X.A X.env X.xe) {c : Expr} {b : List Stmt} {x : Tx} {y : List Sm} {pos : Pos} (hc : PT X c (zxt W S E x)) (hb : PSs X b (zss W S E pr y)) : PS X (.While c b [] pos) (zs W S E pr (.whl x y)) := by
  refine PS.imp (ps_while hp hc hb) fun D σ H q => ?_
  obtain ⟨δ, F, r, nd, h⟩ := q
  refine ⟨fun n σ' H' => ∃ δ' F', REnv W H' σ' δ' F' ∧ F'.Nodup ∧ Fin W E pr σ' H' F' D (whlL (fun δ1 => tx S x δ1) (fun δ1 => execs S y δ1) n δ'), ⟨S.wl, δ, F, r, nd, h⟩, ?_⟩
  rintro n σ' H' ⟨δ', F', r', nd', h'⟩
  cases n with
  | zero => exact False.elim h'
  | succ n =>
    refine ⟨δ', F', r', nd', (Fin.of_ h').mono fun k δ1 h1 => fun H2 F2 re nd2 s => ?_⟩
    cases k with
    | false =>
      rw [if_neg Bool.false_ne_true] at h1 ⊢
      exact h1 σ' H2 F2 re nd2 s (Kee.refl _ _)
    | true =>
      rw [if_pos rfl] at h1 ⊢
      refine ⟨fun σ3 H3 => ∃ δ' F', REnv W H3 σ3 δ' F' ∧ F'.Nodup ∧ Fin W E pr σ3 H3 F' D (whlL (fun δ1 => tx S x δ1) (fun δ1 => execs S y δ1) n δ'), fun σ3 H3 z => ⟨n, Nat.lt_succ_self n, z⟩, δ1, F2, re, nd2, ?_⟩
      have h2 := h1.from_ s (Kee.refl pr σ')
      dsimp only at h2
      cases he : execs S y δ1 with
      | nx δ2 => rw [he] at h2; exact fun σ3 H3 F3 a b c d => ⟨δ2, F3, a, b, Fin.from_ h2 c d⟩
      | ct δ2 => rw [he] at h2; exact fun σ3 H3 F3 a b c d => ⟨δ2, F3, a, b, Fin.from_ h2 c d⟩
      | bk δ2 => rw [he] at h2; exact h2
      | rt m δ2 => rw [he] at h2; exact h2
      | exc v δ2 => rw [he] at h2; exact h2
      | bad => rw [he] at h2; exact h2

/-! ### for -/
/-- J walks l as the heap stands -/
def ItAt (W : Wd) (J : It) (l : List Zy.D) (H : Hp) : Prop := (∀ i d, l[i]? = some d → J.go i H ∧ ∀ x H', J.yld i H x H' → Same H H' ∧ RepD W.kk H' x d) ∧ ∀ i, l.length ≤ i → J.stop i H
/-- a walk that lays nothing -/
theorem ItAt.of {W : Wd} {J : It} {l : List Zy.D} {H : Hp} (h : (∀ i d, l[i]? = some d → J.go i H ∧ ∀ x H', J.yld i H x H' → H' = H ∧ RepD W.kk H x d) ∧ ∀ i, l.length ≤ i → J.stop i H) : ItAt W J l H :=
  ⟨fun i d e => ⟨(h.1 i d e).1, fun x H' y => by obtain ⟨rfl, r⟩ := (h.1 i d e).2 x H' y; exact ⟨Same.refl _, r⟩⟩, h.2⟩
theorem itAt_list (hK : X.K = W.K) {a : Addr} {xs : List V} {l : List Zy.D} (h : H a = some (.lst xs)) (r : RepDs W.kk H xs l) : ItAt W (Itl X.K a) l H := .of (it_list hK h r H (Kp.refl H) fun _ _ => rfl)
/-- what a for asks of what it walks: kk are the slots that the walk leans on -/
def zif (W : Wd) (S : Sg) (it : Ti) (k : Option Pl) : TI := fun σ H R => ∃ δ F l chk, REnv W H σ δ F ∧ F.Nodup ∧ forIt S it k δ = some (l, chk) ∧
  ∀ J H1, Same H H1 → chk δ = true → (∀ σ' H' δ' F', REnv W H' σ' δ' F' → Stp W F H1 F' H' → Kee (match k with | some q => [q.i] | none => []) σ σ' → chk δ' = true → ItAt W J l H') → R J H1
theorem PE.out {e : Expr} {t : TE} (ha : PE X e t) : PE X e (fun σ H Q => ∃ Q0 : VK, t σ H Q0 ∧ ∀ v H1, Q0 v H1 → Q v H1) :=
  ⟨fun pins s σ H Q I ⟨Q0, h, k⟩ => thn (ha.run pins s σ H Q0 I h) fun v s1 ⟨x, H1, I1, r, q⟩ => ⟨x, H1, I1, r, k _ _ q⟩⟩
/-- a value walked -/
theorem pi_m (C : Ct X W S g) {tg e : Expr} {t : TE} (ha : PE X e t) {m : M} {l : List Zy.D} (e2 : itL m = some l) : PI X tg e (fun σ H R => t σ H fun v H1 => ∃ G, Rep W H1 v m G ∧ ∀ J A, ItOk W J H1 A l →
    (A = [] ∨ ∃ a xs l', A = [a] ∧ G = [a] ∧ m = .lst l' ∧ v = .ref a ∧ J = Itl X.K a ∧ H1 a = some (.lst xs)) → R J H1) := by
  refine ⟨fun pins s σ H R I h => ?_⟩
  unfold itL at e2
  split at e2
  · cases e2
    refine (pi_tup (PE.out ha)).run pins s σ H R I ⟨_, h, fun v H1 ⟨G, rv, k⟩ => ?_⟩
    cases rv with
    | i rv =>
      cases rv with
      | tup s1 d1 => exact ⟨_, rfl, ⟨_, s1.sqX C.K⟩, k _ [] (it_tup C.K (fun H k => k.sqT (s1.sqX C.K)) d1) (.inl rfl)⟩
  · cases e2
    refine (pi_str (PE.out ha)).run pins s σ H R I ⟨_, h, fun v H1 ⟨G, rv, k⟩ => ?_⟩
    cases rv with
    | i rv =>
      cases rv
      exact ⟨_, rfl, k _ [] (it_str _) (.inl rfl)⟩
  · cases e2
    refine (pi_list (PE.out ha)).run pins s σ H R I ⟨_, h, fun v H1 ⟨G, rv, k⟩ => ?_⟩
    cases rv with
    | lst s1 d1 => exact ⟨_, rfl, ⟨_, SqL.of s1⟩, k _ _ (it_list C.K s1 d1) (.inr ⟨_, _, _, rfl, rfl, rfl, rfl, rfl, s1⟩)⟩
  · cases e2
    refine (pi_list (PE.out ha)).run pins s σ H R I ⟨_, h, fun v H1 ⟨G, rv, k⟩ => ?_⟩
    cases rv with
    | rol s1 d1 => exact ⟨_, rfl, ⟨_, by rw [C.K]; exact s1.sq⟩, k _ [] (it_rol C.K s1 d1) (.inl rfl)⟩
  · cases e2
    refine (pi_tup (PE.out ha)).run pins s σ H R I ⟨_, h, fun v H1 ⟨G, rv, k⟩ => ?_⟩
    cases rv with
    | kc s1 d1 => exact ⟨_, rfl, ⟨_, by rw [C.K]; exact s1.sq⟩, k _ [] (it_tup C.K (fun H k => by rw [C.K]; exact s1.sq) d1) (.inl rfl)⟩
  · cases e2
    refine (pi_tup (PE.out ha)).run pins s σ H R I ⟨_, h, fun v H1 ⟨G, rv, k⟩ => ?_⟩
    cases rv with
    | ftp s1 d1 => exact ⟨_, rfl, ⟨_, s1.sq⟩, k _ [] (it_tup C.K (fun H k => (k.frt s1).sq) d1) (.inl rfl)⟩
  · split at e2
    · rename_i hz
      cases e2
      rw [Bool.and_eq_true] at hz
      obtain ⟨h1, h2⟩ := rngOk_iff hz.1
      obtain ⟨h3, h4⟩ := rngOk_iff hz.2
      refine (pi_rngV (PE.out ha)).run pins s σ H R I ⟨_, h, fun v H1 ⟨G, rv, k⟩ => ?_⟩
      cases rv with
      | rg s1 => exact ⟨_, _, _, rfl, s1, ⟨h1, h2, h3, h4⟩, k _ [] (it_rng _ _) (.inl rfl)⟩
    · cases e2
  · cases e2
theorem zif_pl (C : Ct X W S g) {tg it : Expr} {t : Ti} {q : Pl} (ho : PE X it (zpl W q)) (w : PlW W q) : PI X tg it (zif W S t (some q)) := by
  refine ⟨fun pins s σ H R I h => ?_⟩
  obtain ⟨δ, F, l, chk, r, nd, e, k⟩ := h
  have hm : itL (plGet q δ) = some l ∧ chk δ = true ∧ (∀ l', plGet q δ = .lst l' → ∀ δ', chk δ' = true → plGet q δ' = .lst l) := by
    unfold forIt at e
    split at e
    · rename_i q' hz
      cases hz
      split at e
      · rename_i l0 e0
        cases e
        rw [e0]
        refine ⟨rfl, by show isLst _ (plGet q δ) = true; rw [e0]; exact decide_eq_true rfl, fun l' z δ' hc => ?_⟩
        cases z
        have hc : isLst l (plGet q δ') = true := hc
        unfold isLst at hc
        split at hc
        · rename_i l2 e2
          rw [e2, of_decide_eq_true hc]
        · cases hc
      · cases e
      · rename_i h1 _
        obtain ⟨l1, e1, e2⟩ := Option.map_eq_some_iff.mp e
        cases e2
        exact ⟨e1, rfl, fun l' z => absurd z (h1 l')⟩
    · rename_i hz; cases hz
    · exact absurd ‹some q = none› (by simp)
  obtain ⟨hm, hc, hL⟩ := hm
  have hn : plGet q δ ≠ .hole := fun z => by rw [z] at hm; cases hm
  obtain ⟨A0, G, B0, eF, _, c2, _⟩ := r.at_ w (plOk_of rfl hn)
  obtain ⟨v, pv, rv⟩ := c2 hn
  refine (pi_m C ho hm).run pins s σ H R I ⟨v, pv, G, rv, fun J A ok hA => k J H (Same.refl H) hc fun σ' H' δ' F' re s ke hch => ?_⟩
  rcases hA with rfl | ⟨a, xs, l', rfl, rfl, e1, rfl, rfl, e2⟩
  · exact .of (ok H' s.kp fun a z => by cases z)
  · have e3 := hL l' e1 δ' hch
    obtain ⟨A1, G1, B1, _, _, c3, _⟩ := re.at_ w (plOk_of rfl (by rw [e3]; simp))
    obtain ⟨v', pv', rv'⟩ := c3 (by rw [e3]; simp)
    have pv2 : PathV W H' σ' q (.ref a) := by
      obtain ⟨v0, h1, h2⟩ := pv.step w s
      exact ⟨v0, (ke q.i List.mem_cons_self).trans h1, h2⟩
    cases (pv'.uniq pv2)
    rw [e3] at rv'
    cases rv' with
    | lst s1 d1 => exact itAt_list C.K s1 d1
theorem zif_e (C : Ct X W S g) {tg it : Expr} {x : Px} (ha : PE X it (zp W S x)) : PI X tg it (zif W S (.e x) none) := by
  refine ⟨fun pins s σ H R I h => ?_⟩
  obtain ⟨δ, F, l, chk, r, nd, e, k⟩ := h
  have hm : ∃ m, pv S x δ = some m ∧ itL m = some l ∧ chk δ = true ∧ (∀ l', m = .lst l' → frs x = true) := by
    have e : (match pv S x δ with
    | some (.lst l) => if frs x then some (l, fun _ => true) else none
    | some m => (itL m).map fun l => (l, fun _ => true)
    | none => none) = some (l, chk) := e
    split at e
    · split at e
      · rename_i e1 hf
        cases e
        exact ⟨_, e1, rfl, rfl, fun _ _ => hf⟩
      · cases e
    · rename_i m h1 e1
      obtain ⟨l1, e2, e3⟩ := Option.map_eq_some_iff.mp e
      cases e3
      exact ⟨m, e1, e2, rfl, fun l' z => absurd z (h1 l')⟩
    · cases e
  obtain ⟨m, e1, e2, hc, hL⟩ := hm
  refine (pi_m C ha e2).run pins s σ H R I ⟨δ, F, m, r, e1, fun v H1 G rv sm fr => ⟨G, rv, fun J A ok hA => k J H1 sm hc fun σ' H' δ' F' re s ke hch => ?_⟩⟩
  rcases hA with rfl | ⟨a, xs, l', rfl, rfl, e3, rfl, rfl, e4⟩
  · exact .of (ok H' s.kp fun a z => by cases z)
  · have hf := (fr (hL l' e3)).2 a List.mem_cons_self
    refine .of (ok H' s.kp fun b z => ?_)
    rw [List.mem_singleton.mp z, e4]
    exact s.out a _ e4 (fun z => by
      obtain ⟨o, ho⟩ := r.own' a z
      rw [hf] at ho; cases ho) nofun
theorem zif_r {tg it : Expr} {t : Ti} (ht : rngT t = true) (ha : PI X tg it (zi W S t)) : PI X tg it (zif W S t none) := PI.imp ha fun σ H R h => by
  obtain ⟨δ, F, l, chk, r, nd, e, k⟩ := h
  have hm : tiL S t δ = some l ∧ chk δ = true := by
    cases t with
    | e x => cases ht
    | rng1 a =>
      obtain ⟨l1, e1, e2⟩ := Option.map_eq_some_iff.mp (show (tiL S (.rng1 a) δ).map (fun l => (l, fun (_ : Env) => true)) = some (l, chk) from e)
      cases e2
      exact ⟨e1, rfl⟩
    | rng2 a b =>
      obtain ⟨l1, e1, e2⟩ := Option.map_eq_some_iff.mp (show (tiL S (.rng2 a b) δ).map (fun l => (l, fun (_ : Env) => true)) = some (l, chk) from e)
      cases e2
      exact ⟨e1, rfl⟩
  refine ⟨δ, F, l, r, hm.1, fun J H1 A sm ok hA => k J H1 sm hm.2 fun σ' H' δ' F' re s ke hch => ?_⟩
  have := hA.2.1 ht
  subst this
  exact .of (ok H' s.kp fun a z => by cases z)
/-- the turns of a for -/
theorem for_core {S : Sg} {y : Tg} {z : List Sm} {pr' kk : List Nat} {J : It} {l : List Zy.D} {chk : Env → Bool} {δ : Env} (hpr : ∀ i ∈ pr', i ∉ tgW y) (sub : ∀ i ∈ pr, i ∈ pr') (sub2 : ∀ i ∈ kk, i ∈ pr') (r : REnv W H1 σ δ F) (nd : F.Nodup) (hchk : chk δ = true)
    (walk : ∀ σ' H' δ' F', REnv W H' σ' δ' F' → Stp W F H1 F' H' → Kee kk σ σ' → chk δ' = true → ItAt W J l H') (h : Fin W E pr σ H1 F D (forL chk (fun d δ1 => match tgSet y d δ1 with | some δ2 => execs S z δ2 | none => .bad) l δ)) :
    ∃ Wm : Nat → Nat → L2.St → Hp → Prop, (∃ m, Wm 0 m σ H1) ∧ ∀ i m σ H, Wm i m σ H → (J.stop i H ∧ D.nx σ H) ∨ (J.go i H ∧ ∃ N : L2.St → Hp → Prop, (∀ σ' H', N σ' H' → ∃ m', m' < m ∧ Wm (i + 1) m' σ' H') ∧ ∀ x H', J.yld i H x H' →
      gz W y x σ H' fun σ2 H2 => zss W S E pr' z { D with nx := N, ct := N, bk := D.nx } σ2 H2) := by
  generalize hbody : (fun (d : Zy.D) δ1 => match tgSet y d δ1 with | some δ2 => execs S z δ2 | none => Fl.bad) = body at h
  refine ⟨fun i m σ' H' => m = l.length - i ∧ i ≤ l.length ∧ ∃ δ' F', REnv W H' σ' δ' F' ∧ F'.Nodup ∧ Stp W F H1 F' H' ∧ Kee pr' σ σ' ∧ chk δ' = true ∧ Fin W E pr σ' H' F' D (forL chk body (l.drop i) δ'),
    ⟨l.length, rfl, Nat.zero_le _, δ, F, r, nd, Stp.refl, Kee.refl _ _, hchk, h⟩, ?_⟩
  rintro i m σ' H' ⟨rfl, hi', δ', F', r', nd', s', ke', hc', hf'⟩
  obtain ⟨w1, w2⟩ := walk σ' H' δ' F' r' s' (ke'.sub sub2) hc'
  by_cases hlt : i < l.length
  · obtain ⟨go, yl⟩ := w1 i l[i] (List.getElem?_eq_getElem hlt)
    rw [List.drop_eq_getElem_cons hlt] at hf'
    refine .inr ⟨go, fun σ2 H2 => i + 1 ≤ l.length ∧ ∃ δ' F', REnv W H2 σ2 δ' F' ∧ F'.Nodup ∧ Stp W F H1 F' H2 ∧ Kee pr' σ σ2 ∧ chk δ' = true ∧ Fin W E pr σ2 H2 F' D (forL chk body (l.drop (i + 1)) δ'),
      fun σ2 H2 ⟨z1, z2⟩ => ⟨l.length - (i + 1), by omega, rfl, z1, z2⟩, fun v H2 hy => ?_⟩
    obtain ⟨sm5, rv⟩ := yl v H2 hy
    have stp5 : Stp W F' H' F' H2 := Stp.same sm5 fun a z => .inl z
    have r' := r'.same sm5
    have s' := s'.trans (fun _ z => z) stp5
    have hf' := hf'.from_ stp5 (Kee.refl _ _)
    have hf' : Fin W E pr σ' H2 F' D (match body l[i] δ' with
      | .nx δ1 => if chk δ1 then forL chk body (l.drop (i + 1)) δ1 else .bad
      | .ct δ1 => if chk δ1 then forL chk body (l.drop (i + 1)) δ1 else .bad
      | .bk δ1 => .nx δ1
      | x => x) := hf'
    cases hts : tgSet y l[i] δ' with
    | none =>
      have e6 : body l[i] δ' = .bad := by rw [← hbody]; simp only [hts]
      rw [e6] at hf'
      exact False.elim hf'
    | some δ1 =>
      have e6 : body l[i] δ' = execs S z δ1 := by rw [← hbody]; simp only [hts]
      rw [e6] at hf'
      refine ⟨l[i], rv, δ', F', δ1, r', hts, fun σ2 F2 re2 sb nd2 out hl => ⟨δ1, F2, re2, nd2 nd', ?_⟩⟩
      have k2 : Kee pr' σ' σ2 := fun j hj => out j (hpr j hj)
      have s2 : Stp W F' H2 F2 H2 := Stp.same (Same.refl H2) fun a z => .inl (sb a z)
      have nxt : ∀ δ3, Fin W E pr σ' H2 F' D (if chk δ3 then forL chk body (l.drop (i + 1)) δ3 else .bad) → ∀ σ3 H3 F3, REnv W H3 σ3 δ3 F3 → F3.Nodup → Stp W F2 H2 F3 H3 → Kee pr' σ2 σ3 →
          i + 1 ≤ l.length ∧ ∃ δ' F', REnv W H3 σ3 δ' F' ∧ F'.Nodup ∧ Stp W F H1 F' H3 ∧ Kee pr' σ σ3 ∧ chk δ' = true ∧ Fin W E pr σ3 H3 F' D (forL chk body (l.drop (i + 1)) δ') := fun δ3 hh σ3 H3 F3 a b c d => by
        split at hh
        · rename_i hck
          exact ⟨hlt, δ3, F3, a, b, s'.trans (fun _ z => z) (s2.trans (fun _ z => z) c), ke'.trans (k2.trans d), hck, hh.from_ (s2.trans (fun _ z => z) c) ((k2.trans d).sub sub)⟩
        · exact False.elim hh
      cases he : execs S z δ1 with
      | nx δ3 => rw [he] at hf'; exact nxt δ3 hf'
      | ct δ3 => rw [he] at hf'; exact nxt δ3 hf'
      | bk δ3 => rw [he] at hf'; exact fun σ3 H3 F3 a b c d => hf' σ3 H3 F3 a b (s2.trans (fun _ z => z) c) ((k2.trans d).sub sub)
      | rt m δ3 => rw [he] at hf'; exact fun v σ3 H3 G F3 a b c d e => hf' v σ3 H3 G F3 a b c (s2.trans (fun _ z => z) d) ((k2.trans e).sub sub)
      | exc x δ3 => rw [he] at hf'; exact fun v d0 σ3 H3 F3 a b c d e => hf' v d0 σ3 H3 F3 a b c (s2.trans (fun _ z => z) d) ((k2.trans e).sub sub)
      | bad => rw [he] at hf'; exact hf'
  · have e5 : i = l.length := by omega
    subst e5
    rw [List.drop_length] at hf'
    exact .inl ⟨w2 _ (Nat.le_refl _), hf' σ' H' F' r' nd' Stp.refl (Kee.refl _ _)⟩
theorem zs_for (hp : PassesOwn (model X.prog X.w) X.A X.env X.xe) (C : Ct X W S g) {tg it : Expr} {b : List Stmt} {t : Ti} {k : Option Pl} {y : Tg} {z : List Sm} {pr' : List Nat} {pos : Pos} (hi : PI X tg it (zif W S t k)) (hg : PG X tg (gz W y)) (hpr : ∀ i ∈ pr', i ∉ tgW y)
    (hb : PSs X b (zss W S E pr' z)) (hs : ∀ x, foldedSetIterable it X.env x = pure x) (sub : ∀ i ∈ pr, i ∈ pr') (sub2 : ∀ q, k = some q → q.i ∈ pr') : PS X (.For tg it b [] pos) (zs W S E pr (.for_ y t k z)) := by
  refine PS.imp (ps_for hp C.calm hi hg hb hs) fun D σ H q => ?_
  obtain ⟨δ, F, r, nd, h⟩ := q
  simp only [exec] at h
  split at h
  · rename_i l chk e
    exact ⟨δ, F, l, chk, r, nd, e, fun J H1 sm hchk walk => for_core hpr sub (fun j hj => by
      cases k with
      | none => cases hj
      | some q => rw [List.mem_singleton.mp hj]; exact sub2 q rfl) (r.same sm) nd hchk walk (h.from_ (Stp.same sm fun a z => .inl z) (Kee.refl _ _))⟩
  · exact False.elim h
/-! ### for i, x in enumerate(t) -/
theorem enumL_len : ∀ (l : List Zy.D) (k : Nat), (enumL k l).length = l.length
  | [], _ => rfl
  | _ :: l, k => congrArg (· + 1) (enumL_len l (k + 1))
theorem enumL_get : ∀ (l : List Zy.D) (k i : Nat) (e : Zy.D), (enumL k l)[i]? = some e → ∃ d, l[i]? = some d ∧ e = .tup [.int ((k + i : Nat) : Int), d]
  | [], _, i, e, h => by simp [enumL] at h
  | d :: l, k, 0, e, h => by
    simp only [enumL, List.getElem?_cons_zero, Option.some.injEq] at h
    exact ⟨d, rfl, by rw [← h]; rfl⟩
  | d :: l, k, i + 1, e, h => by
    simp only [enumL, List.getElem?_cons_succ] at h
    obtain ⟨d', h1, h2⟩ := enumL_get l (k + 1) i e h
    exact ⟨d', by simpa using h1, by rw [h2, show k + 1 + i = k + (i + 1) by omega]⟩
theorem itAt_enum (hK : X.K = W.K) {a : Addr} {xs : List V} {l : List Zy.D} (sq : SqT X.K H a xs) (r : RepDs W.kk H xs l) : ItAt W (IteT X.K a) (enumL 0 l) H := by
  refine ⟨fun i e he => ?_, fun i hi => ⟨xs, sq, by rw [enumL_len] at hi; rw [r.length]; exact hi⟩⟩
  obtain ⟨d, hd, rfl⟩ := enumL_get l 0 i e he
  obtain ⟨v, h1, h2⟩ := r.get hd
  refine ⟨⟨xs, v, sq, h1⟩, ?_⟩
  rintro y H' ⟨T, x, rfl, hn, rfl, hx⟩
  have e3 := hx xs sq
  rw [h1] at e3
  cases e3
  have sm : Same H (upd H T (.tup [.int (i : Nat), v])) := Same.new hn
  refine ⟨sm, ?_⟩
  rw [Nat.zero_add]
  exact .tup (.inl upd_same) (.cons (.int _) (.cons (h2.mono (Kp.same sm)) .nil))
def ziEn (W : Wd) (S : Sg) (x : Px) : TI := fun σ H R => ∃ δ F l, REnv W H σ δ F ∧ pv S x δ = some (.i (.tup l)) ∧ ∀ J H1, Same H H1 → (∀ H', Kp H1 H' → ItAt W J (enumL 0 l) H') → R J H1
theorem ziEn_ok (C : Ct X W S g) {e : Expr} {x : Px} {elts : List Expr} {kk : Nat} {tpos p pos : Pos} (hb : bltN g "enumerate" = true) (hp : plainE e = true) (ha : PE X e (zp W S x)) : PI X (.Tuple elts kk tpos) (.Call (.Name "enumerate" p) [e] [] pos) (ziEn W S x) := by
  obtain ⟨hg, hm⟩ := C.bltn hb
  refine PI.imp (pi_enumT hg hm ha (star_plain hp [] X.env)) fun σ H R q => ?_
  obtain ⟨δ, F, l, r, e1, k⟩ := q
  refine ⟨δ, F, _, r, e1, fun v H1 G rv sm f => ?_⟩
  cases rv with
  | i rv =>
    cases rv with
    | tup s1 d1 =>
      have sq : SqT X.K H1 _ _ := s1.sqX C.K
      exact ⟨_, _, rfl, sq, k _ H1 sm fun H' kp => itAt_enum C.K (kp.sqT sq) (d1.mono kp)⟩
theorem zs_forE (hp : PassesOwn (model X.prog X.w) X.A X.env X.xe) (C : Ct X W S g) {tg it : Expr} {b : List Stmt} {x : Px} {y : Tg} {z : List Sm} {pos : Pos} (hi : PI X tg it (ziEn W S x)) (hg : PG X tg (gz W y)) (hpr : ∀ i ∈ pr, i ∉ tgW y)
    (hb : PSs X b (zss W S E pr z)) (hs : ∀ x, foldedSetIterable it X.env x = pure x) : PS X (.For tg it b [] pos) (zs W S E pr (.forE y x z)) := by
  refine PS.imp (ps_for hp C.calm hi hg hb hs) fun D σ H q => ?_
  obtain ⟨δ, F, r, nd, h⟩ := q
  simp only [exec] at h
  split at h
  · rename_i l e
    exact ⟨δ, F, l, r, e, fun J H1 sm walk => for_core (kk := []) hpr (fun i z => z) (fun i z => by cases z) (r.same sm) nd rfl (fun σ' H' δ' F' _ s2 _ _ => walk H' s2.kp) (h.from_ (Stp.same sm fun a z => .inl z) (Kee.refl _ _))⟩
  · exact False.elim h
/-- a walk with effects -/
def ziX (W : Wd) (S : Sg) (E : WX) (w : Wi) : TI := fun σ H R => ∃ δ F, REnv W H σ δ F ∧ F.Nodup ∧ RR W E σ H F (evW S w δ) fun l δ1 => ∀ J H1 F1, REnv W H1 σ δ1 F1 → F1.Nodup → Stp W F H F1 H1 → (∀ H' F', Stp W F1 H1 F' H' → ItAt W J l H') → R J H1
theorem ziX_e (C : Ct X W S g) {tg e : Expr} {x : Ix} (ha : PE X e (zx W S E x)) : PI X tg e (ziX W S E (.e x)) := by
  refine ⟨fun pins s σ H R I h => ?_⟩
  obtain ⟨δ, F, r, nd, h⟩ := h
  have h : RR W E σ H F ((ev S x δ).bnd fun m δ1 => Zy.R.of (itL m) δ1) _ := h
  cases he : ev S x δ with
  | bad => rw [he] at h; exact False.elim h
  | exc v δ1 =>
    rw [he] at h
    exact (pi_m C ha (m := .i (.tup [])) (l := []) rfl).run pins s σ H R I ⟨δ, F, r, nd, by rw [he]; exact h⟩
  | ok m δ1 =>
    rw [he] at h
    obtain ⟨l, e1, hk⟩ := RR.of_ (show RR W E σ H F (Zy.R.of (itL m) δ1) _ from h)
    refine (pi_m C ha e1).run pins s σ H R I ⟨δ, F, r, nd, ?_⟩
    rw [he]
    refine fun v H1 G F1 rv re nd1 st => ⟨G, rv, fun J A ok hA => hk J H1 F1 re (nd_right nd1) (st.sub fun a z => List.mem_append_right _ z) fun H' F' s2 => ?_⟩
    rcases hA with rfl | ⟨a, xs, l', rfl, rfl, _, _, _, e4⟩
    · exact .of (ok H' s2.kp fun a z => by cases z)
    · refine .of (ok H' s2.kp fun b z => ?_)
      rw [List.mem_singleton.mp z, e4]
      exact s2.out a _ e4 (fun z => nd_ne nd1 List.mem_cons_self z) nofun
theorem ziX_rng1 (C : Ct X W S g) {tg a : Expr} {x : Ix} {p pos : Pos} (hb : bltN g "range" = true) (hp : plainE a = true) (ha : PE X a (zx W S E x)) : PI X tg (.Call (.Name "range" p) [a] [] pos) (ziX W S E (.rng1 x)) := by
  obtain ⟨hg, hm⟩ := C.bltn hb
  refine PI.imp (pi_range1 hg hm (pa_cons ha pa_nil (star_plain hp [] X.env)) (star_plain hp [] X.env)) fun σ H Q q => ?_
  obtain ⟨δ, F, r, nd, h⟩ := q
  refine ⟨δ, F, r, nd, RR.bind h fun m δ1 h1 => fun v H1 G F1 rv re nd1 s => ?_⟩
  split at h1
  · split at h1
    · rename_i n hz
      obtain ⟨h2, h3⟩ := rngOk_iff hz
      cases rv with
      | i rv =>
        cases rv
        exact ⟨_, rfl, h2, h3, h1 _ H1 F1 re (nd_right nd1) s fun H' F' s2 => .of (it_rng 0 _ H' s2.kp fun a z => by cases z)⟩
    · exact False.elim h1
  · exact False.elim h1
theorem ziX_rng2 (C : Ct X W S g) {tg a b : Expr} {x y : Ix} {p pos : Pos} (hb : bltN g "range" = true) (hp : plainE a = true) (hp2 : plainE b = true) (ha : PE X a (zx W S E x)) (hbb : PE X b (zx W S E y)) :
    PI X tg (.Call (.Name "range" p) [a, b] [] pos) (ziX W S E (.rng2 x y)) := by
  obtain ⟨hg, hm⟩ := C.bltn hb
  have s2 : starEach [b] X.env = [(false, eval b X.env)] := star_plain hp2 [] X.env
  have s1 : starEach [a, b] X.env = [(false, eval a X.env), (false, eval b X.env)] := by rw [star_plain hp, s2]
  refine PI.imp (pi_range2 hg hm (pa_cons ha (pa_cons hbb pa_nil s2) (star_plain hp [b] X.env)) s1 s2) fun σ H Q q => ?_
  obtain ⟨δ, F, r, nd, h⟩ := q
  refine ⟨δ, F, r, nd, RR.bind h fun m δ1 h1 => fun v H1 G F1 rv re nd1 s => ⟨δ1, F1, re, nd_right nd1, RR.bind (RR.from_ h1 s (fun a z => List.mem_append_right _ z) fun _ _ h => h) fun m2 δ2 h2 => fun w H2 G2 F2 rw' re2 nd2 st2 => ?_⟩⟩
  split at h2
  · split at h2
    · rename_i n1 n2 hz
      rw [Bool.and_eq_true] at hz
      obtain ⟨h3, h4⟩ := rngOk_iff hz.1
      obtain ⟨h5, h6⟩ := rngOk_iff hz.2
      cases rv with
      | i rv =>
        cases rw' with
        | i rw' =>
          cases rv
          cases rw'
          exact ⟨_, _, rfl, ⟨h3, h4, h5, h6⟩, h2 _ H2 F2 re2 (nd_right nd2) (s.then_ (fun a z => z) st2 fun a z => .inr z) fun H' F' s3 => .of (it_rng _ _ H' s3.kp fun a z => by cases z)⟩
    · exact False.elim h2
  · exact False.elim h2
theorem zs_forX (hp : PassesOwn (model X.prog X.w) X.A X.env X.xe) (C : Ct X W S g) {tg it : Expr} {b : List Stmt} {w : Wi} {y : Tg} {z : List Sm} {pos : Pos} (hi : PI X tg it (ziX W S E w)) (hg : PG X tg (gz W y)) (hpr : ∀ i ∈ pr, i ∉ tgW y)
    (hb : PSs X b (zss W S E pr z)) (hs : ∀ x, foldedSetIterable it X.env x = pure x) : PS X (.For tg it b [] pos) (zs W S E pr (.forX y w z)) := by
  refine PS.imp (ps_for hp C.calm hi hg hb hs) fun D σ H q => ?_
  obtain ⟨δ, F, r, nd, h⟩ := q
  exact ⟨δ, F, r, nd, (Fin.of_ h).mono fun l δ1 h1 => fun J H1 F1 re nd1 s walk => for_core (kk := []) hpr (fun i z => z) (fun i z => by cases z) re nd1 rfl (fun σ' H' δ' F' _ s2 _ _ => walk H' F' s2) (h1.from_ s (Kee.refl _ _))⟩
end
end Zy
end
section
/-! Zy, part R: what the reader of statements reads is right. -/
namespace Zy
open PySem PySem.Spec PyProof.Rows L2

section
variable {W : Wd} {S : Sg}
theorem Ct.pr {X : Cx} {g : Gm} (C : Ct X W S g) (l : List Nat) : Ct X W S { g with pr := l } := ⟨C.K, C.N, C.nd, C.sc, C.calm, C.hu, C.blt, C.cst, C.kd, C.ktn, C.ktc, C.bf, C.fns, C.fld, C.cls, C.mth, C.fcl, C.mnf, C.gt, C.mkc⟩
theorem tgOf_pr {X : Cx} {g : Gm} (C : Ct X W S g) {e : Expr} {t : Tg} (h : tgOf g e = some t) : ∀ i ∈ g.pr, i ∉ tgW t := by
  unfold tgOf at h
  split at h
  · obtain ⟨l, h1, h2⟩ := Option.map_eq_some_iff.mp h
    subst h2
    intro i hi hl
    obtain ⟨e0, _, hn⟩ := mapM_mem h1 i hl
    obtain ⟨x0, p0, rfl⟩ := tgNm_name hn
    exact (tgNm_ok C hn).2.2.2 hi
  · obtain ⟨j, h1, h2⟩ := Option.map_eq_some_iff.mp h
    subst h2
    intro i hi hl
    rw [List.mem_singleton.mp hl] at hi
    obtain ⟨x0, p0, rfl⟩ := tgNm_name h1
    exact (tgNm_ok C h1).2.2.2 hi
theorem rI_lc {n : Nat} {g : Gm} {elt : Expr} {gens : List Comprehension} {scope : Scope} {pos : Pos} {y : Ix} (h : rI n g (.ListComp elt gens scope pos) = some y) : ∃ m, (∃ x, rP m g (.ListComp elt gens scope pos) = some x ∧ y = .p x) ∨ rJ m g (.ListComp elt gens scope pos) = some y := by
  cases n with
  | zero => cases h
  | succ n =>
    simp only [rI] at h
    split at h
    · rename_i q hq; cases hq
    · refine ⟨n, ?_⟩
      split at h
      · rename_i x hx
        split at h
        · split at h
          · rename_i hj
            cases h
            exact .inr hj
          · cases h
            exact .inl ⟨x, hx, rfl⟩
        · cases h
          exact .inl ⟨x, hx, rfl⟩
      · exact .inr h
structure Sok (W : Wd) (S : Sg) (n : Nat) : Prop where
  St : ∀ {X : Cx} {g : Gm} {E : WX} {s : Stmt} {x : Sm}, Takes X E → PassesOwn (model X.prog X.w) X.A X.env X.xe → Ct X W S g → rS n g s = some x → PS X s (zs W S E g.pr x)
  Ss : ∀ {X : Cx} {g : Gm} {E : WX} {ss : List Stmt} {xs : List Sm}, Takes X E → PassesOwn (model X.prog X.w) X.A X.env X.xe → Ct X W S g → rSs n g ss = some xs → PSs X ss (zss W S E g.pr xs)
theorem sok_Ss {n : Nat} (h : Sok W S n) {X : Cx} {g : Gm} {E : WX} {ss : List Stmt} {xs : List Sm} (tk : Takes X E) (po : PassesOwn (model X.prog X.w) X.A X.env X.xe) (C : Ct X W S g) (e : rSs (n + 1) g ss = some xs) : PSs X ss (zss W S E g.pr xs) := by
  unfold rSs at e
  split at e
  · cases e; exact zss_nil
  · cases e
  · rename_i hz
    cases hz
    split at e
    · rename_i e1 e2
      cases e
      exact zss_cons (h.St tk po C e1) (h.Ss tk po C e2)
    · cases e
theorem rTi_e {n : Nat} {g : Gm} {e : Expr} {x : Px} (h : rTi n g e = some (.e x)) : ∃ m, rP m g e = some x := by
  cases n with
  | zero => cases h
  | succ n =>
    have fin : ∀ {e : Expr}, (rP n g e).map Ti.e = some (.e x) → ∃ m, rP m g e = some x := fun z => by
      obtain ⟨y, e1, e2⟩ := Option.map_eq_some_iff.mp z
      cases e2
      exact ⟨n, e1⟩
    simp only [rTi] at h
    split at h
    · split at h
      · obtain ⟨y, e1, e2⟩ := Option.map_eq_some_iff.mp h
        cases e2
      · split at h
        · exact fin h
        · cases h
    · split at h
      · split at h
        · cases h
        · cases h
      · exact fin h
    · split at h
      · exact fin h
      · cases h
theorem zif_of {X : Cx} {g : Gm} (C : Ct X W S g) {n : Nat} {tg e : Expr} {t : Ti} (h : rTi n g e = some t) : PI X tg e (zif W S t none) := by
  cases t with
  | e x =>
    obtain ⟨m, hm⟩ := rTi_e h
    exact zif_e C ((rok_all m).P C hm)
  | rng1 a => exact zif_r rfl ((rok_all n).I C h tg)
  | rng2 a b => exact zif_r rfl ((rok_all n).I C h tg)
theorem ziX_of {X : Cx} {g : Gm} {E : WX} (C : Ct X W S g) {n : Nat} (hI : Iok W S n) (tk : Takes X E) {tg e : Expr} {w : Wi} (h : rW n g e = some w) : PI X tg e (ziX W S E w) := by
  have fin : ∀ {e : Expr} {w : Wi}, (rI n g e).map Wi.e = some w → PI X tg e (ziX W S E w) := fun {e w} z => by
    obtain ⟨y, e1, e2⟩ := Option.map_eq_some_iff.mp z
    subst e2
    exact ziX_e C (hI.I tk C e1).1
  unfold rW at h
  split at h
  · split at h
    · rename_i hc
      simp only [Bool.and_eq_true, decide_eq_true_eq] at hc
      obtain ⟨⟨rfl, h2⟩, h3⟩ := hc
      obtain ⟨y, e1, e2⟩ := Option.map_eq_some_iff.mp h
      subst e2
      exact ziX_rng1 C h2 h3 (hI.I tk C e1).1
    · exact fin h
  · split at h
    · rename_i hc
      simp only [Bool.and_eq_true, decide_eq_true_eq] at hc
      obtain ⟨⟨⟨rfl, h2⟩, h3⟩, h4⟩ := hc
      split at h
      · rename_i e1 e2
        cases h
        exact ziX_rng2 C h2 h3 h4 (hI.I tk C e1).1 (hI.I tk C e2).1
      · cases h
    · exact fin h
  · exact fin h
theorem retT_eq {g : Gm} {e : Expr} {es : List Expr} (h : retT g e = some es) : ∃ k p, e = .Tuple es k p := by
  unfold retT at h
  split at h
  · split at h
    · cases h
      exact ⟨_, _, rfl⟩
    · cases h
  · cases h
theorem enumArg_eq {g : Gm} {t it x : Expr} (h : enumArg g t it = some x) : ∃ es kk tp p cp, t = .Tuple es kk tp ∧ it = .Call (.Name "enumerate" p) [x] [] cp ∧ bltN g "enumerate" = true ∧ plainE x = true := by
  unfold enumArg at h
  split at h
  · split at h
    · rename_i hc
      simp only [Bool.and_eq_true, decide_eq_true_eq] at hc
      obtain ⟨⟨rfl, h2⟩, h3⟩ := hc
      cases h
      exact ⟨_, _, _, _, _, rfl, rfl, h2, h3⟩
    · cases h
  · cases h
theorem sok_S {n : Nat} (h : Sok W S n) {X : Cx} {g : Gm} {E : WX} {s : Stmt} {x : Sm} (tk : Takes X E) (po : PassesOwn (model X.prog X.w) X.A X.env X.xe) (C : Ct X W S g) (e : rS (n + 1) g s = some x) : PS X s (zs W S E g.pr x) := by
  have hI := iok_all (W := W) (S := S) n
  have hT := tok_all (W := W) (S := S) n
  have hP := rok_all (W := W) (S := S) n
  simp only [rS] at e
  split at e
  · split at e
    · cases e
    · rename_i hc
      split at e
      · rename_i e1 e2
        cases e
        rename_i x0 py e0 p _ _ i y
        cases e0 with
        | ListComp elt gens sc lp =>
          cases hloc : locB g.sc x0 with
          | false => exact zs_asgC C e1 hloc (hI.I tk C e2).1
          | true =>
            simp only [lcBad, hloc, Bool.true_and, Bool.not_eq_true', Bool.not_eq_false, Bool.and_eq_true] at hc
            obtain ⟨m, ⟨x1, e3, rfl⟩ | e3⟩ := rI_lc e2
            · exact zs_lc C e3 e1 hc.1 hloc (by simpa using hc.2)
            · exact zs_lcx C e3 e1 hc.1 hloc (by simpa using hc.2)
        | SetComp _ _ _ _ => exact absurd rfl hc
        | DictComp _ _ _ _ _ => exact absurd rfl hc
        | _ => exact zs_asg C e1 rfl (hI.I tk C e2).1
      · cases e
  · split at e
    · exact zs_par C (fun es xs h => hP.Ps C h) e
    · rename_i ht
      split at e
      · cases e
      · rename_i hc
        split at e
        · rename_i e1 e2
          cases e
          refine zs_unp C e1 (by simpa using hc) (fun es k p z => ?_) (hI.I tk C e2).1
          rw [z] at ht
          exact ht rfl
        · cases e
  · split at e
    · cases e
    · rename_i hc
      simp only [Bool.or_eq_true, not_or] at hc
      split at e
      · rename_i e1 e2 e3
        cases e
        obtain ⟨ho, hw⟩ := rPl_ok C _ _ e1
        exact zs_setI C (by simpa using hc.1) (by simpa using hc.2) ho hw (hP.P C e2) (hI.I tk C e3).1
      · cases e
  · split at e
    · cases e
    · rename_i hc
      split at e
      · rename_i e1 e2 e3
        cases e
        obtain ⟨ho, hw⟩ := rPl_ok C _ _ e1
        exact zs_setF C (by simpa using hc) e2 ho hw (hI.I tk C e3).1
      · cases e
  · cases e
    exact zs_doc
  · cases e
    exact zs_bad
  · split at e
    · cases e
      exact zs_bad
    · split at e
      · rename_i hc
        simp only [Bool.and_eq_true, decide_eq_true_eq] at hc
        split at e
        · rename_i e1 e2
          cases e
          obtain ⟨ho, hw⟩ := rPl_ok C _ _ e1
          obtain ⟨⟨rfl, h2⟩, h3⟩ := hc
          exact zs_app C h2 (rPl_sup e1).1 h3 ho hw (hI.I tk C e2).1
        · cases e
      split at e
      · rename_i hc
        simp only [Bool.and_eq_true, decide_eq_true_eq] at hc
        split at e
        · rename_i e1 e2
          cases e
          obtain ⟨ho, hw⟩ := rPl_ok C _ _ e1
          obtain ⟨⟨rfl, h2⟩, h3⟩ := hc
          exact zs_ext C h2 (rPl_sup e1).1 h3 ho hw (hI.I tk C e2).1
        · cases e
      · obtain ⟨y, e1, e2⟩ := Option.map_eq_some_iff.mp e
        subst e2
        exact zs_ex rfl (hI.I tk C e1).1
  · split at e
    · cases e
    · rename_i hc
      obtain ⟨y, e1, e2⟩ := Option.map_eq_some_iff.mp e
      subst e2
      exact zs_ex (by simpa using hc) (hI.I tk C e1).1
  · cases e
    exact zs_retN
  · split at e
    · rename_i es hr
      obtain ⟨k, p, rfl⟩ := retT_eq hr
      obtain ⟨y, e1, e2⟩ := Option.map_eq_some_iff.mp e
      subst e2
      exact zs_ret (zx_tup (hI.Is tk C e1).2.2.2)
    · obtain ⟨y, e1, e2⟩ := Option.map_eq_some_iff.mp e
      subst e2
      exact zs_ret (hI.I tk C e1).1
  · split at e
    · rename_i e1 e2 e3
      cases e
      exact zs_if (hT.T tk C e1) (h.Ss tk po C e2) (h.Ss tk po C e3)
    · cases e
  · split at e
    · rename_i e1 e2
      cases e
      exact zs_whl po (hT.T tk C e1) (h.Ss tk po C e2)
    · cases e
  · split at e
    · rename_i hp
      split at e
      · rename_i x0 hx
        obtain ⟨es, kk, tp, p, cp, rfl, rfl, hb, hp2⟩ := enumArg_eq hx
        split at e
        · rename_i e1 e2 e3
          cases e
          exact zs_forE po C (ziEn_ok C hb hp2 (hP.P C e3)) (gz_ok C e1) (tgOf_pr C e1) (h.Ss tk po C e2) (fun x => fset hp _ x)
        · cases e
      · split at e
        · rename_i q hq
          obtain ⟨ho, hw⟩ := rPl_ok C _ _ hq
          have C' := C.pr (q.i :: g.pr)
          split at e
          · rename_i e1 e2
            cases e
            exact zs_for po C (zif_pl C ho hw) (gz_ok C' e1) (tgOf_pr C' e1) (h.Ss tk po C' e2) (fun x => fset hp _ x) (fun i z => List.mem_cons_of_mem _ z) fun q' z => by
              cases z
              exact List.mem_cons_self
          · cases e
        · split at e
          · rename_i e1 e3
            split at e
            · rename_i e2 e4
              split at e
              · cases e
                exact zs_forX po C (ziX_of C (iok_all n) tk e4) (gz_ok C e1) (tgOf_pr C e1) (h.Ss tk po C e3) (fun x => fset hp _ x)
              · cases e
                exact zs_for po C (zif_of C e2) (gz_ok C e1) (tgOf_pr C e1) (h.Ss tk po C e3) (fun x => fset hp _ x) (fun i z => z) fun q' z => by cases z
            · rename_i e2 _
              cases e
              exact zs_for po C (zif_of C e2) (gz_ok C e1) (tgOf_pr C e1) (h.Ss tk po C e3) (fun x => fset hp _ x) (fun i z => z) fun q' z => by cases z
            · rename_i _ e4
              cases e
              exact zs_forX po C (ziX_of C (iok_all n) tk e4) (gz_ok C e1) (tgOf_pr C e1) (h.Ss tk po C e3) (fun x => fset hp _ x)
            · cases e
          · cases e
    · cases e
  · cases e
    exact zs_pass
  · cases e
    exact zs_brk
  · cases e
    exact zs_cnt
  · split at e
    · rename_i e1 e2 e3
      cases e
      exact zs_aug C e1 e3 (hP.P C e2)
    · cases e
  · split at e
    · split at e
      · rename_i e1 e2 e3 e4
        cases e
        obtain ⟨ho, hw⟩ := rPl_ok C _ _ e1
        exact zs_augI C ho hw (hP.P C e2) (hP.P C e3) e4
      · cases e
    · cases e
  · cases e
theorem sok_all : ∀ n, Sok W S n
  | 0 => by
    refine ⟨fun _ _ _ e => ?_, fun _ _ _ e => ?_⟩
    · cases e
    · unfold rSs at e
      split at e <;> first | (cases e; exact zss_nil) | (cases e; done) | (exact absurd ‹0 = Nat.succ _› (Nat.succ_ne_zero _).symm)
  | n + 1 => ⟨sok_S (sok_all n), sok_Ss (sok_all n)⟩
end
end Zy
end
section
/-! Zy, part T: a whole text. -/
namespace Zy
open PySem PySem.Spec PyProof.Rows L2

/-- a def of the text -/
structure Dd where
  st : Stmt
  x : Str
  qual : Str
  N : List Str
  ps : List Str
  tk : List (Nat × Nat)
  pr : List Nat
  fz : List Str
  gx : Bool
def Dd.g (g0 : Gm) (d : Dd) : Gm := { g0 with N := d.N, sc := defScope d.st, tk := d.tk, pr := d.pr, fc := fun _ => true, fz := d.fz, gx := d.gx }
def Dd.fd (g0 : Gm) (d : Dd) : Fd := ⟨d.ps.length, d.N.length, (List.range d.ps.length).map d.pr.contains, (rSs 200 (d.g g0) (defBody d.st)).getD []⟩
def Dd.ok (g0 : Gm) (d : Dd) : Bool := C8.scC d.N d.ps (defScope d.st) && (rSs 200 (d.g g0) (defBody d.st)).isSome
structure Txt where
  ds : List Dd
  g0 : Gm
  mt : List ((Nat × Nat) × Nat)
  ini : List (Nat × Nat)
def Txt.pg (t : Txt) : Pg := ⟨t.ds.map (Dd.fd t.g0), t.mt, t.ini⟩
/-- what the heap behind the top has of the text -/
structure Glo (W : Wd) (w : World) (t : Txt) (K : PySem.W.Frag) (mg : Str → Option Value) (fa : Nat → Addr) (fdd : Nat → FuncData) : Prop where
  hK : K = W.K
  ok : ∀ k d, t.ds[k]? = some d → Fun K d.x d.qual d.st (fa k) (fdd k) ∧ L2.Binds K (fdd k) d.ps [] ∧ d.ok t.g0 = true
  blt : ∀ x, t.g0.blt.contains x = true → mg x = none
  cst : ∀ x d, t.g0.cst.lookup x = some d → ∃ u v, mg x = some u ∧ RelV v u ∧ CstOk W v d
  kd : ∀ x kvs, t.g0.kd.lookup x = some kvs → KdOk W K w.params mg x kvs
  ktn : t.g0.kt = false → ∀ a xs, ¬ W.kk a xs
  ktc : t.g0.kt = true → ∀ a xs, Kct W.K a xs → W.kk a xs
  bf : ∀ x i, t.g0.bf.lookup x = some i → mg x = some (.builtin i)
  fns : ∀ x k io, t.g0.fns.lookup x = some (k, io) → mg x = some (.ref (fa k)) ∧ k < t.ds.length
  fld : ∀ x k, t.g0.fld.lookup x = some k → W.fn k = x ∧ W.fi x = k
  cls : ∀ c, W.gc c → Cls K (W.ca c) ∧ ∀ x k, t.g0.fld.lookup x = some k → NoAttr K (W.ca c) x
  mth : ∀ x m c f, t.g0.mth.lookup x = some m → t.mt.lookup (c, m) = some f → W.gc c → Meth K (W.ca c) x (fa f) ∧ f < t.ds.length
  mnf : ∀ x m, t.g0.mth.lookup x = some m → ∀ j, W.fn j ≠ x
  mkc : ∀ x c f, t.g0.cls.lookup x = some c → t.ini.lookup c = some f → W.gc c ∧ mg x = some (.ref (W.ca c)) ∧ Mk K (W.ca c) (fa f) ∧ f < t.ds.length

section
variable {W : Wd} {H : Hp}
theorem REnv.of_reps (tb : Tbs W H) : ∀ {vs : List V} {ms : List M} {F : List Addr} (n : Nat), Reps W H vs ms F → REnv W H (vs.map some ++ List.replicate n none) (ms ++ List.replicate n .hole) F
  | _, _, _, 0, .nil => .nil tb
  | _, _, _, n + 1, .nil => .hole (REnv.of_reps tb n .nil)
  | _, _, _, n, .cons r t => .cons r (REnv.of_reps tb n t)
theorem back_reps : ∀ (vs : List V) (kp : Nat → Bool) {σ : L2.St} {δ : Env} {F : List Addr}, REnv W H σ δ F → (∀ i v, vs[i]? = some v → kp i = true → σ[i]? = some (some v)) →
    ∃ F', Reps W H vs ((List.range vs.length).map fun i => if kp i then slot δ i else .hole) F' ∧ F'.Sublist F
  | [], _, _, _, F, _, _ => ⟨[], .nil, List.nil_sublist _⟩
  | v :: vs, kp, σ, δ, F, r, h => by
    rw [List.length_cons, List.range_succ_eq_map, List.map_cons, List.map_map]
    cases r with
    | nil ht =>
      have h0 : kp 0 = false := by
        cases e : kp 0 with
        | false => rfl
        | true => exact absurd (h 0 v rfl e) (by simp)
      obtain ⟨F', h1, h2⟩ := back_reps vs (fun i => kp (i + 1)) (REnv.nil ht) fun i w hw hk => by
        have := h (i + 1) w hw hk
        simp at this
      refine ⟨[] ++ F', .cons ?_ h1, h2⟩
      rw [h0, if_neg Bool.false_ne_true]
      exact .hole v
    | @hole ov σ δ _ r =>
      obtain ⟨F', h1, h2⟩ := back_reps vs (fun i => kp (i + 1)) r fun i w hw hk => h (i + 1) w hw hk
      refine ⟨[] ++ F', .cons ?_ h1, h2⟩
      split
      · exact .hole v
      · exact .hole v
    | @cons v0 m σ δ G F r1 r =>
      obtain ⟨F', h1, h2⟩ := back_reps vs (fun i => kp (i + 1)) r fun i w hw hk => h (i + 1) w hw hk
      cases hk : kp 0 with
      | false => exact ⟨[] ++ F', .cons (.hole v) h1, h2.trans (List.sublist_append_right G F)⟩
      | true =>
        have e := h 0 v rfl hk
        cases e
        exact ⟨G ++ F', .cons r1 h1, List.Sublist.append_left h2 G⟩
end

section
variable {P : Program} {w : World} {K : PySem.W.Frag} {mg : Str → Option Value} {base : Heap} {W : Wd} {t : Txt} {fa : Nat → Addr} {fdd : Nat → FuncData} {wl : Nat}
def sgN (t : Txt) (wl n : Nat) : Sg := ⟨semF t.pg wl n, fun c m => t.mt.lookup (c, m), fun c => t.ini.lookup c, wl⟩
theorem pg_fd {k : Nat} {d : Dd} (h : t.ds[k]? = some d) : t.pg.fd[k]? = some (d.fd t.g0) := by
  show (t.ds.map _)[k]? = _
  rw [List.getElem?_map, h]
  rfl
theorem semF_succ {n k : Nat} {d : Dd} (h : t.ds[k]? = some d) (ms : List M) : semF t.pg wl (n + 1) k ms = if ms.length = d.ps.length then (match execs (sgN t wl n) (d.fd t.g0).body (ms ++ List.replicate (d.N.length - d.ps.length) .hole) with
      | .nx δ => .ok (.i .non) (backA (d.fd t.g0) δ)
      | .rt m δ => .ok m (backA (d.fd t.g0) δ)
      | .exc x δ => .exc x (backA (d.fd t.g0) δ)
      | _ => .bad) else .bad := by
  unfold semF
  rw [pg_fd h]
  rfl
theorem semF_len {n k : Nat} {d : Dd} (h : t.ds[k]? = some d) (ms : List M) (e : semF t.pg wl n k ms ≠ .bad) : ms.length = d.ps.length := by
  cases n with
  | zero => exact absurd rfl e
  | succ n =>
    rw [semF_succ h] at e
    by_cases z : ms.length = d.ps.length
    · exact z
    · rw [if_neg z] at e
      exact absurd rfl e
/-- a def by its body, its code told -/
theorem Fun.okY {x qual : Str} {st : Stmt} {f : Addr} {fd : FuncData} {N ps : List Str} {k : Nat} {sp : Sp} (F : L2.Fun K x qual st f fd) (S : FnScope N ps (defScope st)) (len : ∀ vs H Q E, sp vs H Q E → vs.length = ps.length)
    (hbody : ∀ (cdv : Value) (A : Around) (outer : List PySem.Env) (s : Shared) (H : Hp) (vs : List V) (Q : VK) (E : XK), fd.code = cdv → Room k (A.deeper (envOfC qual (defScope st) s.heap.objs.size f cdv)) → sp vs H Q E →
      ∃ t, PSs (cxOf (L2.CX P w) P w K mg base N qual (defScope st) f cdv A outer s H E) (defBody st) t ∧ t { nx := fun _ H' => Q .non H', rt := Q } (start N vs) H) : FnOk P w K mg base (L2.CX P w) (k + 1) f fd ps sp := by
  obtain ⟨oc, od, kV, doc, pm, an, cdv, ct, osl, rfl, lk, hcd⟩ := F.ex
  exact fn_of lk hcd S len fun A outer s H vs Q E hr hsp => hbody cdv A outer s H vs Q E rfl hr hsp
/-- the tables of the defs that make code -/
def GtOk (W : Wd) (t : Txt) (base : Heap) (mg : Str → Option Value) (fdd : Nat → FuncData) : Prop := ∀ k d, t.ds[k]? = some d → d.gx = true → ∃ c P, LamX.TabB base mg c P ∧ (fdd k).code = .ref c ∧ P ∈ W.tb
theorem all_ok (G : Glo W w t K mg fa fdd) (Gt : GtOk W t base mg fdd) : ∀ n k d, t.ds[k]? = some d → FnOk P w K mg base (L2.CX P w) (2 * n) (fa k) (fdd k) d.ps (spF W d.ps.length (semF t.pg wl n k))
  | 0, k, d, h => by
    have no : ∀ {vs : List V} {H : Hp} {Q : VK} {E : XK}, spF W d.ps.length (semF t.pg wl 0 k) vs H Q E → False := fun ⟨_, _, ms, F, _, _, z⟩ => z
    exact ⟨fun _ _ _ _ z => (no z).elim, fun _ _ _ _ _ _ _ _ _ _ _ _ _ z => (no z).elim⟩
  | n + 1, k, d, h => by
    obtain ⟨Fn, _, hok⟩ := G.ok k d h
    unfold Dd.ok at hok
    rw [Bool.and_eq_true] at hok
    obtain ⟨body, hb⟩ := Option.isSome_iff_exists.mp hok.2
    have hbody : (d.fd t.g0).body = body := by
      show (rSs 200 (d.g t.g0) (defBody d.st)).getD [] = body
      rw [hb]; rfl
    have FS := C8.fnScope_by hok.1
    refine Fun.okY (k := 2 * n + 1) Fn FS (fun vs H Q E z => z.1) fun cdv A outer s H vs Q E hcdv hr hsp => ?_
    refine ⟨zss W (sgN t wl n) (fun cls dx _ H => E cls dx H) d.pr body, ?_, ?_⟩
    · have ih := all_ok G Gt n
      generalize hX : cxOf (L2.CX P w) P w K mg base d.N d.qual (defScope d.st) (fa k) cdv A outer s H E = X
      have xP : X.prog = P := by rw [← hX]; rfl
      have xw : X.w = w := by rw [← hX]; rfl
      have xK : X.K = K := by rw [← hX]; rfl
      have xm : X.mg = mg := by rw [← hX]; rfl
      have xb : X.base = base := by rw [← hX]; rfl
      have xA : Room (2 * n + 1) X.A := by rw [← hX]; exact hr
      have xN : X.N = d.N := by rw [← hX]; rfl
      have xs : X.env.scope = defScope d.st := by rw [← hX]; rfl
      have xc : X.calm = true := by rw [← hX]; rfl
      have xcd : X.env.code = cdv := by rw [← hX]; rfl
      have fnA : ∀ j up, j < t.ds.length → up ≤ 1 → FnA X W (sgN t wl n) (fa j) j up := fun j up hj hu => by
        obtain ⟨h2, h3, h4⟩ := G.ok j t.ds[j] (List.getElem?_eq_getElem hj)
        refine ⟨_, 2 * n, fdd j, t.ds[j].ps, ?_, xA.mono (by omega), ?_, semF_len (List.getElem?_eq_getElem hj)⟩
        · rw [xP, xw, xK, xm, xb]
          exact ih j _ (List.getElem?_eq_getElem hj)
        · rw [xK]; exact h3
      have C : Ct X W (sgN t wl n) (d.g t.g0) := {
        K := by rw [xK, G.hK]
        N := xN
        nd := FS.nd
        sc := xs
        calm := xc
        hu := by have := xA.un; omega
        blt := fun x hx => by rw [xm]; exact G.blt x hx
        cst := fun x dd hx => by rw [xm]; exact G.cst x dd hx
        kd := fun x kvs hx => by rw [xK, xw, xm]; exact G.kd x kvs hx
        ktn := G.ktn
        ktc := G.ktc
        bf := fun x i hx => by rw [xm]; exact G.bf x i hx
        fns := fun x j io hx => by
          obtain ⟨h1, h2⟩ := G.fns x j io hx
          obtain ⟨np, kk, fd, ps, h3, h4, h5, h6⟩ := (fnA j 1 h2 (by omega)).ex
          obtain ⟨h7, _, _⟩ := G.ok j t.ds[j] (List.getElem?_eq_getElem h2)
          exact ⟨np, kk, fa j, fd, ps, h3, h4.mono (by have := gup_le (d.g t.g0); omega), by rw [xm]; exact h1, by rw [xK]; exact h7.kp, h5, h6⟩
        fld := G.fld
        cls := fun c hc => by rw [xK]; exact G.cls c hc
        mth := fun x m c f h1 h2 h3 => by
          obtain ⟨h4, h5⟩ := G.mth x m c f h1 h2 h3
          exact ⟨fa f, by rw [xK]; exact h4, fnA f 0 h5 (by omega)⟩
        fcl := fun x _ => by rw [← hX]; rfl
        mnf := G.mnf
        gt := fun hx => by
          obtain ⟨c, P, h1, h2, h3⟩ := Gt k d h hx
          exact ⟨c, P, by rw [xb, xm]; exact h1, by rw [xcd, ← hcdv]; exact h2, h3, xA.mono (by omega)⟩
        mkc := fun x c f h1 h2 => by
          obtain ⟨h3, h4, h5, h6⟩ := G.mkc x c f h1 h2
          exact ⟨h3, by rw [xm]; exact h4, fa f, by rw [xK]; exact h5, fnA f 1 h6 (by omega)⟩ }
      have tk : Takes X (fun cls dx _ H => E cls dx H) := by rw [← hX]; exact takes_of rfl rfl rfl rfl
      have po : PassesOwn (model X.prog X.w) X.A X.env X.xe := by rw [← hX]; exact passes_of rfl
      exact (sok_all 200).Ss tk po C hb
    · obtain ⟨hl, htb, ms, F, rs, nd, hq⟩ := hsp
      rw [semF_succ h, hbody] at hq
      have hlen : ms.length = d.ps.length := by rw [← rs.length, hl]
      rw [if_pos hlen] at hq
      refine ⟨ms ++ List.replicate (d.N.length - d.ps.length) .hole, F, ?_, nd, ?_⟩
      · have := rs
        unfold L2.start
        rw [hl]
        exact REnv.of_reps htb _ rs
      · have back : ∀ {σ' : L2.St} {δ' : Env} {H' : Hp} {F' : List Addr}, REnv W H' σ' δ' F' → Kee d.pr (L2.start d.N vs) σ' → ∃ F2, Reps W H' vs (backA (d.fd t.g0) δ') F2 ∧ F2.Sublist F' := fun {σ' δ' H' F'} re ke => by
          have := back_reps vs (fun i => ((d.fd t.g0).keep.getD i false)) re fun i v hv hk => by
            have hi : i < vs.length := (List.getElem?_eq_some_iff.mp hv).1
            have hk2 : i ∈ d.pr := by
              have hk : ((List.range d.ps.length).map d.pr.contains).getD i false = true := hk
              rw [List.getD_eq_getElem?_getD, List.getElem?_map, List.getElem?_range (by rw [← hl]; exact hi)] at hk
              simpa using hk
            rw [ke i hk2]
            show (vs.map some ++ _)[i]? = _
            rw [List.getElem?_append_left (by rw [List.length_map]; exact hi), List.getElem?_map, hv]
            rfl
          rw [hl] at this
          exact this
        cases he : execs (sgN t wl n) body (ms ++ List.replicate (d.N.length - d.ps.length) .hole) with
        | nx δ' =>
          rw [he] at hq
          intro σ' H' F' re nd' st ke
          obtain ⟨F2, r2, sl⟩ := back re ke
          exact hq .non H' [] F2 (.i .non) r2 (nd'.sublist sl) (st.sub fun a z => sl.subset z)
        | rt m δ' =>
          rw [he] at hq
          intro v σ' H' G' F' rv re nd' st ke
          obtain ⟨F2, r2, sl⟩ := back re ke
          exact hq v H' G' F2 rv r2 (nd'.sublist (List.Sublist.append_left sl G')) (st.sub fun a z => (List.mem_append.mp z).elim (List.mem_append_left _) fun z => List.mem_append_right _ (sl.subset z))
        | exc x δ' =>
          rw [he] at hq
          intro cls dx σ' H' F' rx re nd' st ke
          obtain ⟨F2, r2, sl⟩ := back re ke
          exact hq cls dx H' F2 rx r2 (nd'.sublist sl) (st.sub fun a z => sl.subset z)
        | bk δ' => rw [he] at hq; exact False.elim hq
        | ct δ' => rw [he] at hq; exact False.elim hq
        | bad => rw [he] at hq; exact False.elim hq
end
end Zy
end
section
set_option maxHeartbeats 2000000
/-! Zy, part YT: the law's call where defs' tables of code may grow. -/
namespace Zy
open PySem PySem.Spec PyProof.Rows L2 LamX
/-- tracked are at most the script, frozen, and the tables -/
def OnlyT (cs : List (Addr × Addr)) (H : Hp) : Prop := ∀ b, H b = none ∨ b ∈ cs.map (·.2) ∨ ∃ o xs, H b = some (.frz o (.lst xs))
theorem law_callTO {P : Program} {w : World} {K : PySem.W.Frag} {mg mb : Str → Option Value} {CX : CXT} {k : Nat} {fa a : Addr} {cs : List (Addr × Addr)} {fd : FuncData} {x : Str} {sp : Sp} {s₁ : Shared} {vs : List Value} {ns : List Int}
    (KX : K.In s₁.heap) (hns : s₁.heap.Ns mainGlobals mg) (hb : s₁.heap.Ns builtinsNs mb) (hbb : ∀ x : Str, x ≠ "__name__" → mb x = bootBuiltins x) (hlim : s₁.heap.NoLimit) (hg : s₁.gens = #[])
    (hT : ∀ p ∈ cs, s₁.heap.get? p.2 = some { cls := .none, data := .fields #[] }) (nT : ∀ p ∈ cs, K.lookup p.2 = none) (C : ∀ p ∈ cs, PySem.W.CodeHd s₁.heap p.1 p.2)
    (hbm : ∃ (bm : Addr) (ob : Obj), mg "__builtins__" = some (.ref bm) ∧ bm ≠ builtinsNs ∧ s₁.heap.get? bm = some ob ∧ ob.cls = .type "module" ∧ ob.dict = some builtinsNs ∧ ob.data = .plain)
    (ha : s₁.heap.get? a = some { cls := .type "list", data := .seq vs.toArray }) (hi : IntsAre vs ns) (hl : ns.length ≤ sizeLine) (hr : Room k callerA)
    (F : ∀ base : Heap, K.In base → base.Ns mainGlobals mg → (∀ p ∈ cs, TabB base mg p.1 p.2) → FnOk P w K mg base CX k fa fd [x] sp) (hbind : ∀ (s : Shared) (u : Value), BindsTo s fd ⟨[u], []⟩ [(x, u)])
    (hsp : ∀ H : Hp, (∀ p ∈ cs, H p.2 = some (.tbl #[])) → OnlyT cs H → SqL K H a (ns.map V.int) → sp [.ref a] H (fun v _ => v = .bl true) fun _ _ _ => False)
    (hCX : ∀ H e s', CX [] H s₁ (fun _ _ _ => False) e s' → False) :
    codeAny (model P w) callerA (.call (.ref fa) ⟨[.ref a], []⟩) (fun r s' => r = .ok (.ret (.bool true)) ∧ OldK s₁.heap s'.heap ∧ s'.os = s₁.os ∧ AllBare s'.gens) s₁ := by
  have rv := vals_ints hi
  have at_tab : ∀ b : Addr, b ∈ cs.map (·.2) → s₁.heap.get? b = some { cls := .none, data := .fields #[] } ∧ K.lookup b = none := fun b hb => by
    obtain ⟨p, hp, e⟩ := List.mem_map.mp hb
    rw [← e]
    exact ⟨hT p hp, nT p hp⟩
  have aT : a ∉ cs.map (·.2) := fun z => by
    have q := (at_tab a z).1
    rw [ha] at q
    exact absurd (congrArg Obj.cls (Option.some.inj q)) (by simp)
  have memT : ∀ p ∈ cs, p.2 ∈ cs.map (·.2) := fun p hp => List.mem_map.mpr ⟨p, hp, rfl⟩
  -- run it from H, in which at most the script and the tables are tracked
  have run : ∀ H : Hp, (∀ p ∈ cs, H p.2 = some (.tbl #[])) → OnlyT cs H → SqL K H a (ns.map V.int) → HOk P w H s₁.heap → (∀ b, H b ≠ none → (b = a ∧ K.lookup a = none) ∨ b ∈ cs.map (·.2)) →
      codeAny (model P w) callerA (.call (.ref fa) ⟨[.ref a], []⟩) (fun r s' => r = .ok (.ret (.bool true)) ∧ OldK s₁.heap s'.heap ∧ s'.os = s₁.os ∧ AllBare s'.gens) s₁ := by
    intro H hH hO hS hok hA
    -- an object that is no list and no table is not tracked
    have un : ∀ {b : Addr} {o : Obj}, s₁.heap.get? b = some o → o.cls ≠ .type "list" → o.cls ≠ .none → H b = none := fun {b o} e h1 h2 => by
      cases q : H b with
      | none => rfl
      | some u =>
        rcases hA b (by rw [q]; simp) with ⟨z, _⟩ | z
        · rw [z, ha] at e
          cases e
          exact (h1 rfl).elim
        · rw [(at_tab b z).1] at e
          cases e
          exact (h2 rfl).elim
    have unD : ∀ {b : Addr} {o : Obj}, s₁.heap.get? b = some o → (∀ vs n, o.data ≠ .seq vs n) → o.data ≠ .fields #[] → H b = none := fun {b o} e h1 h2 => by
      cases q : H b with
      | none => rfl
      | some u =>
        rcases hA b (by rw [q]; simp) with ⟨z, _⟩ | z
        · rw [z, ha] at e
          cases e
          exact (h1 _ _ rfl).elim
        · rw [(at_tab b z).1] at e
          cases e
          exact (h2 rfl).elim
    have nsK : ∀ {b : Addr} {m : Str → Option Value}, s₁.heap.Ns b m → (hidT s₁.heap H).Ns b m := fun {b m} ⟨o, es, ep, e, d, r⟩ =>
      ⟨o, es, ep, hidT_get e (unD e (fun vs n z => by rw [d] at z; cases z) (fun z => by rw [d] at z; cases z)), d, r⟩
    have hKb : K.In (hidT s₁.heap H) := fun b o e => hidT_get (KX b o e) (by
      cases q : H b with
      | none => rfl
      | some u =>
        rcases hA b (by rw [q]; simp) with ⟨z, z2⟩ | z
        · rw [z, z2] at e
          cases e
        · rw [(at_tab b z).2] at e
          cases e)
    have hM : L2.Mod K mg (hidT s₁.heap H) := ⟨hKb, nsK hns, ⟨mb, nsK hb, hbb⟩, let ⟨mc, h1, h2⟩ := hlim; ⟨mc, nsK h1, h2⟩⟩
    have TB : ∀ p ∈ cs, TabB (hidT s₁.heap H) mg p.1 p.2 := fun p hp => by
      refine ⟨?_, ?_, fun z => ?_⟩
      · obtain ⟨o, us, file, tf, flags, tg, inF, text, tt, e1, r1, r2, r3, r⟩ := C p hp
        exact ⟨o, us, file, tf, flags, tg, inF, text, tt, hidT_get e1 (un e1 (by rw [r1]; simp) (by rw [r1]; simp)), r1, r2, r3, r⟩
      · obtain ⟨bm, ob, b1, b2, b3, b4, b5, b6⟩ := hbm
        refine ⟨bm, ob, b1, b2, fun q => ?_, fun q => ?_, hidT_get b3 (un b3 (by rw [b4]; simp) (by rw [b4]; simp)), b4, b5, b6⟩
        · obtain ⟨o, es, ep, e, hd, _⟩ := hns
          rw [q, e] at b3
          cases b3
          rw [hd] at b6
          cases b6
        · rw [q, hT p hp] at b3
          cases b3
          cases b6
      · obtain ⟨o, es, ep, e, hd, _⟩ := hns
        rw [z, hT p hp] at e
        cases e
        cases hd
    have e0 : Env0 P w K mg (hidT s₁.heap H) callerA [] s₁ H := ⟨rfl, hM, fun b o e => of_hidT e, Nat.le_of_eq (hidT_size _ _), trivial, fun b hb => absurd (show b ∈ ([] : List Addr) from hb) (by simp), hok, .of_eq hg⟩
    refine codeAny_mono ((F _ hKb (nsK hns) TB).run callerA [] s₁ H ⟨[.ref a], []⟩ [.ref a] [.ref a] _ _ hr e0 (hbind s₁ (.ref a)) (.cons rfl .nil) (hsp H hH hO hS)) fun r s' h => ?_
    cases r with
    | error e => exact (hCX H e s' h).elim
    | ok fl =>
      cases fl with
      | next => exact False.elim h
      | brk => exact False.elim h
      | cont => exact False.elim h
      | ret u =>
        obtain ⟨v, H', os, bare, un', hok', r', q⟩ := h
        obtain rfl : v = .bl true := q
        obtain rfl : u = Value.bool true := r'
        have same : ∀ b o, b ∉ cs.map (·.2) → s₁.heap.get? b = some o → s'.heap.get? b = some o := fun b o nb e => by
          cases q : H b with
          | none => exact un'.keep b o e q (by intro z; exact absurd (show b ∈ ([] : List Addr) from z) (by simp)) (by simp)
          | some u =>
            rcases hO b with z | z | ⟨ob, xs, z⟩
            · rw [q] at z; cases z
            · exact absurd z nb
            · obtain ⟨e1, _⟩ := hok b _ z
              obtain ⟨e2, _⟩ := hok' b _ (un'.frzs b ob _ z)
              rw [e] at e1; cases e1
              exact e2
        have grown : ∀ p ∈ cs, ∃ more : Array Value, s'.heap.get? p.2 = some { cls := .none, data := .fields more } := fun p hp => by
          obtain ⟨more, z⟩ := un'.tbls p.2 #[] (hH p hp)
          exact ⟨_, hok' p.2 _ z⟩
        refine ⟨rfl, ⟨fun b o e => ?_, fun b o e => ?_⟩, os, bare⟩
        · by_cases hb : b ∈ cs.map (·.2)
          · obtain ⟨p, hp, ep⟩ := List.mem_map.mp hb
            obtain ⟨more, hm⟩ := grown p hp
            rw [← ep] at e ⊢
            rw [hT p hp] at e
            cases e
            exact .inr (.inl ⟨((C p hp).tab (hT p hp)).isCodeTable, rfl, #[], more, rfl, by rw [Array.empty_append]; exact hm⟩)
          · exact .inl (same b o hb e)
        · by_cases hb : b ∈ cs.map (·.2)
          · obtain ⟨p, hp, ep⟩ := List.mem_map.mp hb
            obtain ⟨more, hm⟩ := grown p hp
            rw [← ep]
            exact ⟨_, hm⟩
          · exact ⟨o, same b o hb e⟩
  cases hk : K.lookup a with
  | some o =>
    have e := KX a o hk
    rw [ha] at e
    cases e
    refine run (fun b => if b ∈ cs.map (·.2) then some (.tbl #[]) else none) (fun p hp => if_pos (memT p hp)) (fun b => ?_) (.inr ⟨_, vs.toArray, _, hk, rfl, rfl, rfl, by rw [List.size_toArray, hi.length]; exact hl, by simpa using rv⟩) (fun b u z => ?_) (fun b z => ?_)
    · by_cases hb : b ∈ cs.map (·.2)
      · exact .inr (.inl hb)
      · exact .inl (if_neg hb)
    · by_cases hb : b ∈ cs.map (·.2)
      · cases (if_pos hb).symm.trans z
        exact (at_tab b hb).1
      · cases (if_neg hb).symm.trans z
    · by_cases hb : b ∈ cs.map (·.2)
      · exact .inr hb
      · exact absurd (if_neg hb) z
  | none =>
    refine run (fun b => if b = a then some (.frz { cls := .type "list", data := .seq vs.toArray } (.lst (ns.map V.int))) else if b ∈ cs.map (·.2) then some (.tbl #[]) else none) (fun p hp => (if_neg (show ¬ p.2 = a from fun z => aT (by rw [← z]; exact memT p hp))).trans (if_pos (memT p hp))) (fun b => ?_)
      (.inl (.inr ⟨{ cls := .type "list", data := .seq vs.toArray }, if_pos rfl⟩)) (fun b u z => ?_) (fun b z => ?_)
    · by_cases hb : b = a
      · exact .inr (.inr ⟨_, _, if_pos hb⟩)
      · by_cases hb2 : b ∈ cs.map (·.2)
        · exact .inr (.inl hb2)
        · exact .inl ((if_neg hb).trans (if_neg hb2))
    · by_cases hb : b = a
      · cases (if_pos hb).symm.trans z
        rw [hb]
        exact ⟨ha, by rw [List.length_map]; exact hl, vs, _, rv, ha⟩
      · have z1 := (if_neg hb).symm.trans z
        by_cases hb2 : b ∈ cs.map (·.2)
        · cases (if_pos hb2).symm.trans z1
          exact (at_tab b hb2).1
        · cases (if_neg hb2).symm.trans z1
    · by_cases hb : b = a
      · exact .inl ⟨hb, hk⟩
      · by_cases hb2 : b ∈ cs.map (·.2)
        · exact .inr hb2
        · exact absurd ((if_neg hb).trans (if_neg hb2)) z
/-- what is known of the tables behind the top -/
def TabsKnown (q : Program) (K : PySem.W.Frag) (h : Heap) : Prop := ∀ x r c P, (recsOf q).find? (fun e => e.name == x) = some r → PySem.W.tabIn K x = some (c, P) → PySem.W.CodeHd h c P ∧ h.get? P = some { cls := .none, data := .fields #[] }
theorem walk_tab {l : PySem.W.OpenLaw} {n k : Nat} {q : Program} {loose : List Str} {XP : (Str → Option Value) → Heap → Prop} {YP : World → Heap → Prop} {d : PySem.DefRec} {K : Params → PySem.W.Frag} {CX : World → CXT} {x : Str}
    (hn : l.most = some n) (hn2 : n ≤ sizeLine) (hdf : d.params.defaults = []) (hr : Room k callerA) (hY : ∀ (w : World) (h : Heap), YP w h → (K w.params).In h)
    (F : ∀ (w : World) (mg : Str → Option Value) (fa : Addr) (h : Heap), (K w.params).In h → h.Ns mainGlobals mg → mg d.name = some (.ref fa) → TabsKnown q (K w.params) h →
      ∃ (fd : FuncData) (cs : List (Addr × Addr)) (sp : Sp), (∀ p ∈ cs, PySem.W.CodeHd h p.1 p.2 ∧ h.get? p.2 = some { cls := .none, data := .fields #[] }) ∧ (∀ p ∈ cs, (K w.params).lookup p.2 = none) ∧ (∀ (s : Shared) (u : Value), BindsTo s fd ⟨[u], []⟩ [(x, u)]) ∧
        (∀ (H : Hp) (a : Addr) (ns : List Int), ns.length ≤ n → (∀ p ∈ cs, H p.2 = some (.tbl #[])) → OnlyT cs H → SqL (K w.params) H a (ns.map V.int) → sp [.ref a] H (fun v _ => v = .bl true) fun _ _ _ => False) ∧
        ∀ base : Heap, (K w.params).In base → base.Ns mainGlobals mg → (∀ p ∈ cs, TabB base mg p.1 p.2) → FnOk l.prog w (K w.params) mg base (CX w) k fa fd [x] sp)
    (hCX : ∀ (w : World) (H : Hp) (s : Shared) (e : Value) (s' : Shared), CX w [] H s (fun _ _ _ => False) e s' → False) :
    PySem.W.WalkO q loose XP YP l.row.toRowW d [] (fun f vs => PySem.call f vs) := by
  refine Att.attach_callB hn hdf fun w s₀ s₁ mg mb fa o pm cd doc a vs ns G Y ho hd hcd hmg hobj hints hlen hbits hg => ?_
  have KX := hY w _ Y
  obtain ⟨fd, cs, sp, hT, nT, hb, hsp, hF⟩ := F w mg fa _ KX G.T.g hmg fun x r c P h1 h2 => PySem.W.tab_of G.T KX h1 h2
  exact law_callTO KX G.T.g G.T.b G.T.builtins G.T.nolimit hg (fun p hp => (hT p hp).2) nT (fun p hp => (hT p hp).1) G.T.bmain hobj hints (Nat.le_trans hlen hn2) hr hF hb (fun H hH hO hS => hsp H a ns hlen hH hO hS) fun H e s' => hCX w H s₁ e s'
end Zy
end
section
/-! Zy, part U: tables of facts, the law's end. -/
namespace Zy
open PySem PySem.Spec PyProof.Rows L2

def AllL {α : Type} (P : Str → α → Prop) : List (Str × α) → Prop
  | [] => True
  | (x, a) :: r => P x a ∧ AllL P r
theorem AllL.look {α : Type} {P : Str → α → Prop} {x : Str} {a : α} : ∀ {l : List (Str × α)}, AllL P l → l.lookup x = some a → P x a
  | [], _, e => by cases e
  | (y, b) :: r, h, e => by
    rw [List.lookup_cons] at e
    split at e
    · rename_i hb
      cases e
      rw [eq_of_beq hb]
      exact h.1
    · exact AllL.look h.2 e
def AllN (P : Str → Prop) : List Str → Prop
  | [] => True
  | x :: r => P x ∧ AllN P r
theorem AllN.look {P : Str → Prop} {x : Str} : ∀ {l : List Str}, AllN P l → l.contains x = true → P x
  | [], _, e => by cases e
  | y :: r, h, e => by
    rw [List.contains_cons, Bool.or_eq_true] at e
    rcases e with e | e
    · rw [eq_of_beq e]; exact h.1
    · exact AllN.look h.2 e
def AllI {α : Type} (P : Nat → α → Prop) : Nat → List α → Prop
  | _, [] => True
  | i, a :: r => P i a ∧ AllI P (i + 1) r
theorem AllI.look {α : Type} {P : Nat → α → Prop} {a : α} : ∀ {l : List α} {i k : Nat}, AllI P i l → l[k]? = some a → P (i + k) a
  | [], _, _, _, e => by simp at e
  | b :: r, i, 0, h, e => by
    simp at e
    rw [← e]
    exact h.1
  | b :: r, i, k + 1, h, e => by
    have := AllI.look h.2 (k := k) (by simpa using e)
    rw [show i + (k + 1) = i + 1 + k by omega]
    exact this
/-- the world of a text without classes -/
def wd0 (K : PySem.W.Frag) (tb : List Addr := []) : Wd := ⟨K, fun _ => 0, fun _ => "?", fun _ => 0, fun _ => False, fun _ _ => False, fun _ _ z => z.elim, tb⟩
theorem glo0 {tb : List Addr} {w : World} {t : Txt} {K : PySem.W.Frag} {mg : Str → Option Value} {fa : Nat → Addr} {fdd : Nat → FuncData}
    (ok : AllI (fun k (d : Dd) => Fun K d.x d.qual d.st (fa k) (fdd k) ∧ L2.Binds K (fdd k) d.ps [] ∧ d.ok t.g0 = true) 0 t.ds) (blt : AllN (fun x => mg x = none) t.g0.blt)
    (cst : AllL (fun x d => ∃ u v, mg x = some u ∧ RelV v u ∧ CstOk (wd0 K tb) v d) t.g0.cst) (fns : AllL (fun x (p : Nat × Bool) => mg x = some (.ref (fa p.1)) ∧ p.1 < t.ds.length) t.g0.fns)
    (fld : t.g0.fld = []) (mth : t.g0.mth = []) (cls : t.g0.cls = []) (kd : t.g0.kd = [] := by rfl) (kt : t.g0.kt = false := by rfl) (bf : AllL (fun x i => mg x = some (.builtin i)) t.g0.bf := by trivial) : Glo (wd0 K tb) w t K mg fa fdd where
  hK := rfl
  ok := fun k d h => by
    have := ok.look h
    rw [Nat.zero_add] at this
    exact this
  blt := fun x h => blt.look h
  cst := fun x d h => cst.look h
  kd := fun x kvs h => by rw [kd] at h; cases h
  ktn := fun _ _ _ z => z
  ktc := fun z => by rw [kt] at z; cases z
  bf := fun x i h => bf.look h
  fns := fun x k io h => fns.look h
  fld := fun x k h => by rw [fld] at h; cases h
  cls := fun c h => h.elim
  mth := fun x m c f h => by rw [mth] at h; cases h
  mnf := fun x m h => by rw [mth] at h; cases h
  mkc := fun x c f h => by rw [cls] at h; cases h
theorem RepDs.mkInts {K : Kc} {H : Hp} : ∀ ns : List Int, RepDs K H (ns.map V.int) (ns.map D.int)
  | [] => .nil
  | n :: r => .cons (.int n) (RepDs.mkInts r)
/-- a value of the module that is plain data -/
def okV1 : Value → D → Bool
  | .none, .non => true
  | .bool a, .bl b => a == b
  | .int i _, .int j => decide (i = j)
  | .str x _, .str y => decide (x = y)
  | _, _ => false
def okVs1 : List Value → List D → Bool
  | [], [] => true
  | v :: vs, d :: ds => okV1 v d && okVs1 vs ds
  | _, _ => false
theorem okV1_of {K : Kc} {v : Value} {d : D} (h : okV1 v d = true) : ∃ x : V, RelV x v ∧ ∀ H, RepD K H x d := by
  unfold okV1 at h
  split at h
  · exact ⟨.non, rfl, fun _ => .non⟩
  · rename_i a b
    rw [← eq_of_beq h]
    exact ⟨.bl a, rfl, fun _ => .bl _⟩
  · rename_i i t j
    rw [← of_decide_eq_true h]
    exact ⟨.int i, ⟨t, rfl⟩, fun _ => .int _⟩
  · rename_i x t y
    rw [← of_decide_eq_true h]
    exact ⟨.str x, ⟨t, rfl⟩, fun _ => .str _⟩
  · cases h
theorem okVs1_of {K : Kc} : ∀ {vs : List Value} {ds : List D}, okVs1 vs ds = true → ∃ xs : List V, Vals xs vs ∧ ∀ H, RepDs K H xs ds
  | [], [], _ => ⟨[], .nil, fun _ => .nil⟩
  | v :: vs, d :: ds, h => by
    have h : (okV1 v d && okVs1 vs ds) = true := h
    rw [Bool.and_eq_true] at h
    obtain ⟨x, h1, h2⟩ := okV1_of (K := K) h.1
    obtain ⟨xs, h3, h4⟩ := okVs1_of (K := K) h.2
    exact ⟨x :: xs, .cons h1 h3, fun H => .cons (h2 H) (h4 H)⟩
  | [], _ :: _, h => by cases h
  | _ :: _, [], h => by cases h
theorem cst_tup {W : Wd} {a : Addr} {od : Option Addr} {its : Array Value} {n : Nat} {sl : Array (Option Value)} {l : List D} (lk : W.K.lookup a = some ⟨.type "tuple", od, .seq its n, sl⟩) (hz : decide (its.size ≤ sizeLine) = true) (ok : okVs1 its.toList l = true) :
    CstOk W (.ref a) (.tup l) := by
  obtain ⟨xs, h1, h2⟩ := okVs1_of (K := W.kk) ok
  exact ⟨a, xs, rfl, ⟨_, its, n, lk, rfl, rfl, of_decide_eq_true hz, h1⟩, h2⟩
theorem kd_of {W : Wd} {K : PySem.W.Frag} {P : Params} {mg : Str → Option Value} {x : Str} {kvs : List (Str × D)} {a : Addr} (h : mg x = some (.ref a)) (f : AllL (fun z d => ∃ v, KdP K P a z v ∧ ∀ H, RepD W.kk H v d) kvs) : KdOk W K P mg x kvs :=
  ⟨a, h, fun _ _ e => f.look e⟩
theorem kdP_str {W : Wd} {K : PySem.W.Frag} {P : Params} {a : Addr} {es : Array DictEntry} {n : Nat} {z y : Str} {t : Nat} (hl : K.lookup a = some ⟨.type "dict", none, .dict es n, #[]⟩) (hk : PySem.W.KeysLit P es.toList) (h : PySem.W.nsIn K a z = some (some (.str y t))) :
    ∃ v, KdP K P a z v ∧ ∀ H, RepD W.kk H v (.str y) := ⟨.str y, ⟨es, n, _, hl, hk, h, ⟨_, rfl⟩⟩, fun H => .str y⟩
/-- the law's promise at its call -/
theorem sp_law {W : Wd} {H : Hp} {a : Addr} {ns : List Int} {f : List M → Fo} (o : Only H) (s : SqL W.K H a (ns.map V.int)) (h : ∃ ms', f [.rol (ns.map .int)] = .ok (.i (.bl true)) ms') (ht : Tbs W H := by intro p hp; cases hp) : spF W 1 f [.ref a] H (fun v _ => v = .bl true) fun _ _ _ => False := by
  obtain ⟨ms', h⟩ := h
  have rol : Rol W.K H a (ns.map V.int) := by
    rcases s with (s | s) | s
    · rcases o a with z | ⟨ow, xs, z⟩
      · rw [z] at s; cases s
      · rw [z] at s; cases s
    · exact .inl s
    · exact .inr s
  refine ⟨rfl, ht, [.rol (ns.map .int)], _, .cons (.rol rol (RepDs.mkInts ns)) .nil, List.nodup_nil, ?_⟩
  rw [h]
  intro v H' G F' rv _ _ _
  cases rv with
  | i rv => cases rv; rfl
theorem tbg_nil {H : Hp} : TbG H #[] := ⟨True.intro, fun pos cv hc => by
  have z : codeAmong pos [] = some cv := hc
  simp [codeAmong] at z⟩
theorem sp_lawT {W : Wd} {H : Hp} {a : Addr} {ns : List Int} {f : List M → Fo} {cs : List (Addr × Addr)} (hcs : ∀ p ∈ cs, H p.2 = some (.tbl #[])) (o : OnlyT cs H) (s : SqL W.K H a (ns.map V.int)) (h : ∃ ms', f [.rol (ns.map .int)] = .ok (.i (.bl true)) ms') (ht : W.tb = cs.map (·.2)) : spF W 1 f [.ref a] H (fun v _ => v = .bl true) fun _ _ _ => False := by
  obtain ⟨ms', h⟩ := h
  have rol : Rol W.K H a (ns.map V.int) := by
    rcases s with (s | s) | s
    · rcases o a with z | z | ⟨ow, xs, z⟩
      · rw [z] at s; cases s
      · obtain ⟨p, hp, e⟩ := List.mem_map.mp z
        have := hcs p hp
        rw [e, s] at this
        cases this
      · rw [z] at s; cases s
    · exact .inl s
    · exact .inr s
  refine ⟨rfl, fun b hb => ?_, [.rol (ns.map .int)], _, .cons (.rol rol (RepDs.mkInts ns)) .nil, List.nodup_nil, ?_⟩
  · rw [ht] at hb
    obtain ⟨p, hp, e⟩ := List.mem_map.mp hb
    rw [← e]
    exact ⟨#[], hcs p hp, tbg_nil⟩
  rw [h]
  intro v H' G F' rv _ _ _
  cases rv with
  | i rv => cases rv; rfl
theorem gtok_nil {W : Wd} {t : Txt} {base : Heap} {mg : Str → Option Value} {fdd : Nat → FuncData} (h : t.ds.all (fun d => !d.gx) = true) : GtOk W t base mg fdd := fun k d hk hg => by
  have := List.all_eq_true.mp h d (List.mem_of_getElem? hk)
  rw [hg] at this
  cases this
theorem gtok_of {W : Wd} {t : Txt} {base : Heap} {mg : Str → Option Value} {fdd : Nat → FuncData} (h : AllI (fun k (d : Dd) => d.gx = true → ∃ c P, LamX.TabB base mg c P ∧ (fdd k).code = .ref c ∧ P ∈ W.tb) 0 t.ds) : GtOk W t base mg fdd := fun k d hk hg => by
  have := h.look hk
  rw [Nat.zero_add] at this
  exact this hg
theorem cx_no {P : Program} {w : World} (H : Hp) (s : Shared) (e : Value) (s' : Shared) : L2.CX P w [] H s (fun _ _ _ => False) e s' → False := fun h => by
  obtain ⟨_, _, _, _, _, _, _, _, _, _, _, _, z⟩ := h
  exact z
end Zy
/-! ### a text with classes -/
namespace Zy
open PySem PySem.Spec PyProof.Rows L2
def adrOf (K : PySem.W.Frag) (x : Str) : Addr := match PySem.W.nsIn K mainGlobals x with
  | some (some (.ref a)) => a
  | _ => 0
theorem adrOf_of {K : PySem.W.Frag} {x : Str} {a : Addr} (h : PySem.W.nsIn K mainGlobals x = some (some (.ref a))) : adrOf K x = a := by unfold adrOf; rw [h]
def fnOfL (fl : List (Str × Nat)) (k : Nat) : Str := ((fl.find? fun p => p.2 == k).map (·.1)).getD "?"
def fiOfL (fl : List (Str × Nat)) (x : Str) : Nat := (fl.lookup x).getD 0
/-- the world of a text whose classes have these names -/
def wdC (cn : List Str) (fl : List (Str × Nat)) (K : PySem.W.Frag) (kt : Bool := false) (tb : List Addr := []) : Wd := ⟨K, fun c => adrOf K (cn.getD c "?"), fnOfL fl, fiOfL fl, fun c => c < cn.length, fun a xs => kt = true ∧ Kct K a xs, fun _ _ z => z.2, tb⟩
def fldOk (fl : List (Str × Nat)) : Bool := fl.all fun p => fnOfL fl p.2 == p.1 && fiOfL fl p.1 == p.2
def mnfOk (fl ml : List (Str × Nat)) : Bool := ml.all fun p => p.1 != "?" && fl.all fun q => q.1 != p.1
theorem lookup_mem {α : Type} {x : Str} {a : α} : ∀ {l : List (Str × α)}, l.lookup x = some a → (x, a) ∈ l
  | [], h => by cases h
  | (y, b) :: r, h => by
    rw [List.lookup_cons] at h
    split at h
    · rename_i hb
      cases h
      rw [eq_of_beq hb]
      exact List.mem_cons_self
    · exact List.mem_cons_of_mem _ (lookup_mem h)
/-- what is there of one class: its facts, its makers and its methods -/
structure ClsF (K : PySem.W.Frag) (mg : Str → Option Value) (fl : List (Str × Nat)) (x : Str) : Prop where
  gl : mg x = some (.ref (adrOf K x))
  cl : Cls K (adrOf K x)
  na : AllL (fun f _ => NoAttr K (adrOf K x) f) fl
/-- the i-th class has them -/
theorem gloC {tb : List Addr} {w : World} {t : Txt} {K : PySem.W.Frag} {mg : Str → Option Value} {fa : Nat → Addr} {fdd : Nat → FuncData} (cn : List Str)
    (ok : AllI (fun k (d : Dd) => Fun K d.x d.qual d.st (fa k) (fdd k) ∧ L2.Binds K (fdd k) d.ps [] ∧ d.ok t.g0 = true) 0 t.ds) (blt : AllN (fun x => mg x = none) t.g0.blt)
    (cst : AllL (fun x d => ∃ u v, mg x = some u ∧ RelV v u ∧ CstOk (wdC cn t.g0.fld K t.g0.kt tb) v d) t.g0.cst) (fns : AllL (fun x (p : Nat × Bool) => mg x = some (.ref (fa p.1)) ∧ p.1 < t.ds.length) t.g0.fns)
    (fld : fldOk t.g0.fld = true) (mnf : mnfOk t.g0.fld t.g0.mth = true) (cls : AllI (fun _ x => ClsF K mg t.g0.fld x) 0 cn)
    (mth : ∀ x m c f, t.g0.mth.lookup x = some m → t.mt.lookup (c, m) = some f → c < cn.length → Meth K (adrOf K (cn.getD c "?")) x (fa f) ∧ f < t.ds.length)
    (mkc : ∀ x c f, t.g0.cls.lookup x = some c → t.ini.lookup c = some f → cn[c]? = some x ∧ Mk K (adrOf K x) (fa f) ∧ f < t.ds.length) (kd : AllL (fun x kvs => KdOk (wdC cn t.g0.fld K t.g0.kt tb) K w.params mg x kvs) t.g0.kd := by trivial) (bf : AllL (fun x i => mg x = some (.builtin i)) t.g0.bf := by trivial) : Glo (wdC cn t.g0.fld K t.g0.kt tb) w t K mg fa fdd where
  hK := rfl
  ok := fun k d h => by
    have := ok.look h
    rw [Nat.zero_add] at this
    exact this
  blt := fun x h => blt.look h
  cst := fun x d h => cst.look h
  kd := fun x kvs h => kd.look h
  ktn := fun h _ _ z => by have := z.1; rw [h] at this; cases this
  ktc := fun h _ _ z => ⟨h, z⟩
  bf := fun x i h => bf.look h
  fns := fun x k io h => fns.look h
  fld := fun x k h => by
    have := List.all_eq_true.mp fld _ (lookup_mem h)
    rw [Bool.and_eq_true] at this
    exact ⟨eq_of_beq this.1, eq_of_beq this.2⟩
  cls := fun c h => by
    obtain ⟨x, hx⟩ : ∃ x, cn[c]? = some x := ⟨_, List.getElem?_eq_getElem h⟩
    have f := cls.look hx
    have e : (wdC cn t.g0.fld K t.g0.kt tb).ca c = adrOf K x := by
      show adrOf K (cn.getD c "?") = _
      rw [List.getD_eq_getElem?_getD, hx]; rfl
    rw [e]
    exact ⟨f.cl, fun y k hy => f.na.look hy⟩
  mth := fun x m c f h1 h2 h3 => mth x m c f h1 h2 h3
  mnf := fun x m h j e => by
    have := List.all_eq_true.mp mnf _ (lookup_mem h)
    rw [Bool.and_eq_true] at this
    have e : fnOfL t.g0.fld j = x := e
    unfold fnOfL at e
    cases hf : t.g0.fld.find? fun p => p.2 == j with
    | none =>
      rw [hf] at e
      have e : ("?" : Str) = x := e
      rw [← e] at this
      simp at this
    | some p =>
      rw [hf] at e
      have e : p.1 = x := e
      have := List.all_eq_true.mp this.2 _ (List.mem_of_find?_eq_some hf)
      rw [e] at this
      simp at this
  mkc := fun x c f h1 h2 => by
    obtain ⟨h3, h4, h5⟩ := mkc x c f h1 h2
    have e : (wdC cn t.g0.fld K t.g0.kt tb).ca c = adrOf K x := by
      show adrOf K (cn.getD c "?") = _
      rw [List.getD_eq_getElem?_getD, h3]; rfl
    have f := cls.look h3
    rw [e]
    exact ⟨(List.getElem?_eq_some_iff.mp h3).1, f.gl, h4, h5⟩
theorem clsF_of {K : PySem.W.Frag} {mg : Str → Option Value} {fl : List (Str × Nat)} {x : Str} {C : Addr} (hC : PySem.W.nsIn K mainGlobals x = some (some (.ref C))) (gl : mg x = some (.ref C)) (pg : PySem.W.plainGet K C Str.empty = true) (hd : PySem.W.hasDictIn K C = true) (po : PySem.W.plainOver K C = true)
    (sa : PySem.W.findIn K (.ref C) "__setattr__" = some (some (.builtin "object.__setattr__"))) (na : AllL (fun f _ => NoAttr K C f) fl) : ClsF K mg fl x := by
  have e := adrOf_of hC
  exact ⟨by rw [e]; exact gl, by rw [e]; exact ⟨pg, hd, po, sa⟩, by rw [e]; exact na⟩
def AllR {α : Type} (P : α → Prop) : List α → Prop
  | [] => True
  | a :: r => P a ∧ AllR P r
theorem AllR.mem {α : Type} {P : α → Prop} {a : α} : ∀ {l : List α}, AllR P l → a ∈ l → P a
  | [], _, h => by cases h
  | b :: r, h, m => by
    rcases List.mem_cons.mp m with e | m
    · rw [e]; exact h.1
    · exact AllR.mem h.2 m
/-- methods, one row each: (class, number of the method, its def) -/
theorem mth_of {K : PySem.W.Frag} {fa : Nat → Addr} {cn : List Str} {ml : List (Str × Nat)} {mt : List ((Nat × Nat) × Nat)} {n : Nat} (ok : ml.all (fun p => fnOfL ml p.2 == p.1) = true)
    (h : AllR (fun r => Meth K (adrOf K (cn.getD r.1.1 "?")) (fnOfL ml r.1.2) (fa r.2) ∧ r.2 < n) mt) (x : Str) (m c f : Nat) (h1 : ml.lookup x = some m) (h2 : mt.lookup (c, m) = some f) (_ : c < cn.length) : Meth K (adrOf K (cn.getD c "?")) x (fa f) ∧ f < n := by
  have : ((c, m), f) ∈ mt := by
    clear h
    induction mt with
    | nil => cases h2
    | cons a r ih =>
      obtain ⟨k, v⟩ := a
      rw [List.lookup_cons] at h2
      split at h2
      · rename_i hb
        cases h2
        rw [eq_of_beq hb]
        exact List.mem_cons_self
      · exact List.mem_cons_of_mem _ (ih h2)
  have e := eq_of_beq (List.all_eq_true.mp ok _ (lookup_mem h1))
  have := h.mem this
  rw [e] at this
  exact this
theorem meth_of {K : PySem.W.Frag} {x y : Str} {C f : Addr} {z w : Str} (hC : PySem.W.nsIn K mainGlobals x = some (some (.ref C))) (hz : z = x) (hw : w = y) (M : Meth K C y f) : Meth K (adrOf K z) w f := by
  subst hz hw
  rw [adrOf_of hC]
  exact M
theorem mk_of {K : PySem.W.Frag} {x : Str} {C f : Addr} (hC : PySem.W.nsIn K mainGlobals x = some (some (.ref C))) (M : Mk K C f) : Mk K (adrOf K x) f := by
  rw [adrOf_of hC]
  exact M
theorem mkc_of {K : PySem.W.Frag} {fa : Nat → Addr} {cn : List Str} {cl : List (Str × Nat)} {ini : List (Nat × Nat)} {n : Nat}
    (h : AllL (fun x c => ∀ f, ini.lookup c = some f → cn[c]? = some x ∧ Mk K (adrOf K x) (fa f) ∧ f < n) cl) (x : Str) (c f : Nat) (h1 : cl.lookup x = some c) (h2 : ini.lookup c = some f) : cn[c]? = some x ∧ Mk K (adrOf K x) (fa f) ∧ f < n := h.look h1 f h2
end Zy
end
section
/-! Zy, part V: how the core runs, for plain proofs. -/
namespace Zy
open PySem

/-- the loop of a for, by a state -/
theorem forL_run {chk : Zy.Env → Bool} {body : D → Zy.Env → Fl} {l : List D} {δ : Zy.Env} (P : Nat → Zy.Env → Prop) (h0 : P 0 δ) (hs : ∀ i d δ, l[i]? = some d → P i δ → ∃ δ', (body d δ = .nx δ' ∨ body d δ = .ct δ') ∧ chk δ' = true ∧ P (i + 1) δ') : ∃ δ', forL chk body l δ = .nx δ' ∧ P l.length δ' := by
  induction l generalizing δ P with
  | nil => exact ⟨δ, rfl, h0⟩
  | cons d r ih =>
    obtain ⟨δ1, h1, h2, h3⟩ := hs 0 d δ rfl h0
    obtain ⟨δ2, h4, h5⟩ := ih (δ := δ1) (fun i => P (i + 1)) h3 fun i d' δ' hd hp => hs (i + 1) d' δ' (by simpa using hd) hp
    refine ⟨δ2, ?_, h5⟩
    rcases h1 with h1 | h1
    · simp [forL, h1, h2, h4]
    · simp [forL, h1, h2, h4]
theorem rngL_at {n : Nat} {a : Int} {i : Nat} {d : D} (h : (rngL a n)[i]? = some d) : i < n ∧ d = .int (a + i) := rngL_get n a i d h
theorem ex_app {S : Sg} {a b : List Sm} {δ δ1 : Zy.Env} (h : Zy.execs S a δ = .nx δ1) : Zy.execs S (a ++ b) δ = Zy.execs S b δ1 := by
  induction a generalizing δ with
  | nil => cases h; rfl
  | cons s r ih =>
    have h : (Zy.exec S s δ).seq (fun δ1 => Zy.execs S r δ1) = .nx δ1 := h
    show (Zy.exec S s δ).seq (fun δ1 => Zy.execs S (r ++ b) δ1) = _
    cases he : Zy.exec S s δ with
    | nx δ2 => rw [he] at h; exact ih h
    | _ => rw [he] at h; cases h
theorem ex_cons {S : Sg} {s : Sm} {r : List Sm} {δ δ1 : Zy.Env} (h : Zy.exec S s δ = .nx δ1) : Zy.execs S (s :: r) δ = Zy.execs S r δ1 := by
  show (Zy.exec S s δ).seq (fun δ1 => Zy.execs S r δ1) = _
  rw [h]
  rfl
theorem for_run {S : Sg} {t : Tg} {it : Ti} {k : Option Pl} {b : List Sm} {δ : Zy.Env} {l : List D} {chk : Zy.Env → Bool} (e : forIt S it k δ = some (l, chk)) (P : Nat → Zy.Env → Prop) (h0 : P 0 δ)
    (hs : ∀ i d δ, l[i]? = some d → P i δ → ∃ δ1 δ', tgSet t d δ = some δ1 ∧ (Zy.execs S b δ1 = .nx δ' ∨ Zy.execs S b δ1 = .ct δ') ∧ chk δ' = true ∧ P (i + 1) δ') : ∃ δ', Zy.exec S (.for_ t it k b) δ = .nx δ' ∧ P l.length δ' := by
  obtain ⟨δ', h1, h2⟩ := forL_run (chk := chk) (body := fun d δ1 => match tgSet t d δ1 with | some δ2 => Zy.execs S b δ2 | none => .bad) P h0 fun i d δ hd hp => by
    obtain ⟨δ1, δ2, h1, h2, h3, h4⟩ := hs i d δ hd hp
    exact ⟨δ2, by simpa only [h1] using h2, h3, h4⟩
  refine ⟨δ', ?_, h2⟩
  simp only [Zy.exec, e]
  exact h1
theorem forX_run {S : Sg} {t : Tg} {w : Wi} {b : List Sm} {δ δ0 : Zy.Env} {l : List D} (e : evW S w δ = .ok l δ0) (P : Nat → Zy.Env → Prop) (h0 : P 0 δ0)
    (hs : ∀ i d δ, l[i]? = some d → P i δ → ∃ δ1 δ', tgSet t d δ = some δ1 ∧ (Zy.execs S b δ1 = .nx δ' ∨ Zy.execs S b δ1 = .ct δ') ∧ P (i + 1) δ') : ∃ δ', Zy.exec S (.forX t w b) δ = .nx δ' ∧ P l.length δ' := by
  obtain ⟨δ', h1, h2⟩ := forL_run (chk := fun _ => true) (body := fun d δ1 => match tgSet t d δ1 with | some δ2 => Zy.execs S b δ2 | none => .bad) P h0 fun i d δ hd hp => by
    obtain ⟨δ1, δ2, h1, h2, h4⟩ := hs i d δ hd hp
    exact ⟨δ2, by simpa only [h1] using h2, rfl, h4⟩
  refine ⟨δ', ?_, h2⟩
  simp only [Zy.exec, e, Fl.of]
  exact h1
theorem w_rng1 {S : Sg} {a : Ix} {δ δ1 : Zy.Env} {n : Nat} (h : ev S a δ = .ok (.i (.int n)) δ1) (hn : n ≤ 1000000) : evW S (.rng1 a) δ = .ok (rngL 0 n) δ1 := by
  have hr : rngOk (n : Int) = true := by unfold rngOk; rw [decide_eq_true_eq]; omega
  have g : ∀ z : Int, ev S a δ = .ok (.i (.int z)) δ1 → evW S (.rng1 a) δ = if rngOk z then .ok (rngL 0 z.toNat) δ1 else .bad := fun z hz => by
    simp only [evW]
    rw [hz]
    rfl
  rw [g _ h, if_pos hr, Int.toNat_natCast]
theorem lcL_map {f : D → Option (Option D)} {g : D → D} : ∀ {l : List D}, (∀ d ∈ l, f d = some (some (g d))) → lcL f l = some (l.map g)
  | [], _ => rfl
  | d :: r, h => by
    simp only [lcL, h d List.mem_cons_self, lcL_map fun x hx => h x (List.mem_cons_of_mem _ hx)]
    rfl
/-- a comprehension without a test -/
theorem lc_run {S : Sg} {own : List Nat} {t : Tg} {it : Ti} {e : Px} {δ : Zy.Env} {l : List D} {g : D → D} (h1 : tiL S it δ = some l) (h2 : ∀ d ∈ l, ∃ δ1, tgSet t d (wipeE δ own) = some δ1 ∧ pv S e δ1 = some (.i (g d))) (h3 : l.length < sizeLine) : pv S (.lc own t it .yes e) δ = some (.lst (l.map g)) := by
  have e1 : lcL (lcF S t .yes e (wipeE δ own)) l = some (l.map g) := lcL_map fun d hd => by
    obtain ⟨δ1, h4, h5⟩ := h2 d hd
    unfold lcF
    rw [h4]
    show (if true then (do match ← pv S e δ1 with | .i d => some (some d) | _ => none) else some none) = _
    rw [if_pos rfl, h5]
    rfl
  show (do let l ← tiL S it δ; let r ← lcL (lcF S t .yes e (wipeE δ own)) l; if r.length < sizeLine then some (M.lst r) else none) = _
  rw [h1]
  show (do let r ← lcL (lcF S t .yes e (wipeE δ own)) l; if r.length < sizeLine then some (M.lst r) else none) = _
  rw [e1]
  show (if (l.map g).length < sizeLine then some (M.lst (l.map g)) else none) = _
  rw [List.length_map, if_pos h3]
theorem allB_map {α : Type} (f : α → Bool) : ∀ l : List α, allB (l.map fun a => D.bl (f a)) = some (l.map f)
  | [] => rfl
  | a :: r => by
    show (allB (r.map fun a => D.bl (f a))).map (f a :: ·) = _
    rw [allB_map f r]
    rfl
/-- a while, by a measure below its fuel -/
theorem whl_run {S : Sg} {c : Tx} {b : List Sm} (P : Nat → Zy.Env → Prop) (Post : Zy.Env → Prop) (hs : ∀ m δ, P m δ → (∃ δ1, Zy.tx S c δ = .ok false δ1 ∧ Post δ1) ∨ ∃ δ1 δ2 m', Zy.tx S c δ = .ok true δ1 ∧ (Zy.execs S b δ1 = .nx δ2 ∨ Zy.execs S b δ1 = .ct δ2) ∧ m' < m ∧ P m' δ2) {m : Nat} {δ : Zy.Env} (h0 : P m δ) (hf : m < S.wl) :
    ∃ δ', Zy.exec S (.whl c b) δ = .nx δ' ∧ Post δ' := by
  suffices ∀ fuel m δ, m < fuel → P m δ → ∃ δ', whlL (fun δ1 => Zy.tx S c δ1) (fun δ1 => Zy.execs S b δ1) fuel δ = .nx δ' ∧ Post δ' from this S.wl m δ hf h0
  intro fuel
  induction fuel with
  | zero => intro m δ h; exact absurd h (Nat.not_lt_zero m)
  | succ fuel ih =>
    intro m δ h hp
    rcases hs m δ hp with ⟨δ1, h1, h2⟩ | ⟨δ1, δ2, m', h1, h2, h3, h4⟩
    · exact ⟨δ1, by simp [whlL, h1, Fl.of], h2⟩
    · obtain ⟨δ3, h5, h6⟩ := ih m' δ2 (by omega) h4
      refine ⟨δ3, ?_, h6⟩
      rcases h2 with h2 | h2
      · simp [whlL, h1, Fl.of, h2, h5]
      · simp [whlL, h1, Fl.of, h2, h5]
theorem tiL_rng1 {S : Sg} {a : Px} {δ : Zy.Env} {n : Int} (h : pv S a δ = some (.i (.int n))) : tiL S (.rng1 a) δ = if rngOk n then some (rngL 0 n.toNat) else none := by
  unfold tiL
  rw [h]
  rfl
theorem it_rng1 {S : Sg} {a : Px} {δ : Zy.Env} {n : Nat} (h : pv S a δ = some (.i (.int n))) (hn : n ≤ 1000000) : forIt S (.rng1 a) none δ = some (rngL 0 n, fun _ => true) := by
  have hr : rngOk (n : Int) = true := by unfold rngOk; rw [decide_eq_true_eq]; omega
  show (tiL S (.rng1 a) δ).map _ = _
  rw [tiL_rng1 h, if_pos hr, Int.toNat_natCast]
  rfl
theorem it_e {S : Sg} {a : Px} {δ : Zy.Env} {m : M} {l : List D} (h : pv S a δ = some m) (hl : itL m = some l) (hf : frs a = true) : forIt S (.e a) none δ = some (l, fun _ => true) := by
  show (match pv S a δ with
    | some (.lst l) => if frs a then some (l, fun (_ : Zy.Env) => true) else none
    | some m => (itL m).map fun l => (l, fun (_ : Zy.Env) => true)
    | none => none) = _
  rw [h]
  cases m <;> first | (cases hl; done) | skip
  · show (itL _).map _ = _
    rw [hl]; rfl
  · cases hl
    show (if frs a then _ else _) = _
    rw [if_pos hf]
  · show (itL _).map _ = _
    rw [hl]; rfl
  · show (itL _).map _ = _
    rw [hl]; rfl
  · show (itL _).map _ = _
    rw [hl]; rfl
  · show (itL _).map _ = _
    rw [hl]; rfl
def forB : Sm → List Sm
  | .for_ _ _ _ b => b
  | _ => []
theorem mo (a : Int) {b : Int} (h : decide (-(2 ^ 64) < b ∧ b < 2 ^ 64) = true) : mulOk a b := .inl (.inr (of_decide_eq_true h))
theorem sz {k : Nat} (h : k < 100000) : k < sizeLine := Nat.lt_of_lt_of_le h (by decide)
theorem szl {k : Nat} (h : k ≤ 100000) : k ≤ sizeLine := Nat.le_trans h (by decide)
def fin (r : Fl) (bk : Zy.Env → List M) : Fo := match r with
  | .nx δ => .ok (.i .non) (bk δ)
  | .rt m δ => .ok m (bk δ)
  | .exc x δ => .exc x (bk δ)
  | _ => .bad
theorem sf {t : Txt} {wl n k : Nat} (d : Dd) (h : t.ds[k]? = some d) (B : List Sm) (hB : (d.fd t.g0).body = B) (ms : List M) (hl : ms.length = d.ps.length) : semF t.pg wl (n + 1) k ms = fin (Zy.execs (sgN t wl n) B (ms ++ List.replicate (d.N.length - d.ps.length) .hole)) (backA (d.fd t.g0)) := by
  subst hB
  rw [semF_succ h, if_pos hl]
  rfl
end Zy
end
section
set_option checkBinderAnnotations false
/-! Zy, part W: weakest preconditions of the core, for plain proofs. -/
namespace Zy
open PySem

def oW {α : Type} (o : Option α) [K : α → Prop] : Prop := ∃ a, o = some a ∧ K a
theorem oW_some {α : Type} {a : α} {K : α → Prop} : @oW _ (some a) K ↔ K a := ⟨fun ⟨_, h, k⟩ => (by cases h; exact k), fun k => ⟨_, rfl, k⟩⟩
theorem oW_none {α : Type} {K : α → Prop} : @oW _ (none : Option α) K ↔ False := ⟨fun ⟨_, h, _⟩ => (by cases h), fun h => h.elim⟩
theorem oW_ite {α : Type} {c : Prop} [Decidable c] {a b : Option α} {K : α → Prop} : @oW _ (if c then a else b) K ↔ if c then @oW _ a K else @oW _ b K := by split <;> rfl
theorem oW_iteN {α : Type} {c : Prop} [Decidable c] {a : Option α} {K : α → Prop} : @oW _ (if c then a else none) K ↔ c ∧ @oW _ a K := by
  by_cases h : c
  · rw [if_pos h]; exact ⟨fun k => ⟨h, k⟩, fun k => k.2⟩
  · rw [if_neg h, oW_none]; exact ⟨fun k => k.elim, fun k => h k.1⟩
theorem oW_map {α β : Type} {o : Option α} {f : α → β} {K : β → Prop} : @oW _ (o.map f) K ↔ @oW _ o fun a => K (f a) := by
  cases o with
  | none => exact ⟨fun ⟨_, h, _⟩ => (by cases h), fun ⟨_, h, _⟩ => (by cases h)⟩
  | some a => rw [Option.map_some, oW_some, oW_some]
theorem oW_bind {α β : Type} {o : Option α} {f : α → Option β} {K : β → Prop} : @oW _ (o.bind f) K ↔ @oW _ o fun a => @oW _ (f a) K := by
  cases o with
  | none => exact ⟨fun ⟨_, h, _⟩ => (by cases h), fun ⟨_, h, _⟩ => (by cases h)⟩
  | some a => rw [Option.bind_some, oW_some]
theorem oW_congr {α : Type} {o : Option α} {K K' : α → Prop} (h : ∀ a, K a ↔ K' a) : @oW _ o K ↔ @oW _ o K' := exists_congr fun a => and_congr_right fun _ => h a
theorem oW_mono {α : Type} {o : Option α} {K K' : α → Prop} (h : @oW _ o K) (g : ∀ a, K a → K' a) : @oW _ o K' := h.elim fun a ⟨e, k⟩ => ⟨a, e, g a k⟩

/-- a value that is there -/
def vM (m : M) [K : M → Prop] : Prop := match m with
  | .hole => False
  | m => K m
theorem vM_i {d : D} {K : M → Prop} : @vM (.i d) K ↔ K (.i d) := .rfl
theorem vM_lst {d : List D} {K : M → Prop} : @vM (.lst d) K ↔ K (.lst d) := .rfl
theorem vM_rol {d : List D} {K : M → Prop} : @vM (.rol d) K ↔ K (.rol d) := .rfl
theorem vM_rg {a b : Int} {K : M → Prop} : @vM (.rg a b) K ↔ K (.rg a b) := .rfl
theorem vM_ftp {d : List D} {K : M → Prop} : @vM (.ftp d) K ↔ K (.ftp d) := .rfl
theorem vM_kc {d : List D} {K : M → Prop} : @vM (.kc d) K ↔ K (.kc d) := .rfl
theorem vM_mtp {d : List M} {K : M → Prop} : @vM (.mtp d) K ↔ K (.mtp d) := .rfl
theorem vM_mls {d : List M} {K : M → Prop} : @vM (.mls d) K ↔ K (.mls d) := .rfl
theorem vM_dic {t : Bool} {d : List (D × D)} {K : M → Prop} : @vM (.dic t d) K ↔ K (.dic t d) := .rfl
theorem vM_ins {c : Nat} {d : List (Nat × M)} {K : M → Prop} : @vM (.ins c d) K ↔ K (.ins c d) := .rfl
theorem vM_hole {K : M → Prop} : @vM .hole K ↔ False := .rfl
def wB (m : M) [K : Bool → Prop] : Prop := match m with
  | .i (.bl b) => K b
  | _ => False
theorem wB_bl {b : Bool} {K : Bool → Prop} : @wB (.i (.bl b)) K ↔ K b := .rfl
def wN (m : M) [K : Int → Prop] : Prop := match m with
  | .i (.int b) => K b
  | _ => False
theorem wN_int {b : Int} {K : Int → Prop} : @wN (.i (.int b)) K ↔ K b := .rfl
def wI (m : M) [K : D → Prop] : Prop := match m with
  | .i d => K d
  | _ => False
theorem wI_i {b : D} {K : D → Prop} : @wI (.i b) K ↔ K b := .rfl
def wLs (m : M) [K : List D → Prop] : Prop := match m with
  | .lst d => K d
  | _ => False
theorem wLs_lst {b : List D} {K : List D → Prop} : @wLs (.lst b) K ↔ K b := .rfl

section
variable {S : Sg} {δ : Zy.Env}
def wP (S : Sg) (e : Px) (δ : Zy.Env) [K : M → Prop] : Prop := @oW _ (pv S e δ) K
def wPs (S : Sg) (e : List Px) (δ : Zy.Env) [K : List M → Prop] : Prop := @oW _ (pvs S e δ) K
def wT (S : Sg) (e : Pt) (δ : Zy.Env) [K : Bool → Prop] : Prop := @oW _ (tv S e δ) K
def wO (S : Sg) (e : Option Px) (δ : Zy.Env) [K : Option Int → Prop] : Prop := @oW _ (po S e δ) K
def wTi (S : Sg) (e : Ti) (δ : Zy.Env) [K : List D → Prop] : Prop := @oW _ (tiL S e δ) K
/-- a call -/
def wFd (r : Fo) [K : M → List M → Prop] [X : Ex → List M → Prop] : Prop := match r with
  | .ok m ms => K m ms
  | .exc x ms => X x ms
  | .bad => False
/-- as a structure: nothing looks into it by itself -/
structure wF (r : Fo) [K : M → List M → Prop] [X : Ex → List M → Prop] : Prop where
  go : @wFd r K X
theorem wF_def {r : Fo} {K : M → List M → Prop} {X : Ex → List M → Prop} : @wF r K X ↔ @wFd r K X := ⟨fun h => @wF.go r K X h, fun h => @wF.mk r K X h⟩
def fX {α β : Type} (_ : α) (_ : β) : Prop := False
theorem wF_mono {r : Fo} {K K' : M → List M → Prop} {X X' : Ex → List M → Prop} (h : @wF r K X) (g : ∀ m ms, K m ms → K' m ms) (gx : ∀ x ms, X x ms → X' x ms) : @wF r K' X' := by
  rw [wF_def] at h ⊢
  cases r with
  | ok m ms => exact g m ms h
  | exc x ms => exact gx x ms h
  | bad => exact h
/-- a call that ends without an error -/
theorem wF_of {r : Fo} {K K' : M → List M → Prop} {X' : Ex → List M → Prop} (h : @wF r K fX) (g : ∀ m ms, K m ms → K' m ms) : @wF r K' X' := wF_mono h g fun _ _ h => h.elim
theorem wF_eq {r : Fo} {m : M} {ms : List M} {X : Ex → List M → Prop} (h : @wF r (fun m' ms' => m' = m ∧ ms' = ms) fX) : r = .ok m ms := by
  rw [wF_def] at h
  cases r with
  | ok _ _ => obtain ⟨rfl, rfl⟩ := h; rfl
  | exc _ _ => exact h.elim
  | bad => exact h.elim
theorem wF_ok {m : M} {ms : List M} {K : M → List M → Prop} {X : Ex → List M → Prop} : @wF (.ok m ms) K X ↔ K m ms := wF_def
theorem wF_ex {r : Fo} {K : M → List M → Prop} : @wF r K fX ↔ ∃ m ms, r = .ok m ms ∧ K m ms := by
  rw [wF_def]
  cases r with
  | ok m ms => exact ⟨fun h => ⟨m, ms, rfl, h⟩, fun ⟨_, _, e, h⟩ => (by cases e; exact h)⟩
  | exc _ _ => exact ⟨fun h => h.elim, fun ⟨_, _, e, h⟩ => (by cases e)⟩
  | bad => exact ⟨fun h => h.elim, fun ⟨_, _, e, h⟩ => (by cases e)⟩

theorem wP_var {i : Nat} {K : M → Prop} : @wP S (.var i) δ K ↔ @vM (slot δ i) K := by
  show @oW _ (match slot δ i with
    | .hole => none
    | m => some m) K ↔ _
  cases slot δ i <;> first | exact oW_some | exact oW_none
theorem wP_lit {d : D} {K : M → Prop} : @wP S (.lit d) δ K ↔ K (.i d) := oW_some
theorem wP_cst {n : Nat} {d : D} {K : M → Prop} : @wP S (.cst n d) δ K ↔ K (cstM d) := oW_some
theorem wP_tup {es : List Px} {K : M → Prop} : @wP S (.tup es) δ K ↔ @wPs S es δ fun ms => @oW _ (imms ms) fun ds => ds.length ≤ sizeLine ∧ K (.i (.tup ds)) := by
  show @oW _ (do let ms ← pvs S es δ; let ds ← imms ms; if ds.length ≤ sizeLine then some (M.i (.tup ds)) else none) K ↔ _
  simp only [Option.bind_eq_bind, oW_bind, oW_iteN, oW_some, wPs]
theorem wP_lst {es : List Px} {K : M → Prop} : @wP S (.lst es) δ K ↔ @wPs S es δ fun ms => @oW _ (imms ms) fun ds => ds.length ≤ sizeLine ∧ K (.lst ds) := by
  show @oW _ (do let ms ← pvs S es δ; let ds ← imms ms; if ds.length ≤ sizeLine then some (M.lst ds) else none) K ↔ _
  simp only [Option.bind_eq_bind, oW_bind, oW_iteN, oW_some, wPs]
theorem wP_dnew {t : Bool} {K : M → Prop} : @wP S (.dnew t) δ K ↔ K (.dic t []) := oW_some
theorem wP_disp {ks : List D} {es : List Px} {K : M → Prop} : @wP S (.disp ks es) δ K ↔ @wPs S es δ fun ms => @oW _ (imms ms) fun ds => (ks.length = ds.length ∧ ks.all flatK = true ∧ ks.length ≤ 15) ∧ K (.dic false (dispD ks ds [])) := by
  show @oW _ (do let ms ← pvs S es δ; let ds ← imms ms; if ks.length = ds.length ∧ ks.all flatK = true ∧ ks.length ≤ 15 then some (M.dic false (dispD ks ds [])) else none) K ↔ _
  simp only [Option.bind_eq_bind, oW_bind, oW_iteN, oW_some, wPs]
theorem wP_bop {op : Bop} {a b : Px} {K : M → Prop} : @wP S (.bop op a b) δ K ↔ @wP S a δ fun x => @wP S b δ fun y => @oW _ (bopM op x y) K := by
  show @oW _ (do let x ← pv S a δ; let y ← pv S b δ; bopM op x y) K ↔ _
  simp only [Option.bind_eq_bind, oW_bind, wP]
theorem wP_neg {a : Px} {K : M → Prop} : @wP S (.neg a) δ K ↔ @wP S a δ fun x => @wN x fun k => K (.i (.int (-k))) := by
  show @oW _ (do match ← pv S a δ with | .i (.int k) => some (M.i (.int (-k))) | _ => none) K ↔ _
  simp only [Option.bind_eq_bind, oW_bind, wP]
  refine oW_congr fun x => ?_
  unfold wN
  split
  · exact oW_some
  · exact oW_none
theorem wP_cmp {op : Cop} {a b : Px} {K : M → Prop} : @wP S (.cmp op a b) δ K ↔ @wP S a δ fun x => @wP S b δ fun y => @oW _ (copM op x y) fun k => K (.i (.bl k)) := by
  show @oW _ (do let x ← pv S a δ; let y ← pv S b δ; (copM op x y).map fun b => M.i (.bl b)) K ↔ _
  simp only [Option.bind_eq_bind, oW_bind, oW_map, wP]
theorem wP_chn {op op2 : Cop} {a b c : Px} {K : M → Prop} : @wP S (.chn op op2 a b c) δ K ↔ @wP S a δ fun x => @wP S b δ fun y => @oW _ (copM op x y) fun k => if k then @wP S c δ fun z => @oW _ (copM op2 y z) fun k => K (.i (.bl k)) else K (.i (.bl false)) := by
  show @oW _ (do
    let x ← pv S a δ
    let y ← pv S b δ
    let k ← copM op x y
    if k then (do let z ← pv S c δ; (copM op2 y z).map fun b => M.i (.bl b)) else some (.i (.bl false))) K ↔ _
  simp only [Option.bind_eq_bind, oW_bind, oW_map, oW_ite, oW_some, wP]
theorem wP_and {a b : Px} {K : M → Prop} : @wP S (.and a b) δ K ↔ @wP S a δ fun x => @wB x fun k => if k then @wP S b δ K else K (.i (.bl false)) := by
  show @oW _ (do match ← pv S a δ with | .i (.bl k) => if k then pv S b δ else some (.i (.bl false)) | _ => none) K ↔ _
  simp only [Option.bind_eq_bind, oW_bind, wP]
  refine oW_congr fun x => ?_
  unfold wB
  split
  · simp only [oW_ite, oW_some]
  · exact oW_none
theorem wP_or {a b : Px} {K : M → Prop} : @wP S (.or a b) δ K ↔ @wP S a δ fun x => @wB x fun k => if k then K (.i (.bl true)) else @wP S b δ K := by
  show @oW _ (do match ← pv S a δ with | .i (.bl k) => if k then some (.i (.bl true)) else pv S b δ | _ => none) K ↔ _
  simp only [Option.bind_eq_bind, oW_bind, wP]
  refine oW_congr fun x => ?_
  unfold wB
  split
  · simp only [oW_ite, oW_some]
  · exact oW_none
theorem wP_not {a : Px} {K : M → Prop} : @wP S (.not a) δ K ↔ @wP S a δ fun x => @wB x fun k => K (.i (.bl (!k))) := by
  show @oW _ (do match ← pv S a δ with | .i (.bl k) => some (M.i (.bl (!k))) | _ => none) K ↔ _
  simp only [Option.bind_eq_bind, oW_bind, wP]
  refine oW_congr fun x => ?_
  unfold wB
  split
  · exact oW_some
  · exact oW_none
theorem wP_ife {c : Pt} {a b : Px} {K : M → Prop} : @wP S (.ife c a b) δ K ↔ @wT S c δ fun k => if k then @wP S a δ K else @wP S b δ K := by
  show @oW _ (do let k ← tv S c δ; if k then pv S a δ else pv S b δ) K ↔ _
  simp only [Option.bind_eq_bind, oW_bind, oW_ite, wP, wT]
theorem wP_idx {a b : Px} {K : M → Prop} : @wP S (.idx a b) δ K ↔ @wP S a δ fun x => @wP S b δ fun y => @oW _ (idxM x y) K := by
  show @oW _ (do let x ← pv S a δ; let y ← pv S b δ; idxM x y) K ↔ _
  simp only [Option.bind_eq_bind, oW_bind, wP]
theorem wP_sl {a : Px} {lo hi : Option Px} {K : M → Prop} : @wP S (.sl a lo hi) δ K ↔ @wP S a δ fun x => @wO S lo δ fun l => @wO S hi δ fun h => @oW _ (slM x l h) K := by
  show @oW _ (do let x ← pv S a δ; let l ← po S lo δ; let h ← po S hi δ; slM x l h) K ↔ _
  simp only [Option.bind_eq_bind, oW_bind, wP, wO]
/-- a field -/
def fldM (m : M) (f : Nat) : M := match m with
  | .ins _ fs => (fs.lookup f).getD .hole
  | _ => .hole
theorem wP_fld {a : Px} {f : Nat} {K : M → Prop} : @wP S (.fld a f) δ K ↔ @wP S a δ fun x => @vM (fldM x f) K := by
  show @oW _ (do match ← pv S a δ with | .ins _ fs => (match fs.lookup f with | some .hole => none | r => r) | _ => none) K ↔ _
  simp only [Option.bind_eq_bind, oW_bind, wP]
  refine oW_congr fun x => ?_
  cases x with
  | ins c fs =>
    show @oW _ (match fs.lookup f with | some .hole => none | r => r) K ↔ @vM ((fs.lookup f).getD .hole) K
    cases h : fs.lookup f with
    | none => exact oW_none
    | some m => cases m <;> first | exact oW_some | exact oW_none
  | _ => exact oW_none
theorem wP_call {f : Nat} {es : List Px} {K : M → Prop} : @wP S (.call f es) δ K ↔ @wPs S es δ fun ms => ms.all roM = true ∧ @wF (S.fn f ms) (fun m _ => K m) fX := by
  show @oW _ (do
    let ms ← pvs S es δ
    if ms.all roM then (match S.fn f ms with
    | .ok m _ => some m
    | _ => none) else none) K ↔ _
  simp only [Option.bind_eq_bind, oW_bind, wPs, oW_iteN]
  refine oW_congr fun x => and_congr_right fun _ => ?_
  rw [wF_def]
  cases S.fn f x with
  | ok m ms => exact oW_some
  | exc _ _ => exact oW_none
  | bad => exact oW_none
theorem wP_blt {b : Blt} {es : List Px} {K : M → Prop} : @wP S (.blt b es) δ K ↔ @wPs S es δ fun ms => @oW _ (bltM b ms) K := by
  show @oW _ (do let ms ← pvs S es δ; bltM b ms) K ↔ _
  simp only [Option.bind_eq_bind, oW_bind, wPs]
theorem wP_smt {m : Smt} {o : Px} {es : List Px} {K : M → Prop} : @wP S (.smt m o es) δ K ↔ @wP S o δ fun x => @wPs S es δ fun ms => @oW _ (smtM m x ms) K := by
  show @oW _ (do let x ← pv S o δ; let ms ← pvs S es δ; smtM m x ms) K ↔ _
  simp only [Option.bind_eq_bind, oW_bind, wPs, wP]
theorem wP_isi {a : Px} {t : Ty} {K : M → Prop} : @wP S (.isi a t) δ K ↔ @wP S a δ fun x => @oW _ (isiM x t) fun k => K (.i (.bl k)) := by
  show @oW _ (do let x ← pv S a δ; (isiM x t).map fun b => M.i (.bl b)) K ↔ _
  simp only [Option.bind_eq_bind, oW_bind, oW_map, wP]
theorem wP_rev {a : Px} {K : M → Prop} : @wP S (.rev a) δ K ↔ @wP S a δ fun x => @oW _ (revM x) K := by
  show @oW _ (do revM (← pv S a δ)) K ↔ _
  simp only [Option.bind_eq_bind, oW_bind, wP]
/-- what a reading hands out -/
def wRo (e : Px) (m : M) [K : M → Prop] : Prop := match m with
  | .i d => K (.i d)
  | .lst l => frs e = true ∧ K (.lst l)
  | _ => False
theorem wRo_i {e : Px} {d : D} {K : M → Prop} : @wRo e (.i d) K ↔ K (.i d) := .rfl
theorem wRo_lst {e : Px} {d : List D} {K : M → Prop} : @wRo e (.lst d) K ↔ frs e = true ∧ K (.lst d) := .rfl
theorem wP_ro {e : Px} {K : M → Prop} : @wP S (.ro e) δ K ↔ @wP S e (roE δ) fun x => @wRo e x K := by
  show @oW _ (do roR e (← pv S e (roE δ))) K ↔ _
  simp only [Option.bind_eq_bind, oW_bind, wP]
  refine oW_congr fun x => ?_
  unfold roR wRo
  split
  · exact oW_some
  · exact oW_iteN.trans (and_congr_right fun _ => oW_some)
  · rename_i h1 h2
    cases x with
    | i d => exact (h1 _ rfl).elim
    | lst d => exact (h2 _ rfl).elim
    | _ => exact oW_none
theorem wP_kdi {kvs : List (Str × D)} {b : Px} {K : M → Prop} : @wP S (.kdi kvs b) δ K ↔ @wP S b δ fun y => @oW _ (kdM kvs y) K := by
  show @oW _ (do kdM kvs (← pv S b δ)) K ↔ _
  exact oW_bind
theorem wP_sset {e : Px} {K : M → Prop} : @wP S (.sset e) δ K ↔ @wP S e δ fun y => @oW _ (ssetM y) K := by
  show @oW _ (do ssetM (← pv S e δ)) K ↔ _
  exact oW_bind
theorem wP_stp {e : Px} {lo st : Int} {K : M → Prop} : @wP S (.stp e lo st) δ K ↔ @wP S e δ fun y => @oW _ (stpM lo st y) K := by
  show @oW _ (do stpM lo st (← pv S e δ)) K ↔ _
  exact oW_bind
theorem wP_gcd {a b : Px} {K : M → Prop} : @wP S (.gcd a b) δ K ↔ @wP S a δ fun x => @wP S b δ fun y => @oW _ (gcdM x y) K := by
  show @oW _ (do let x ← pv S a δ; let y ← pv S b δ; gcdM x y) K ↔ _
  simp only [Option.bind_eq_bind, oW_bind, wP]
theorem wP_cd {d : D} {K : M → Prop} : @wP S (.cd d) δ K ↔ K (.i d) := oW_some
theorem wP_idm {o x : Px} {K : M → Prop} : @wP S (.idm o x) δ K ↔ @wP S o δ fun m => @wP S x δ fun y => @oW _ (idmM m y) K := by
  show @oW _ (do let m ← pv S o δ; let y ← pv S x δ; idmM m y) K ↔ _
  simp only [Option.bind_eq_bind, oW_bind, wP]
theorem roE_cons {m : M} {δ : Zy.Env} : roE (m :: δ) = ro1 m :: roE δ := rfl
theorem roE_nil : roE [] = [] := rfl
/-- a comprehension's rows -/
def wLc (S : Sg) (own : List Nat) (t : Tg) (c : Pt) (e : Px) (δ : Zy.Env) (l : List D) [K : M → Prop] : Prop := @oW _ (lcL (lcF S t c e (wipeE δ own)) l) fun r => r.length < sizeLine ∧ K (.lst r)
theorem wP_lc {own : List Nat} {t : Tg} {it : Ti} {c : Pt} {e : Px} {K : M → Prop} : @wP S (.lc own t it c e) δ K ↔ @wTi S it δ fun l => @wLc S own t c e δ l K := by
  show @oW _ (do let l ← tiL S it δ; let r ← lcL (lcF S t c e (wipeE δ own)) l; if r.length < sizeLine then some (M.lst r) else none) K ↔ _
  simp only [Option.bind_eq_bind, oW_bind, oW_iteN, oW_some, wTi, wLc]
/-- a set's rows, sorted -/
def wSc (S : Sg) (own : List Nat) (t : Tg) (c : Pt) (e : Px) (δ : Zy.Env) (l : List D) [K : M → Prop] : Prop := @oW _ (lcL (lcF S t c e (wipeE δ own)) l) fun r => @oW _ (ssD r) K
theorem wP_ssc {own : List Nat} {t : Tg} {it : Ti} {c : Pt} {e : Px} {K : M → Prop} : @wP S (.ssc own t it c e) δ K ↔ @wTi S it δ fun l => @wSc S own t c e δ l K := by
  show @oW _ (do let l ← tiL S it δ; let r ← lcL (lcF S t c e (wipeE δ own)) l; ssD r) K ↔ _
  simp only [Option.bind_eq_bind, oW_bind, wTi, wSc]
/-- any, all of what comes one after another -/
def wGn (S : Sg) (b : Bool) (own : List Nat) (t : Tg) (e : Px) (δ : Zy.Env) (l : List D) [K : M → Prop] : Prop := @oW _ (anyL b (fun d => do let δ1 ← tgSet t d (wipeE δ own); blM (← pv S e δ1)) l) fun k => K (.i (.bl k))
theorem wP_gen {b : Bool} {own : List Nat} {t : Tg} {it : Ti} {e : Px} {K : M → Prop} : @wP S (.gen b own t it e) δ K ↔ @wTi S it δ fun l => @wGn S b own t e δ l K := by
  show @oW _ (do let l ← tiL S it δ; let k ← anyL b (fun d => do let δ1 ← tgSet t d (wipeE δ own); blM (← pv S e δ1)) l; some (M.i (.bl k))) K ↔ _
  simp only [Option.bind_eq_bind, oW_bind, oW_some, wTi, wGn]
/-- rows by a def's keys -/
def wSr (S : Sg) (f : Nat) (m : M) [K : M → Prop] : Prop := @oW _ (do let l ← seqL m; let ks ← mapL (fun d => keyF (S.fn f [.i d])) l; srtM ks l) K
theorem wP_srt {f : Nat} {e : Px} {K : M → Prop} : @wP S (.srt f e) δ K ↔ @wP S e δ fun m => @wSr S f m K := by
  show @oW _ (do let l ← seqL (← pv S e δ); let ks ← mapL (fun d => keyF (S.fn f [.i d])) l; srtM ks l) K ↔ _
  simp only [Option.bind_eq_bind, oW_bind, wP, wSr]
/-- rows by a lambda's keys -/
def wSl (S : Sg) (own : List Nat) (i : Nat) (b : Px) (δ : Zy.Env) (m : M) [K : M → Prop] : Prop := @oW _ (do let l ← seqL m; let ks ← mapL (fun d => do let δ1 ← tgSet (.nm i) d (wipeE δ own); keyM (← pv S b δ1)) l; srtM ks l) K
theorem wP_srl {own : List Nat} {i : Nat} {b e : Px} {K : M → Prop} : @wP S (.srl own i b e) δ K ↔ @wP S e δ fun m => @wSl S own i b δ m K := by
  show @oW _ (do let l ← seqL (← pv S e δ); let ks ← mapL (fun d => do let δ1 ← tgSet (.nm i) d (wipeE δ own); keyM (← pv S b δ1)) l; srtM ks l) K ↔ _
  simp only [Option.bind_eq_bind, oW_bind, wP, wSl]
theorem allI_ints : ∀ ns : List Int, allI (ns.map D.int) = some ns
  | [] => rfl
  | n :: r => by
    show (allI (r.map D.int)).map (n :: ·) = _
    rw [allI_ints r]
    rfl
theorem ssD_ints {ns : List Int} (h : ns.length < 64) : ssD (ns.map D.int) = some (.lst ((sortU ns).map .int)) := by
  unfold ssD
  rw [allI_ints]
  exact if_pos h
theorem ssetM_lst {l : List D} : ssetM (.lst l) = ssD l := rfl
theorem ssetM_rol {l : List D} : ssetM (.rol l) = ssD l := rfl
theorem wPs_nil {K : List M → Prop} : @wPs S [] δ K ↔ K [] := oW_some
theorem wPs_cons {e : Px} {es : List Px} {K : List M → Prop} : @wPs S (e :: es) δ K ↔ @wP S e δ fun m => @wPs S es δ fun ms => K (m :: ms) := by
  show @oW _ (do let m ← pv S e δ; let ms ← pvs S es δ; pure (m :: ms)) K ↔ _
  simp only [Option.bind_eq_bind, Option.pure_def, oW_bind, oW_some, wPs, wP]
theorem wO_none {K : Option Int → Prop} : @wO S none δ K ↔ K none := oW_some
theorem wO_some {e : Px} {K : Option Int → Prop} : @wO S (some e) δ K ↔ @wP S e δ fun m => @wN m fun k => K (some k) := by
  show @oW _ (do match ← pv S e δ with | .i (.int k) => some (some k) | _ => none) K ↔ _
  simp only [Option.bind_eq_bind, oW_bind, wP]
  refine oW_congr fun x => ?_
  unfold wN
  split
  · exact oW_some
  · exact oW_none
theorem wT_yes {K : Bool → Prop} : @wT S .yes δ K ↔ K true := oW_some
theorem wT_v {e : Px} {K : Bool → Prop} : @wT S (.v e) δ K ↔ @wP S e δ fun m => @oW _ (truM m) K := by
  show @oW _ (do truM (← pv S e δ)) K ↔ _
  simp only [Option.bind_eq_bind, oW_bind, wP]
theorem wT_and {a b : Pt} {K : Bool → Prop} : @wT S (.and a b) δ K ↔ @wT S a δ fun k => if k then @wT S b δ K else K false := by
  show @oW _ (do if ← tv S a δ then tv S b δ else some false) K ↔ _
  simp only [Option.bind_eq_bind, oW_bind, oW_ite, oW_some, wT]
theorem wT_or {a b : Pt} {K : Bool → Prop} : @wT S (.or a b) δ K ↔ @wT S a δ fun k => if k then K true else @wT S b δ K := by
  show @oW _ (do if ← tv S a δ then some true else tv S b δ) K ↔ _
  simp only [Option.bind_eq_bind, oW_bind, oW_ite, oW_some, wT]
theorem wT_not {a : Pt} {K : Bool → Prop} : @wT S (.not a) δ K ↔ @wT S a δ fun k => K (!k) := by
  show @oW _ (do let k ← tv S a δ; some (!k)) K ↔ _
  simp only [Option.bind_eq_bind, oW_bind, oW_some, wT]
theorem wTi_e {x : Px} {K : List D → Prop} : @wTi S (.e x) δ K ↔ @wP S x δ fun m => @oW _ (itL m) K := by
  show @oW _ (do itL (← pv S x δ)) K ↔ _
  simp only [Option.bind_eq_bind, oW_bind, wP]
theorem wTi_rng1 {a : Px} {K : List D → Prop} : @wTi S (.rng1 a) δ K ↔ @wP S a δ fun m => @wN m fun n => rngOk n = true ∧ K (rngL 0 n.toNat) := by
  show @oW _ (do match ← pv S a δ with | .i (.int n) => if rngOk n then some (rngL 0 n.toNat) else none | _ => none) K ↔ _
  simp only [Option.bind_eq_bind, oW_bind, wP]
  refine oW_congr fun x => ?_
  unfold wN
  split
  · simp only [oW_iteN, oW_some]
  · exact oW_none
theorem wTi_rng2 {a b : Px} {K : List D → Prop} : @wTi S (.rng2 a b) δ K ↔ @wP S a δ fun m => @wP S b δ fun m2 => @wN m fun x => @wN m2 fun y => rngOk x = true ∧ rngOk y = true ∧ K (rngL x (y - x).toNat) := by
  show @oW _ (do match ← pv S a δ, ← pv S b δ with | .i (.int m), .i (.int n) => if rngOk m && rngOk n then some (rngL m (n - m).toNat) else none | _, _ => none) K ↔ _
  simp only [Option.bind_eq_bind, oW_bind, wP]
  refine oW_congr fun x => ?_
  refine oW_congr fun y => ?_
  split
  · simp only [oW_iteN, oW_some, wN, Bool.and_eq_true, and_assoc]
  · rename_i h
    refine ⟨fun k => (oW_none.mp k).elim, fun k => ?_⟩
    unfold wN at k
    split at k
    · split at k
      · exact (h _ _ rfl rfl).elim
      · exact k.elim
    · exact k.elim
end

section
variable {S : Sg} {δ : Zy.Env}
def wR {α : Type} (r : R α) [K : α → Zy.Env → Prop] [X : Ex → Zy.Env → Prop] : Prop := match r with
  | .ok a δ => K a δ
  | .exc x δ => X x δ
  | .bad => False
theorem wR_ok {α : Type} {a : α} {δ : Zy.Env} {K : α → Zy.Env → Prop} {X : Ex → Zy.Env → Prop} : @wR _ (.ok a δ) K X ↔ K a δ := .rfl
theorem wR_congr {α : Type} {r : R α} {K K' : α → Zy.Env → Prop} {X : Ex → Zy.Env → Prop} (h : ∀ a δ, K a δ ↔ K' a δ) : @wR _ r K X ↔ @wR _ r K' X := by
  cases r with
  | ok a δ => exact h a δ
  | _ => exact .rfl
theorem wR_bad {α : Type} {K : α → Zy.Env → Prop} {X : Ex → Zy.Env → Prop} : @wR _ .bad K X ↔ False := .rfl
theorem wR_bnd {α β : Type} {r : R α} {f : α → Zy.Env → R β} {K : β → Zy.Env → Prop} {X : Ex → Zy.Env → Prop} : @wR _ (r.bnd f) K X ↔ @wR _ r (fun a δ => @wR _ (f a δ) K X) X := by
  cases r <;> rfl
theorem wR_of {α : Type} {o : Option α} {δ : Zy.Env} {K : α → Zy.Env → Prop} {X : Ex → Zy.Env → Prop} : @wR _ (R.of o δ) K X ↔ @oW _ o fun a => K a δ := by
  cases o with
  | none => exact oW_none.symm
  | some a => rw [oW_some]; exact .rfl
theorem wR_of' {α : Type} {o : Option Zy.Env} {f : Zy.Env → R α} {K : α → Zy.Env → Prop} {X : Ex → Zy.Env → Prop} : @wR _ (R.of' o f) K X ↔ @oW _ o fun a => @wR _ (f a) K X := by
  cases o with
  | none => exact oW_none.symm
  | some a => rw [oW_some]; exact .rfl
theorem wR_ite {α : Type} {c : Prop} [Decidable c] {a b : R α} {K : α → Zy.Env → Prop} {X : Ex → Zy.Env → Prop} : @wR _ (if c then a else b) K X ↔ if c then @wR _ a K X else @wR _ b K X := by split <;> rfl
theorem wR_iteB {α : Type} {c : Prop} [Decidable c] {a : R α} {K : α → Zy.Env → Prop} {X : Ex → Zy.Env → Prop} : @wR _ (if c then a else .bad) K X ↔ c ∧ @wR _ a K X := by
  by_cases h : c
  · rw [if_pos h]; exact ⟨fun k => ⟨h, k⟩, fun k => k.2⟩
  · rw [if_neg h]; exact ⟨fun k => k.elim, fun k => h k.1⟩
def wE (S : Sg) (e : Ix) (δ : Zy.Env) [K : M → Zy.Env → Prop] [X : Ex → Zy.Env → Prop] : Prop := @wR _ (ev S e δ) K X
def wEs (S : Sg) (e : List Ix) (δ : Zy.Env) [K : List M → Zy.Env → Prop] [X : Ex → Zy.Env → Prop] : Prop := @wR _ (evs S e δ) K X
def wA (S : Sg) (e : List Ix) (δ : Zy.Env) [K : List Ar → Zy.Env → Prop] [X : Ex → Zy.Env → Prop] : Prop := @wR _ (eva S e δ) K X
def wX (S : Sg) (e : Tx) (δ : Zy.Env) [K : Bool → Zy.Env → Prop] [X : Ex → Zy.Env → Prop] : Prop := @wR _ (tx S e δ) K X
def wW (S : Sg) (e : Wi) (δ : Zy.Env) [K : List D → Zy.Env → Prop] [X : Ex → Zy.Env → Prop] : Prop := @wR _ (evW S e δ) K X
/-- a value that may be stored as it stands -/
def imOk (m : M) (e : Px) : Prop := match m with
  | .i _ => True
  | _ => frs e = true
theorem imOk_i {d : D} {e : Px} : imOk (.i d) e ↔ True := .rfl
theorem imOk_lst {d : List D} {e : Px} : imOk (.lst d) e ↔ frs e = true := .rfl
theorem imOk_ftp {l : List D} {e : Px} : imOk (.ftp l) e ↔ frs e = true := .rfl
theorem imOk_rg {a b : Int} {e : Px} : imOk (.rg a b) e ↔ frs e = true := .rfl
theorem imOk_dic {t : Bool} {d : List (D × D)} {e : Px} : imOk (.dic t d) e ↔ frs e = true := .rfl
theorem wE_p {e : Px} {K : M → Zy.Env → Prop} {X : Ex → Zy.Env → Prop} : @wE S (.p e) δ K X ↔ @wP S e δ fun m => imOk m e ∧ K m δ := by
  show @wR _ (evP S e δ) K X ↔ @oW _ (pv S e δ) (fun _ => _)
  unfold evP
  cases pv S e δ with
  | none => exact oW_none.symm
  | some m =>
    rw [oW_some]
    cases m with
    | i d => exact ⟨fun k => ⟨trivial, k⟩, fun k => k.2⟩
    | _ =>
      show @wR _ (if frs e then _ else _) K X ↔ _
      rw [wR_iteB]
      rfl
/-- a place's value, by what it is -/
def wPl (q : Pl) (m : M) (δ : Zy.Env) [K : M → Zy.Env → Prop] : Prop := match m with
  | .hole => False
  | .i d => K (.i d) δ
  | .rol l => K (.rol l) δ
  | .rg a b => K (.rg a b) δ
  | .ftp l => K (.ftp l) δ
  | m => q.fs.isEmpty = true ∧ K m (plSet q .hole δ)
theorem wPl_i {q : Pl} {d : D} {K : M → Zy.Env → Prop} : @wPl q (.i d) δ K ↔ K (.i d) δ := .rfl
theorem wPl_rol {q : Pl} {d : List D} {K : M → Zy.Env → Prop} : @wPl q (.rol d) δ K ↔ K (.rol d) δ := .rfl
theorem wPl_rg {q : Pl} {a b : Int} {K : M → Zy.Env → Prop} : @wPl q (.rg a b) δ K ↔ K (.rg a b) δ := .rfl
theorem wPl_ftp {q : Pl} {d : List D} {K : M → Zy.Env → Prop} : @wPl q (.ftp d) δ K ↔ K (.ftp d) δ := .rfl
theorem wPl_lst {q : Pl} {d : List D} {K : M → Zy.Env → Prop} : @wPl q (.lst d) δ K ↔ q.fs.isEmpty = true ∧ K (.lst d) (plSet q .hole δ) := .rfl
theorem wPl_kc {q : Pl} {d : List D} {K : M → Zy.Env → Prop} : @wPl q (.kc d) δ K ↔ q.fs.isEmpty = true ∧ K (.kc d) (plSet q .hole δ) := .rfl
theorem wPl_mtp {q : Pl} {d : List M} {K : M → Zy.Env → Prop} : @wPl q (.mtp d) δ K ↔ q.fs.isEmpty = true ∧ K (.mtp d) (plSet q .hole δ) := .rfl
theorem wPl_mls {q : Pl} {d : List M} {K : M → Zy.Env → Prop} : @wPl q (.mls d) δ K ↔ q.fs.isEmpty = true ∧ K (.mls d) (plSet q .hole δ) := .rfl
theorem wPl_dic {q : Pl} {t : Bool} {d : List (D × D)} {K : M → Zy.Env → Prop} : @wPl q (.dic t d) δ K ↔ q.fs.isEmpty = true ∧ K (.dic t d) (plSet q .hole δ) := .rfl
theorem wPl_ins {q : Pl} {c : Nat} {d : List (Nat × M)} {K : M → Zy.Env → Prop} : @wPl q (.ins c d) δ K ↔ q.fs.isEmpty = true ∧ K (.ins c d) (plSet q .hole δ) := .rfl
theorem wE_pl {q : Pl} {K : M → Zy.Env → Prop} {X : Ex → Zy.Env → Prop} : @wE S (.pl q) δ K X ↔ @wPl q (plGet q δ) δ K := by
  show @wR _ (evPl q δ) K X ↔ _
  unfold evPl wPl
  cases plGet q δ <;> first | exact .rfl | exact wR_iteB
def wTk (as : List Ar) (δ : Zy.Env) [K : List M → Zy.Env → Prop] : Prop := @oW _ (takeAll as δ) fun p => K p.1 p.2
theorem wTk_nil {K : List M → Zy.Env → Prop} : @wTk [] δ K ↔ K [] δ := oW_some
theorem wTk_v {m : M} {r : List Ar} {K : List M → Zy.Env → Prop} : @wTk (.v m :: r) δ K ↔ @wTk r δ fun ms δ1 => K (m :: ms) δ1 := by
  show @oW _ (do let (ms, δ1) ← takeAll r δ; pure (m :: ms, δ1)) (fun _ => _) ↔ _
  simp only [Option.bind_eq_bind, Option.pure_def, oW_bind, oW_some, wTk]
theorem wTk_q {q : Pl} {r : List Ar} {K : List M → Zy.Env → Prop} : @wTk (.q q :: r) δ K ↔ @vM (plGet q δ) fun m => @wTk r (plSet q .hole δ) fun ms δ1 => K (m :: ms) δ1 := by
  unfold wTk
  rw [takeAll]
  cases plGet q δ <;> first | exact oW_none | simp only [Option.bind_eq_bind, Option.pure_def, oW_bind, oW_some, vM]
def wPu (as : List Ar) (ms : List M) (δ : Zy.Env) [K : Zy.Env → Prop] : Prop := @oW _ (putAll as ms δ) K
theorem wPu_nil {ms : List M} {K : Zy.Env → Prop} : @wPu [] ms δ K ↔ K δ := by unfold wPu putAll; exact oW_some
theorem wPu_v {m x : M} {r : List Ar} {ms : List M} {K : Zy.Env → Prop} : @wPu (.v m :: r) (x :: ms) δ K ↔ @wPu r ms δ K := .rfl
theorem wPu_q {q : Pl} {x : M} {r : List Ar} {ms : List M} {K : Zy.Env → Prop} : @wPu (.q q :: r) (x :: ms) δ K ↔ @wPu r ms δ fun δ1 => plOk q δ1 = true ∧ K (plSet q x δ1) := by
  show @oW _ ((putAll r ms δ).bind fun δ1 => if plOk q δ1 then some (plSet q x δ1) else none) K ↔ _
  simp only [oW_bind, oW_iteN, oW_some, wPu]
/-- a def called with these arguments -/
def wC (S : Sg) (f : Nat) (as : List Ar) (δ : Zy.Env) [K : M → Zy.Env → Prop] [X : Ex → Zy.Env → Prop] : Prop := @wTk as δ fun ms δ1 => @wF (S.fn f ms) (fun m ms' => @wPu as ms' δ1 fun δ2 => K m δ2) (fun x ms' => @wPu as ms' δ1 fun δ2 => X x δ2)
theorem callF_w {f : Nat} {as : List Ar} {K : M → Zy.Env → Prop} {X : Ex → Zy.Env → Prop} : @wR _ (callF S f as δ) K X ↔ @wC S f as δ K X := by
  unfold callF wC wTk
  cases takeAll as δ with
  | none => exact oW_none.symm
  | some p =>
    rw [oW_some]
    obtain ⟨ms, δ1⟩ := p
    show @wR _ (match S.fn f ms with
    | .ok m ms' => R.of' (putAll as ms' δ1) fun δ2 => .ok m δ2
    | .exc x ms' => R.of' (putAll as ms' δ1) fun δ2 => .exc x δ2
    | .bad => .bad) K X ↔ @wF (S.fn f ms) (fun _ _ => _) (fun _ _ => _)
    rw [wF_def]
    cases S.fn f ms with
    | ok m ms' => exact wR_of'
    | exc x ms' => exact wR_of'
    | bad => exact .rfl
theorem wE_call {f : Nat} {es : List Ix} {K : M → Zy.Env → Prop} {X : Ex → Zy.Env → Prop} : @wE S (.call f es) δ K X ↔ @wA S es δ (fun as δ1 => @wC S f as δ1 K X) X := by
  show @wR _ ((eva S es δ).bnd fun as δ1 => callF S f as δ1) K X ↔ _
  simp only [wR_bnd, callF_w, wA]
def insC (m : M) [K : Nat → Prop] : Prop := match m with
  | .ins c _ => K c
  | _ => False
theorem insC_ins {c : Nat} {fs : List (Nat × M)} {K : Nat → Prop} : @insC (.ins c fs) K ↔ K c := .rfl
theorem wE_meth {q : Pl} {m : Nat} {es : List Ix} {K : M → Zy.Env → Prop} {X : Ex → Zy.Env → Prop} : @wE S (.meth q m es) δ K X ↔ @insC (plGet q δ) fun c => @oW _ (S.mt c m) fun f => @wA S es δ (fun as δ1 => @wC S f (.q q :: as) δ1 K X) X := by
  show @wR _ (match plGet q δ with
    | .ins c _ => (match S.mt c m with | some f => (eva S es δ).bnd fun as δ1 => callF S f (.q q :: as) δ1 | none => .bad)
    | _ => .bad) K X ↔ _
  cases plGet q δ with
  | ins c fs =>
    show @wR _ (match S.mt c m with | some f => (eva S es δ).bnd fun as δ1 => callF S f (.q q :: as) δ1 | none => .bad) K X ↔ @oW _ (S.mt c m) (fun _ => _)
    cases S.mt c m with
    | none => exact oW_none.symm
    | some f => rw [oW_some]; simp only [wR_bnd, callF_w, wA]
  | _ => exact .rfl
def hd2 (l : List M) [K : M → List M → Prop] : Prop := match l with
  | m :: r => K m r
  | [] => False
theorem hd2_cons {m : M} {r : List M} {K : M → List M → Prop} : @hd2 (m :: r) K ↔ K m r := .rfl
def isNon (m : M) : Prop := match m with
  | .i .non => True
  | _ => False
theorem wE_mk {c : Nat} {es : List Ix} {K : M → Zy.Env → Prop} {X : Ex → Zy.Env → Prop} : @wE S (.mk c es) δ K X ↔ @oW _ (S.ini c) fun f => @wA S es δ (fun as δ1 => @wTk as δ1 fun ms δ2 => @wF (S.fn f (.ins c [] :: ms)) (fun m ms' => isNon m ∧ @hd2 ms' fun m ms'' => @wPu as ms'' δ2 fun δ3 => K m δ3) (fun x ms' => @hd2 ms' fun _ ms'' => @wPu as ms'' δ2 fun δ3 => X x δ3)) X := by
  show @wR _ (match S.ini c with
    | some f => (eva S es δ).bnd fun as δ1 => (match takeAll as δ1 with
      | some (ms, δ2) => (match S.fn f (.ins c [] :: ms) with
        | .ok (.i .non) (m :: ms') => R.of' (putAll as ms' δ2) fun δ3 => .ok m δ3
        | .exc x (_ :: ms') => R.of' (putAll as ms' δ2) fun δ3 => .exc x δ3
        | _ => .bad)
      | none => .bad)
    | none => .bad) K X ↔ _
  cases S.ini c with
  | none => exact oW_none.symm
  | some f =>
    rw [oW_some]
    show @wR _ ((eva S es δ).bnd _) K X ↔ _
    rw [wR_bnd]
    unfold wA
    have : ∀ as δ1, @wR _ (match takeAll as δ1 with
      | some (ms, δ2) => (match S.fn f (.ins c [] :: ms) with
        | .ok (.i .non) (m :: ms') => R.of' (putAll as ms' δ2) fun δ3 => .ok m δ3
        | .exc x (_ :: ms') => R.of' (putAll as ms' δ2) fun δ3 => .exc x δ3
        | _ => .bad)
      | none => .bad) K X ↔ @wTk as δ1 fun ms δ2 => @wF (S.fn f (.ins c [] :: ms)) (fun m ms' => isNon m ∧ @hd2 ms' fun m ms'' => @wPu as ms'' δ2 fun δ3 => K m δ3) (fun x ms' => @hd2 ms' fun _ ms'' => @wPu as ms'' δ2 fun δ3 => X x δ3) := fun as δ1 => by
      unfold wTk
      cases takeAll as δ1 with
      | none => exact oW_none.symm
      | some p =>
        rw [oW_some]
        obtain ⟨ms, δ2⟩ := p
        show @wR _ (match S.fn f (.ins c [] :: ms) with
        | .ok (.i .non) (m :: ms') => R.of' (putAll as ms' δ2) fun δ3 => .ok m δ3
        | .exc x (_ :: ms') => R.of' (putAll as ms' δ2) fun δ3 => .exc x δ3
        | _ => .bad) K X ↔ @wF (S.fn f (.ins c [] :: ms)) (fun _ _ => _) (fun _ _ => _)
        rw [wF_def]
        cases S.fn f (.ins c [] :: ms) with
        | ok m ms' =>
          show _ ↔ isNon m ∧ @hd2 ms' (fun _ _ => _)
          have no : ∀ P : Prop, (False ↔ False ∧ P) := fun P => ⟨fun h => h.elim, fun h => h.1⟩
          cases m with
          | i d => cases d with
            | non => cases ms' with
              | nil => exact ⟨fun h => h.elim, fun h => h.2.elim⟩
              | cons a r =>
                show @wR _ (R.of' _ _) K X ↔ True ∧ @wPu as r δ2 (fun _ => _)
                rw [wR_of']
                exact ⟨fun h => ⟨trivial, h⟩, fun h => h.2⟩
            | _ => exact no _
          | _ => exact no _
        | exc x ms' =>
          cases ms' with
          | nil => exact .rfl
          | cons a r => exact wR_of'
        | bad => exact .rfl
    exact wR_congr this
theorem wE_pop {q : Pl} {a : Px} {K : M → Zy.Env → Prop} {X : Ex → Zy.Env → Prop} : @wE S (.pop q a) δ K X ↔ @wP S a δ fun x => @wN x fun k => @wLs (plGet q δ) fun l => @oW _ (dropL l k) fun p => K (.i p.1) (plSet q (.lst p.2) δ) := by
  show @wR _ (match pv S a δ, plGet q δ with
    | some (.i (.int k)), .lst l => (match dropL l k with | some (d, r) => .ok (.i d) (plSet q (.lst r) δ) | none => .bad)
    | _, _ => .bad) K X ↔ @oW _ (pv S a δ) (fun _ => _)
  cases pv S a δ with
  | none => exact oW_none.symm
  | some m =>
    rw [oW_some]
    unfold wN wLs
    split
    · rename_i k l h1 h2
      cases h1
      rw [h2]
      show _ ↔ @oW _ (dropL l k) (fun _ => _)
      cases dropL l k with
      | none => exact oW_none.symm
      | some p => rw [oW_some]; rfl
    · rename_i h
      split
      · split
        · exact (h _ _ rfl (by assumption)).elim
        · exact .rfl
      · exact .rfl
/-- a tuple of values that came one after another -/
def wTm (ms : List M) [K : M → Prop] : Prop := match imms ms with
  | some ds => ds.length ≤ sizeLine ∧ K (.i (.tup ds))
  | none => ms.length ≤ sizeLine ∧ K (.mtp ms)
theorem wE_tup {es : List Ix} {K : M → Zy.Env → Prop} {X : Ex → Zy.Env → Prop} : @wE S (.tup es) δ K X ↔ @wEs S es δ (fun ms δ1 => @wTm ms fun m => K m δ1) X := by
  show @wR _ ((evs S es δ).bnd fun ms δ1 => match imms ms with
    | some ds => if ds.length ≤ sizeLine then .ok (.i (.tup ds)) δ1 else .bad
    | none => if ms.length ≤ sizeLine then .ok (.mtp ms) δ1 else .bad) K X ↔ _
  rw [wR_bnd]
  unfold wEs wTm
  refine wR_congr fun ms δ1 => ?_
  cases imms ms <;> exact wR_iteB
/-- a list of values that came one after another -/
def wLm (ms : List M) [K : M → Prop] : Prop := match imms ms with
  | some ds => K (.lst ds)
  | none => K (.mls ms)
theorem wE_lst {es : List Ix} {K : M → Zy.Env → Prop} {X : Ex → Zy.Env → Prop} : @wE S (.lst es) δ K X ↔ @wEs S es δ (fun ms δ1 => ms.length ≤ sizeLine ∧ @wLm ms fun m => K m δ1) X := by
  show @wR _ ((evs S es δ).bnd fun ms δ1 => if ms.length ≤ sizeLine then (match imms ms with
    | some ds => .ok (.lst ds) δ1
    | none => .ok (.mls ms) δ1) else .bad) K X ↔ _
  rw [wR_bnd]
  unfold wEs wLm
  refine wR_congr fun ms δ1 => ?_
  rw [wR_iteB]
  cases imms ms <;> exact .rfl
theorem wE_bop {op : Bop} {a b : Ix} {K : M → Zy.Env → Prop} {X : Ex → Zy.Env → Prop} : @wE S (.bop op a b) δ K X ↔ @wE S a δ (fun x δ1 => @wE S b δ1 (fun y δ2 => @oW _ (bopM op x y) fun m => K m δ2) X) X := by
  show @wR _ ((ev S a δ).bnd fun x δ1 => (ev S b δ1).bnd fun y δ2 => R.of (bopM op x y) δ2) K X ↔ _
  simp only [wR_bnd, wR_of, wE]
theorem wE_cmp {op : Cop} {a b : Ix} {K : M → Zy.Env → Prop} {X : Ex → Zy.Env → Prop} : @wE S (.cmp op a b) δ K X ↔ @wE S a δ (fun x δ1 => @wE S b δ1 (fun y δ2 => @oW _ (copM op x y) fun k => K (.i (.bl k)) δ2) X) X := by
  show @wR _ ((ev S a δ).bnd fun x δ1 => (ev S b δ1).bnd fun y δ2 => R.of ((copM op x y).map fun b => M.i (.bl b)) δ2) K X ↔ _
  simp only [wR_bnd, wR_of, wE, oW_map]
theorem wE_idx {a b : Ix} {K : M → Zy.Env → Prop} {X : Ex → Zy.Env → Prop} : @wE S (.idx a b) δ K X ↔ @wE S a δ (fun x δ1 => @wE S b δ1 (fun y δ2 => @oW _ (idxM x y) fun m => @wI m fun d => K (.i d) δ2) X) X := by
  show @wR _ ((ev S a δ).bnd fun x δ1 => (ev S b δ1).bnd fun y δ2 => match idxM x y with
    | some (.i d) => .ok (.i d) δ2
    | _ => .bad) K X ↔ _
  simp only [wR_bnd, wE]
  refine wR_congr fun x δ1 => wR_congr fun y δ2 => ?_
  cases idxM x y with
  | none => exact oW_none.symm
  | some m => rw [oW_some]; cases m <;> exact .rfl
theorem wE_blt1 {b : Blt} {a : Ix} {K : M → Zy.Env → Prop} {X : Ex → Zy.Env → Prop} : @wE S (.blt1 b a) δ K X ↔ @wE S a δ (fun x δ1 => @oW _ (bltM b [x]) fun m => K m δ1) X := by
  show @wR _ ((ev S a δ).bnd fun x δ1 => R.of (bltM b [x]) δ1) K X ↔ _
  simp only [wR_bnd, wR_of, wE]
theorem wE_and {a b : Ix} {K : M → Zy.Env → Prop} {X : Ex → Zy.Env → Prop} : @wE S (.and a b) δ K X ↔ @wE S a δ (fun x δ1 => @wB x fun k => if k then @wE S b δ1 K X else K (.i (.bl false)) δ1) X := by
  show @wR _ ((ev S a δ).bnd fun x δ1 => match x with
    | .i (.bl k) => if k then ev S b δ1 else .ok (.i (.bl false)) δ1
    | _ => .bad) K X ↔ _
  simp only [wR_bnd, wE]
  refine wR_congr fun x δ1 => ?_
  unfold wB
  split
  · exact wR_ite
  · exact .rfl
theorem wE_or {a b : Ix} {K : M → Zy.Env → Prop} {X : Ex → Zy.Env → Prop} : @wE S (.or a b) δ K X ↔ @wE S a δ (fun x δ1 => @wB x fun k => if k then K (.i (.bl true)) δ1 else @wE S b δ1 K X) X := by
  show @wR _ ((ev S a δ).bnd fun x δ1 => match x with
    | .i (.bl k) => if k then .ok (.i (.bl true)) δ1 else ev S b δ1
    | _ => .bad) K X ↔ _
  simp only [wR_bnd, wE]
  refine wR_congr fun x δ1 => ?_
  unfold wB
  split
  · exact wR_ite
  · exact .rfl
theorem wE_lrng {a : Ix} {K : M → Zy.Env → Prop} {X : Ex → Zy.Env → Prop} : @wE S (.lrng a) δ K X ↔ @wE S a δ (fun x δ1 => @wN x fun n => (rngOk n = true ∧ n ≤ 1000000) ∧ K (.lst (rngL 0 n.toNat)) δ1) X := by
  show @wR _ ((ev S a δ).bnd fun x δ1 => match x with
    | .i (.int n) => if rngOk n = true ∧ n ≤ 1000000 then .ok (.lst (rngL 0 n.toNat)) δ1 else .bad
    | _ => .bad) K X ↔ _
  simp only [wR_bnd, wE]
  refine wR_congr fun x δ1 => ?_
  unfold wN
  split
  · exact wR_iteB
  · exact .rfl
theorem wE_not {a : Ix} {K : M → Zy.Env → Prop} {X : Ex → Zy.Env → Prop} : @wE S (.not a) δ K X ↔ @wE S a δ (fun x δ1 => @wB x fun k => K (.i (.bl (!k))) δ1) X := by
  show @wR _ ((ev S a δ).bnd fun x δ1 => match x with
    | .i (.bl k) => .ok (.i (.bl (!k))) δ1
    | _ => .bad) K X ↔ _
  simp only [wR_bnd, wE]
  refine wR_congr fun x δ1 => ?_
  unfold wB
  split <;> exact .rfl
/-- a comprehension's turns, one behind another -/
def wLx (S : Sg) (own : List Nat) (t : Tg) (c e : Ix) (l : List D) (δ : Zy.Env) [K : List D → Zy.Env → Prop] : Prop := ∃ r δ1, lcxL (lcxB S own t c e) l δ = .ok r δ1 ∧ K r δ1
theorem wE_lcx {own : List Nat} {t : Tg} {it : Ti} {c e : Ix} {K : M → Zy.Env → Prop} {X : Ex → Zy.Env → Prop} : @wE S (.lcx own t it c e) δ K X ↔ @wTi S it δ fun l => own.all (fun i => roH (slot δ i)) = true ∧ itRo S it δ = true ∧ @wLx S own t c e l δ fun r δ1 => r.length < sizeLine ∧ K (.lst r) (restE δ δ1 own) := by
  show @wR _ (ev S (.lcx own t it c e) δ) K X ↔ @oW _ (tiL S it δ) (fun _ => _)
  rw [ev_lcx]
  cases tiL S it δ with
  | none => exact oW_none.symm
  | some l =>
    rw [oW_some]
    dsimp only
    rw [wR_iteB, and_assoc]
    refine and_congr_right fun _ => and_congr_right fun _ => ?_
    unfold wLx
    cases lcxL (lcxB S own t c e) l δ with
    | ok r δ1 =>
      dsimp only
      rw [wR_iteB]
      exact ⟨fun h => ⟨r, δ1, rfl, h⟩, fun ⟨_, _, e, h⟩ => by cases e; exact h⟩
    | exc _ _ => exact ⟨fun h => h.elim, fun ⟨_, _, e, _⟩ => by cases e⟩
    | bad => exact ⟨fun h => h.elim, fun ⟨_, _, e, _⟩ => by cases e⟩
theorem wE_idxq {q : Pl} {b : Ix} {K : M → Zy.Env → Prop} {X : Ex → Zy.Env → Prop} : @wE S (.idxq q b) δ K X ↔ @vM (plGet q δ) fun _ => @wE S b δ (fun y δ1 => @oW _ (idxM (plGet q δ1) y) fun m => @wI m fun d => K (.i d) δ1) X := by
  have : ∀ y δ1, @wR _ (match idxM (plGet q δ1) y with
      | some (.i d) => .ok (.i d) δ1
      | _ => .bad) K X ↔ @oW _ (idxM (plGet q δ1) y) fun m => @wI m fun d => K (.i d) δ1 := fun y δ1 => by
    cases idxM (plGet q δ1) y with
    | none => exact oW_none.symm
    | some m => rw [oW_some]; cases m <;> exact .rfl
  have e : @wR _ ((ev S b δ).bnd fun y δ1 => match idxM (plGet q δ1) y with
      | some (.i d) => .ok (.i d) δ1
      | _ => .bad) K X ↔ @wE S b δ (fun y δ1 => @oW _ (idxM (plGet q δ1) y) fun m => @wI m fun d => K (.i d) δ1) X := by
    rw [wR_bnd]
    exact wR_congr this
  show @wR _ (match plGet q δ with
    | .hole => .bad
    | _ => (ev S b δ).bnd fun y δ1 => match idxM (plGet q δ1) y with
      | some (.i d) => .ok (.i d) δ1
      | _ => .bad) K X ↔ _
  cases plGet q δ <;> first | exact .rfl | exact e
def wMs (m : M) [K : List M → Prop] : Prop := match m with
  | .mls d => K d
  | _ => False
theorem wMs_mls {b : List M} {K : List M → Prop} : @wMs (.mls b) K ↔ K b := .rfl
theorem takeQ {q : Pl} {l : List M} (h : plGet q δ = .mls l) : takeAll [.q q] δ = some ([.mls l], plSet q .hole δ) := by
  simp only [takeAll, h, Option.bind_eq_bind, Option.bind_some, Option.pure_def]
theorem putQ {q : Pl} {m : M} {δ : Zy.Env} : putAll [.q q] [m] δ = if plOk q δ then some (plSet q m δ) else none := rfl
theorem wE_idxm {q : Pl} {a : Px} {b : Ix} {K : M → Zy.Env → Prop} {X : Ex → Zy.Env → Prop} : @wE S (.idxm q a b) δ K X ↔ @wMs (plGet q δ) fun l => @wP S a δ fun ka => @wN ka fun k => @oW _ (L2.atI l k) fun r => @wLs r fun rr => @wE S b (plSet q .hole δ) (fun y δ2 => plOk q δ2 = true ∧ @oW _ (idxM (.lst rr) y) fun m => @wI m fun d => K (.i d) (plSet q (.mls l) δ2)) X := by
  unfold wE
  rw [ev]
  cases h1 : plGet q δ with
  | mls l =>
    rw [takeQ h1]
    unfold wP
    cases h2 : pv S a δ with
    | none => exact oW_none.symm
    | some ka =>
      rw [wMs_mls, oW_some]
      cases ka with
      | i z =>
        cases z with
        | int k =>
          rw [wN_int]
          dsimp only
          cases h3 : L2.atI l k with
          | none => exact oW_none.symm
          | some r =>
            rw [oW_some]
            cases r with
            | lst rr =>
              dsimp only
              rw [wLs_lst, wR_bnd]
              refine wR_congr fun y δ2 => ?_
              rw [wR_of', putQ, oW_iteN, oW_some]
              refine and_congr_right fun _ => ?_
              cases h4 : idxM (.lst rr) y with
              | none => exact oW_none.symm
              | some m => rw [oW_some]; cases m <;> exact .rfl
            | _ => exact .rfl
        | _ => exact .rfl
      | _ => exact .rfl
  | _ => exact .rfl
theorem wE_slm {q : Pl} {a : Px} {b : Ix} {K : M → Zy.Env → Prop} {X : Ex → Zy.Env → Prop} : @wE S (.slm q a b) δ K X ↔ @wMs (plGet q δ) fun l => @wP S a δ fun ka => @wN ka fun k => @oW _ (L2.atI l k) fun r => @wLs r fun rr => @wE S b (plSet q .hole δ) (fun y δ2 => plOk q δ2 = true ∧ @wN y fun hi => K (.lst (cutD rr none (some hi))) (plSet q (.mls l) δ2)) X := by
  unfold wE
  rw [ev]
  cases h1 : plGet q δ with
  | mls l =>
    rw [takeQ h1]
    unfold wP
    cases h2 : pv S a δ with
    | none => exact oW_none.symm
    | some ka =>
      rw [wMs_mls, oW_some]
      cases ka with
      | i z =>
        cases z with
        | int k =>
          rw [wN_int]
          dsimp only
          cases h3 : L2.atI l k with
          | none => exact oW_none.symm
          | some r =>
            rw [oW_some]
            cases r with
            | lst rr =>
              dsimp only
              rw [wLs_lst, wR_bnd]
              refine wR_congr fun y δ2 => ?_
              rw [wR_of', putQ, oW_iteN, oW_some]
              refine and_congr_right fun _ => ?_
              cases y with
              | i z =>
                cases z with
                | int hi => exact .rfl
                | _ => exact .rfl
              | _ => exact .rfl
            | _ => exact .rfl
        | _ => exact .rfl
      | _ => exact .rfl
  | _ => exact .rfl
theorem wE_popx {q : Pl} {b : Ix} {K : M → Zy.Env → Prop} {X : Ex → Zy.Env → Prop} : @wE S (.popx q b) δ K X ↔ @wLs (plGet q δ) fun _ => @wE S b δ (fun y δ1 => @wN y fun k => @wLs (plGet q δ1) fun l => @oW _ (dropL l k) fun p => K (.i p.1) (plSet q (.lst p.2) δ1)) X := by
  have turn : ∀ y δ1, @wR _ (match y, plGet q δ1 with
      | .i (.int k), .lst l => (match dropL l k with | some (d, r) => .ok (.i d) (plSet q (.lst r) δ1) | none => .bad)
      | _, _ => .bad) K X ↔ @wN y fun k => @wLs (plGet q δ1) fun l => @oW _ (dropL l k) fun p => K (.i p.1) (plSet q (.lst p.2) δ1) := fun y δ1 => by
    unfold wN wLs
    split
    · rename_i k l h2
      rw [h2]
      show _ ↔ @oW _ (dropL l k) (fun _ => _)
      cases dropL l k with
      | none => exact oW_none.symm
      | some p => rw [oW_some]; rfl
    · rename_i h
      split
      · split
        · exact (h _ _ rfl (by assumption)).elim
        · exact .rfl
      · exact .rfl
  have e : @wR _ ((ev S b δ).bnd fun y δ1 => match y, plGet q δ1 with
      | .i (.int k), .lst l => (match dropL l k with | some (d, r) => R.ok (.i d) (plSet q (.lst r) δ1) | none => .bad)
      | _, _ => .bad) K X ↔ @wE S b δ (fun y δ1 => @wN y fun k => @wLs (plGet q δ1) fun l => @oW _ (dropL l k) fun p => K (.i p.1) (plSet q (.lst p.2) δ1)) X := by
    rw [wR_bnd]
    exact wR_congr turn
  show @wR _ (match plGet q δ with
    | .lst _ => (ev S b δ).bnd fun y δ1 => match y, plGet q δ1 with
      | .i (.int k), .lst l => (match dropL l k with | some (d, r) => .ok (.i d) (plSet q (.lst r) δ1) | none => .bad)
      | _, _ => .bad
    | _ => .bad) K X ↔ _
  cases plGet q δ <;> first | exact .rfl | exact e
theorem wEs_nil {K : List M → Zy.Env → Prop} {X : Ex → Zy.Env → Prop} : @wEs S [] δ K X ↔ K [] δ := .rfl
theorem wEs_cons {e : Ix} {es : List Ix} {K : List M → Zy.Env → Prop} {X : Ex → Zy.Env → Prop} : @wEs S (e :: es) δ K X ↔ @wE S e δ (fun m δ1 => @wEs S es δ1 (fun ms δ2 => K (m :: ms) δ2) X) X := by
  show @wR _ ((ev S e δ).bnd fun m δ1 => (evs S es δ1).bnd fun ms δ2 => .ok (m :: ms) δ2) K X ↔ _
  simp only [wR_bnd, wR_ok, wE, wEs]
def wQ (q : Pl) (m : M) [K : Ar → Prop] : Prop := match m with
  | .hole => False
  | .i d => K (.v (.i d))
  | .rol l => K (.v (.rol l))
  | .rg a b => K (.v (.rg a b))
  | .ftp l => K (.v (.ftp l))
  | _ => K (.q q)
theorem wQ_i {q : Pl} {d : D} {K : Ar → Prop} : @wQ q (.i d) K ↔ K (.v (.i d)) := .rfl
theorem wQ_rol {q : Pl} {d : List D} {K : Ar → Prop} : @wQ q (.rol d) K ↔ K (.v (.rol d)) := .rfl
theorem wQ_rg {q : Pl} {a b : Int} {K : Ar → Prop} : @wQ q (.rg a b) K ↔ K (.v (.rg a b)) := .rfl
theorem wQ_ftp {q : Pl} {d : List D} {K : Ar → Prop} : @wQ q (.ftp d) K ↔ K (.v (.ftp d)) := .rfl
theorem wQ_lst {q : Pl} {d : List D} {K : Ar → Prop} : @wQ q (.lst d) K ↔ K (.q q) := .rfl
theorem wQ_kc {q : Pl} {d : List D} {K : Ar → Prop} : @wQ q (.kc d) K ↔ K (.q q) := .rfl
theorem wQ_mtp {q : Pl} {d : List M} {K : Ar → Prop} : @wQ q (.mtp d) K ↔ K (.q q) := .rfl
theorem wQ_mls {q : Pl} {d : List M} {K : Ar → Prop} : @wQ q (.mls d) K ↔ K (.q q) := .rfl
theorem wQ_dic {q : Pl} {t : Bool} {d : List (D × D)} {K : Ar → Prop} : @wQ q (.dic t d) K ↔ K (.q q) := .rfl
theorem wQ_ins {q : Pl} {c : Nat} {d : List (Nat × M)} {K : Ar → Prop} : @wQ q (.ins c d) K ↔ K (.q q) := .rfl
theorem wA_nil {K : List Ar → Zy.Env → Prop} {X : Ex → Zy.Env → Prop} : @wA S [] δ K X ↔ K [] δ := .rfl
theorem wA_pl {q : Pl} {es : List Ix} {K : List Ar → Zy.Env → Prop} {X : Ex → Zy.Env → Prop} : @wA S (.pl q :: es) δ K X ↔ @wQ q (plGet q δ) fun a => @wA S es δ (fun as δ2 => K (a :: as) δ2) X := by
  show @wR _ (R.bnd (match plGet q δ with
      | .hole => R.bad
      | .i d => .ok (Ar.v (.i d)) δ
      | .rol l => .ok (Ar.v (.rol l)) δ
      | .rg a b => .ok (Ar.v (.rg a b)) δ
      | .ftp l => .ok (Ar.v (.ftp l)) δ
      | _ => .ok (Ar.q q) δ) fun a δ1 => (eva S es δ1).bnd fun as δ2 => .ok (a :: as) δ2) K X ↔ _
  unfold wQ
  cases plGet q δ <;> simp only [wR_bnd, wR_ok, wR_bad, wA]
def isPl : Ix → Bool
  | .pl _ => true
  | _ => false
theorem wA_e {e : Ix} {es : List Ix} {K : List Ar → Zy.Env → Prop} {X : Ex → Zy.Env → Prop} (h : isPl e = false) : @wA S (e :: es) δ K X ↔ @wE S e δ (fun m δ1 => @wA S es δ1 (fun as δ2 => K (.v m :: as) δ2) X) X := by
  cases e with
  | pl q => cases h
  | _ =>
    show @wR _ (R.bnd (R.bnd (ev S _ δ) fun m δ1 => .ok (Ar.v m) δ1) fun a δ1 => (eva S es δ1).bnd fun as δ2 => .ok (a :: as) δ2) K X ↔ _
    simp only [wR_bnd, wR_ok, wE, wA]
theorem wA_p {e : Px} {es : List Ix} {K : List Ar → Zy.Env → Prop} {X : Ex → Zy.Env → Prop} : @wA S (.p e :: es) δ K X ↔ @wE S (.p e) δ (fun m δ1 => @wA S es δ1 (fun as δ2 => K (.v m :: as) δ2) X) X := wA_e rfl
theorem wA_call {f : Nat} {l : List Ix} {es : List Ix} {K : List Ar → Zy.Env → Prop} {X : Ex → Zy.Env → Prop} : @wA S (.call f l :: es) δ K X ↔ @wE S (.call f l) δ (fun m δ1 => @wA S es δ1 (fun as δ2 => K (.v m :: as) δ2) X) X := wA_e rfl
theorem wA_meth {q : Pl} {m : Nat} {l : List Ix} {es : List Ix} {K : List Ar → Zy.Env → Prop} {X : Ex → Zy.Env → Prop} : @wA S (.meth q m l :: es) δ K X ↔ @wE S (.meth q m l) δ (fun m δ1 => @wA S es δ1 (fun as δ2 => K (.v m :: as) δ2) X) X := wA_e rfl
theorem wA_mk {c : Nat} {l : List Ix} {es : List Ix} {K : List Ar → Zy.Env → Prop} {X : Ex → Zy.Env → Prop} : @wA S (.mk c l :: es) δ K X ↔ @wE S (.mk c l) δ (fun m δ1 => @wA S es δ1 (fun as δ2 => K (.v m :: as) δ2) X) X := wA_e rfl
theorem wA_pop {q : Pl} {a : Px} {es : List Ix} {K : List Ar → Zy.Env → Prop} {X : Ex → Zy.Env → Prop} : @wA S (.pop q a :: es) δ K X ↔ @wE S (.pop q a) δ (fun m δ1 => @wA S es δ1 (fun as δ2 => K (.v m :: as) δ2) X) X := wA_e rfl
theorem wA_tup {l : List Ix} {es : List Ix} {K : List Ar → Zy.Env → Prop} {X : Ex → Zy.Env → Prop} : @wA S (.tup l :: es) δ K X ↔ @wE S (.tup l) δ (fun m δ1 => @wA S es δ1 (fun as δ2 => K (.v m :: as) δ2) X) X := wA_e rfl
theorem wA_lst {l : List Ix} {es : List Ix} {K : List Ar → Zy.Env → Prop} {X : Ex → Zy.Env → Prop} : @wA S (.lst l :: es) δ K X ↔ @wE S (.lst l) δ (fun m δ1 => @wA S es δ1 (fun as δ2 => K (.v m :: as) δ2) X) X := wA_e rfl
theorem wA_bop {op : Bop} {a b : Ix} {es : List Ix} {K : List Ar → Zy.Env → Prop} {X : Ex → Zy.Env → Prop} : @wA S (.bop op a b :: es) δ K X ↔ @wE S (.bop op a b) δ (fun m δ1 => @wA S es δ1 (fun as δ2 => K (.v m :: as) δ2) X) X := wA_e rfl
theorem wA_cmp {op : Cop} {a b : Ix} {es : List Ix} {K : List Ar → Zy.Env → Prop} {X : Ex → Zy.Env → Prop} : @wA S (.cmp op a b :: es) δ K X ↔ @wE S (.cmp op a b) δ (fun m δ1 => @wA S es δ1 (fun as δ2 => K (.v m :: as) δ2) X) X := wA_e rfl
theorem wA_idx {a b : Ix} {es : List Ix} {K : List Ar → Zy.Env → Prop} {X : Ex → Zy.Env → Prop} : @wA S (.idx a b :: es) δ K X ↔ @wE S (.idx a b) δ (fun m δ1 => @wA S es δ1 (fun as δ2 => K (.v m :: as) δ2) X) X := wA_e rfl
theorem wA_blt1 {b : Blt} {a : Ix} {es : List Ix} {K : List Ar → Zy.Env → Prop} {X : Ex → Zy.Env → Prop} : @wA S (.blt1 b a :: es) δ K X ↔ @wE S (.blt1 b a) δ (fun m δ1 => @wA S es δ1 (fun as δ2 => K (.v m :: as) δ2) X) X := wA_e rfl
theorem wA_and {a b : Ix} {es : List Ix} {K : List Ar → Zy.Env → Prop} {X : Ex → Zy.Env → Prop} : @wA S (.and a b :: es) δ K X ↔ @wE S (.and a b) δ (fun m δ1 => @wA S es δ1 (fun as δ2 => K (.v m :: as) δ2) X) X := wA_e rfl
theorem wA_or {a b : Ix} {es : List Ix} {K : List Ar → Zy.Env → Prop} {X : Ex → Zy.Env → Prop} : @wA S (.or a b :: es) δ K X ↔ @wE S (.or a b) δ (fun m δ1 => @wA S es δ1 (fun as δ2 => K (.v m :: as) δ2) X) X := wA_e rfl
theorem wA_lrng {a : Ix} {es : List Ix} {K : List Ar → Zy.Env → Prop} {X : Ex → Zy.Env → Prop} : @wA S (.lrng a :: es) δ K X ↔ @wE S (.lrng a) δ (fun m δ1 => @wA S es δ1 (fun as δ2 => K (.v m :: as) δ2) X) X := wA_e rfl
theorem wA_not {a : Ix} {es : List Ix} {K : List Ar → Zy.Env → Prop} {X : Ex → Zy.Env → Prop} : @wA S (.not a :: es) δ K X ↔ @wE S (.not a) δ (fun m δ1 => @wA S es δ1 (fun as δ2 => K (.v m :: as) δ2) X) X := wA_e rfl
theorem wA_lcx {own : List Nat} {t : Tg} {it : Ti} {c e : Ix} {es : List Ix} {K : List Ar → Zy.Env → Prop} {X : Ex → Zy.Env → Prop} : @wA S (.lcx own t it c e :: es) δ K X ↔ @wE S (.lcx own t it c e) δ (fun m δ1 => @wA S es δ1 (fun as δ2 => K (.v m :: as) δ2) X) X := wA_e rfl
theorem wA_popx {q : Pl} {b : Ix} {es : List Ix} {K : List Ar → Zy.Env → Prop} {X : Ex → Zy.Env → Prop} : @wA S (.popx q b :: es) δ K X ↔ @wE S (.popx q b) δ (fun m δ1 => @wA S es δ1 (fun as δ2 => K (.v m :: as) δ2) X) X := wA_e rfl
theorem wA_idxm {q : Pl} {a : Px} {b : Ix} {es : List Ix} {K : List Ar → Zy.Env → Prop} {X : Ex → Zy.Env → Prop} : @wA S (.idxm q a b :: es) δ K X ↔ @wE S (.idxm q a b) δ (fun m δ1 => @wA S es δ1 (fun as δ2 => K (.v m :: as) δ2) X) X := wA_e rfl
theorem wA_slm {q : Pl} {a : Px} {b : Ix} {es : List Ix} {K : List Ar → Zy.Env → Prop} {X : Ex → Zy.Env → Prop} : @wA S (.slm q a b :: es) δ K X ↔ @wE S (.slm q a b) δ (fun m δ1 => @wA S es δ1 (fun as δ2 => K (.v m :: as) δ2) X) X := wA_e rfl
theorem wA_idxq {q : Pl} {b : Ix} {es : List Ix} {K : List Ar → Zy.Env → Prop} {X : Ex → Zy.Env → Prop} : @wA S (.idxq q b :: es) δ K X ↔ @wE S (.idxq q b) δ (fun m δ1 => @wA S es δ1 (fun as δ2 => K (.v m :: as) δ2) X) X := wA_e rfl
theorem wX_p {e : Pt} {K : Bool → Zy.Env → Prop} {X : Ex → Zy.Env → Prop} : @wX S (.p e) δ K X ↔ @wT S e δ fun k => K k δ := by
  show @wR _ (R.of (tv S e δ) δ) K X ↔ _
  rw [wR_of]; rfl
theorem wX_v {e : Ix} {K : Bool → Zy.Env → Prop} {X : Ex → Zy.Env → Prop} : @wX S (.v e) δ K X ↔ @wE S e δ (fun m δ1 => @oW _ (truM m) fun k => K k δ1) X := by
  show @wR _ ((ev S e δ).bnd fun m δ1 => R.of (truM m) δ1) K X ↔ _
  simp only [wR_bnd, wR_of, wE]
theorem wX_and {a b : Tx} {K : Bool → Zy.Env → Prop} {X : Ex → Zy.Env → Prop} : @wX S (.and a b) δ K X ↔ @wX S a δ (fun k δ1 => if k then @wX S b δ1 K X else K false δ1) X := by
  show @wR _ ((tx S a δ).bnd fun k δ1 => if k then tx S b δ1 else .ok false δ1) K X ↔ _
  simp only [wR_bnd, wR_ite, wR_ok, wX]
theorem wX_or {a b : Tx} {K : Bool → Zy.Env → Prop} {X : Ex → Zy.Env → Prop} : @wX S (.or a b) δ K X ↔ @wX S a δ (fun k δ1 => if k then K true δ1 else @wX S b δ1 K X) X := by
  show @wR _ ((tx S a δ).bnd fun k δ1 => if k then .ok true δ1 else tx S b δ1) K X ↔ _
  simp only [wR_bnd, wR_ite, wR_ok, wX]
theorem wX_not {a : Tx} {K : Bool → Zy.Env → Prop} {X : Ex → Zy.Env → Prop} : @wX S (.not a) δ K X ↔ @wX S a δ (fun k δ1 => K (!k) δ1) X := by
  show @wR _ ((tx S a δ).bnd fun k δ1 => .ok (!k) δ1) K X ↔ _
  simp only [wR_bnd, wR_ok, wX]
theorem wW_e {a : Ix} {K : List D → Zy.Env → Prop} {X : Ex → Zy.Env → Prop} : @wW S (.e a) δ K X ↔ @wE S a δ (fun m δ1 => @oW _ (itL m) fun l => K l δ1) X := by
  show @wR _ ((ev S a δ).bnd fun m δ1 => R.of (itL m) δ1) K X ↔ _
  simp only [wR_bnd, wR_of, wE]
theorem wW_rng1 {a : Ix} {K : List D → Zy.Env → Prop} {X : Ex → Zy.Env → Prop} : @wW S (.rng1 a) δ K X ↔ @wE S a δ (fun m δ1 => @wN m fun n => rngOk n = true ∧ K (rngL 0 n.toNat) δ1) X := by
  show @wR _ ((ev S a δ).bnd fun m δ1 => match m with
    | .i (.int n) => if rngOk n then .ok (rngL 0 n.toNat) δ1 else .bad
    | _ => .bad) K X ↔ _
  rw [wR_bnd]
  refine wR_congr fun m δ1 => ?_
  unfold wN
  split
  · exact wR_iteB
  · exact .rfl
theorem wW_rng2 {a b : Ix} {K : List D → Zy.Env → Prop} {X : Ex → Zy.Env → Prop} : @wW S (.rng2 a b) δ K X ↔ @wE S a δ (fun m δ1 => @wE S b δ1 (fun m2 δ2 => @wN m fun x => @wN m2 fun y => rngOk x = true ∧ rngOk y = true ∧ K (rngL x (y - x).toNat) δ2) X) X := by
  show @wR _ ((ev S a δ).bnd fun m δ1 => (ev S b δ1).bnd fun m2 δ2 => match m, m2 with
    | .i (.int x), .i (.int y) => if rngOk x && rngOk y then .ok (rngL x (y - x).toNat) δ2 else .bad
    | _, _ => .bad) K X ↔ _
  simp only [wR_bnd, wE]
  refine wR_congr fun m δ1 => wR_congr fun m2 δ2 => ?_
  split
  · rw [wR_iteB, Bool.and_eq_true, and_assoc]
    exact .rfl
  · rename_i h
    refine ⟨fun k => k.elim, fun k => ?_⟩
    unfold wN at k
    split at k
    · split at k
      · exact (h _ _ rfl rfl).elim
      · exact k.elim
    · exact k.elim
end

/-- what stands behind a store -/
class K1 (α : Type) where
  f : α → Prop
def nw (δ : Zy.Env) [nx : K1 Zy.Env] : Prop := nx.f δ
theorem nw_eq {m : M} {l : List M} {nx : Zy.Env → Prop} : @nw (m :: l) ⟨nx⟩ ↔ nx (m :: l) := .rfl
/-- how to go on behind a statement -/
class Kn where
  nx : Zy.Env → Prop
  bk : Zy.Env → Prop
  ct : Zy.Env → Prop
  rt : M → Zy.Env → Prop
  ex : Ex → Zy.Env → Prop
def Fl.sat (f : Fl) (κ : Kn) : Prop := match f with
  | .nx δ => κ.nx δ
  | .bk δ => κ.bk δ
  | .ct δ => κ.ct δ
  | .rt m δ => κ.rt m δ
  | .exc x δ => κ.ex x δ
  | .bad => False
section
variable {S : Sg} {δ : Zy.Env} {nx bk ct : Zy.Env → Prop} {rt : M → Zy.Env → Prop} {ex : Ex → Zy.Env → Prop} {κ : Kn}
def wS (S : Sg) (s : Sm) (δ : Zy.Env) [κ : Kn] : Prop := (Zy.exec S s δ).sat κ
def wSs (S : Sg) (s : List Sm) (δ : Zy.Env) [κ : Kn] : Prop := (Zy.execs S s δ).sat κ
theorem sat_of {α : Type} {r : R α} {f : α → Zy.Env → Fl} : (Fl.of r f).sat κ ↔ @wR _ r (fun a δ => (f a δ).sat κ) κ.ex := by cases r <;> exact .rfl
theorem wSs_nil : @wSs S [] δ ⟨nx, bk, ct, rt, ex⟩ ↔ nx δ := .rfl
theorem wSs_cons {s : Sm} {r : List Sm} : @wSs S (s :: r) δ ⟨nx, bk, ct, rt, ex⟩ ↔ @wS S s δ ⟨fun δ1 => @wSs S r δ1 ⟨nx, bk, ct, rt, ex⟩, bk, ct, rt, ex⟩ := by
  show ((Zy.exec S s δ).seq fun δ1 => Zy.execs S r δ1).sat _ ↔ (Zy.exec S s δ).sat _
  cases Zy.exec S s δ <;> exact .rfl
theorem wSs_n {m : M} {l : List M} : @wSs S [] (m :: l) ⟨nx, bk, ct, rt, ex⟩ ↔ nx (m :: l) := .rfl
theorem wSs_c {s : Sm} {r : List Sm} {m : M} {l : List M} : @wSs S (s :: r) (m :: l) ⟨nx, bk, ct, rt, ex⟩ ↔ @wS S s (m :: l) ⟨fun δ1 => @wSs S r δ1 ⟨nx, bk, ct, rt, ex⟩, bk, ct, rt, ex⟩ := wSs_cons
theorem wSs_app {a b : List Sm} : @wSs S (a ++ b) δ ⟨nx, bk, ct, rt, ex⟩ ↔ @wSs S a δ ⟨fun δ1 => @wSs S b δ1 ⟨nx, bk, ct, rt, ex⟩, bk, ct, rt, ex⟩ := by
  induction a generalizing δ with
  | nil => exact .rfl
  | cons s r ih =>
    rw [List.cons_append, wSs_cons, wSs_cons]
    have : (fun δ1 => @wSs S (r ++ b) δ1 ⟨nx, bk, ct, rt, ex⟩) = fun δ1 => @wSs S r δ1 ⟨fun δ2 => @wSs S b δ2 ⟨nx, bk, ct, rt, ex⟩, bk, ct, rt, ex⟩ := funext fun δ1 => propext ih
    rw [this]
theorem wS_asg {i : Nat} {e : Ix} : @wS S (.asg i e) δ ⟨nx, bk, ct, rt, ex⟩ ↔ @wE S e δ (fun m δ1 => i < δ1.length ∧ @nw (δ1.set i m) ⟨nx⟩) ex := by
  show (Fl.of (ev S e δ) fun m δ1 => if i < δ1.length then .nx (δ1.set i m) else .bad).sat _ ↔ _
  rw [sat_of]
  refine wR_congr fun m δ1 => ?_
  by_cases h : i < δ1.length
  · rw [if_pos h]; exact ⟨fun k => ⟨h, k⟩, fun k => k.2⟩
  · rw [if_neg h]; exact ⟨fun k => k.elim, fun k => h k.1⟩
theorem wS_unp {l : List Nat} {e : Ix} : @wS S (.unp l e) δ ⟨nx, bk, ct, rt, ex⟩ ↔ @wE S e δ (fun m δ1 => @wI m fun d => @oW _ (tgSet (.tp l) d δ1) nx) ex := by
  show (Fl.of (ev S e δ) fun m δ1 => match m with
    | .i d => (match tgSet (.tp l) d δ1 with | some δ2 => .nx δ2 | none => .bad)
    | _ => .bad).sat _ ↔ _
  rw [sat_of]
  refine wR_congr fun m δ1 => ?_
  cases m with
  | i d =>
    show (match tgSet (.tp l) d δ1 with | some δ2 => Fl.nx δ2 | none => .bad).sat _ ↔ @oW _ (tgSet (.tp l) d δ1) nx
    cases tgSet (.tp l) d δ1 with
    | none => exact oW_none.symm
    | some δ2 => rw [oW_some]; exact .rfl
  | _ => exact .rfl
/-- one more at the end of a list -/
def wAp (a m : M) [K : M → Prop] : Prop := match a, m with
  | .lst l, .i d => l.length < sizeLine ∧ K (.lst (l ++ [d]))
  | .lst [], m => K (.mls [m])
  | .mls ms, m => ms.length < sizeLine ∧ K (.mls (ms ++ [m]))
  | _, _ => False
theorem wAp_of {a m : M} {K : M → Prop} : @wAp a m K ↔ @oW _ (appM a m) K := by
  cases a with
  | lst l =>
    cases m with
    | i d =>
      show (l.length < sizeLine ∧ K (.lst (l ++ [d]))) ↔ @oW _ (if l.length < sizeLine then some (.lst (l ++ [d])) else none) K
      by_cases h : l.length < sizeLine
      · rw [if_pos h, oW_some]; exact ⟨fun k => k.2, fun k => ⟨h, k⟩⟩
      · rw [if_neg h, oW_none]; exact ⟨fun k => h k.1, fun k => k.elim⟩
    | _ => cases l <;> simp [wAp, appM, oW_some, oW_none]
  | mls ms =>
    show (ms.length < sizeLine ∧ K (.mls (ms ++ [m]))) ↔ @oW _ (if ms.length < sizeLine then some (.mls (ms ++ [m])) else none) K
    by_cases h : ms.length < sizeLine
    · rw [if_pos h, oW_some]; exact ⟨fun k => k.2, fun k => ⟨h, k⟩⟩
    · rw [if_neg h, oW_none]; exact ⟨fun k => h k.1, fun k => k.elim⟩
  | _ => exact oW_none.symm
theorem wAp_i {l : List D} {d : D} {K : M → Prop} : @wAp (.lst l) (.i d) K ↔ l.length < sizeLine ∧ K (.lst (l ++ [d])) := .rfl
theorem wAp_nl {l : List D} {K : M → Prop} : @wAp (.lst []) (.lst l) K ↔ K (.mls [.lst l]) := .rfl
theorem wAp_nm {l : List M} {K : M → Prop} : @wAp (.lst []) (.mls l) K ↔ K (.mls [.mls l]) := .rfl
theorem wAp_mi {ms : List M} {d : D} {K : M → Prop} : @wAp (.mls ms) (.i d) K ↔ ms.length < sizeLine ∧ K (.mls (ms ++ [.i d])) := .rfl
theorem wAp_ml {ms : List M} {l : List D} {K : M → Prop} : @wAp (.mls ms) (.lst l) K ↔ ms.length < sizeLine ∧ K (.mls (ms ++ [.lst l])) := .rfl
theorem wAp_mm {ms : List M} {l : List M} {K : M → Prop} : @wAp (.mls ms) (.mls l) K ↔ ms.length < sizeLine ∧ K (.mls (ms ++ [.mls l])) := .rfl
theorem wS_augI {q : Pl} {k e : Px} {b : Bool} : @wS S (.augI q k b e) δ ⟨nx, bk, ct, rt, ex⟩ ↔ @wP S k δ fun j => @wP S e δ fun c => @oW _ (augIM b (plGet q δ) j c) fun x => nx (plSet q x δ) := by
  show (match (do let j ← pv S k δ; let c ← pv S e δ; augIM b (plGet q δ) j c) with
    | some x => Fl.nx (plSet q x δ)
    | none => .bad).sat _ ↔ _
  unfold wP
  cases h1 : pv S k δ with
  | none => rw [oW_none]; exact .rfl
  | some j =>
    rw [oW_some]
    cases h2 : pv S e δ with
    | none => rw [oW_none]; exact .rfl
    | some c =>
      rw [oW_some]
      show (match augIM b (plGet q δ) j c with
        | some x => Fl.nx (plSet q x δ)
        | none => .bad).sat _ ↔ _
      cases augIM b (plGet q δ) j c with
      | none => exact oW_none.symm
      | some x => rw [oW_some]; exact .rfl
theorem wS_ext {q : Pl} {e : Ix} : @wS S (.ext q e) δ ⟨nx, bk, ct, rt, ex⟩ ↔ isLd (plGet q δ) = true ∧ @wE S e δ (fun m δ1 => @oW _ (extM (plGet q δ1) m) fun x => nx (plSet q x δ1)) ex := by
  show (if isLd (plGet q δ) then Fl.of (ev S e δ) fun m δ1 => (match extM (plGet q δ1) m with
    | some x => .nx (plSet q x δ1)
    | none => .bad) else .bad).sat _ ↔ _
  by_cases h : isLd (plGet q δ) = true
  · rw [if_pos h, sat_of]
    refine Iff.trans ?_ ⟨fun k => ⟨h, k⟩, fun k => k.2⟩
    refine wR_congr fun m δ1 => ?_
    cases extM (plGet q δ1) m with
    | none => exact oW_none.symm
    | some x => rw [oW_some]; exact .rfl
  · rw [if_neg h]; exact ⟨fun k => k.elim, fun k => h k.1⟩
theorem wS_app {q : Pl} {e : Ix} : @wS S (.app q e) δ ⟨nx, bk, ct, rt, ex⟩ ↔ isL (plGet q δ) = true ∧ @wE S e δ (fun m δ1 => @wAp (plGet q δ1) m fun x => nx (plSet q x δ1)) ex := by
  show (if isL (plGet q δ) then Fl.of (ev S e δ) fun m δ1 => (match appM (plGet q δ1) m with
    | some x => .nx (plSet q x δ1)
    | none => .bad) else .bad).sat _ ↔ _
  by_cases h : isL (plGet q δ) = true
  · rw [if_pos h, sat_of]
    refine Iff.trans ?_ ⟨fun k => ⟨h, k⟩, fun k => k.2⟩
    refine wR_congr fun m δ1 => ?_
    refine Iff.trans ?_ wAp_of.symm
    cases appM (plGet q δ1) m with
    | none => exact oW_none.symm
    | some x => rw [oW_some]; exact .rfl
  · rw [if_neg h]; exact ⟨fun k => k.elim, fun k => h k.1⟩
/-- x[k] = d -/
def wSt (q : Pl) (k : M) (m : M) (d : D) (δ : Zy.Env) [nx : Zy.Env → Prop] : Prop := match k, m with
  | .i (.int j), .lst l => @oW _ (L2.ixN l.length j) fun n => nx (plSet q (.lst (l.set n d)) δ)
  | .i (.int j), .mls l => @oW _ (L2.ixN l.length j) fun n => nx (plSet q (.mls (l.set n (.i d))) δ)
  | .i x, .dic t kvs => kvs.length < sizeLine ∧ keyOkD t x = true ∧ nx (plSet q (.dic t (putD kvs x d)) δ)
  | _, _ => False
theorem wSt_lst {q : Pl} {j : Int} {l : List D} {d : D} : @wSt q (.i (.int j)) (.lst l) d δ nx ↔ @oW _ (L2.ixN l.length j) fun n => nx (plSet q (.lst (l.set n d)) δ) := .rfl
theorem wSt_mls {q : Pl} {j : Int} {l : List M} {d : D} : @wSt q (.i (.int j)) (.mls l) d δ nx ↔ @oW _ (L2.ixN l.length j) fun n => nx (plSet q (.mls (l.set n (.i d))) δ) := .rfl
theorem wSt_dic {q : Pl} {x : D} {t : Bool} {l : List (D × D)} {d : D} : @wSt q (.i x) (.dic t l) d δ nx ↔ l.length < sizeLine ∧ keyOkD t x = true ∧ nx (plSet q (.dic t (putD l x d)) δ) := by cases x <;> exact .rfl
theorem wS_setI {q : Pl} {k : Px} {e : Ix} : @wS S (.setI q k e) δ ⟨nx, bk, ct, rt, ex⟩ ↔ @wE S e δ (fun m δ1 => @wP S k δ1 fun j => @wI m fun d => @wSt q j (plGet q δ1) d δ1 nx) ex := by
  show (Fl.of (ev S e δ) fun m δ1 => match pv S k δ1, plGet q δ1, m with
    | some (.i (.int j)), .lst l, .i d => (match L2.ixN l.length j with | some n => .nx (plSet q (.lst (l.set n d)) δ1) | none => .bad)
    | some (.i (.int j)), .mls l, .i d => (match L2.ixN l.length j with | some n => .nx (plSet q (.mls (l.set n (.i d))) δ1) | none => .bad)
    | some (.i x), .dic t kvs, .i d => if kvs.length < sizeLine ∧ keyOkD t x = true then .nx (plSet q (.dic t (putD kvs x d)) δ1) else .bad
    | _, _, _ => .bad).sat _ ↔ _
  rw [sat_of]
  refine wR_congr fun m δ1 => ?_
  unfold wP
  cases pv S k δ1 with
  | none => exact oW_none.symm
  | some j =>
    rw [oW_some]
    generalize plGet q δ1 = p
    cases m with
    | i d =>
      show _ ↔ @wSt q j p d δ1 nx
      cases j with
      | i x =>
        cases p with
        | lst l =>
          cases x with
          | int j =>
            show (match L2.ixN l.length j with | some n => Fl.nx (plSet q (.lst (l.set n d)) δ1) | none => .bad).sat _ ↔ @oW _ (L2.ixN l.length j) (fun _ => _)
            cases L2.ixN l.length j with
            | none => exact oW_none.symm
            | some n => rw [oW_some]; exact .rfl
          | _ => exact .rfl
        | mls l =>
          cases x with
          | int j =>
            show (match L2.ixN l.length j with | some n => Fl.nx (plSet q (.mls (l.set n (.i d))) δ1) | none => .bad).sat _ ↔ @oW _ (L2.ixN l.length j) (fun _ => _)
            cases L2.ixN l.length j with
            | none => exact oW_none.symm
            | some n => rw [oW_some]; exact .rfl
          | _ => exact .rfl
        | dic t kvs =>
          rw [wSt_dic]
          have : (if kvs.length < sizeLine ∧ keyOkD t x = true then Fl.nx (plSet q (.dic t (putD kvs x d)) δ1) else .bad).sat ⟨nx, bk, ct, rt, ex⟩ ↔ kvs.length < sizeLine ∧ keyOkD t x = true ∧ nx (plSet q (.dic t (putD kvs x d)) δ1) := by
            by_cases h : kvs.length < sizeLine ∧ keyOkD t x = true
            · rw [if_pos h]; exact ⟨fun k => ⟨h.1, h.2, k⟩, fun k => k.2.2⟩
            · rw [if_neg h]; exact ⟨fun k => k.elim, fun k => h ⟨k.1, k.2.1⟩⟩
          cases x <;> exact this
        | _ => cases x <;> exact .rfl
      | _ => cases p <;> exact .rfl
    | _ => cases j <;> first | (rename_i x; cases x <;> cases p <;> exact .rfl) | (cases p <;> exact .rfl)
def insF (m : M) [K : Nat → List (Nat × M) → Prop] : Prop := match m with
  | .ins c fs => K c fs
  | _ => False
theorem insF_ins {c : Nat} {fs : List (Nat × M)} {K : Nat → List (Nat × M) → Prop} : @insF (.ins c fs) K ↔ K c fs := .rfl
theorem wS_setF {q : Pl} {f : Nat} {e : Ix} : @wS S (.setF q f e) δ ⟨nx, bk, ct, rt, ex⟩ ↔ @wE S e δ (fun m δ1 => @insF (plGet q δ1) fun c fs => (fs.length < 1000 ∧ (f % 2 = 1 ∨ (fs.lookup f).isNone = true)) ∧ nx (plSet q (.ins c (putFd fs f m)) δ1)) ex := by
  show (Fl.of (ev S e δ) fun m δ1 => match plGet q δ1 with
    | .ins c fs => if fs.length < 1000 ∧ (f % 2 = 1 ∨ (fs.lookup f).isNone = true) then .nx (plSet q (.ins c (putFd fs f m)) δ1) else .bad
    | _ => .bad).sat _ ↔ _
  rw [sat_of]
  refine wR_congr fun m δ1 => ?_
  cases plGet q δ1 with
  | ins c fs =>
    show (if _ then Fl.nx (plSet q (.ins c (putFd fs f m)) δ1) else .bad).sat _ ↔ _ ∧ _
    split
    · rename_i h; exact ⟨fun k => ⟨h, k⟩, fun k => k.2⟩
    · rename_i h; exact ⟨fun k => k.elim, fun k => h k.1⟩
  | _ => exact .rfl
theorem wS_ex {e : Ix} : @wS S (.ex e) δ ⟨nx, bk, ct, rt, ex⟩ ↔ @wE S e δ (fun _ δ1 => nx δ1) ex := by
  show (Fl.of (ev S e δ) fun _ δ1 => .nx δ1).sat _ ↔ _
  rw [sat_of]; exact .rfl
theorem wS_ret {e : Ix} : @wS S (.ret e) δ ⟨nx, bk, ct, rt, ex⟩ ↔ @wE S e δ rt ex := by
  show (Fl.of (ev S e δ) fun m δ1 => .rt m δ1).sat _ ↔ _
  rw [sat_of]; exact .rfl
theorem wS_retN : @wS S .retN δ ⟨nx, bk, ct, rt, ex⟩ ↔ rt (.i .non) δ := .rfl
theorem wS_brk : @wS S .brk δ ⟨nx, bk, ct, rt, ex⟩ ↔ bk δ := .rfl
theorem wS_cnt : @wS S .cnt δ ⟨nx, bk, ct, rt, ex⟩ ↔ ct δ := .rfl
theorem wS_pass : @wS S .pass δ ⟨nx, bk, ct, rt, ex⟩ ↔ nx δ := .rfl
theorem wS_aug {i : Nat} {b : Bool} {e : Px} : @wS S (.aug i b e) δ ⟨nx, bk, ct, rt, ex⟩ ↔ @wN (slot δ i) fun x => @wP S e δ fun m => @wN m fun y => @nw (δ.set i (.i (.int (augF b x y)))) ⟨nx⟩ := by
  show (match slot δ i, pv S e δ with
    | .i (.int x), some (.i (.int y)) => Fl.nx (δ.set i (.i (.int (augF b x y))))
    | _, _ => .bad).sat _ ↔ _
  unfold wN wP
  split
  · rename_i x y e1 e2
    rw [e1, e2]
    refine Iff.trans ?_ (Iff.symm oW_some)
    exact .rfl
  · rename_i h
    refine ⟨False.elim, fun k => ?_⟩
    split at k
    · rename_i x e1
      cases e2 : pv S e δ with
      | none => rw [e2] at k; exact oW_none.mp k
      | some m =>
        rw [e2, oW_some] at k
        split at k
        · exact h _ _ e1 e2
        · exact k
    · exact k
theorem wS_ite {c : Tx} {a b : List Sm} : @wS S (.ite c a b) δ ⟨nx, bk, ct, rt, ex⟩ ↔ @wX S c δ (fun k δ1 => if k then @wSs S a δ1 ⟨nx, bk, ct, rt, ex⟩ else @wSs S b δ1 ⟨nx, bk, ct, rt, ex⟩) ex := by
  show (Fl.of (tx S c δ) fun k δ1 => if k then Zy.execs S a δ1 else Zy.execs S b δ1).sat _ ↔ _
  rw [sat_of]
  exact wR_congr fun k δ1 => by cases k <;> exact .rfl
/-- the turns of a for -/
def wL (S : Sg) (c : Zy.Env → Bool) (t : Tg) (b : List Sm) (l : List D) (δ : Zy.Env) [κ : Kn] : Prop := (forL c (fun d δ1 => match tgSet t d δ1 with | some δ2 => Zy.execs S b δ2 | none => .bad) l δ).sat κ
def wIt (S : Sg) (it : Ti) (k : Option Pl) (δ : Zy.Env) [K : List D → (Zy.Env → Bool) → Prop] : Prop := @oW _ (forIt S it k δ) fun p => K p.1 p.2
theorem wS_for {t : Tg} {it : Ti} {k : Option Pl} {b : List Sm} : @wS S (.for_ t it k b) δ κ ↔ @wIt S it k δ fun l c => @wL S c t b l δ κ := by
  show (match forIt S it k δ with
    | some (l, chk) => forL chk (fun d δ1 => match tgSet t d δ1 with | some δ2 => Zy.execs S b δ2 | none => .bad) l δ
    | none => .bad).sat κ ↔ _
  unfold wIt
  cases forIt S it k δ with
  | none => exact oW_none.symm
  | some p => rw [oW_some]; exact .rfl
def wEn (m : M) [K : List D → Prop] : Prop := match m with
  | .i (.tup l) => K (enumL 0 l)
  | _ => False
theorem wEn_tup {l : List D} {K : List D → Prop} : @wEn (.i (.tup l)) K ↔ K (enumL 0 l) := .rfl
theorem wS_forE {t : Tg} {x : Px} {b : List Sm} : @wS S (.forE t x b) δ κ ↔ @wP S x δ fun m => @wEn m fun l => @wL S (fun _ => true) t b l δ κ := by
  show (match pv S x δ with
    | some (.i (.tup l)) => forL (fun _ => true) (fun d δ1 => match tgSet t d δ1 with | some δ2 => Zy.execs S b δ2 | none => .bad) (enumL 0 l) δ
    | _ => .bad).sat κ ↔ @oW _ (pv S x δ) (fun m => @wEn m fun l => @wL S (fun _ => true) t b l δ κ)
  cases pv S x δ with
  | none => exact oW_none.symm
  | some m =>
    rw [oW_some]
    cases m with
    | i d => cases d <;> exact .rfl
    | _ => exact .rfl
theorem enumL_map {α : Type} (enc : α → D) : ∀ (xs : List α) (k : Nat), enumL k (xs.map enc) = (xs.zipIdx k).map fun p => D.tup [.int (p.2 : Nat), enc p.1]
  | [], _ => rfl
  | x :: xs, k => by rw [List.map_cons, enumL, enumL_map enc xs (k + 1)]; rfl
theorem wS_forX {t : Tg} {w : Wi} {b : List Sm} : @wS S (.forX t w b) δ κ ↔ @wW S w δ (fun l δ1 => @wL S (fun _ => true) t b l δ1 κ) κ.ex := by
  show (Fl.of (evW S w δ) _).sat κ ↔ _
  rw [sat_of]; exact .rfl
def wQt (q : Pl) (m : M) [K : List D → (Zy.Env → Bool) → Prop] : Prop := match m with
  | .hole => False
  | .lst l => K l fun δ1 => isLst l (plGet q δ1)
  | m => @oW _ (itL m) fun l => K l fun _ => true
theorem wQt_lst {q : Pl} {l : List D} {K : List D → (Zy.Env → Bool) → Prop} : @wQt q (.lst l) K ↔ K l fun δ1 => isLst l (plGet q δ1) := .rfl
theorem wQt_i {q : Pl} {d : D} {K : List D → (Zy.Env → Bool) → Prop} : @wQt q (.i d) K ↔ @oW _ (itL (.i d)) fun l => K l fun _ => true := .rfl
theorem wQt_rol {q : Pl} {l : List D} {K : List D → (Zy.Env → Bool) → Prop} : @wQt q (.rol l) K ↔ K l fun _ => true := oW_some
theorem wQt_ftp {q : Pl} {l : List D} {K : List D → (Zy.Env → Bool) → Prop} : @wQt q (.ftp l) K ↔ K l fun _ => true := oW_some
theorem wQt_rg {q : Pl} {a b : Int} {K : List D → (Zy.Env → Bool) → Prop} : @wQt q (.rg a b) K ↔ @oW _ (itL (.rg a b)) fun l => K l fun _ => true := .rfl
theorem wQt_kc {q : Pl} {l : List D} {K : List D → (Zy.Env → Bool) → Prop} : @wQt q (.kc l) K ↔ K l fun _ => true := oW_some
theorem wIt_q {it : Ti} {q : Pl} {K : List D → (Zy.Env → Bool) → Prop} : @wIt S it (some q) δ K ↔ @wQt q (plGet q δ) K := by
  unfold wIt forIt wQt
  cases it <;> (simp only []; cases plGet q δ <;> first | exact oW_some | exact oW_none | (rw [oW_map]))
def imFr (m : M) (x : Px) : Prop := match m with
  | .lst _ => frs x = true
  | _ => True
theorem imFr_i {d : D} {x : Px} : imFr (.i d) x ↔ True := .rfl
theorem imFr_lst {d : List D} {x : Px} : imFr (.lst d) x ↔ frs x = true := .rfl
theorem imFr_rol {d : List D} {x : Px} : imFr (.rol d) x ↔ True := .rfl
theorem imFr_ftp {d : List D} {x : Px} : imFr (.ftp d) x ↔ True := .rfl
theorem imFr_rg {a b : Int} {x : Px} : imFr (.rg a b) x ↔ True := .rfl
theorem imFr_kc {d : List D} {x : Px} : imFr (.kc d) x ↔ True := .rfl
theorem wIt_e {x : Px} {K : List D → (Zy.Env → Bool) → Prop} : @wIt S (.e x) none δ K ↔ @wP S x δ fun m => imFr m x ∧ @oW _ (itL m) fun l => K l fun _ => true := by
  show @oW _ (match pv S x δ with
    | some (.lst l) => if frs x then some (l, fun (_ : Zy.Env) => true) else none
    | some m => (itL m).map fun l => (l, fun (_ : Zy.Env) => true)
    | none => none) (fun _ => _) ↔ @oW _ (pv S x δ) (fun _ => _)
  cases pv S x δ with
  | none => exact oW_none.trans oW_none.symm
  | some m =>
    rw [oW_some]
    cases m with
    | lst l =>
      show @oW _ (if frs x = true then some (l, fun (_ : Zy.Env) => true) else none) (fun _ => _) ↔ frs x = true ∧ @oW _ (some l) (fun _ => _)
      rw [oW_iteN, oW_some, oW_some]
    | _ =>
      show @oW _ (Option.map _ _) (fun _ => _) ↔ _
      rw [oW_map]
      exact ⟨fun k => ⟨trivial, k⟩, fun k => k.2⟩
theorem wIt_rng1 {a : Px} {K : List D → (Zy.Env → Bool) → Prop} : @wIt S (.rng1 a) none δ K ↔ @wTi S (.rng1 a) δ fun l => K l fun _ => true := by
  show @oW _ ((tiL S (.rng1 a) δ).map _) (fun _ => _) ↔ _
  rw [oW_map]; rfl
theorem wIt_rng2 {a b : Px} {K : List D → (Zy.Env → Bool) → Prop} : @wIt S (.rng2 a b) none δ K ↔ @wTi S (.rng2 a b) δ fun l => K l fun _ => true := by
  show @oW _ ((tiL S (.rng2 a b) δ).map _) (fun _ => _) ↔ _
  rw [oW_map]; rfl
end
/-! ### loops -/
def upd : Zy.Env → List Nat → List M → Zy.Env
  | δ, i :: is, v :: vs => (upd δ is vs).set i v
  | δ, _, _ => δ
/-- the slots stand as the invariant says -/
def stp (δ' δ0 : Zy.Env) (idx : List Nat) [P : K1 (List M)] : Prop := ∃ vs', δ' = upd δ0 idx vs' ∧ P.f vs'
theorem stp_mk {δ' δ0 : Zy.Env} {idx : List Nat} {P : List M → Prop} (vs : List M) (e : δ' = upd δ0 idx vs) (h : P vs) : @stp δ' δ0 idx ⟨P⟩ := ⟨vs, e, h⟩
section
variable {S : Sg} {δ : Zy.Env} {nx bk ct : Zy.Env → Prop} {rt : M → Zy.Env → Prop} {ex : Ex → Zy.Env → Prop} {κ : Kn} {c : Zy.Env → Bool} {t : Tg} {b : List Sm} {l : List D}
theorem wL_nil : @wL S c t b [] δ ⟨nx, bk, ct, rt, ex⟩ ↔ nx δ := .rfl
theorem wL_cons {d : D} : @wL S c t b (d :: l) δ ⟨nx, bk, ct, rt, ex⟩ ↔ @oW _ (tgSet t d δ) fun δ1 => @wSs S b δ1 ⟨fun δ2 => c δ2 = true ∧ @wL S c t b l δ2 ⟨nx, bk, ct, rt, ex⟩, nx, fun δ2 => c δ2 = true ∧ @wL S c t b l δ2 ⟨nx, bk, ct, rt, ex⟩, rt, ex⟩ := by
  unfold wL
  rw [forL]
  cases tgSet t d δ with
  | none => exact oW_none.symm
  | some δ1 =>
    rw [oW_some]
    unfold wSs
    have ifc : ∀ δ2 : Zy.Env, (if c δ2 then forL c (fun d δ1 => match tgSet t d δ1 with | some δ2 => Zy.execs S b δ2 | none => .bad) l δ2 else .bad).sat ⟨nx, bk, ct, rt, ex⟩ ↔ c δ2 = true ∧ (forL c (fun d δ1 => match tgSet t d δ1 with | some δ2 => Zy.execs S b δ2 | none => .bad) l δ2).sat ⟨nx, bk, ct, rt, ex⟩ := fun δ2 => by
      by_cases h : c δ2 = true
      · rw [if_pos h]; exact ⟨fun k => ⟨h, k⟩, fun k => k.2⟩
      · rw [if_neg h]; exact ⟨fun k => k.elim, fun k => h k.1⟩
    show Fl.sat (match Zy.execs S b δ1 with | .nx δ1 => if c δ1 then forL c _ l δ1 else .bad | .ct δ1 => if c δ1 then forL c _ l δ1 else .bad | .bk δ1 => .nx δ1 | x => x) _ ↔ _
    cases Zy.execs S b δ1 <;> first | exact .rfl | exact ifc _
theorem wL_g (J : List D → List D → Zy.Env → Prop) (h0 : J [] l δ)
    (hs : ∀ p d r δ, l = p ++ d :: r → J p (d :: r) δ → @oW _ (tgSet t d δ) fun δ1 => @wSs S b δ1 ⟨fun δ' => c δ' = true ∧ J (p ++ [d]) r δ', nx, fun δ' => c δ' = true ∧ J (p ++ [d]) r δ', rt, ex⟩)
    (he : ∀ δ, J l [] δ → nx δ) : @wL S c t b l δ ⟨nx, bk, ct, rt, ex⟩ := by
  suffices ∀ r p δ, l = p ++ r → J p r δ → @wL S c t b r δ ⟨nx, bk, ct, rt, ex⟩ from this l [] δ rfl h0
  intro r
  induction r with
  | nil => intro p δ e h; rw [wL_nil]; rw [List.append_nil] at e; subst e; exact he δ h
  | cons d r ih =>
    intro p δ e h
    rw [wL_cons]
    refine oW_mono (hs p d r δ e h) fun δ1 h1 => ?_
    unfold wSs at h1 ⊢
    have g : ∀ δ', c δ' = true ∧ J (p ++ [d]) r δ' → c δ' = true ∧ @wL S c t b r δ' ⟨nx, bk, ct, rt, ex⟩ := fun δ' k => ⟨k.1, ih (p ++ [d]) δ' (by rw [e]; simp) k.2⟩
    revert h1
    cases Zy.execs S b δ1 <;> first | exact g _ | exact id
/-- a for over rows, by an invariant of what is behind it and of some slots -/
theorem wL_pre {α : Type} (xs : List α) (enc : α → D) (idx : List Nat) (I : List α → List M → Prop) (hl : l = xs.map enc) (h0 : ∃ vs, δ = upd δ idx vs ∧ I [] vs)
    (hs : ∀ p x r vs, xs = p ++ x :: r → I p vs → @oW _ (tgSet t (enc x) (upd δ idx vs)) fun δ1 => @wSs S b δ1 ⟨fun δ' => c δ' = true ∧ @stp δ' δ idx ⟨I (p ++ [x])⟩, nx, fun δ' => c δ' = true ∧ @stp δ' δ idx ⟨I (p ++ [x])⟩, rt, ex⟩)
    (he : ∀ vs, I xs vs → nx (upd δ idx vs)) : @wL S c t b l δ ⟨nx, bk, ct, rt, ex⟩ := by
  subst hl
  obtain ⟨vs0, e0, h0⟩ := h0
  refine wL_g (fun p r δ' => ∃ q s vs, xs = q ++ s ∧ p = q.map enc ∧ r = s.map enc ∧ δ' = upd δ idx vs ∧ I q vs) ⟨[], xs, vs0, rfl, rfl, rfl, e0, h0⟩ ?_ ?_
  · rintro p d r δ' e ⟨q, s, vs, e1, rfl, e2, rfl, h⟩
    cases s with
    | nil => cases e2
    | cons x s =>
      simp only [List.map_cons, List.cons.injEq] at e2
      obtain ⟨rfl, rfl⟩ := e2
      refine oW_mono (hs q x s vs e1 h) fun δ1 h1 => ?_
      unfold wSs at h1 ⊢
      have g : ∀ δ', (c δ' = true ∧ ∃ vs', δ' = upd δ idx vs' ∧ I (q ++ [x]) vs') → c δ' = true ∧ ∃ q' s' vs, xs = q' ++ s' ∧ q.map enc ++ [enc x] = q'.map enc ∧ s.map enc = s'.map enc ∧ δ' = upd δ idx vs ∧ I q' vs := fun δ' ⟨k1, vs', k2, k3⟩ => ⟨k1, q ++ [x], s, vs', by rw [e1]; simp, by simp, rfl, k2, k3⟩
      revert h1
      cases Zy.execs S b δ1 <;> first | exact g _ | exact id
  · rintro δ' ⟨q, s, vs, e1, e2, e3, rfl, h⟩
    cases s with
    | nil => rw [List.append_nil] at e1; subst e1; exact he vs h
    | cons x s => cases e3
theorem rngL_map : ∀ (n : Nat) (a : Int), rngL a n = (List.range n).map fun i => D.int (a + (i : Nat))
  | 0, _ => rfl
  | n + 1, a => by
    rw [rngL, rngL_map n, List.range_succ_eq_map, List.map_cons, List.map_map]
    congr 1
    · simp
    · apply List.map_congr_left
      intro i _
      show D.int (a + 1 + (i : Int)) = D.int (a + ((i + 1 : Nat) : Int))
      congr 1
      omega
/-- a for over a range -/
theorem wL_rng {a : Int} {n : Nat} (idx : List Nat) (I : Nat → List M → Prop) (h0 : ∃ vs, δ = upd δ idx vs ∧ I 0 vs)
    (hs : ∀ i vs, i < n → I i vs → @oW _ (tgSet t (.int (a + i)) (upd δ idx vs)) fun δ1 => @wSs S b δ1 ⟨fun δ' => c δ' = true ∧ @stp δ' δ idx ⟨I (i + 1)⟩, nx, fun δ' => c δ' = true ∧ @stp δ' δ idx ⟨I (i + 1)⟩, rt, ex⟩)
    (he : ∀ vs, I n vs → nx (upd δ idx vs)) : @wL S c t b (rngL a n) δ ⟨nx, bk, ct, rt, ex⟩ := by
  refine wL_pre (List.range n) (fun i => D.int (a + (i : Nat))) idx (fun p vs => I p.length vs) (rngL_map n a) h0 (fun p x r vs e h => ?_) (fun vs h => he vs (by rwa [List.length_range] at h))
  have hx : x = p.length ∧ p.length < n := by
    have e1 : (List.range n)[p.length]? = some x := by rw [e, List.getElem?_append_right (Nat.le_refl _), Nat.sub_self]; rfl
    have := List.getElem?_eq_some_iff.mp e1
    obtain ⟨h1, h2⟩ := this
    rw [List.getElem_range] at h2
    rw [List.length_range] at h1
    exact ⟨h2.symm, h1⟩
  have := hs p.length vs hx.2 h
  rw [hx.1]
  rw [List.length_append, List.length_singleton]
  exact this
/-- a while, by a measure -/
theorem wS_whl {cd : Tx} (idx : List Nat) (I : Nat → List M → Prop) (m0 : Nat) (h0 : ∃ vs, δ = upd δ idx vs ∧ I m0 vs) (hm : m0 < S.wl)
    (hs : ∀ m vs, I m vs → @wX S cd (upd δ idx vs) (fun k δ1 => if k then @wSs S b δ1 ⟨fun δ' => @stp δ' δ idx ⟨fun vs' => ∃ m', m' < m ∧ I m' vs'⟩, nx, fun δ' => @stp δ' δ idx ⟨fun vs' => ∃ m', m' < m ∧ I m' vs'⟩, rt, ex⟩ else nx δ1) ex) : @wS S (.whl cd b) δ ⟨nx, bk, ct, rt, ex⟩ := by
  suffices ∀ fuel m δ', m < fuel → (∃ vs, δ' = upd δ idx vs ∧ I m vs) → (whlL (fun δ1 => Zy.tx S cd δ1) (fun δ1 => Zy.execs S b δ1) fuel δ').sat ⟨nx, bk, ct, rt, ex⟩ from this S.wl m0 δ hm h0
  intro fuel
  induction fuel with
  | zero => intro m δ' h; exact absurd h (Nat.not_lt_zero m)
  | succ fuel ih =>
    rintro m δ' h ⟨vs, rfl, hi⟩
    have h1 := hs m vs hi
    rw [whlL, sat_of]
    unfold wX at h1
    revert h1
    cases Zy.tx S cd (upd δ idx vs) with
    | ok k δ1 =>
      cases k with
      | false => exact id
      | true =>
        intro h1
        have h1 := wR_ok.mp h1
        simp only [if_true] at h1
        unfold wSs at h1
        show Fl.sat (match Zy.execs S b δ1 with
          | .nx δ2 => whlL (fun δ1 => Zy.tx S cd δ1) (fun δ1 => Zy.execs S b δ1) fuel δ2
          | .ct δ2 => whlL (fun δ1 => Zy.tx S cd δ1) (fun δ1 => Zy.execs S b δ1) fuel δ2
          | .bk δ2 => .nx δ2
          | x => x) _
        have g : ∀ δ', (@stp δ' δ idx ⟨fun vs' => ∃ m', m' < m ∧ I m' vs'⟩) → (whlL (fun δ1 => Zy.tx S cd δ1) (fun δ1 => Zy.execs S b δ1) fuel δ').sat ⟨nx, bk, ct, rt, ex⟩ := fun δ' ⟨vs', k1, m', k2, k3⟩ => ih m' δ' (by omega) ⟨vs', k1, k3⟩
        revert h1
        cases Zy.execs S b δ1 <;> first | exact g _ | exact id
    | exc x δ1 => exact id
    | bad => exact id
end
section
variable {S : Sg} {δ : Zy.Env} {own : List Nat} {t : Tg} {c : Pt} {e : Px} {l : List D} {K : M → Prop}
/-- a comprehension over rows, with a test -/
theorem wLc_filter {α : Type} (xs : List α) (enc : α → D) (p : α → Bool) (g : α → D) (hl : l = xs.map enc)
    (hs : ∀ x ∈ xs, @oW _ (tgSet t (enc x) (wipeE δ own)) fun δ1 => @wT S c δ1 fun k => k = p x ∧ (k = true → @wP S e δ1 fun m => m = .i (g x)))
    (hz : xs.length < sizeLine) (hK : K (.lst ((xs.filter p).map g))) : @wLc S own t c e δ l K := by
  subst hl
  unfold wLc
  have : lcL (lcF S t c e (wipeE δ own)) (xs.map enc) = some ((xs.filter p).map g) := by
    clear hz hK
    induction xs with
    | nil => rfl
    | cons x r ih =>
      obtain ⟨δ1, h1, k, h2, h3, h4⟩ := hs x List.mem_cons_self
      have ih := ih fun y hy => hs y (List.mem_cons_of_mem _ hy)
      rw [List.map_cons]
      simp only [lcL, Option.bind_eq_bind, Option.pure_def, ih]
      have : lcF S t c e (wipeE δ own) (enc x) = some (if p x then some (g x) else none) := by
        unfold lcF
        rw [h1]
        show (do let k ← tv S c δ1; if k then (do match ← pv S e δ1 with | .i d => some (some d) | _ => none) else some none) = _
        rw [h2]
        show (if k then (do match ← pv S e δ1 with | .i d => some (some d) | _ => none) else some none) = _
        rw [← h3]
        cases k with
        | false => rfl
        | true =>
          obtain ⟨m, h5, rfl⟩ := h4 rfl
          rw [if_pos rfl, if_pos rfl, h5]
          rfl
      rw [this]
      cases hp : p x with
      | false => simp [hp]
      | true => simp [hp]
  rw [this, oW_some]
  refine ⟨?_, hK⟩
  rw [List.length_map]
  exact Nat.lt_of_le_of_lt (List.length_filter_le _ _) hz
theorem wLc_map {α : Type} (xs : List α) (enc : α → D) (g : α → D) (hl : l = xs.map enc)
    (hs : ∀ x ∈ xs, @oW _ (tgSet t (enc x) (wipeE δ own)) fun δ1 => @wT S c δ1 fun k => k = true ∧ @wP S e δ1 fun m => m = .i (g x))
    (hz : xs.length < sizeLine) (hK : K (.lst (xs.map g))) : @wLc S own t c e δ l K := by
  refine wLc_filter xs enc (fun _ => true) g hl (fun x hx => ?_) hz (by rwa [show xs.filter (fun _ => true) = xs by simp])
  exact oW_mono (hs x hx) fun δ1 h => oW_mono h fun k h => ⟨h.1, fun _ => h.2⟩
end
theorem wGn_map {S : Sg} {δ : Zy.Env} {b : Bool} {own : List Nat} {t : Tg} {e : Px} {l : List D} {K : M → Prop} {α : Type} (xs : List α) (enc : α → D) (p : α → Bool) (hl : l = xs.map enc)
    (hs : ∀ x ∈ xs, @oW _ (tgSet t (enc x) (wipeE δ own)) fun δ1 => @wP S e δ1 fun m => m = .i (.bl (p x)))
    (hK : K (.i (.bl (if b = true then xs.any p else xs.all p)))) : @wGn S b own t e δ l K := by
  subst hl
  unfold wGn
  have h : anyL b (fun d => do let δ1 ← tgSet t d (wipeE δ own); blM (← pv S e δ1)) (xs.map enc) = some (if b = true then xs.any p else xs.all p) := by
    clear hK
    induction xs with
    | nil => cases b <;> rfl
    | cons x r ih =>
      obtain ⟨δ1, e1, m, e2, e3⟩ := hs x List.mem_cons_self
      subst e3
      have ih := ih fun y hy => hs y (List.mem_cons_of_mem _ hy)
      rw [List.map_cons, anyL, e1]
      simp only [Option.bind_eq_bind, Option.bind_some] at ih ⊢
      rw [e2]
      simp only [Option.bind_some, show blM (.i (.bl (p x))) = some (p x) from rfl]
      rw [ih]
      cases b <;> cases hp : p x <;> simp [hp]
  rw [h, oW_some]
  exact hK
theorem mapL_map {α : Type} {f : D → Option D} (xs : List α) (enc ky : α → D) (h : ∀ x ∈ xs, f (enc x) = some (ky x)) : mapL f (xs.map enc) = some (xs.map ky) := by
  induction xs with
  | nil => rfl
  | cons x r ih =>
    rw [List.map_cons, mapL, h x List.mem_cons_self, ih fun y hy => h y (List.mem_cons_of_mem _ hy)]
    rfl
theorem wSr_map {S : Sg} {f : Nat} {m : M} {K : M → Prop} {α : Type} (xs : List α) (enc ky : α → D) (hm : seqL m = some (xs.map enc)) (hk : ∀ x ∈ xs, ∃ ms, S.fn f [.i (enc x)] = .ok (.i (ky x)) ms) (hK : @oW _ (srtM (xs.map ky) (xs.map enc)) K) : @wSr S f m K := by
  unfold wSr
  simp only [Option.bind_eq_bind, oW_bind]
  rw [hm, oW_some, mapL_map xs enc ky fun x hx => ?_, oW_some]
  · exact hK
  · obtain ⟨ms, e⟩ := hk x hx
    rw [e]
    rfl
theorem wSl_map {S : Sg} {own : List Nat} {i : Nat} {b : Px} {δ : Zy.Env} {m : M} {K : M → Prop} {α : Type} (xs : List α) (enc ky : α → D) (hm : seqL m = some (xs.map enc))
    (hs : ∀ x ∈ xs, @oW _ (tgSet (.nm i) (enc x) (wipeE δ own)) fun δ1 => @wP S b δ1 fun m => m = .i (ky x)) (hK : @oW _ (srtM (xs.map ky) (xs.map enc)) K) : @wSl S own i b δ m K := by
  unfold wSl
  simp only [Option.bind_eq_bind, oW_bind]
  rw [hm, oW_some]
  have h : mapL (fun d => (tgSet (.nm i) d (wipeE δ own)).bind fun δ1 => (pv S b δ1).bind fun x => keyM x) (xs.map enc) = some (xs.map ky) := mapL_map xs enc ky fun x hx => by
    obtain ⟨δ1, e1, m1, e2, e3⟩ := hs x hx
    subst e3
    rw [e1, Option.bind_some, e2]
    rfl
  rw [h, oW_some]
  exact hK
theorem wSc_map {S : Sg} {δ : Zy.Env} {own : List Nat} {t : Tg} {c : Pt} {e : Px} {l : List D} {K : M → Prop} {α : Type} (xs : List α) (enc : α → D) (g : α → Int) (hl : l = xs.map enc)
    (hs : ∀ x ∈ xs, @oW _ (tgSet t (enc x) (wipeE δ own)) fun δ1 => @wT S c δ1 fun k => k = true ∧ @wP S e δ1 fun m => m = .i (.int (g x)))
    (hz : xs.length < 64) (hK : K (.lst ((sortU (xs.map g)).map .int))) : @wSc S own t c e δ l K := by
  have h := wLc_map (K := fun m => m = .lst ((xs.map g).map .int)) xs enc (fun x => .int (g x)) hl hs (by rw [sizeLine_eq]; omega) (by rw [List.map_map]; rfl)
  unfold wSc
  unfold wLc at h
  refine oW_mono h fun r ⟨_, hr⟩ => ?_
  cases hr
  rw [ssD_ints (by rw [List.length_map]; exact hz)]
  exact oW_some.mpr hK
theorem wF_fin {S : Sg} {b : List Sm} {δ : Zy.Env} {bk : Zy.Env → List M} {K : M → List M → Prop} {X : Ex → List M → Prop} : @wF (fin (Zy.execs S b δ) bk) K X ↔ @wSs S b δ ⟨fun δ => K (.i .non) (bk δ), fun _ => False, fun _ => False, fun m δ => K m (bk δ), fun x δ => X x (bk δ)⟩ := by
  rw [wF_def]
  unfold wSs fin
  cases Zy.execs S b δ <;> exact .rfl
theorem sgN_fn {t : Txt} {wl n k : Nat} {ms : List M} : (sgN t wl n).fn k ms = semF t.pg wl n k ms := rfl
theorem sgN_wl {t : Txt} {wl n : Nat} : (sgN t wl n).wl = wl := rfl
theorem sgN_mt {t : Txt} {wl n c m : Nat} : (sgN t wl n).mt c m = t.mt.lookup (c, m) := rfl
theorem sgN_ini {t : Txt} {wl n c : Nat} : (sgN t wl n).ini c = t.ini.lookup c := rfl
section
variable {S : Sg} {δ : Zy.Env} {own : List Nat} {t : Tg} {c e : Ix} {l : List D}
theorem wLx_pre {α : Type} (xs : List α) (enc : α → D) (idx : List Nat) (I : List α → List D → List M → Prop) {K : List D → Zy.Env → Prop} (hl : l = xs.map enc) (h0 : ∃ vs, δ = upd δ idx vs ∧ I [] [] vs)
    (hs : ∀ p x q ds vs, xs = p ++ x :: q → I p ds vs → @oW _ (tgSet t (enc x) (wipeE (upd δ idx vs) own)) fun δ2 => @wE S c δ2 (fun m δ3 => @oW _ (truM m) fun k => if k then @wE S e δ3 (fun m δ5 => @wI m fun d => @stp δ5 δ idx ⟨I (p ++ [x]) (ds ++ [d])⟩) (fun _ _ => False) else @stp δ3 δ idx ⟨I (p ++ [x]) ds⟩) (fun _ _ => False))
    (he : ∀ ds vs, I xs ds vs → K ds (upd δ idx vs)) : @wLx S own t c e l δ K := by
  subst hl
  obtain ⟨vs0, e0, h0⟩ := h0
  have main : ∀ (q p : List α) (ds : List D) (vs : List M), xs = p ++ q → I p ds vs → ∃ r δ1, lcxL (lcxB S own t c e) (q.map enc) (upd δ idx vs) = .ok r δ1 ∧ K (ds ++ r) δ1 := by
    intro q
    induction q with
    | nil =>
      intro p ds vs hp hI
      rw [List.append_nil] at hp
      subst hp
      exact ⟨[], _, rfl, by rw [List.append_nil]; exact he ds vs hI⟩
    | cons x q ih =>
      intro p ds vs hp hI
      obtain ⟨δ2, h1, h2⟩ := hs p x q ds vs hp hI
      unfold wE at h2
      cases h3 : ev S c δ2 with
      | exc _ _ => rw [h3] at h2; exact h2.elim
      | bad => rw [h3] at h2; exact h2.elim
      | ok m δ3 =>
      rw [h3] at h2
      obtain ⟨k, h4, h5⟩ := (show @oW _ (truM m) (fun _ => _) from h2)
      have step : ∀ x' δ', lcxB S own t c e (enc x) (upd δ idx vs) = .ok x' δ' → (∃ vs', δ' = upd δ idx vs' ∧ I (p ++ [x]) (ds ++ x'.toList) vs') → ∃ r δ1, lcxL (lcxB S own t c e) ((x :: q).map enc) (upd δ idx vs) = .ok r δ1 ∧ K (ds ++ r) δ1 := by
        rintro x' δ' hb ⟨vs', rfl, hI'⟩
        obtain ⟨r, δ1, h6, h7⟩ := ih (p ++ [x]) (ds ++ x'.toList) vs' (by rw [hp]; simp) hI'
        refine ⟨x'.toList ++ r, δ1, ?_, by rw [← List.append_assoc]; exact h7⟩
        rw [List.map_cons, lcxL, hb]
        show (lcxL _ _ _).bnd _ = _
        rw [h6]; rfl
      have hb0 : lcxB S own t c e (enc x) (upd δ idx vs) = if k then (ev S e δ3).bnd fun m δ5 => (match m with
          | .i d => R.ok (some d) δ5
          | _ => .bad) else .ok none δ3 := by
        unfold lcxB
        rw [h1]
        dsimp only
        rw [h3]
        show (R.of (truM m) δ3).bnd _ = _
        rw [h4]; rfl
      cases k with
      | false =>
        rw [if_neg Bool.false_ne_true] at h5 hb0
        obtain ⟨vs', h6, h7⟩ := h5
        exact step none δ3 hb0 ⟨vs', h6, by rw [show (none : Option D).toList = [] from rfl, List.append_nil]; exact h7⟩
      | true =>
        rw [if_pos rfl] at h5 hb0
        cases h6 : ev S e δ3 with
        | exc _ _ => rw [h6] at h5; exact h5.elim
        | bad => rw [h6] at h5; exact h5.elim
        | ok m2 δ5 =>
          rw [h6] at h5 hb0
          cases m2 with
          | i d =>
            obtain ⟨vs', h7, h8⟩ := (show @stp δ5 δ idx ⟨I (p ++ [x]) (ds ++ [d])⟩ from h5)
            exact step (some d) δ5 hb0 ⟨vs', h7, h8⟩
          | _ => exact (show False from h5).elim
  obtain ⟨r, δ1, h1, h2⟩ := main xs [] [] vs0 rfl h0
  rw [← e0] at h1
  exact ⟨r, δ1, h1, by simpa using h2⟩
end
end Zy
end
section
/-! Zy, part X: data, equality and membership, for plain proofs. -/
namespace Zy
open PySem
mutual
/-- bounded depth, texts that are texts -/
def D.sh : Nat → D → Bool
  | n, .tup l => match n with
    | 0 => false
    | n + 1 => D.shs n l
  | _, .str x => PyData.strOk x
  | _, _ => true
def D.shs : Nat → List D → Bool
  | _, [] => true
  | n, d :: l => D.sh n d && D.shs n l
end
mutual
/-- True is 1 -/
def D.norm : D → D
  | .bl b => .int (if b then 1 else 0)
  | .tup l => .tup (D.norms l)
  | d => d
def D.norms : List D → List D
  | [] => []
  | d :: l => D.norm d :: D.norms l
end
theorem D.norms_map : ∀ l : List D, D.norms l = l.map D.norm
  | [] => rfl
  | d :: l => by rw [D.norms, D.norms_map l]; rfl
theorem D.shs_all : ∀ (n : Nat) (l : List D), D.shs n l = l.all (D.sh n)
  | _, [] => rfl
  | n, d :: l => by rw [D.shs, D.shs_all n l]; rfl
mutual
theorem D.sh_iff : ∀ (n : Nat) (d : D), D.sh n d = (d.pd.canLay0 && decide (d.pd.depth ≤ n))
  | n, .non => by simp [D.sh, D.pd, PyData.canLay0, PyData.depth]
  | n, .bl b => by simp [D.sh, D.pd, PyData.canLay0, PyData.depth]
  | n, .int b => by simp [D.sh, D.pd, PyData.canLay0, PyData.depth]
  | n, .str b => by simp [D.sh, D.pd, PyData.canLay0, PyData.depth]
  | 0, .tup l => by simp [D.sh, D.pd, PyData.canLay0, PyData.depth]
  | n + 1, .tup l => by
    rw [D.sh, D.shs_iff n l]
    simp only [D.pd, PyData.canLay0, PyData.depth, Nat.add_le_add_iff_right]
theorem D.shs_iff : ∀ (n : Nat) (l : List D), D.shs n l = (PyData.canLayAll0 (D.pds l) && decide (PyData.depthAll (D.pds l) ≤ n))
  | n, [] => by simp [D.shs, D.pds, PyData.canLayAll0, PyData.depthAll]
  | n, d :: l => by
    rw [D.shs, D.sh_iff n d, D.shs_iff n l]
    simp only [D.pds, PyData.canLayAll0, PyData.depthAll, Nat.max_le]
    by_cases h1 : d.pd.depth ≤ n <;> by_cases h2 : PyData.depthAll (D.pds l) ≤ n <;> simp [h1, h2]
end
theorem shp_sh (d : D) : d.shp = d.sh 64 := by rw [D.sh_iff]; rfl
theorem sh_mono {n m : Nat} {d : D} (h : d.sh n = true) (g : n ≤ m) : d.sh m = true := by
  rw [D.sh_iff, Bool.and_eq_true, decide_eq_true_eq] at h ⊢
  exact ⟨h.1, Nat.le_trans h.2 g⟩
theorem shp_of {n : Nat} {d : D} (h : d.sh n = true) (g : n ≤ 64) : d.shp = true := by rw [shp_sh]; exact sh_mono h g
theorem sh_tup {n : Nat} {l : List D} : D.sh (n + 1) (.tup l) = D.shs n l := by rw [D.sh]
mutual
theorem D.eqv_norm : ∀ a b : D, PyData.eqv a.pd b.pd = decide (a.norm = b.norm)
  | .non, b => by cases b <;> simp [D.pd, PyData.eqv, D.norm]
  | .bl x, b => by cases b <;> simp [D.pd, PyData.eqv, D.norm] <;> (try cases x) <;> (try (rename_i y; cases y)) <;> simp <;> (try omega) <;> (try rfl)
  | .int x, b => by cases b <;> simp [D.pd, PyData.eqv, D.norm] <;> rfl
  | .str x, b => by cases b <;> simp [D.pd, PyData.eqv, D.norm] <;> rfl
  | .tup x, b => by
    cases b with
    | tup y => simp only [D.pd, PyData.eqv, D.norm, D.eqvs_norm x y, D.tup.injEq]
    | _ => simp [D.pd, PyData.eqv, D.norm]
theorem D.eqvs_norm : ∀ a b : List D, PyData.eqvAll (D.pds a) (D.pds b) = decide (D.norms a = D.norms b)
  | [], b => by cases b <;> simp [D.pds, PyData.eqvAll, D.norms]
  | x :: r, b => by
    cases b with
    | nil => simp [D.pds, PyData.eqvAll, D.norms]
    | cons y s =>
      simp only [D.pds, PyData.eqvAll, D.norms, D.eqv_norm x y, D.eqvs_norm r s, List.cons.injEq]
      by_cases h1 : x.norm = y.norm <;> by_cases h2 : D.norms r = D.norms s <;> simp [h1, h2]
end
theorem deq_norm (a b : D) : a.deq b = decide (a.norm = b.norm) := D.eqv_norm a b
theorem copM_eq {a b : D} : copM .eq (.i a) (.i b) = if a.shp = true ∧ b.shp = true then some (decide (a.norm = b.norm)) else none := by
  simp only [copM, toPd]
  by_cases h1 : a.shp = true <;> by_cases h2 : b.shp = true <;> simp [h1, h2, D.eqv_norm]
theorem copM_ne {a b : D} : copM .ne (.i a) (.i b) = if a.shp = true ∧ b.shp = true then some (!decide (a.norm = b.norm)) else none := by
  simp only [copM, toPd]
  by_cases h1 : a.shp = true <;> by_cases h2 : b.shp = true <;> simp [h1, h2, D.eqv_norm]
theorem lst_shaped (l : List D) : SeqAt.shaped (.list (D.pds l)) = D.shs 63 l := by
  rw [D.shs_iff]
  show (PyData.canLayAll0 (D.pds l) && decide (PyData.depthAll (D.pds l) + 1 ≤ 64)) = _
  congr 1
  rw [decide_eq_decide]
  omega
theorem copM_eqL {a b : List D} : copM .eq (.lst a) (.lst b) = if D.shs 63 a = true ∧ D.shs 63 b = true then some (decide (D.norms a = D.norms b)) else none := by
  simp only [copM, toPd, lst_shaped]
  by_cases h1 : D.shs 63 a = true <;> by_cases h2 : D.shs 63 b = true <;> simp [h1, h2, PyData.eqv, D.eqvs_norm]
theorem copM_neL {a b : List D} : copM .ne (.lst a) (.lst b) = if D.shs 63 a = true ∧ D.shs 63 b = true then some (!decide (D.norms a = D.norms b)) else none := by
  simp only [copM, toPd, lst_shaped]
  by_cases h1 : D.shs 63 a = true <;> by_cases h2 : D.shs 63 b = true <;> simp [h1, h2, PyData.eqv, D.eqvs_norm]
theorem copM_lt {a b : M} : copM .lt a b = ordM (fun i j => decide (i < j)) a b := rfl
theorem copM_le {a b : M} : copM .le a b = ordM (fun i j => decide (i ≤ j)) a b := rfl
theorem copM_gt {a b : M} : copM .gt a b = ordM (fun i j => decide (j < i)) a b := rfl
theorem copM_ge {a b : M} : copM .ge a b = ordM (fun i j => decide (j ≤ i)) a b := rfl
theorem copM_in {a b : M} : copM .isin a b = inM a b := rfl
theorem copM_nin {a b : M} : copM .nin a b = (inM a b).map (!·) := rfl
theorem copM_isn {a : D} : copM .isn (.i a) (.i .non) = some (decide (a = .non)) := rfl
theorem copM_isB {a b : Bool} : copM .isn (.i (.bl a)) (.i (.bl b)) = some (a == b) := rfl
theorem copM_ntB {a b : Bool} : copM .ntn (.i (.bl a)) (.i (.bl b)) = some (a != b) := rfl
theorem copM_ntn {a : D} : copM .ntn (.i a) (.i .non) = some (!decide (a = .non)) := rfl
theorem shp_int {k : Int} : D.shp (.int k) = true := rfl
theorem shp_bl {k : Bool} : D.shp (.bl k) = true := rfl
theorem shp_non : D.shp .non = true := rfl
theorem shp_str {x : Str} : D.shp (.str x) = PyData.strOk x := by rw [shp_sh]; rfl
theorem shp_tup {l : List D} : D.shp (.tup l) = D.shs 63 l := by rw [shp_sh]; rfl
theorem sh_int {n : Nat} {k : Int} : D.sh n (.int k) = true := by cases n <;> rfl
theorem sh_bl {n : Nat} {k : Bool} : D.sh n (.bl k) = true := by cases n <;> rfl
theorem sh_non {n : Nat} : D.sh n .non = true := by cases n <;> rfl
theorem sh_str {n : Nat} {x : Str} : D.sh n (.str x) = PyData.strOk x := by cases n <;> rfl
theorem shs_nil {n : Nat} : D.shs n [] = true := rfl
theorem shs_cons {n : Nat} {d : D} {l : List D} : D.shs n (d :: l) = (D.sh n d && D.shs n l) := rfl
/-- a text by its code points -/
def tq (q : List Nat) : Str := ⟨q.toArray⟩
theorem tq_len (q : List Nat) : (tq q).length = q.length := by show q.toArray.size = _; rw [List.size_toArray]
theorem tq_inj {a b : List Nat} : tq a = tq b ↔ a = b := ⟨fun h => by
  have := congrArg (fun x : Str => x.cps.toList) h
  simpa [tq] using this, fun h => by rw [h]⟩
theorem strOk_lit (l : List Nat) : PyData.strOk ⟨l.toArray⟩ = l.all (· < 1114112) := by simp [PyData.strOk]
theorem strOk_tq {q : List Nat} : PyData.strOk (tq q) = q.all (· < 1114112) := by simp [PyData.strOk, tq]
/-- membership in rows that equality tells apart -/
theorem any_enc {α : Type} [DecidableEq α] {enc : α → D} (hi : ∀ a b, (enc a).norm = (enc b).norm → a = b) (xs : List α) (x : α) : ((xs.map enc).any fun z => z.deq (enc x)) = decide (x ∈ xs) := by
  rw [Bool.eq_iff_iff, List.any_eq_true, decide_eq_true_eq]
  constructor
  · rintro ⟨z, hz, e⟩
    obtain ⟨a, ha, rfl⟩ := List.mem_map.mp hz
    rw [deq_norm, decide_eq_true_eq] at e
    rw [← hi a x e]; exact ha
  · intro h
    exact ⟨enc x, List.mem_map_of_mem h, by rw [deq_norm, decide_eq_true_eq]⟩
theorem all_shp {α : Type} {enc : α → D} {xs : List α} (h : ∀ a ∈ xs, (enc a).shp = true) : (xs.map enc).all D.shp = true := by
  rw [List.all_eq_true]
  intro z hz
  obtain ⟨a, ha, rfl⟩ := List.mem_map.mp hz
  exact h a ha
section
variable {α : Type} [DecidableEq α] {enc : α → D} {xs : List α} {x : α}
theorem inM_lst [inst : Decidable (x ∈ xs)] (hi : ∀ a b, (enc a).norm = (enc b).norm → a = b) (hx : (enc x).shp = true) (h : ∀ a ∈ xs, (enc a).shp = true) : inM (.i (enc x)) (.lst (xs.map enc)) = some (@decide (x ∈ xs) inst) := by
  show (if (enc x).shp = true ∧ (xs.map enc).all D.shp = true then _ else _) = _
  rw [if_pos ⟨hx, all_shp h⟩, any_enc hi]
  congr 1; exact decide_eq_decide.mpr Iff.rfl
theorem inM_tup [inst : Decidable (x ∈ xs)] (hi : ∀ a b, (enc a).norm = (enc b).norm → a = b) (hx : (enc x).shp = true) (h : ∀ a ∈ xs, (enc a).shp = true) : inM (.i (enc x)) (.i (.tup (xs.map enc))) = some (@decide (x ∈ xs) inst) := by
  have : inM (.i (enc x)) (.i (.tup (xs.map enc))) = if (enc x).shp = true ∧ (xs.map enc).all D.shp = true then some ((xs.map enc).any fun z => z.deq (enc x)) else none := by
    cases enc x <;> rfl
  rw [this, if_pos ⟨hx, all_shp h⟩, any_enc hi]
  congr 1; exact decide_eq_decide.mpr Iff.rfl
end
theorem inM_dic {x : D} {t : Bool} {kvs : List (D × D)} : inM (.i x) (.dic t kvs) = if keyOkD t x = true then some (lookD kvs x).isSome else none := by cases x <;> rfl
/-- a short row of an in -/
theorem inM_tupD {x : D} {l : List D} : inM (.i x) (.i (.tup l)) = if x.shp = true ∧ l.all D.shp = true then some (decide (∃ z ∈ l, z.norm = x.norm)) else none := by
  have : inM (.i x) (.i (.tup l)) = if x.shp = true ∧ l.all D.shp = true then some (l.any fun z => z.deq x) else none := by
    cases x <;> rfl
  rw [this]
  congr 2
  rw [Bool.eq_iff_iff, List.any_eq_true, decide_eq_true_eq]
  simp only [deq_norm, decide_eq_true_eq]
theorem wF_by {r : Fo} {m : M} {ms : List M} {K : M → List M → Prop} {X : Ex → List M → Prop} (e : r = .ok m ms) (h : K m ms) : @wF r K X := by rw [e]; exact wF_ok.mpr h
theorem szi {k : Nat} (h : k ≤ 1000000) : k ≤ sizeLine := Nat.le_trans h (by decide)
theorem szt {k : Nat} (h : k < 1000000) : k < sizeLine := Nat.lt_of_lt_of_le h (by decide)
theorem sizeLine_eq : sizeLine = 16777216 := by decide
theorem szl_lit (n : Nat) : (no_index (OfNat.ofNat n : Nat) ≤ sizeLine) = (n ≤ 16777216) := by rw [sizeLine_eq]; rfl
theorem szt_lit (n : Nat) : (no_index (OfNat.ofNat n : Nat) < sizeLine) = (n < 16777216) := by rw [sizeLine_eq]; rfl
theorem rngOk_nat {n : Nat} (h : n ≤ 1000000) : rngOk (n : Int) = true := by unfold rngOk; rw [decide_eq_true_eq]; omega
theorem at_nat {α : Type} {l : List α} {j : Nat} {a : α} (h : l[j]? = some a) : L2.atI l (j : Int) = some a := L2.atI_nat h
theorem rngOk_lit (n : Nat) : rngOk (no_index (OfNat.ofNat n : Int)) = decide (n < 4611686018427387904) := by
  unfold rngOk
  rw [decide_eq_decide]
  show -(2 ^ 62) ≤ (n : Int) ∧ (n : Int) < 2 ^ 62 ↔ _
  omega
theorem atI_lit {α : Type} {l : List α} (n : Nat) : L2.atI l (no_index (OfNat.ofNat n : Int)) = l[n]? := by
  unfold L2.atI L2.ixN
  show Option.bind (if (0 : Int) ≤ (n : Int) then _ else _) _ = _
  rw [if_pos (Int.natCast_nonneg n)]
  by_cases h : n < l.length
  · rw [if_pos (by show (n : Int) < _; omega)]; rfl
  · rw [if_neg (by show ¬ (n : Int) < _; omega), List.getElem?_eq_none (by omega)]; rfl
end Zy
end
namespace Zp
open PySem Zy
def top (i : Nat) : Stmt := PySem.Challenge.pw_ontoworks_k61_blame.main.body.getD i (.Pass ⟨0, 0, 0, 0⟩)
def fns : List (Str × Nat × Bool) := [(Str.ofString "holds", 0, false), (Str.ofString "asks", 1, false), (Str.ofString "set_key", 2, false), (Str.ofString "sorted_sets", 3, false), (Str.ofString "subsets", 4, false), (Str.ofString "all_but", 5, false), (Str.ofString "common", 6, false), (Str.ofString "hangs", 7, false), (Str.ofString "blame", 8, false), (Str.ofString "_law_cell", 9, false), (Str.ofString "_law_draws", 10, false), (Str.ofString "_law_take", 11, true), (Str.ofString "_law_subsets", 12, false), (Str.ofString "_law_ordered", 13, false), (Str.ofString "_law_inside", 14, false), (Str.ofString "_law_least", 15, false), (Str.ofString "_law_table", 16, false), (Str.ofString "_law_node", 17, true), (Str.ofString "_law_family", 18, false), (Str.ofString "_law_set", 19, false), (Str.ofString "_law_same", 20, false), (Str.ofString "_law_holds", 21, false), (Str.ofString "_law_rest", 22, false), (Str.ofString "law", 23, false)]
def clss : List (Str × Nat) := []
def mths : List (Str × Nat) := []
def flds : List (Str × Nat) := []
def csts : List (Str × D) := []
def kds : List (Str × List (Str × D)) := []
def bfs : List (Str × String) := []
def blts : List Str := [Str.ofString "len", Str.ofString "int", Str.ofString "tuple", Str.ofString "list", Str.ofString "all", Str.ofString "any", Str.ofString "sorted", Str.ofString "isinstance", Str.ofString "range", Str.ofString "bool", Str.ofString "str"]
def tks : List (Nat × Nat) := []
abbrev s0 : Stmt := (top 1)
def N0 : List Str := [Str.ofString "condition", Str.ofString "members", Str.ofString "nodes", Str.ofString "place", Str.ofString "number", Str.ofString "without", Str.ofString "with_it"]
def d0 : Dd := ⟨s0, Str.ofString "holds", Str.ofString "holds", N0, [Str.ofString "condition", Str.ofString "members"], tks, [0, 1], [], false⟩
abbrev s1 : Stmt := (top 2)
def N1 : List Str := [Str.ofString "condition", Str.ofString "row"]
def d1 : Dd := ⟨s1, Str.ofString "asks", Str.ofString "asks", N1, [Str.ofString "condition"], tks, [0], [], false⟩
abbrev s2 : Stmt := (top 4)
def N2 : List Str := [Str.ofString "places"]
def d2 : Dd := ⟨s2, Str.ofString "set_key", Str.ofString "set_key", N2, [Str.ofString "places"], tks, [0], [], false⟩
abbrev s3 : Stmt := (top 5)
def N3 : List Str := [Str.ofString "rows", Str.ofString "ordered", Str.ofString "places"]
def d3 : Dd := ⟨s3, Str.ofString "sorted_sets", Str.ofString "sorted_sets", N3, [Str.ofString "rows"], tks, [0], [], true⟩
abbrev s4 : Stmt := (top 7)
def N4 : List Str := [Str.ofString "places", Str.ofString "found", Str.ofString "place", Str.ofString "row"]
def d4 : Dd := ⟨s4, Str.ofString "subsets", Str.ofString "subsets", N4, [Str.ofString "places"], tks, [0], [], false⟩
abbrev s5 : Stmt := (top 8)
def N5 : List Str := [Str.ofString "places", Str.ofString "others", Str.ofString "place"]
def d5 : Dd := ⟨s5, Str.ofString "all_but", Str.ofString "all_but", N5, [Str.ofString "places", Str.ofString "others"], tks, [0, 1], [], false⟩
abbrev s6 : Stmt := (top 9)
def N6 : List Str := [Str.ofString "places", Str.ofString "others", Str.ofString "place"]
def d6 : Dd := ⟨s6, Str.ofString "common", Str.ofString "common", N6, [Str.ofString "places", Str.ofString "others"], tks, [0, 1], [], false⟩
abbrev s7 : Stmt := (top 10)
def N7 : List Str := [Str.ofString "condition", Str.ofString "places", Str.ofString "one"]
def d7 : Dd := ⟨s7, Str.ofString "hangs", Str.ofString "hangs", N7, [Str.ofString "condition", Str.ofString "places", Str.ofString "one"], tks, [0, 1, 2], [], false⟩
abbrev s8 : Stmt := (top 11)
def N8 : List Str := [Str.ofString "condition", Str.ofString "taken", Str.ofString "concerned", Str.ofString "found", Str.ofString "one", Str.ofString "others"]
def d8 : Dd := ⟨s8, Str.ofString "blame", Str.ofString "blame", N8, [Str.ofString "condition", Str.ofString "taken"], tks, [0, 1], [], false⟩
abbrev s9 : Stmt := (top 13)
def N9 : List Str := [Str.ofString "_law_script", Str.ofString "_law_k"]
def d9 : Dd := ⟨s9, Str.ofString "_law_cell", Str.ofString "_law_cell", N9, [Str.ofString "_law_script", Str.ofString "_law_k"], tks, [0, 1], [], false⟩
abbrev s10 : Stmt := (top 14)
def N10 : List Str := [Str.ofString "_law_script", Str.ofString "_law_k", Str.ofString "_law_count", Str.ofString "_law_cell_here", Str.ofString "_law_rest_here", Str.ofString "_law_seed", Str.ofString "_law_found", Str.ofString "_law_at"]
def d10 : Dd := ⟨s10, Str.ofString "_law_draws", Str.ofString "_law_draws", N10, [Str.ofString "_law_script", Str.ofString "_law_k", Str.ofString "_law_count"], tks, [0, 1, 2], [], false⟩
abbrev s11 : Stmt := (top 15)
def N11 : List Str := [Str.ofString "_law_draws_here", Str.ofString "_law_many"]
def d11 : Dd := ⟨s11, Str.ofString "_law_take", Str.ofString "_law_take", N11, [Str.ofString "_law_draws_here", Str.ofString "_law_many"], tks, [0, 1], [], false⟩
abbrev s12 : Stmt := (top 16)
def N12 : List Str := [Str.ofString "_law_places", Str.ofString "_law_rows", Str.ofString "_law_place", Str.ofString "_law_longer", Str.ofString "_law_row"]
def d12 : Dd := ⟨s12, Str.ofString "_law_subsets", Str.ofString "_law_subsets", N12, [Str.ofString "_law_places"], tks, [0], [], false⟩
abbrev s13 : Stmt := (top 17)
def N13 : List Str := [Str.ofString "_law_rows", Str.ofString "_law_row"]
def d13 : Dd := ⟨s13, Str.ofString "_law_ordered", Str.ofString "_law_ordered", N13, [Str.ofString "_law_rows"], tks, [0], [], true⟩
abbrev s14 : Stmt := (top 18)
def N14 : List Str := [Str.ofString "_law_row", Str.ofString "_law_other", Str.ofString "_law_place"]
def d14 : Dd := ⟨s14, Str.ofString "_law_inside", Str.ofString "_law_inside", N14, [Str.ofString "_law_row", Str.ofString "_law_other"], tks, [0, 1], [], false⟩
abbrev s15 : Stmt := (top 19)
def N15 : List Str := [Str.ofString "_law_rows", Str.ofString "_law_found", Str.ofString "_law_row", Str.ofString "_law_other"]
def d15 : Dd := ⟨s15, Str.ofString "_law_least", Str.ofString "_law_least", N15, [Str.ofString "_law_rows"], tks, [0], [], false⟩
abbrev s16 : Stmt := (top 20)
def N16 : List Str := [Str.ofString "_law_rows", Str.ofString "_law_many", Str.ofString "_law_truth", Str.ofString "_law_code", Str.ofString "_law_members", Str.ofString "_law_nodes", Str.ofString "_law_root", Str.ofString "_law_place", Str.ofString "_law_row"]
def d16 : Dd := ⟨s16, Str.ofString "_law_table", Str.ofString "_law_table", N16, [Str.ofString "_law_rows", Str.ofString "_law_many"], tks, [0, 1], [], false⟩
abbrev s17 : Stmt := (top 21)
def N17 : List Str := [Str.ofString "_law_truth", Str.ofString "_law_place", Str.ofString "_law_nodes", Str.ofString "_law_without", Str.ofString "_law_with_it", Str.ofString "_law_row"]
def d17 : Dd := ⟨s17, Str.ofString "_law_node", Str.ofString "_law_node", N17, [Str.ofString "_law_truth", Str.ofString "_law_place", Str.ofString "_law_nodes"], tks, [0, 1, 2], [], false⟩
abbrev s18 : Stmt := (top 22)
def N18 : List Str := [Str.ofString "_law_script", Str.ofString "_law_first", Str.ofString "_law_many", Str.ofString "_law_rows", Str.ofString "_law_draws_here", Str.ofString "_law_k", Str.ofString "_law_place"]
def d18 : Dd := ⟨s18, Str.ofString "_law_family", Str.ofString "_law_family", N18, [Str.ofString "_law_script", Str.ofString "_law_first", Str.ofString "_law_many"], tks, [0, 1, 2], [], false⟩
abbrev s19 : Stmt := (top 23)
def N19 : List Str := [Str.ofString "_law_script", Str.ofString "_law_k", Str.ofString "_law_many", Str.ofString "_law_draws_here", Str.ofString "_law_place"]
def d19 : Dd := ⟨s19, Str.ofString "_law_set", Str.ofString "_law_set", N19, [Str.ofString "_law_script", Str.ofString "_law_k", Str.ofString "_law_many"], tks, [0, 1, 2], [], false⟩
abbrev s20 : Stmt := (top 24)
def N20 : List Str := [Str.ofString "_law_actual", Str.ofString "_law_due", Str.ofString "_law_k"]
def d20 : Dd := ⟨s20, Str.ofString "_law_same", Str.ofString "_law_same", N20, [Str.ofString "_law_actual", Str.ofString "_law_due"], tks, [0, 1], [], false⟩
abbrev s21 : Stmt := (top 25)
def N21 : List Str := [Str.ofString "_law_rows", Str.ofString "_law_members", Str.ofString "_law_row"]
def d21 : Dd := ⟨s21, Str.ofString "_law_holds", Str.ofString "_law_holds", N21, [Str.ofString "_law_rows", Str.ofString "_law_members"], tks, [0, 1], [], false⟩
abbrev s22 : Stmt := (top 26)
def N22 : List Str := [Str.ofString "_law_row", Str.ofString "_law_other", Str.ofString "_law_place"]
def d22 : Dd := ⟨s22, Str.ofString "_law_rest", Str.ofString "_law_rest", N22, [Str.ofString "_law_row", Str.ofString "_law_other"], tks, [0, 1], [], false⟩
abbrev s23 : Stmt := (top 27)
def N23 : List Str := [Str.ofString "_law_script", Str.ofString "_law_many", Str.ofString "_law_rows", Str.ofString "_law_taken", Str.ofString "_law_due", Str.ofString "_law_one", Str.ofString "_law_row", Str.ofString "_law_left", Str.ofString "_law_concerned"]
def d23 : Dd := ⟨s23, Str.ofString "law", Str.ofString "law", N23, [Str.ofString "_law_script"], tks, [0], [], false⟩
def ds : List Dd := [d0, d1, d2, d3, d4, d5, d6, d7, d8, d9, d10, d11, d12, d13, d14, d15, d16, d17, d18, d19, d20, d21, d22, d23]
def g0 : Gm := ⟨[], L2.defScope s0, fns, clss, mths, flds, csts, blts, [], [], fun _ => true, [], kds, false, bfs, false⟩
def tt : Txt := ⟨ds, g0, [], []⟩
def cns : List Str := []
def B0 : List Sm := [.unp [2, 3] (.pl ⟨0, []⟩), .whl (.p (.v (.cmp (.gt) (.var 3) (.lit (.int 1))))) [.unp [4, 5, 6] (.p (.idx (.var 2) (.bop (.sub) (.var 3) (.lit (.int 2))))), .ite (.p (.v (.cmp (.isin) (.var 4) (.var 1)))) [.asg 3 (.pl ⟨6, []⟩)] [.asg 3 (.pl ⟨5, []⟩)]], .ret (.p (.cmp (.eq) (.var 3) (.lit (.int 1))))]
theorem b0_eq : (d0.fd g0).body = B0 := by rfl
theorem r0 {wl n : Nat} (a0 a1 : M) : semF tt.pg wl (n + 1) 0 [a0, a1] = fin (Zy.execs (sgN tt wl n) B0 [a0, a1, .hole, .hole, .hole, .hole, .hole]) fun δ => [slot δ 0, slot δ 1] := by
  rw [sf (t := tt) d0 rfl B0 b0_eq _ rfl]
  rfl
def B1 : List Sm := [.ret (.p (.blt (.tuple) [.ssc [1] (.nm 1) (.e (.idx (.var 0) (.lit (.int 0)))) (.yes) (.idx (.var 1) (.lit (.int 0)))]))]
theorem b1_eq : (d1.fd g0).body = B1 := by rfl
theorem r1 {wl n : Nat} (a0 : M) : semF tt.pg wl (n + 1) 1 [a0] = fin (Zy.execs (sgN tt wl n) B1 [a0, .hole]) fun δ => [slot δ 0] := by
  rw [sf (t := tt) d1 rfl B1 b1_eq _ rfl]
  rfl
def B2 : List Sm := [.ret (.p (.tup [.blt (.len) [.var 0], .var 0]))]
theorem b2_eq : (d2.fd g0).body = B2 := by rfl
theorem r2 {wl n : Nat} (a0 : M) : semF tt.pg wl (n + 1) 2 [a0] = fin (Zy.execs (sgN tt wl n) B2 [a0]) fun δ => [slot δ 0] := by
  rw [sf (t := tt) d2 rfl B2 b2_eq _ rfl]
  rfl
def B3 : List Sm := [.asg 1 (.p (.lst [])), .for_ (.nm 2) (.e (.srt 2 (.var 0))) none [.ite (.p (.or (.not (.v (.var 1))) (.v (.cmp (.ne) (.idx (.var 1) (.neg (.lit (.int 1)))) (.var 2))))) [.app ⟨1, []⟩ (.pl ⟨2, []⟩)] []], .ret (.pl ⟨1, []⟩)]
theorem b3_eq : (d3.fd g0).body = B3 := by rfl
theorem r3 {wl n : Nat} (a0 : M) : semF tt.pg wl (n + 1) 3 [a0] = fin (Zy.execs (sgN tt wl n) B3 [a0, .hole, .hole]) fun δ => [slot δ 0] := by
  rw [sf (t := tt) d3 rfl B3 b3_eq _ rfl]
  rfl
def B4 : List Sm := [.asg 1 (.p (.lst [.tup []])), .for_ (.nm 2) (.rng1 (.lit (.non))) (some ⟨0, []⟩) [.ext ⟨1, []⟩ (.p (.lc [3] (.nm 3) (.e (.blt (.list) [.var 1])) (.yes) (.bop (.add) (.var 3) (.tup [.var 2]))))], .ret (.call 3 [.pl ⟨1, []⟩])]
theorem b4_eq : (d4.fd g0).body = B4 := by rfl
theorem r4 {wl n : Nat} (a0 : M) : semF tt.pg wl (n + 1) 4 [a0] = fin (Zy.execs (sgN tt wl n) B4 [a0, .hole, .hole, .hole]) fun δ => [slot δ 0] := by
  rw [sf (t := tt) d4 rfl B4 b4_eq _ rfl]
  rfl
def B5 : List Sm := [.ret (.p (.blt (.tuple) [.lc [2] (.nm 2) (.e (.var 0)) (.v (.cmp (.nin) (.var 2) (.var 1))) (.var 2)]))]
theorem b5_eq : (d5.fd g0).body = B5 := by rfl
theorem r5 {wl n : Nat} (a0 a1 : M) : semF tt.pg wl (n + 1) 5 [a0, a1] = fin (Zy.execs (sgN tt wl n) B5 [a0, a1, .hole]) fun δ => [slot δ 0, slot δ 1] := by
  rw [sf (t := tt) d5 rfl B5 b5_eq _ rfl]
  rfl
def B6 : List Sm := [.ret (.p (.blt (.tuple) [.lc [2] (.nm 2) (.e (.var 0)) (.v (.cmp (.isin) (.var 2) (.var 1))) (.var 2)]))]
theorem b6_eq : (d6.fd g0).body = B6 := by rfl
theorem r6 {wl n : Nat} (a0 a1 : M) : semF tt.pg wl (n + 1) 6 [a0, a1] = fin (Zy.execs (sgN tt wl n) B6 [a0, a1, .hole]) fun δ => [slot δ 0, slot δ 1] := by
  rw [sf (t := tt) d6 rfl B6 b6_eq _ rfl]
  rfl
def B7 : List Sm := [.ret (.and (.call 0 [.pl ⟨0, []⟩, .pl ⟨1, []⟩]) (.not (.call 0 [.pl ⟨0, []⟩, .call 5 [.pl ⟨1, []⟩, .p (.tup [.var 2])]])))]
theorem b7_eq : (d7.fd g0).body = B7 := by rfl
theorem r7 {wl n : Nat} (a0 a1 a2 : M) : semF tt.pg wl (n + 1) 7 [a0, a1, a2] = fin (Zy.execs (sgN tt wl n) B7 [a0, a1, a2]) fun δ => [slot δ 0, slot δ 1, slot δ 2] := by
  rw [sf (t := tt) d7 rfl B7 b7_eq _ rfl]
  rfl
def B8 : List Sm := [.asg 2 (.call 6 [.pl ⟨1, []⟩, .call 1 [.pl ⟨0, []⟩]]), .asg 3 (.p (.lst [])), .for_ (.nm 4) (.rng1 (.lit (.non))) (some ⟨2, []⟩) [.forX (.nm 5) (Wi.e (.call 4 [.call 5 [.pl ⟨2, []⟩, .p (.tup [.var 4])]])) [.ite (.v (.call 7 [.pl ⟨0, []⟩, .call 5 [.pl ⟨1, []⟩, .pl ⟨5, []⟩], .pl ⟨4, []⟩])) [.app ⟨3, []⟩ (.p (.tup [.var 4, .var 5])), .brk] []]], .ret (.p (.blt (.tuple) [.var 3]))]
theorem b8_eq : (d8.fd g0).body = B8 := by rfl
theorem r8 {wl n : Nat} (a0 a1 : M) : semF tt.pg wl (n + 1) 8 [a0, a1] = fin (Zy.execs (sgN tt wl n) B8 [a0, a1, .hole, .hole, .hole, .hole]) fun δ => [slot δ 0, slot δ 1] := by
  rw [sf (t := tt) d8 rfl B8 b8_eq _ rfl]
  rfl
def B9 : List Sm := [.ite (.p (.v (.cmp (.lt) (.var 1) (.blt (.len) [.var 0])))) [.ret (.p (.blt (.int) [.idx (.var 0) (.var 1)]))] [], .ret (.p (.lit (.int 0)))]
theorem b9_eq : (d9.fd g0).body = B9 := by rfl
theorem r9 {wl n : Nat} (a0 a1 : M) : semF tt.pg wl (n + 1) 9 [a0, a1] = fin (Zy.execs (sgN tt wl n) B9 [a0, a1]) fun δ => [slot δ 0, slot δ 1] := by
  rw [sf (t := tt) d9 rfl B9 b9_eq _ rfl]
  rfl
def B10 : List Sm := [.asg 3 (.call 9 [.pl ⟨0, []⟩, .pl ⟨1, []⟩]), .asg 4 (.p (.lit (.int 0))), .ite (.p (.v (.cmp (.ge) (.var 3) (.bop (.pow) (.lit (.int 10)) (.lit (.int 18)))))) [.asg 4 (.p (.bop (.fdiv) (.var 3) (.bop (.pow) (.lit (.int 10)) (.lit (.int 18)))))] [], .asg 5 (.p (.bop (.mod) (.blt (.int) [.bop (.add) (.bop (.add) (.bop (.mul) (.var 3) (.lit (.int 48271))) (.bop (.mul) (.var 1) (.lit (.int 69621)))) (.lit (.int 12345))]) (.lit (.int 2147483647)))), .asg 6 (.p (.lst [])), .for_ (.nm 7) (.rng1 (.var 2)) none [.asg 5 (.p (.bop (.mod) (.blt (.int) [.bop (.add) (.bop (.add) (.bop (.mul) (.var 5) (.lit (.int 16807))) (.bop (.mul) (.var 7) (.lit (.int 101)))) (.lit (.int 7))]) (.lit (.int 2147483647)))), .ite (.p (.v (.cmp (.gt) (.var 4) (.lit (.int 0))))) [.app ⟨6, []⟩ (.p (.bop (.mod) (.blt (.int) [.var 4]) (.lit (.int 997)))), .asg 4 (.p (.bop (.fdiv) (.var 4) (.lit (.int 997))))] [.app ⟨6, []⟩ (.p (.bop (.mod) (.blt (.int) [.bop (.fdiv) (.var 5) (.lit (.int 1009))]) (.lit (.int 997))))]], .ret (.pl ⟨6, []⟩)]
theorem b10_eq : (d10.fd g0).body = B10 := by rfl
theorem r10 {wl n : Nat} (a0 a1 a2 : M) : semF tt.pg wl (n + 1) 10 [a0, a1, a2] = fin (Zy.execs (sgN tt wl n) B10 [a0, a1, a2, .hole, .hole, .hole, .hole, .hole]) fun δ => [slot δ 0, slot δ 1, slot δ 2] := by
  rw [sf (t := tt) d10 rfl B10 b10_eq _ rfl]
  rfl
def B11 : List Sm := [.ite (.p (.not (.v (.var 0)))) [.ret (.p (.lit (.int 0)))] [], .ret (.bop (.mod) (.blt1 (.int) (.pop ⟨0, []⟩ (.lit (.int 0)))) (.pl ⟨1, []⟩))]
theorem b11_eq : (d11.fd g0).body = B11 := by rfl
theorem r11 {wl n : Nat} (a0 a1 : M) : semF tt.pg wl (n + 1) 11 [a0, a1] = fin (Zy.execs (sgN tt wl n) B11 [a0, a1]) fun δ => [slot δ 0, slot δ 1] := by
  rw [sf (t := tt) d11 rfl B11 b11_eq _ rfl]
  rfl
def B12 : List Sm := [.asg 1 (.p (.lst [.tup []])), .for_ (.nm 2) (.rng1 (.lit (.non))) (some ⟨0, []⟩) [.asg 3 (.p (.lst [])), .for_ (.nm 4) (.rng1 (.lit (.non))) (some ⟨1, []⟩) [.app ⟨3, []⟩ (.p (.bop (.add) (.var 4) (.tup [.var 2])))], .asg 1 (.p (.bop (.add) (.var 1) (.var 3)))], .ret (.pl ⟨1, []⟩)]
theorem b12_eq : (d12.fd g0).body = B12 := by rfl
theorem r12 {wl n : Nat} (a0 : M) : semF tt.pg wl (n + 1) 12 [a0] = fin (Zy.execs (sgN tt wl n) B12 [a0, .hole, .hole, .hole, .hole]) fun δ => [slot δ 0] := by
  rw [sf (t := tt) d12 rfl B12 b12_eq _ rfl]
  rfl
def B13 : List Sm := [.ret (.p (.srl [1] 1 (.tup [.blt (.len) [.var 1], .var 1]) (.var 0)))]
theorem b13_eq : (d13.fd g0).body = B13 := by rfl
theorem r13 {wl n : Nat} (a0 : M) : semF tt.pg wl (n + 1) 13 [a0] = fin (Zy.execs (sgN tt wl n) B13 [a0, .hole]) fun δ => [slot δ 0] := by
  rw [sf (t := tt) d13 rfl B13 b13_eq _ rfl]
  rfl
def B14 : List Sm := [.ret (.p (.blt (.all) [.lc [2] (.nm 2) (.e (.var 0)) (.yes) (.cmp (.isin) (.var 2) (.var 1))]))]
theorem b14_eq : (d14.fd g0).body = B14 := by rfl
theorem r14 {wl n : Nat} (a0 a1 : M) : semF tt.pg wl (n + 1) 14 [a0, a1] = fin (Zy.execs (sgN tt wl n) B14 [a0, a1, .hole]) fun δ => [slot δ 0, slot δ 1] := by
  rw [sf (t := tt) d14 rfl B14 b14_eq _ rfl]
  rfl
def B15 : List Sm := [.asg 1 (.p (.lst [])), .forX (.nm 2) (Wi.e (.call 13 [.pl ⟨0, []⟩])) [.ite (.p (.not (.v (.blt (.any) [.lc [3] (.nm 3) (.e (.var 1)) (.yes) (.ro (.call 14 [.var 3, .var 2]))])))) [.app ⟨1, []⟩ (.pl ⟨2, []⟩)] []], .ret (.pl ⟨1, []⟩)]
theorem b15_eq : (d15.fd g0).body = B15 := by rfl
theorem r15 {wl n : Nat} (a0 : M) : semF tt.pg wl (n + 1) 15 [a0] = fin (Zy.execs (sgN tt wl n) B15 [a0, .hole, .hole, .hole]) fun δ => [slot δ 0] := by
  rw [sf (t := tt) d15 rfl B15 b15_eq _ rfl]
  rfl
def B16 : List Sm := [.asg 2 (.p (.lst [])), .for_ (.nm 3) (.rng1 (.bop (.pow) (.lit (.int 2)) (.lit (.int 5)))) none [.asg 4 (.p (.lc [7] (.nm 7) (.rng1 (.var 1)) (.v (.cmp (.eq) (.bop (.mod) (.bop (.fdiv) (.var 3) (.idx (.tup [.lit (.int 1), .lit (.int 2), .lit (.int 4), .lit (.int 8), .lit (.int 16)]) (.var 7))) (.lit (.int 2))) (.lit (.int 1)))) (.var 7))), .ite (.p (.v (.cmp (.lt) (.var 3) (.idx (.tup [.lit (.int 1), .lit (.int 2), .lit (.int 4), .lit (.int 8), .lit (.int 16), .lit (.int 32)]) (.var 1))))) [.app ⟨2, []⟩ (.p (.blt (.any) [.lc [8] (.nm 8) (.e (.var 0)) (.yes) (.ro (.call 14 [.var 8, .var 4]))]))] []], .asg 5 (.p (.lst [])), .asg 6 (.call 17 [.pl ⟨2, []⟩, .p (.lit (.int 0)), .pl ⟨5, []⟩]), .ret (.p (.tup [.blt (.tuple) [.var 5], .var 6]))]
theorem b16_eq : (d16.fd g0).body = B16 := by rfl
theorem r16 {wl n : Nat} (a0 a1 : M) : semF tt.pg wl (n + 1) 16 [a0, a1] = fin (Zy.execs (sgN tt wl n) B16 [a0, a1, .hole, .hole, .hole, .hole, .hole, .hole, .hole]) fun δ => [slot δ 0, slot δ 1] := by
  rw [sf (t := tt) d16 rfl B16 b16_eq _ rfl]
  rfl
def B17 : List Sm := [.ite (.p (.v (.blt (.all) [.var 0]))) [.ret (.p (.lit (.int 1)))] [], .ite (.p (.not (.v (.blt (.any) [.var 0])))) [.ret (.p (.lit (.int 0)))] [], .asg 3 (.call 17 [.p (.stp (.var 0) 0 2), .p (.bop (.add) (.var 1) (.lit (.int 1))), .pl ⟨2, []⟩]), .asg 4 (.call 17 [.p (.stp (.var 0) 1 2), .p (.bop (.add) (.var 1) (.lit (.int 1))), .pl ⟨2, []⟩]), .ite (.p (.v (.cmp (.eq) (.var 3) (.var 4)))) [.ret (.pl ⟨3, []⟩)] [], .asg 5 (.p (.tup [.var 1, .var 3, .var 4])), .ite (.p (.v (.cmp (.nin) (.var 5) (.var 2)))) [.app ⟨2, []⟩ (.pl ⟨5, []⟩)] [], .ret (.p (.bop (.add) (.idm (.var 2) (.var 5)) (.lit (.int 2))))]
theorem b17_eq : (d17.fd g0).body = B17 := by rfl
theorem r17 {wl n : Nat} (a0 a1 a2 : M) : semF tt.pg wl (n + 1) 17 [a0, a1, a2] = fin (Zy.execs (sgN tt wl n) B17 [a0, a1, a2, .hole, .hole, .hole]) fun δ => [slot δ 0, slot δ 1, slot δ 2] := by
  rw [sf (t := tt) d17 rfl B17 b17_eq _ rfl]
  rfl
def B18 : List Sm := [.asg 3 (.p (.lst [])), .asg 4 (.call 10 [.pl ⟨0, []⟩, .pl ⟨1, []⟩, .p (.lit (.int 40))]), .forX (.nm 5) (Wi.rng1 (.call 11 [.pl ⟨4, []⟩, .p (.lit (.int 6))])) [.app ⟨3, []⟩ (.blt1 (.tuple) (.lcx [6] (.nm 6) (.rng1 (.var 2)) (.cmp (.lt) (.call 11 [.pl ⟨4, []⟩, .p (.lit (.int 5))]) (.p (.lit (.int 2)))) (.pl ⟨6, []⟩)))], .ret (.pl ⟨3, []⟩)]
theorem b18_eq : (d18.fd g0).body = B18 := by rfl
theorem r18 {wl n : Nat} (a0 a1 a2 : M) : semF tt.pg wl (n + 1) 18 [a0, a1, a2] = fin (Zy.execs (sgN tt wl n) B18 [a0, a1, a2, .hole, .hole, .hole, .hole]) fun δ => [slot δ 0, slot δ 1, slot δ 2] := by
  rw [sf (t := tt) d18 rfl B18 b18_eq _ rfl]
  rfl
def B19 : List Sm := [.asg 3 (.call 10 [.pl ⟨0, []⟩, .pl ⟨1, []⟩, .pl ⟨2, []⟩]), .ret (.blt1 (.tuple) (.lcx [4] (.nm 4) (.rng1 (.var 2)) (.cmp (.gt) (.call 11 [.pl ⟨3, []⟩, .p (.lit (.int 4))]) (.p (.lit (.int 0)))) (.pl ⟨4, []⟩)))]
theorem b19_eq : (d19.fd g0).body = B19 := by rfl
theorem r19 {wl n : Nat} (a0 a1 a2 : M) : semF tt.pg wl (n + 1) 19 [a0, a1, a2] = fin (Zy.execs (sgN tt wl n) B19 [a0, a1, a2, .hole, .hole]) fun δ => [slot δ 0, slot δ 1, slot δ 2] := by
  rw [sf (t := tt) d19 rfl B19 b19_eq _ rfl]
  rfl
def B20 : List Sm := [.ite (.p (.v (.isi (.var 1) (.tuple)))) [.ite (.p (.or (.not (.v (.isi (.var 0) (.tuple)))) (.v (.cmp (.ne) (.blt (.len) [.var 0]) (.blt (.len) [.var 1]))))) [.ret (.p (.lit (.bl false)))] [], .ret (.p (.blt (.all) [.lc [2] (.nm 2) (.rng1 (.blt (.len) [.var 1])) (.yes) (.call 20 [.idx (.var 0) (.var 2), .idx (.var 1) (.var 2)])]))] [], .ite (.p (.v (.isi (.var 1) (.bool)))) [.ret (.p (.and (.isi (.var 0) (.bool)) (.cmp (.eq) (.var 0) (.var 1))))] [], .ite (.p (.v (.isi (.var 1) (.int)))) [.ret (.p (.and (.isi (.var 0) (.int)) (.and (.not (.isi (.var 0) (.bool))) (.cmp (.eq) (.var 0) (.var 1)))))] [], .ite (.p (.v (.isi (.var 1) (.str)))) [.ret (.p (.and (.isi (.var 0) (.str)) (.cmp (.eq) (.var 0) (.var 1))))] [], .ret (.p (.cmp (.isn) (.var 0) (.lit (.non))))]
theorem b20_eq : (d20.fd g0).body = B20 := by rfl
theorem r20 {wl n : Nat} (a0 a1 : M) : semF tt.pg wl (n + 1) 20 [a0, a1] = fin (Zy.execs (sgN tt wl n) B20 [a0, a1, .hole]) fun δ => [slot δ 0, slot δ 1] := by
  rw [sf (t := tt) d20 rfl B20 b20_eq _ rfl]
  rfl
def B21 : List Sm := [.ret (.p (.blt (.any) [.lc [2] (.nm 2) (.e (.var 0)) (.yes) (.ro (.call 14 [.var 2, .var 1]))]))]
theorem b21_eq : (d21.fd g0).body = B21 := by rfl
theorem r21 {wl n : Nat} (a0 a1 : M) : semF tt.pg wl (n + 1) 21 [a0, a1] = fin (Zy.execs (sgN tt wl n) B21 [a0, a1, .hole]) fun δ => [slot δ 0, slot δ 1] := by
  rw [sf (t := tt) d21 rfl B21 b21_eq _ rfl]
  rfl
def B22 : List Sm := [.ret (.p (.blt (.tuple) [.lc [2] (.nm 2) (.e (.var 0)) (.v (.cmp (.nin) (.var 2) (.var 1))) (.var 2)]))]
theorem b22_eq : (d22.fd g0).body = B22 := by rfl
theorem r22 {wl n : Nat} (a0 a1 : M) : semF tt.pg wl (n + 1) 22 [a0, a1] = fin (Zy.execs (sgN tt wl n) B22 [a0, a1, .hole]) fun δ => [slot δ 0, slot δ 1] := by
  rw [sf (t := tt) d22 rfl B22 b22_eq _ rfl]
  rfl
def B23 : List Sm := [.asg 1 (.bop (.add) (.p (.lit (.int 1))) (.bop (.mod) (.blt1 (.int) (.call 9 [.pl ⟨0, []⟩, .p (.lit (.int 0))])) (.p (.lit (.int 5))))), .asg 2 (.call 18 [.pl ⟨0, []⟩, .p (.lit (.int 1)), .pl ⟨1, []⟩]), .asg 3 (.call 19 [.pl ⟨0, []⟩, .p (.lit (.int 3)), .pl ⟨1, []⟩]), .asg 4 (.p (.lst [])), .for_ (.nm 5) (.rng1 (.lit (.non))) (some ⟨3, []⟩) [.forX (.nm 6) (Wi.e (.call 13 [.call 12 [.call 22 [.pl ⟨3, []⟩, .p (.tup [.var 5])]]])) [.asg 7 (.call 22 [.pl ⟨3, []⟩, .pl ⟨6, []⟩]), .ite (.and (.v (.call 21 [.pl ⟨2, []⟩, .pl ⟨7, []⟩])) (.not (.v (.call 21 [.pl ⟨2, []⟩, .call 22 [.pl ⟨7, []⟩, .p (.tup [.var 5])]])))) [.app ⟨4, []⟩ (.p (.tup [.var 5, .var 6])), .brk] []]], .asg 8 (.p (.lc [6] (.nm 6) (.e (.ro (.call 15 [.var 2]))) (.v (.ro (.call 14 [.var 6, .var 3]))) (.var 6))), .ite (.p (.v (.cmp (.ne) (.lc [6] (.nm 6) (.e (.var 4)) (.yes) (.idx (.var 6) (.lit (.int 0)))) (.lc [5] (.nm 5) (.e (.var 3)) (.v (.blt (.any) [.lc [6] (.nm 6) (.e (.var 8)) (.yes) (.cmp (.isin) (.var 5) (.var 6))])) (.var 5))))) [.ret (.p (.lit (.bl false)))] [], .ret (.call 20 [.call 8 [.call 16 [.pl ⟨2, []⟩, .pl ⟨1, []⟩], .pl ⟨3, []⟩], .p (.blt (.tuple) [.var 4])])]
theorem b23_eq : (d23.fd g0).body = B23 := by rfl
theorem r23 {wl n : Nat} (a0 : M) : semF tt.pg wl (n + 1) 23 [a0] = fin (Zy.execs (sgN tt wl n) B23 [a0, .hole, .hole, .hole, .hole, .hole, .hole, .hole, .hole]) fun δ => [slot δ 0] := by
  rw [sf (t := tt) d23 rfl B23 b23_eq _ rfl]
  rfl
end Zp

section
open PySem Zy Zp
local macro_rules | `(tactic| simp_arith [$xs,*]) => `(tactic| simp [putFd, List.lookup, inM_dic, oW_some, oW_none, oW_ite, oW_iteN, oW_map, oW_bind, vM_i, vM_lst, vM_rol, vM_rg, vM_ftp, vM_kc, vM_mls, vM_mtp, vM_dic, vM_ins, vM_hole, wB_bl, wN_int, wI_i, wLs_lst, wF_ok, ↓wP_var, ↓wP_lit, ↓wP_cst, ↓wP_tup, ↓wP_lst, ↓wP_dnew, ↓wP_disp, ↓wP_bop, ↓wP_neg, ↓wP_cmp, ↓wP_chn, ↓wP_and, ↓wP_or, ↓wP_not, ↓wP_ife, ↓wP_idx, ↓wP_sl, ↓wP_fld, ↓wP_call, ↓wP_blt, ↓wP_smt, ↓wP_isi, ↓wP_lc, ↓wP_rev, ↓wP_ro, ↓wP_idm, ↓wP_kdi, ↓wP_cd, ↓wP_sset, ↓wP_ssc, ↓wP_stp, ↓wP_gcd, ↓wP_gen, ↓wP_srt, ↓wP_srl, gcdM, ssetM_lst, ssetM_rol, stpM, kdM, wRo_i, wRo_lst, roE_cons, roE_nil, ro1, revM, idmM, ↓wPs_nil, ↓wPs_cons, ↓wO_none, ↓wO_some, ↓wT_yes, ↓wT_v, ↓wT_and, ↓wT_or, ↓wT_not, ↓wTi_e, ↓wTi_rng1, ↓wTi_rng2, imOk_i, imOk_lst, imOk_dic, imOk_rg, imOk_ftp, ↓wE_p, wPl_i, wPl_rol, wPl_rg, wPl_ftp, wPl_lst, wPl_kc, wPl_mls, wPl_mtp, wPl_dic, wPl_ins, ↓wE_pl, ↓wTk_nil, ↓wTk_v, ↓wTk_q, wPu_nil, wPu_v, wPu_q, ↓wE_call, insC_ins, ↓wE_meth, hd2_cons, ↓wE_mk, ↓wE_pop, ↓wE_popx, ↓wA_popx, ↓wE_tup, ↓wE_lst, ↓wE_bop, ↓wE_cmp, ↓wE_idx, ↓wE_blt1, ↓wE_and, ↓wE_or, ↓wE_not, ↓wE_lrng, ↓wE_idxq, ↓wE_idxm, ↓wE_slm, wMs_mls, ↓wA_idxm, ↓wA_slm, ↓wE_lcx, roH, itRo, restE, ↓wEs_nil, ↓wEs_cons, wQ_i, wQ_rol, wQ_rg, wQ_ftp, wQ_lst, wQ_kc, wQ_mls, wQ_mtp, wQ_dic, wQ_ins, ↓wA_nil, ↓wA_pl, ↓wA_p, ↓wA_call, ↓wA_meth, ↓wA_mk, ↓wA_pop, ↓wA_tup, ↓wA_lst, ↓wA_bop, ↓wA_cmp, ↓wA_idx, ↓wA_blt1, ↓wA_and, ↓wA_or, ↓wA_not, ↓wA_lrng, ↓wA_idxq, ↓wA_lcx, ↓wX_p, ↓wX_v, ↓wX_and, ↓wX_or, ↓wX_not, ↓wW_e, ↓wW_rng1, ↓wW_rng2, ↓wSs_n, ↓wSs_c, wSs_n, wSs_c, ↓wS_asg, ↓wS_unp, ↓wS_app, ↓wS_ext, ↓wS_augI, augIM, isLd, extM, wAp_i, wAp_nl, wAp_nm, wAp_mi, wAp_ml, wAp_mm, wSt_lst, wSt_mls, wSt_dic, ↓wS_setI, insF_ins, ↓wS_setF, ↓wS_ex, ↓wS_ret, ↓wS_retN, ↓wS_brk, ↓wS_cnt, ↓wS_pass, ↓wS_aug, augF, ↓wS_ite, ↓wS_for, ↓wS_forE, wEn_tup, ↓wS_forX, wQt_lst, wQt_i, wQt_rol, wQt_kc, wQt_rg, wQt_ftp, ↓wIt_q, imFr_i, imFr_lst, imFr_rol, imFr_kc, imFr_rg, imFr_ftp, ↓wIt_e, ↓wIt_rng1, ↓wIt_rng2, wF_fin, sgN_fn, sgN_wl, sgN_mt, sgN_ini, wC, copM_eq, copM_ne, copM_eqL, copM_neL, copM_lt, copM_le, copM_gt, copM_ge, copM_in, copM_nin, copM_isn, copM_isB, copM_ntB, copM_ntn, ordM, shp_int, shp_bl, shp_non, shp_str, shp_tup, sh_int, sh_bl, sh_non, sh_str, shs_nil, shs_cons, D.norm, D.norms, strOk_lit, rngOk_nat, szl_lit, szt_lit, rngOk_lit, wF_fin, atI_lit, bltM, bopM, truM, imms, roM, frs, tgSet, isL, isLst, itL, idxM, isiM, toPd, slM, isNon, fldM, isPl, slot, plGet, plSet, pathGet, pathSet, plOk, pathOk, upd, wipeE, wLm, wTm, cstM, nw_eq, if_true, if_false, Int.natCast_inj, $xs,*])
local macro_rules | `(tactic| simp_arith) => `(tactic| simp [putFd, List.lookup, inM_dic, oW_some, oW_none, oW_ite, oW_iteN, oW_map, oW_bind, vM_i, vM_lst, vM_rol, vM_rg, vM_ftp, vM_kc, vM_mls, vM_mtp, vM_dic, vM_ins, vM_hole, wB_bl, wN_int, wI_i, wLs_lst, wF_ok, ↓wP_var, ↓wP_lit, ↓wP_cst, ↓wP_tup, ↓wP_lst, ↓wP_dnew, ↓wP_disp, ↓wP_bop, ↓wP_neg, ↓wP_cmp, ↓wP_chn, ↓wP_and, ↓wP_or, ↓wP_not, ↓wP_ife, ↓wP_idx, ↓wP_sl, ↓wP_fld, ↓wP_call, ↓wP_blt, ↓wP_smt, ↓wP_isi, ↓wP_lc, ↓wP_rev, ↓wP_ro, ↓wP_idm, ↓wP_kdi, ↓wP_cd, ↓wP_sset, ↓wP_ssc, ↓wP_stp, ↓wP_gcd, ↓wP_gen, ↓wP_srt, ↓wP_srl, gcdM, ssetM_lst, ssetM_rol, stpM, kdM, wRo_i, wRo_lst, roE_cons, roE_nil, ro1, revM, idmM, ↓wPs_nil, ↓wPs_cons, ↓wO_none, ↓wO_some, ↓wT_yes, ↓wT_v, ↓wT_and, ↓wT_or, ↓wT_not, ↓wTi_e, ↓wTi_rng1, ↓wTi_rng2, imOk_i, imOk_lst, imOk_dic, imOk_rg, imOk_ftp, ↓wE_p, wPl_i, wPl_rol, wPl_rg, wPl_ftp, wPl_lst, wPl_kc, wPl_mls, wPl_mtp, wPl_dic, wPl_ins, ↓wE_pl, ↓wTk_nil, ↓wTk_v, ↓wTk_q, wPu_nil, wPu_v, wPu_q, ↓wE_call, insC_ins, ↓wE_meth, hd2_cons, ↓wE_mk, ↓wE_pop, ↓wE_popx, ↓wA_popx, ↓wE_tup, ↓wE_lst, ↓wE_bop, ↓wE_cmp, ↓wE_idx, ↓wE_blt1, ↓wE_and, ↓wE_or, ↓wE_not, ↓wE_lrng, ↓wE_idxq, ↓wE_idxm, ↓wE_slm, wMs_mls, ↓wA_idxm, ↓wA_slm, ↓wE_lcx, roH, itRo, restE, ↓wEs_nil, ↓wEs_cons, wQ_i, wQ_rol, wQ_rg, wQ_ftp, wQ_lst, wQ_kc, wQ_mls, wQ_mtp, wQ_dic, wQ_ins, ↓wA_nil, ↓wA_pl, ↓wA_p, ↓wA_call, ↓wA_meth, ↓wA_mk, ↓wA_pop, ↓wA_tup, ↓wA_lst, ↓wA_bop, ↓wA_cmp, ↓wA_idx, ↓wA_blt1, ↓wA_and, ↓wA_or, ↓wA_not, ↓wA_lrng, ↓wA_idxq, ↓wA_lcx, ↓wX_p, ↓wX_v, ↓wX_and, ↓wX_or, ↓wX_not, ↓wW_e, ↓wW_rng1, ↓wW_rng2, ↓wSs_n, ↓wSs_c, wSs_n, wSs_c, ↓wS_asg, ↓wS_unp, ↓wS_app, ↓wS_ext, ↓wS_augI, augIM, isLd, extM, wAp_i, wAp_nl, wAp_nm, wAp_mi, wAp_ml, wAp_mm, wSt_lst, wSt_mls, wSt_dic, ↓wS_setI, insF_ins, ↓wS_setF, ↓wS_ex, ↓wS_ret, ↓wS_retN, ↓wS_brk, ↓wS_cnt, ↓wS_pass, ↓wS_aug, augF, ↓wS_ite, ↓wS_for, ↓wS_forE, wEn_tup, ↓wS_forX, wQt_lst, wQt_i, wQt_rol, wQt_kc, wQt_rg, wQt_ftp, ↓wIt_q, imFr_i, imFr_lst, imFr_rol, imFr_kc, imFr_rg, imFr_ftp, ↓wIt_e, ↓wIt_rng1, ↓wIt_rng2, wF_fin, sgN_fn, sgN_wl, sgN_mt, sgN_ini, wC, copM_eq, copM_ne, copM_eqL, copM_neL, copM_lt, copM_le, copM_gt, copM_ge, copM_in, copM_nin, copM_isn, copM_isB, copM_ntB, copM_ntn, ordM, shp_int, shp_bl, shp_non, shp_str, shp_tup, sh_int, sh_bl, sh_non, sh_str, shs_nil, shs_cons, D.norm, D.norms, strOk_lit, rngOk_nat, szl_lit, szt_lit, rngOk_lit, wF_fin, atI_lit, bltM, bopM, truM, imms, roM, frs, tgSet, isL, isLst, itL, idxM, isiM, toPd, slM, isNon, fldM, isPl, slot, plGet, plSet, pathGet, pathSet, plOk, pathOk, upd, wipeE, wLm, wTm, cstM, nw_eq, if_true, if_false, Int.natCast_inj])

section
section
set_option maxHeartbeats 4000000
namespace Zp
/-- a condition unfolded -/
inductive Tr where
  | lf (b : Bool)
  | nd (v : Nat) (l r : Tr)
  deriving DecidableEq
namespace Tr
def val : Tr → (Nat → Bool) → Bool
  | lf b, _ => b
  | nd v l r, s => if s v then r.val s else l.val s
/-- all numbers asked are above -/
def Gt (v : Nat) : Tr → Prop
  | lf _ => True
  | nd w _ _ => v < w
def RO : Tr → Prop
  | lf _ => True
  | nd v l r => l ≠ r ∧ RO l ∧ RO r ∧ Gt v l ∧ Gt v r
theorem Gt.mono {v w : Nat} (h : w ≤ v) : ∀ {t : Tr}, Gt v t → Gt w t
  | lf _, _ => trivial
  | nd _ _ _, g => Nat.lt_of_le_of_lt h g
/-- a number below does not matter -/
theorem val_ext : ∀ {t : Tr} {v : Nat}, RO t → Gt v t → ∀ {s s' : Nat → Bool}, (∀ k, v < k → s k = s' k) → t.val s = t.val s'
  | lf _, _, _, _, _, _, _ => rfl
  | nd w l r, v, h, g, s, s', e => by
    have g : v < w := g
    have h1 := val_ext h.2.1 h.2.2.2.1 (s := s) (s' := s') fun k hk => e k (by omega)
    have h2 := val_ext h.2.2.1 h.2.2.2.2 (s := s) (s' := s') fun k hk => e k (by omega)
    simp only [val, e w g, h1, h2]
def put (s : Nat → Bool) (v : Nat) (b : Bool) : Nat → Bool := fun k => if k = v then b else s k
theorem val_put {t : Tr} {v : Nat} (h : RO t) (g : Gt v t) (s : Nat → Bool) (b : Bool) : t.val (put s v b) = t.val s :=
  val_ext h g fun k hk => by unfold put; rw [if_neg (by omega)]
def sz : Tr → Nat
  | lf _ => 0
  | nd _ l r => l.sz + r.sz + 1
/-- one tree for one meaning -/
theorem uniq : ∀ (n : Nat) (t t' : Tr), t.sz + t'.sz ≤ n → RO t → RO t' → (∀ s, t.val s = t'.val s) → t = t'
  | n, lf b, lf b', _, _, _, e => by rw [show b = b' from e fun _ => false]
  | 0, nd _ _ _, t', hn, _, _, _ => by simp [sz] at hn
  | 0, lf _, nd _ _ _, hn, _, _, _ => by simp [sz] at hn
  | n + 1, nd v l r, lf b, hn, h, h', e => by
    exfalso
    refine h.1 (uniq n l r (by simp [sz] at hn; omega) h.2.1 h.2.2.1 fun s => ?_)
    have e1 := e (put s v false)
    have e2 := e (put s v true)
    simp only [val] at e1 e2
    rw [if_neg (by simp [put]), val_put h.2.1 h.2.2.2.1] at e1
    rw [if_pos (by simp [put]), val_put h.2.2.1 h.2.2.2.2] at e2
    rw [e1, e2]
  | n + 1, lf b, nd v l r, hn, h', h, e => by
    exfalso
    refine h.1 (uniq n l r (by simp [sz] at hn; omega) h.2.1 h.2.2.1 fun s => ?_)
    have e1 := e (put s v false)
    have e2 := e (put s v true)
    simp only [val] at e1 e2
    rw [if_neg (by simp [put]), val_put h.2.1 h.2.2.2.1] at e1
    rw [if_pos (by simp [put]), val_put h.2.2.1 h.2.2.2.2] at e2
    rw [← e1, ← e2]
  | n + 1, nd v l r, nd w c d, hn, h, h', e => by
    have lo : ∀ {v : Nat} {l r t : Tr}, l.sz + r.sz ≤ n → RO (nd v l r) → RO t → Gt v t → (∀ s, (nd v l r).val s = t.val s) → False := by
      intro v l r t hn h h' g e
      refine h.1 (uniq n l r hn h.2.1 h.2.2.1 fun s => ?_)
      have e1 := e (put s v false)
      have e2 := e (put s v true)
      have b1 := val_put h' g s false
      have b2 := val_put h' g s true
      have a1 := val_put h.2.1 h.2.2.2.1 s false
      have a2 := val_put h.2.2.1 h.2.2.2.2 s true
      simp only [val] at e1 e2
      rw [b1] at e1
      rw [b2] at e2
      rw [a1, if_neg (by simp [put])] at e1
      rw [a2, if_pos (by simp [put])] at e2
      rw [e1, e2]
    simp only [sz] at hn
    rcases Nat.lt_trichotomy v w with g | g | g
    · exact (lo (by omega) h h' g e).elim
    · subst g
      have el : l = c := uniq n l c (by omega) h.2.1 h'.2.1 fun s => by
        have e1 := e (put s v false)
        simp only [val] at e1
        rw [if_neg (by simp [put]), if_neg (by simp [put]), val_put h.2.1 h.2.2.2.1, val_put h'.2.1 h'.2.2.2.1] at e1
        exact e1
      have er : r = d := uniq n r d (by omega) h.2.2.1 h'.2.2.1 fun s => by
        have e1 := e (put s v true)
        simp only [val] at e1
        rw [if_pos (by simp [put]), if_pos (by simp [put]), val_put h.2.2.1 h.2.2.2.2, val_put h'.2.2.1 h'.2.2.2.2] at e1
        exact e1
      rw [el, er]
    · exact (lo (by omega) h' h g fun s => (e s).symm).elim
theorem eq_of_val {t t' : Tr} (h : RO t) (h' : RO t') (e : ∀ s, t.val s = t'.val s) : t = t' := uniq _ t t' (Nat.le_refl _) h h' e
/-- the node unless both answers are the same -/
def mkT (v : Nat) (l r : Tr) : Tr := if l = r then l else nd v l r
theorem mkT_RO {v : Nat} {l r : Tr} (hl : RO l) (hr : RO r) (gl : Gt v l) (gr : Gt v r) : RO (mkT v l r) := by
  unfold mkT
  split
  · exact hl
  · rename_i h; exact ⟨h, hl, hr, gl, gr⟩
theorem mkT_val {v : Nat} {l r : Tr} (s : Nat → Bool) : (mkT v l r).val s = if s v then r.val s else l.val s := by
  unfold mkT
  split
  · rename_i h; subst h; simp
  · rfl
theorem mkT_Gt {v w : Nat} {l r : Tr} (g : w < v) (gl : Gt w l) : Gt w (mkT v l r) := by
  unfold mkT
  split
  · exact gl
  · exact g
def ng : Tr → Tr
  | lf b => lf (!b)
  | nd v l r => nd v l.ng r.ng
theorem ng_val : ∀ (t : Tr) (s : Nat → Bool), t.ng.val s = !t.val s
  | lf _, _ => rfl
  | nd v l r, s => by simp only [ng, val, ng_val l, ng_val r]; split <;> rfl
theorem ng_ng : ∀ t : Tr, t.ng.ng = t
  | lf b => by simp [ng]
  | nd v l r => by simp [ng, ng_ng l, ng_ng r]
theorem ng_Gt {v : Nat} : ∀ {t : Tr}, Gt v t → Gt v t.ng
  | lf _, _ => trivial
  | nd _ _ _, g => g
theorem ng_RO : ∀ {t : Tr}, RO t → RO t.ng
  | lf _, _ => trivial
  | nd v l r, h => ⟨fun e => h.1 (by rw [← ng_ng l, ← ng_ng r, e]), ng_RO h.2.1, ng_RO h.2.2.1, ng_Gt h.2.2.2.1, ng_Gt h.2.2.2.2⟩
/-- both -/
def jn : Tr → Tr → Tr
  | lf false, _ => lf false
  | lf true, t => t
  | nd _ _ _, lf false => lf false
  | nd v l r, lf true => nd v l r
  | nd v a b, nd w c d => if v < w then mkT v (jn a (nd w c d)) (jn b (nd w c d)) else if w < v then mkT w (jn (nd v a b) c) (jn (nd v a b) d) else mkT v (jn a c) (jn b d)
  termination_by t u => t.sz + u.sz
  decreasing_by all_goals simp [sz]; try omega
theorem jn_ok : ∀ (n : Nat) (t u : Tr), t.sz + u.sz ≤ n → RO t → RO u → RO (jn t u) ∧ (∀ s, (jn t u).val s = (t.val s && u.val s)) ∧ ∀ x, Gt x t → Gt x u → Gt x (jn t u)
  | n, lf false, u, _, h, h' => by rw [jn]; exact ⟨trivial, fun s => rfl, fun x _ _ => trivial⟩
  | n, lf true, u, _, h, h' => by rw [jn]; exact ⟨h', fun s => rfl, fun x _ g => g⟩
  | n, nd v l r, lf false, _, h, h' => by rw [jn]; exact ⟨trivial, fun s => by simp [val], fun x _ _ => trivial⟩
  | n, nd v l r, lf true, _, h, h' => by rw [jn]; exact ⟨h, fun s => by simp [val], fun x g _ => g⟩
  | 0, nd v a b, nd w c d, hn, _, _ => by simp [sz] at hn
  | n + 1, nd v a b, nd w c d, hn, h, h' => by
    rw [jn]
    simp only [sz] at hn
    split
    · rename_i g
      obtain ⟨r1, v1, g1⟩ := jn_ok n a (nd w c d) (by simp only [sz]; omega) h.2.1 h'
      obtain ⟨r2, v2, g2⟩ := jn_ok n b (nd w c d) (by simp only [sz]; omega) h.2.2.1 h'
      refine ⟨mkT_RO r1 r2 (g1 v h.2.2.2.1 g) (g2 v h.2.2.2.2 g), fun s => ?_, fun x gx gy => mkT_Gt gx (g1 x (h.2.2.2.1.mono (Nat.le_of_lt gx)) gy)⟩
      rw [mkT_val, v1, v2]
      show _ = ((if s v then b.val s else a.val s) && _)
      split <;> rfl
    · split
      · rename_i g
        obtain ⟨r1, v1, g1⟩ := jn_ok n (nd v a b) c (by simp only [sz]; omega) h h'.2.1
        obtain ⟨r2, v2, g2⟩ := jn_ok n (nd v a b) d (by simp only [sz]; omega) h h'.2.2.1
        refine ⟨mkT_RO r1 r2 (g1 w g h'.2.2.2.1) (g2 w g h'.2.2.2.2), fun s => ?_, fun x gx gy => mkT_Gt gy (g1 x gx (h'.2.2.2.1.mono (Nat.le_of_lt gy)))⟩
        rw [mkT_val, v1, v2]
        show _ = (_ && (if s w then d.val s else c.val s))
        split <;> rfl
      · rename_i g1 g2
        have e : v = w := by omega
        subst e
        obtain ⟨r1, v1, k1⟩ := jn_ok n a c (by omega) h.2.1 h'.2.1
        obtain ⟨r2, v2, k2⟩ := jn_ok n b d (by omega) h.2.2.1 h'.2.2.1
        refine ⟨mkT_RO r1 r2 (k1 v h.2.2.2.1 h'.2.2.2.1) (k2 v h.2.2.2.2 h'.2.2.2.2), fun s => ?_, fun x gx gy => mkT_Gt gx (k1 x (h.2.2.2.1.mono (Nat.le_of_lt gx)) (h'.2.2.2.1.mono (Nat.le_of_lt gy)))⟩
        rw [mkT_val, v1, v2]
        show _ = ((if s v then b.val s else a.val s) && (if s v then d.val s else c.val s))
        split <;> rfl
theorem jn_RO {t u : Tr} (h : RO t) (h' : RO u) : RO (jn t u) := (jn_ok _ t u (Nat.le_refl _) h h').1
theorem jn_val {t u : Tr} (h : RO t) (h' : RO u) (s : Nat → Bool) : (jn t u).val s = (t.val s && u.val s) := (jn_ok _ t u (Nat.le_refl _) h h').2.1 s
theorem jn_Gt {t u : Tr} (h : RO t) (h' : RO u) {x : Nat} (g : Gt x t) (g' : Gt x u) : Gt x (jn t u) := (jn_ok _ t u (Nat.le_refl _) h h').2.2 x g g'
theorem jn_self {t : Tr} (h : RO t) : jn t t = t := eq_of_val (jn_RO h h) h fun s => by rw [jn_val h h, Bool.and_self]
theorem jn_comm {t u : Tr} (h : RO t) (h' : RO u) : jn t u = jn u t := eq_of_val (jn_RO h h') (jn_RO h' h) fun s => by rw [jn_val h h', jn_val h' h, Bool.and_comm]
theorem jn_f {t : Tr} (h : RO t) : jn t (lf false) = lf false := eq_of_val (jn_RO h (show RO (lf false) from trivial)) (show RO (lf false) from trivial) fun s => by rw [jn_val h (show RO (lf false) from trivial)]; simp [val]
theorem jn_t {t : Tr} (h : RO t) : jn t (lf true) = t := eq_of_val (jn_RO h (show RO (lf true) from trivial)) h fun s => by rw [jn_val h (show RO (lf true) from trivial)]; simp [val]
def orT (t u : Tr) : Tr := ng (jn (ng t) (ng u))
theorem orT_RO {t u : Tr} (h : RO t) (h' : RO u) : RO (orT t u) := ng_RO (jn_RO (ng_RO h) (ng_RO h'))
theorem orT_val {t u : Tr} (h : RO t) (h' : RO u) (s : Nat → Bool) : (orT t u).val s = (t.val s || u.val s) := by
  unfold orT
  rw [ng_val, jn_val (ng_RO h) (ng_RO h'), ng_val, ng_val]
  simp
/-- the numbers that are asked -/
def vars : Tr → List Nat
  | lf _ => []
  | nd v l r => v :: (l.vars ++ r.vars)
def In (P : Nat → Prop) (t : Tr) : Prop := ∀ v ∈ t.vars, P v
theorem ng_vars : ∀ t : Tr, t.ng.vars = t.vars
  | lf _ => rfl
  | nd v l r => by simp only [ng, vars, ng_vars l, ng_vars r]
theorem mkT_vars {v : Nat} {l r : Tr} {P : Nat → Prop} (hv : P v) (h1 : In P l) (h2 : In P r) : In P (mkT v l r) := by
  unfold mkT
  split
  · exact h1
  · intro x hx
    simp only [vars, List.mem_cons, List.mem_append] at hx
    rcases hx with rfl | hx | hx
    · exact hv
    · exact h1 x hx
    · exact h2 x hx
theorem In.nd {P : Nat → Prop} {v : Nat} {l r : Tr} (h : In P (nd v l r)) : P v ∧ In P l ∧ In P r :=
  ⟨h v (by simp [vars]), fun x hx => h x (by simp [vars, hx]), fun x hx => h x (by simp [vars, hx])⟩
theorem jn_In {P : Nat → Prop} : ∀ (n : Nat) (t u : Tr), t.sz + u.sz ≤ n → In P t → In P u → In P (jn t u)
  | n, lf false, u, _, h, h' => by rw [jn]; exact fun _ h => by cases h
  | n, lf true, u, _, h, h' => by rw [jn]; exact h'
  | n, nd v l r, lf false, _, h, h' => by rw [jn]; exact fun _ h => by cases h
  | n, nd v l r, lf true, _, h, h' => by rw [jn]; exact h
  | 0, nd v a b, nd w c d, hn, _, _ => by simp [sz] at hn
  | n + 1, nd v a b, nd w c d, hn, h, h' => by
    rw [jn]
    simp only [sz] at hn
    split
    · exact mkT_vars h.nd.1 (jn_In n _ _ (by simp only [sz]; omega) h.nd.2.1 h') (jn_In n _ _ (by simp only [sz]; omega) h.nd.2.2 h')
    · split
      · exact mkT_vars h'.nd.1 (jn_In n _ _ (by simp only [sz]; omega) h h'.nd.2.1) (jn_In n _ _ (by simp only [sz]; omega) h h'.nd.2.2)
      · exact mkT_vars h.nd.1 (jn_In n _ _ (by omega) h.nd.2.1 h'.nd.2.1) (jn_In n _ _ (by omega) h.nd.2.2 h'.nd.2.2)
theorem ng_In {P : Nat → Prop} {t : Tr} (h : In P t) : In P t.ng := by unfold In; rw [ng_vars]; exact h
theorem orT_In {P : Nat → Prop} {t u : Tr} (h : In P t) (h' : In P u) : In P (orT t u) := ng_In (jn_In _ _ _ (Nat.le_refl _) (ng_In h) (ng_In h'))
end Tr
end Zp
end
end

section
section
set_option maxHeartbeats 4000000
open PySem
namespace Zp
open Zy
namespace Tr
def Has (L : List Tr) : Tr → Prop
  | lf _ => True
  | nd v l r => nd v l r ∈ L
inductive Cl : List Tr → Prop
  | nil : Cl []
  | snoc {L : List Tr} {v : Nat} {l r : Tr} : Cl L → RO (nd v l r) → Has L l → Has L r → nd v l r ∉ L → Cl (L ++ [nd v l r])
def ix (L : List Tr) : Tr → Nat
  | lf b => if b then 1 else 0
  | nd v l r => L.idxOf (nd v l r) + 2
def hgt : Tr → Nat
  | lf _ => 0
  | nd _ l r => max l.hgt r.hgt + 1
theorem Has.app {L M : List Tr} : ∀ {t : Tr}, Has L t → Has (L ++ M) t
  | lf _, _ => trivial
  | nd _ _ _, h => List.mem_append_left _ h
theorem ix_app {L M : List Tr} : ∀ {t : Tr}, Has L t → ix (L ++ M) t = ix L t
  | lf _, _ => rfl
  | nd v l r, h => by
    show List.idxOf _ _ + 2 = List.idxOf _ _ + 2
    rw [List.idxOf_append, if_pos (show nd v l r ∈ L from h)]
theorem Has.pre {L L' : List Tr} {t : Tr} (p : L <+: L') (h : Has L t) : Has L' t := by
  obtain ⟨M, rfl⟩ := p
  exact h.app
theorem ix_pre {L L' : List Tr} {t : Tr} (p : L <+: L') (h : Has L t) : ix L' t = ix L t := by
  obtain ⟨M, rfl⟩ := p
  exact ix_app h
theorem ix_lt {L : List Tr} : ∀ {t : Tr}, Has L t → ix L t < L.length + 2
  | lf b, _ => by cases b <;> simp [ix]
  | nd v l r, h => by
    show List.idxOf _ _ + 2 < _
    have := List.idxOf_lt_length_iff.mpr h
    omega
theorem ix_inj {L : List Tr} : ∀ {t u : Tr}, Has L t → Has L u → ix L t = ix L u → t = u
  | lf a, lf b, _, _, e => by cases a <;> cases b <;> simp [ix] at e ⊢
  | lf a, nd _ _ _, _, _, e => by cases a <;> simp [ix] at e
  | nd _ _ _, lf a, _, _, e => by
    cases a
    · simp [ix] at e
    · simp [ix] at e
  | nd v l r, nd w c d, h, h', e => by
    have e : List.idxOf (nd v l r) L + 2 = List.idxOf (nd w c d) L + 2 := e
    have e3 : List.idxOf (nd v l r) L = List.idxOf (nd w c d) L := by omega
    have e1 : L[List.idxOf (nd v l r) L]? = some (nd v l r) := by rw [List.getElem?_eq_getElem (List.idxOf_lt_length_iff.mpr h), List.getElem_idxOf]
    have e2 : L[List.idxOf (nd w c d) L]? = some (nd w c d) := by rw [List.getElem?_eq_getElem (List.idxOf_lt_length_iff.mpr h'), List.getElem_idxOf]
    rw [e3, e2] at e1
    exact (Option.some.inj e1).symm
theorem Cl.nodup {L : List Tr} (h : Cl L) : L.Nodup := by
  induction h with
  | nil => exact List.nodup_nil
  | snoc _ _ _ _ hn ih => exact List.nodup_append.mpr ⟨ih, by simp, fun a ha b hb => by rw [List.mem_singleton.mp hb]; exact fun e => hn (e ▸ ha)⟩
theorem Cl.mem {L : List Tr} (h : Cl L) : ∀ {t : Tr}, t ∈ L → ∃ v l r, t = nd v l r ∧ RO t ∧ Has L l ∧ Has L r := by
  induction h with
  | nil => intro t h; cases h
  | snoc c ro hl hr _ ih =>
    intro t ht
    rcases List.mem_append.mp ht with ht | ht
    · obtain ⟨v, l, r, e, h1, h2, h3⟩ := ih ht
      exact ⟨v, l, r, e, h1, h2.app, h3.app⟩
    · rw [List.mem_singleton.mp ht]
      exact ⟨_, _, _, rfl, ro, hl.app, hr.app⟩
theorem Cl.node {L : List Tr} (h : Cl L) {v : Nat} {l r : Tr} (m : nd v l r ∈ L) : RO (nd v l r) ∧ Has L l ∧ Has L r := by
  obtain ⟨_, _, _, e, h1, h2, h3⟩ := h.mem m
  cases e
  exact ⟨h1, h2, h3⟩
theorem Cl.RO {L : List Tr} (h : Cl L) : ∀ {t : Tr}, Has L t → RO t
  | lf _, _ => trivial
  | nd _ _ _, m => (h.node m).1
/-- a node's row -/
def row (L : List Tr) : Tr → D
  | nd v l r => .tup [.int v, .int (ix L l), .int (ix L r)]
  | lf _ => .non
theorem row_pre {L L' : List Tr} (p : L <+: L') {v : Nat} {l r : Tr} (hl : Has L l) (hr : Has L r) : row L' (nd v l r) = row L (nd v l r) := by
  show D.tup [_, .int (ix L' l), .int (ix L' r)] = D.tup [_, .int (ix L l), .int (ix L r)]
  rw [ix_pre p hl, ix_pre p hr]
theorem row_inj {L : List Tr} {v w : Nat} {l r c d : Tr} (hl : Has L l) (hr : Has L r) (hc : Has L c) (hd : Has L d) (e : row L (nd v l r) = row L (nd w c d)) : nd v l r = nd w c d := by
  simp only [row, D.tup.injEq, List.cons.injEq, D.int.injEq, and_true] at e
  rw [ix_inj hl hc (by omega), ix_inj hr hd (by omega), show v = w by omega]
def base : List D := [.tup [.int 0, .int 0, .int 0], .tup [.int 0, .int 1, .int 1]]
def nodesD (L : List Tr) : List D := base ++ L.map (row L)
def plc (L : List Tr) : List (D × D) := L.map fun t => (row L t, .int (ix L t))
theorem map_pre {α : Type} {L : List Tr} (h : Cl L) {M : List Tr} (f : List Tr → Tr → α) (hf : ∀ v l r, nd v l r ∈ L → f (L ++ M) (nd v l r) = f L (nd v l r)) : L.map (f (L ++ M)) = L.map (f L) :=
  List.map_congr_left fun t ht => by
    obtain ⟨v, l, r, rfl, _, _, _⟩ := h.mem ht
    exact hf v l r ht
theorem nodesD_snoc {L : List Tr} (h : Cl L) {v : Nat} {l r : Tr} (hl : Has L l) (hr : Has L r) : nodesD (L ++ [nd v l r]) = nodesD L ++ [row L (nd v l r)] := by
  unfold nodesD
  rw [List.map_append, map_pre h row fun v l r m => row_pre ⟨_, rfl⟩ (h.node m).2.1 (h.node m).2.2, List.append_assoc]
  congr 2
  rw [List.map_cons, List.map_nil, row_pre ⟨_, rfl⟩ hl hr]
theorem ix_new {L : List Tr} {v : Nat} {l r : Tr} (hn : nd v l r ∉ L) : ix (L ++ [nd v l r]) (nd v l r) = L.length + 2 := by
  show List.idxOf _ _ + 2 = _
  rw [List.idxOf_append, if_neg hn]
  simp
theorem plc_snoc {L : List Tr} (h : Cl L) {v : Nat} {l r : Tr} (hl : Has L l) (hr : Has L r) (hn : nd v l r ∉ L) : plc (L ++ [nd v l r]) = plc L ++ [(row L (nd v l r), .int ((L.length + 2 : Nat) : Int))] := by
  unfold plc
  rw [List.map_append, map_pre h (fun L t => (row L t, D.int (ix L t))) fun v l r m => by
    show (row (L ++ _) _, D.int (ix (L ++ _) _)) = _
    rw [row_pre ⟨_, rfl⟩ (h.node m).2.1 (h.node m).2.2, ix_app (show Has L (nd v l r) from m)]]
  congr 1
  rw [List.map_cons, List.map_nil, row_pre ⟨_, rfl⟩ hl hr, ix_new hn]
theorem nodes_len (L : List Tr) : (nodesD L).length = L.length + 2 := by
  unfold nodesD base
  simp
theorem nodes_at {L : List Tr} {v : Nat} {l r : Tr} (m : nd v l r ∈ L) : L2.atI (nodesD L) (ix L (nd v l r) : Int) = some (row L (nd v l r)) := by
  apply L2.atI_nat
  show (nodesD L)[List.idxOf (nd v l r) L + 2]? = _
  unfold nodesD base
  have h := List.idxOf_lt_length_iff.mpr m
  rw [List.getElem?_append_right (by simp)]
  simp only [List.length_cons, List.length_nil, Nat.zero_add, Nat.add_sub_cancel]
  rw [List.getElem?_map, List.getElem?_eq_getElem h, List.getElem_idxOf h]
  rfl
/-- the store of these nodes -/
def St (L : List Tr) : M := .ins 0 [(0, .lst (nodesD L)), (2, .dic true (plc L))]
end Tr
/-! ### dicts as rows -/
theorem look_some {α : Type} {xs : List α} {f g : α → D} {k c : D} (h : ∀ x ∈ xs, f x = k → g x = c) (e : ∃ x ∈ xs, f x = k) : lookD (xs.map fun x => (f x, g x)) k = some c := by
  induction xs with
  | nil => obtain ⟨x, hx, _⟩ := e; cases hx
  | cons a r ih =>
    unfold lookD
    rw [List.map_cons, List.find?_cons]
    by_cases ha : f a = k
    · simp [ha, h a List.mem_cons_self ha]
    · simp only [ha, decide_false]
      obtain ⟨x, hx, hk⟩ := e
      rcases List.mem_cons.mp hx with rfl | hx
      · exact absurd hk ha
      · exact ih (fun y hy => h y (List.mem_cons_of_mem _ hy)) ⟨x, hx, hk⟩
theorem look_none {α : Type} {xs : List α} {f g : α → D} {k : D} (h : ∀ x ∈ xs, f x ≠ k) : lookD (xs.map fun x => (f x, g x)) k = none := by
  unfold lookD
  rw [List.find?_eq_none.mpr]
  · rfl
  · intro p hp
    obtain ⟨x, hx, rfl⟩ := List.mem_map.mp hp
    simpa using h x hx
theorem put_new {α : Type} {xs : List α} {f g : α → D} {k c : D} (h : ∀ x ∈ xs, f x ≠ k) : putD (xs.map fun x => (f x, g x)) k c = (xs.map fun x => (f x, g x)) ++ [(k, c)] := by
  unfold putD
  rw [if_neg]
  simp only [List.any_map, List.any_eq_true, Function.comp, decide_eq_true_eq]
  rintro ⟨x, hx, e⟩
  exact h x hx e
theorem put_old {α : Type} {xs : List α} {f g : α → D} {k c : D} (h : ∀ x ∈ xs, f x = k → g x = c) (e : ∃ x ∈ xs, f x = k) : putD (xs.map fun x => (f x, g x)) k c = xs.map fun x => (f x, g x) := by
  unfold putD
  rw [if_pos]
  · rw [List.map_map]
    apply List.map_congr_left
    intro x hx
    simp only [Function.comp]
    by_cases hk : f x = k
    · rw [if_pos hk, h x hx hk]
    · rw [if_neg hk]
  · simp only [List.any_map, List.any_eq_true, Function.comp, decide_eq_true_eq]
    exact e
def insL {α : Type} [DecidableEq α] (t : α) (M : List α) : List α := if t ∈ M then M else M ++ [t]
theorem mem_insL {α : Type} [DecidableEq α] (t : α) (M : List α) : t ∈ insL t M := by unfold insL; split <;> simp_all
theorem of_insL {α : Type} [DecidableEq α] {t x : α} {M : List α} (h : x ∈ insL t M) : x ∈ M ∨ x = t := by
  unfold insL at h
  split at h
  · exact .inl h
  · simpa using h
theorem len_insL {α : Type} [DecidableEq α] (t : α) (M : List α) : (insL t M).length ≤ M.length + 1 := by unfold insL; split <;> simp
namespace Tr
theorem plc_look {L : List Tr} (h : Cl L) {v : Nat} {l r : Tr} (hl : Has L l) (hr : Has L r) : lookD (plc L) (row L (nd v l r)) = if nd v l r ∈ L then some (.int (ix L (nd v l r))) else none := by
  unfold plc
  have inj : ∀ x ∈ L, row L x = row L (nd v l r) → x = nd v l r := fun x hx e => by
    obtain ⟨w, c, d, rfl, _, hc, hd⟩ := h.mem hx
    exact row_inj hc hd hl hr e
  split
  · rename_i m
    exact look_some (f := row L) (g := fun t => D.int (ix L t)) (fun x hx e => by rw [inj x hx e]) ⟨_, m, rfl⟩
  · rename_i m
    exact look_none (f := row L) (g := fun t => D.int (ix L t)) fun x hx e => m (inj x hx e ▸ hx)
theorem plc_put {L : List Tr} (h : Cl L) {v : Nat} {l r : Tr} (hl : Has L l) (hr : Has L r) (hn : nd v l r ∉ L) : putD (plc L) (row L (nd v l r)) (.int ((L.length + 2 : Nat) : Int)) = plc (L ++ [nd v l r]) := by
  rw [plc_snoc h hl hr hn]
  unfold plc
  refine put_new (f := row L) (g := fun t => D.int (ix L t)) fun x hx e => hn ?_
  obtain ⟨w, c, d, rfl, _, hc, hd⟩ := h.mem hx
  rw [row_inj hc hd hl hr e] at hx
  exact hx
/-- memo of negations -/
def mm (L M : List Tr) : List (D × D) := M.map fun t => (.int (ix L t), .int (ix L (ng t)))
def MOk (L M : List Tr) : Prop := ∀ t ∈ M, Has L t ∧ Has L (ng t)
theorem MOk.pre {L L' M : List Tr} (p : L <+: L') (h : MOk L M) : MOk L' M := fun t ht => ⟨(h t ht).1.pre p, (h t ht).2.pre p⟩
theorem mm_pre {L L' M : List Tr} (p : L <+: L') (h : MOk L M) : mm L' M = mm L M := by
  unfold mm
  apply List.map_congr_left
  intro t ht
  rw [ix_pre p (h t ht).1, ix_pre p (h t ht).2]
theorem mm_key {L M : List Tr} (h : MOk L M) {t : Tr} (ht : Has L t) : ∀ x ∈ M, (D.int (ix L x)) = .int (ix L t) → x = t := fun x hx e => by
  rw [D.int.injEq] at e
  exact ix_inj (h x hx).1 ht (by omega)
theorem mm_look {L M : List Tr} (h : MOk L M) {t : Tr} (ht : Has L t) : lookD (mm L M) (.int (ix L t)) = if t ∈ M then some (.int (ix L (ng t))) else none := by
  unfold mm
  split
  · rename_i m
    exact look_some (f := fun t => D.int (ix L t)) (g := fun t => D.int (ix L (ng t))) (fun x hx e => by rw [mm_key h ht x hx e]) ⟨t, m, rfl⟩
  · rename_i m
    exact look_none (f := fun t => D.int (ix L t)) (g := fun t => D.int (ix L (ng t))) fun x hx e => m (mm_key h ht x hx e ▸ hx)
theorem mm_put {L M : List Tr} (h : MOk L M) {t : Tr} (ht : Has L t) : putD (mm L M) (.int (ix L t)) (.int (ix L (ng t))) = mm L (insL t M) := by
  unfold insL
  split
  · rename_i m
    exact put_old (f := fun t => D.int (ix L t)) (g := fun t => D.int (ix L (ng t))) (fun x hx e => by rw [mm_key h ht x hx e]) ⟨t, m, rfl⟩
  · rename_i m
    unfold mm
    rw [List.map_append]
    exact put_new (f := fun t => D.int (ix L t)) (g := fun t => D.int (ix L (ng t))) fun x hx e => m (mm_key h ht x hx e ▸ hx)
/-- memo of conjunctions -/
def kj (L : List Tr) (p : Tr × Tr) : D := .tup [.int (min (ix L p.1) (ix L p.2) : Nat), .int (max (ix L p.1) (ix L p.2) : Nat)]
def jm (L : List Tr) (P : List (Tr × Tr)) : List (D × D) := P.map fun p => (kj L p, .int (ix L (jn p.1 p.2)))
def POk (L : List Tr) (P : List (Tr × Tr)) : Prop := ∀ p ∈ P, Has L p.1 ∧ Has L p.2 ∧ Has L (jn p.1 p.2)
theorem POk.pre {L L' : List Tr} {P : List (Tr × Tr)} (p : L <+: L') (h : POk L P) : POk L' P := fun t ht => ⟨(h t ht).1.pre p, (h t ht).2.1.pre p, (h t ht).2.2.pre p⟩
theorem jm_pre {L L' : List Tr} {P : List (Tr × Tr)} (p : L <+: L') (h : POk L P) : jm L' P = jm L P := by
  unfold jm
  apply List.map_congr_left
  intro t ht
  unfold kj
  rw [ix_pre p (h t ht).1, ix_pre p (h t ht).2.1, ix_pre p (h t ht).2.2]
theorem kj_val {L : List Tr} (c : Cl L) {p q : Tr × Tr} (h1 : Has L p.1) (h2 : Has L p.2) (g1 : Has L q.1) (g2 : Has L q.2) (e : kj L p = kj L q) : jn p.1 p.2 = jn q.1 q.2 := by
  simp only [kj, D.tup.injEq, List.cons.injEq, D.int.injEq, and_true] at e
  have : (ix L p.1 = ix L q.1 ∧ ix L p.2 = ix L q.2) ∨ (ix L p.1 = ix L q.2 ∧ ix L p.2 = ix L q.1) := by omega
  rcases this with ⟨a, b⟩ | ⟨a, b⟩
  · rw [ix_inj h1 g1 a, ix_inj h2 g2 b]
  · rw [ix_inj h1 g2 a, ix_inj h2 g1 b]
    exact jn_comm (c.RO g2) (c.RO g1)
theorem jm_look {L : List Tr} (c : Cl L) {P : List (Tr × Tr)} (h : POk L P) {q : Tr × Tr} (h1 : Has L q.1) (h2 : Has L q.2) : lookD (jm L P) (kj L q) = if ∃ p ∈ P, kj L p = kj L q then some (.int (ix L (jn q.1 q.2))) else none := by
  unfold jm
  split
  · rename_i m
    exact look_some (f := kj L) (g := fun p => D.int (ix L (jn p.1 p.2))) (fun x hx e => by rw [kj_val c (h x hx).1 (h x hx).2.1 h1 h2 e]) m
  · rename_i m
    exact look_none (f := kj L) (g := fun p => D.int (ix L (jn p.1 p.2))) fun x hx e => m ⟨x, hx, e⟩
/-- the memo with one more -/
def insP (L : List Tr) (q : Tr × Tr) (P : List (Tr × Tr)) : List (Tr × Tr) := if (P.any fun p => decide (kj L p = kj L q)) = true then P else P ++ [q]
theorem jm_put {L : List Tr} (c : Cl L) {P : List (Tr × Tr)} (h : POk L P) {q : Tr × Tr} (h1 : Has L q.1) (h2 : Has L q.2) : putD (jm L P) (kj L q) (.int (ix L (jn q.1 q.2))) = jm L (insP L q P) := by
  unfold insP
  split
  · rename_i m
    rw [List.any_eq_true] at m
    obtain ⟨x, hx, e⟩ := m
    exact put_old (f := kj L) (g := fun p => D.int (ix L (jn p.1 p.2))) (fun x hx e => by rw [kj_val c (h x hx).1 (h x hx).2.1 h1 h2 e]) ⟨x, hx, of_decide_eq_true e⟩
  · rename_i m
    unfold jm
    rw [List.map_append]
    exact put_new (f := kj L) (g := fun p => D.int (ix L (jn p.1 p.2))) fun x hx e => m (List.any_eq_true.mpr ⟨x, hx, decide_eq_true e⟩)
theorem mem_insP (L : List Tr) (q : Tr × Tr) (P : List (Tr × Tr)) : ∃ p ∈ insP L q P, kj L p = kj L q := by
  unfold insP
  split
  · rename_i m
    rw [List.any_eq_true] at m
    obtain ⟨x, hx, e⟩ := m
    exact ⟨x, hx, of_decide_eq_true e⟩
  · exact ⟨q, by simp, rfl⟩
theorem of_insP {L : List Tr} {q x : Tr × Tr} {P : List (Tr × Tr)} (h : x ∈ insP L q P) : x ∈ P ∨ x = q := by
  unfold insP at h
  split at h
  · exact .inl h
  · simpa using h
theorem len_insP (L : List Tr) (q : Tr × Tr) (P : List (Tr × Tr)) : (insP L q P).length ≤ P.length + 1 := by unfold insP; split <;> simp
end Tr
end Zp
end
end

section
section
set_option maxHeartbeats 8000000
open PySem
namespace Zp
open Zy
variable {wl n : Nat}
def cellv (ns : List Int) (k : Nat) : Int := ns[k]?.getD 0
theorem cell_ok (ns : List Int) (k : Nat) : semF tt.pg wl (n + 1) 9 [.rol (ns.map .int), .i (.int k)] = .ok (.i (.int (cellv ns k))) [.rol (ns.map .int), .i (.int k)] := by
  apply wF_eq (X := fX)
  rw [r9]
  by_cases h : k < ns.length
  · have h2 : L2.atI (ns.map D.int) (k : Int) = some (.int (cellv ns k)) := L2.atI_nat (by simp [cellv, h])
    simp_arith [B9, h, h2]
  · have h2 : cellv ns k = 0 := by simp [cellv, h]
    simp_arith [B9, h, h2]
theorem take_w {r : List Int} {m : Int} (hm : 0 < m) {K : M → List M → Prop} {X : Ex → List M → Prop} (h : ∀ (v : Nat) (r' : List Int), (v : Int) < m → r'.length ≤ r.length → K (.i (.int v)) [.lst (r'.map .int), .i (.int m)]) :
    @wF (semF tt.pg wl (n + 1) 11 [.lst (r.map .int), .i (.int m)]) K X := by
  rw [r11]
  cases r with
  | nil =>
    have := h 0 [] hm (Nat.le_refl _)
    simp_arith [B11]
    exact this
  | cons x r =>
    obtain ⟨v, hv⟩ := Int.eq_ofNat_of_zero_le (Int.emod_nonneg x (show m ≠ 0 by omega))
    have h1 : dropL (D.int x :: r.map D.int) 0 = some (.int x, r.map .int) := by simp [dropL, rngOk, L2.ixN]
    have := h v r (by rw [← hv]; exact Int.emod_lt_of_pos _ hm) (by simp)
    simp_arith [B11, h1, hm, hv]
    exact this
theorem dv18 (cv : Int) : L2.CDivW cv 1000000000000000000 := ⟨by decide, by decide +kernel⟩
theorem dv997 (cv : Int) : L2.CDivW cv 997 := ⟨by decide, by decide +kernel⟩
theorem dv1009 (cv : Int) : L2.CDivW cv 1009 := ⟨by decide, by decide +kernel⟩
theorem pw18 : L2.CPow 10 18 := by decide
theorem mo (a : Int) {b : Int} (h : decide (-(2 ^ 64) < b ∧ b < 2 ^ 64) = true) : mulOk a b := .inl (.inr (of_decide_eq_true h))
theorem draws_w (ns : List Int) (k c : Nat) (hc : c ≤ 1000) {K : M → List M → Prop} {X : Ex → List M → Prop} (h : ∀ fs : List Int, fs.length ≤ c → K (.lst (fs.map .int)) [.rol (ns.map .int), .i (.int k), .i (.int c)]) :
    @wF (semF tt.pg wl (n + 2) 10 [.rol (ns.map .int), .i (.int k), .i (.int c)]) K X := by
  rw [r10]
  have hr := rngOk_nat (n := c) (by omega)
  have c0 := cell_ok (wl := wl) (n := n) ns k
  have fin : ∀ (cv rest seed : Int), @wSs (sgN tt wl (n + 1)) (B10.drop 5) [.rol (ns.map .int), .i (.int k), .i (.int c), .i (.int cv), .i (.int rest), .i (.int seed), .lst [], .hole] ⟨fun δ => K (.i .non) [slot δ 0, slot δ 1, slot δ 2], fun _ => False, fun _ => False, fun v δ => K v [slot δ 0, slot δ 1, slot δ 2], fun x δ => X x [slot δ 0, slot δ 1, slot δ 2]⟩ := by
    intro cv rest seed
    simp_arith [B10, hr]
    refine wL_rng [4, 5, 6, 7] (fun i vs => ∃ (rest seed : Int) (fs : List Int) (a : M), vs = [.i (.int rest), .i (.int seed), .lst (fs.map .int), a] ∧ fs.length ≤ i) ?_ ?_ ?_
    · exact ⟨[_, _, _, _], rfl, _, _, [], _, rfl, by simp⟩
    · rintro i vs hi ⟨rest, seed, fs, a, rfl, hl⟩
      have s1 : fs.length < sizeLine := szt (by omega)
      by_cases h0 : 0 < rest
      · simp_arith [h0, s1, dv997, mo seed (b := 16807) rfl, mo (i : Int) (b := 101) rfl]
        exact stp_mk [_, _, _, _] rfl ⟨_, _, fs ++ [rest % 997], _, by rw [List.map_append]; rfl, by simp; omega⟩
      · simp_arith [h0, s1, dv1009, mo seed (b := 16807) rfl, mo (i : Int) (b := 101) rfl]
        exact stp_mk [_, _, _, _] rfl ⟨_, _, fs ++ [_], _, by rw [List.map_append]; rfl, by simp; omega⟩
    · rintro vs ⟨rest, seed, fs, a, rfl, hl⟩
      simp_arith
      exact h fs hl
  have e : B10 = B10.take 5 ++ B10.drop 5 := rfl
  rw [wF_fin, e, wSs_app]
  generalize B10.drop 5 = R5 at fin ⊢
  simp_arith [B10]
  refine wF_by c0 ?_
  generalize cellv ns k = cv
  by_cases h1 : 1000000000000000000 ≤ cv
  · simp_arith [h1, pw18, dv18, mo cv (b := 48271) rfl, mo (k : Int) (b := 69621) rfl]
    exact fin _ _ _
  · simp_arith [h1, pw18, dv18, mo cv (b := 48271) rfl, mo (k : Int) (b := 69621) rfl]
    exact fin _ _ _
end Zp
end
end

section
section
set_option maxHeartbeats 8000000
open PySem
namespace Zp
open Zy
variable {wl n : Nat}
def encN (k : Nat) : D := .int k
def encS (R : List Nat) : D := .tup (R.map encN)
theorem inNt (l : List Nat) (x : Nat) : inM (.i (.int (x : Int))) (.i (.tup (l.map encN))) = some (decide (x ∈ l)) :=
  inM_tup (enc := encN) (x := x) (fun a b h => by simp [encN, D.norm] at h; omega) rfl fun _ _ => rfl
theorem inNl (l : List Nat) (x : Nat) : inM (.i (.int (x : Int))) (.lst (l.map encN)) = some (decide (x ∈ l)) :=
  inM_lst (enc := encN) (x := x) (fun a b h => by simp [encN, D.norm] at h; omega) rfl fun _ _ => rfl
theorem inNr (l : List Nat) (x : Nat) : inM (.i (.int (x : Int))) (.rol (l.map encN)) = some (decide (x ∈ l)) := inNl l x
theorem allB_map {α : Type} (f : α → Bool) : ∀ l : List α, allB (l.map fun x => D.bl (f x)) = some (l.map f)
  | [] => rfl
  | x :: r => by
    show (allB (r.map _)).map (f x :: ·) = _
    rw [allB_map f r]
    rfl
/-- within a set -/
def inS (R S : List Nat) : Bool := R.all fun x => decide (x ∈ S)
def holdsB (rows : List (List Nat)) (S : List Nat) : Bool := rows.any fun R => inS R S
theorem insideT_ok (R S : List Nat) (hz : R.length ≤ 100) : semF tt.pg wl (n + 1) 14 [.i (encS R), .i (encS S)] = .ok (.i (.bl (inS R S))) [.i (encS R), .i (encS S)] := by
  apply wF_eq (X := fX)
  rw [r14]
  have h1 := inNt S
  simp_arith [B14, encS]
  refine wLc_map R encN (fun x => .bl (decide (x ∈ S))) rfl (fun x hx => ?_) (szt (by omega)) ?_
  · simp_arith [encN, h1]
  · simp_arith [allB_map, List.all_map]
    unfold inS
    simp
theorem insideR_ok (R S : List Nat) (hz : R.length ≤ 100) : semF tt.pg wl (n + 1) 14 [.i (encS R), .rol (S.map encN)] = .ok (.i (.bl (inS R S))) [.i (encS R), .rol (S.map encN)] := by
  apply wF_eq (X := fX)
  rw [r14]
  have h1 := inNr S
  simp_arith [B14, encS]
  refine wLc_map R encN (fun x => .bl (decide (x ∈ S))) rfl (fun x hx => ?_) (szt (by omega)) ?_
  · simp_arith [encN, h1]
  · simp_arith [allB_map, List.all_map]
    unfold inS
    simp
/-- rows as they are drawn -/
structure Fam (m : Nat) (rows : List (List Nat)) : Prop where
  l : rows.length ≤ 6
  s : ∀ R ∈ rows, R.Pairwise (· < ·)
  b : ∀ R ∈ rows, ∀ x ∈ R, x < m
theorem asc_len : ∀ (k m : Nat) (R : List Nat), R.Pairwise (· < ·) → (∀ x ∈ R, k ≤ x ∧ x < m) → R.length ≤ m - k
  | _, _, [], _, _ => Nat.zero_le _
  | k, m, x :: r, h, b => by
    rw [List.pairwise_cons] at h
    have hx := b x List.mem_cons_self
    have := asc_len (x + 1) m r h.2 fun y hy => ⟨h.1 y hy, (b y (List.mem_cons_of_mem _ hy)).2⟩
    rw [List.length_cons]
    omega
theorem Fam.len {m : Nat} {rows : List (List Nat)} (h : Fam m rows) : ∀ R ∈ rows, R.length ≤ m := fun R hR => by
  have := asc_len 0 m R (h.s R hR) fun x hx => ⟨Nat.zero_le _, h.b R hR x hx⟩
  omega
theorem family_w {ns : List Int} {k m : Nat} (hm : m ≤ 10) {K : M → List M → Prop} {X : Ex → List M → Prop}
    (h : ∀ rows : List (List Nat), Fam m rows → K (.lst (rows.map encS)) [.rol (ns.map .int), .i (.int k), .i (.int m)]) :
    @wF (semF tt.pg wl (n + 3) 18 [.rol (ns.map .int), .i (.int k), .i (.int m)]) K X := by
  rw [r18]
  have hr := rngOk_nat (n := m) (by omega)
  simp_arith [B18]
  refine draws_w ns k 40 (by decide) fun fs lf => ?_
  simp_arith
  refine take_w (by decide) fun v fs2 hv lf2 => ?_
  have hrv := rngOk_nat (n := v) (by omega)
  simp_arith [hrv]
  refine wL_rng [3, 4, 5, 6] (fun i vs => ∃ (rows : List (List Nat)) (fs : List Int) (a : M), vs = [.lst (rows.map encS), .lst (fs.map .int), a, .hole] ∧ rows.length ≤ i ∧ (∀ R ∈ rows, R.Pairwise (· < ·)) ∧ ∀ R ∈ rows, ∀ x ∈ R, x < m) ?_ ?_ ?_
  · exact ⟨[_, _, _, _], rfl, [], _, _, rfl, by simp, by simp, by simp⟩
  · rintro i vs hi ⟨rows, fs, a, rfl, lr, h1, h2⟩
    have s1 : rows.length < sizeLine := szt (by omega)
    simp_arith [hr]
    refine wLx_pre (List.range m) (fun i => D.int (0 + (i : Nat))) [4, 6] (fun p ds vs => ∃ (R : List Nat) (fs : List Int) (a : M), ds = R.map encN ∧ vs = [.lst (fs.map .int), a] ∧ R.Sublist p) (rngL_map m 0) ?_ ?_ ?_
    · exact ⟨[_, _], rfl, [], _, _, rfl, rfl, List.Sublist.refl _⟩
    · rintro p x q ds vs e ⟨R, fs, a, rfl, rfl, hs⟩
      simp_arith
      refine take_w (by decide) fun w fs3 hw lf3 => ?_
      by_cases w2 : (w : Int) < 2
      · simp_arith [w2]
        exact stp_mk [_, _] rfl ⟨R ++ [x], fs3, _, by rw [List.map_append]; rfl, rfl, List.Sublist.append hs (List.Sublist.refl _)⟩
      · simp_arith [w2]
        exact stp_mk [_, _] rfl ⟨R, fs3, _, rfl, rfl, hs.trans (List.sublist_append_left _ _)⟩
    · rintro ds vs ⟨R, fs, a, rfl, rfl, hs⟩
      have hl := hs.length_le
      rw [List.length_range] at hl
      have s2 : R.length < sizeLine := szt (by omega)
      simp_arith [s1, s2]
      refine stp_mk [_, _, _, _] rfl ⟨rows ++ [R], fs, _, by rw [List.map_append]; rfl, by simp; omega, ?_, ?_⟩
      · intro R' hR'
        rcases List.mem_append.mp hR' with z | z
        · exact h1 R' z
        · rw [List.mem_singleton.mp z]
          exact List.pairwise_lt_range.sublist hs
      · intro R' hR'
        rcases List.mem_append.mp hR' with z | z
        · exact h2 R' z
        · rw [List.mem_singleton.mp z]
          exact fun x hx => List.mem_range.mp (hs.subset hx)
  · rintro vs ⟨rows, fs, a, rfl, lr, h1, h2⟩
    simp_arith
    exact h rows ⟨by omega, h1, h2⟩
end Zp
end
end

section
section
set_option maxHeartbeats 8000000
open PySem
namespace Zp
open Zy Tr
namespace Tr
theorem ng_hgt : ∀ t : Tr, t.ng.hgt = t.hgt
  | lf _ => rfl
  | nd v l r => by simp only [ng, hgt, ng_hgt l, ng_hgt r]
theorem cl_split {p r : List Tr} {t : Tr} (h : Cl (p ++ t :: r)) : ∃ v a b, t = nd v a b ∧ RO t ∧ Has p a ∧ Has p b ∧ t ∉ p ∧ Cl p := by
  generalize e : p ++ t :: r = L at h
  induction h generalizing r with
  | nil => simp at e
  | @snoc L v a b c ro hl hr hn ih =>
    rcases List.eq_nil_or_concat r with rfl | ⟨r', x, rfl⟩
    · have := List.append_inj' e rfl
      obtain ⟨e1, e2⟩ := this
      cases e2
      subst e1
      exact ⟨v, a, b, rfl, ro, hl, hr, hn, c⟩
    · have e' : (p ++ t :: r') ++ [x] = L ++ [nd v a b] := by rw [← e]; simp
      obtain ⟨e1, _⟩ := List.append_inj' e' rfl
      exact ih e1
/-- everything of a tree, each once, what is below first -/
def wr : Tr → List Tr → List Tr
  | lf _, Q => Q
  | nd v l r, Q => if nd v l r ∈ Q then Q else wr r (wr l Q) ++ [nd v l r]
theorem wr_pre : ∀ (t : Tr) (Q : List Tr), Q <+: wr t Q
  | lf _, Q => List.prefix_refl _
  | nd v l r, Q => by
    simp only [wr]
    split
    · exact List.prefix_refl _
    · exact ((wr_pre l Q).trans (wr_pre r _)).trans (List.prefix_append _ _)
theorem wr_has : ∀ (t : Tr) (Q : List Tr), Has (wr t Q) t
  | lf _, Q => trivial
  | nd v l r, Q => by
    show nd v l r ∈ wr (nd v l r) Q
    simp only [wr]
    split
    · assumption
    · simp
theorem wr_mem : ∀ (t : Tr) (Q : List Tr) (x : Tr), x ∈ wr t Q → x ∈ Q ∨ x.sz ≤ t.sz
  | lf _, Q, x, h => .inl h
  | nd v l r, Q, x, h => by
    simp only [wr] at h
    split at h
    · exact .inl h
    · rcases List.mem_append.mp h with h | h
      · rcases wr_mem r _ x h with h | h
        · rcases wr_mem l _ x h with h | h
          · exact .inl h
          · right; simp [sz]; omega
        · right; simp [sz]; omega
      · rw [List.mem_singleton.mp h]; exact .inr (Nat.le_refl _)
theorem wr_Cl : ∀ (t : Tr) {Q : List Tr}, Cl Q → RO t → Cl (wr t Q)
  | lf _, Q, c, _ => c
  | nd v l r, Q, c, ro => by
    simp only [wr]
    split
    · exact c
    · rename_i h
      refine .snoc (wr_Cl r (wr_Cl l c ro.2.1) ro.2.2.1) ro ((wr_has l Q).pre (wr_pre r _)) (wr_has r _) fun m => ?_
      rcases wr_mem _ _ _ m with m | m
      · rcases wr_mem _ _ _ m with m | m
        · exact h m
        · simp [sz] at m; omega
      · simp [sz] at m; omega
theorem wr_len : ∀ (t : Tr) (Q : List Tr), (wr t Q).length ≤ Q.length + t.sz
  | lf _, Q => by simp [wr, sz]
  | nd v l r, Q => by
    simp only [wr]
    split
    · omega
    · have := wr_len l Q
      have := wr_len r (wr l Q)
      simp [sz]; omega
theorem sz_hgt : ∀ t : Tr, t.sz + 1 ≤ 2 ^ t.hgt
  | lf _ => by simp [sz, hgt]
  | nd v l r => by
    have h1 := sz_hgt l
    have h2 := sz_hgt r
    have h3 : 2 ^ l.hgt ≤ 2 ^ max l.hgt r.hgt := Nat.pow_le_pow_right (by decide) (Nat.le_max_left _ _)
    have h4 : 2 ^ r.hgt ≤ 2 ^ max l.hgt r.hgt := Nat.pow_le_pow_right (by decide) (Nat.le_max_right _ _)
    simp only [sz, hgt, Nat.pow_succ]
    omega
/-- everything of a tree is among what has it -/
theorem wr_sub {L : List Tr} (c : Cl L) : ∀ (t : Tr) (Q : List Tr), Has L t → (∀ x ∈ Q, x ∈ L) → ∀ x ∈ wr t Q, x ∈ L
  | lf _, Q, _, h, x, hx => h x hx
  | nd v l r, Q, ht, h, x, hx => by
    simp only [wr] at hx
    split at hx
    · exact h x hx
    · rcases List.mem_append.mp hx with hx | hx
      · exact wr_sub c r _ (c.node ht).2.2 (wr_sub c l Q (c.node ht).2.1 h) x hx
      · rw [List.mem_singleton.mp hx]; exact ht
/-- the table of a condition -/
def tabL (t : Tr) : List Tr := wr t []
def tabD (t : Tr) : D := .tup [.tup ((tabL t).map (row (tabL t))), .int (ix (tabL t) t)]
theorem tab_Cl {t : Tr} (h : RO t) : Cl (tabL t) := wr_Cl t .nil h
theorem tab_has (t : Tr) : Has (tabL t) t := wr_has t []
/-- numbers as they are taken in -/
def nums (L p : List Tr) : List D := .int 0 :: .int 1 :: p.map fun t => D.int (ix L t)
theorem nums_at {L p : List Tr} : ∀ {t : Tr}, Has p t → L2.atI (nums L p) (ix p t : Int) = some (.int (ix L t))
  | lf b, _ => by cases b <;> exact L2.atI_nat rfl
  | nd v l r, h => by
    have h2 := List.idxOf_lt_length_iff.mpr (show nd v l r ∈ p from h)
    refine L2.atI_nat ?_
    show (p.map fun t => D.int (ix L t))[List.idxOf (nd v l r) p]? = _
    rw [List.getElem?_map, List.getElem?_eq_getElem h2, List.getElem_idxOf h2]
    rfl
theorem nums_pre {L L' p : List Tr} (q : L <+: L') (h : ∀ x ∈ p, Has L x) : nums L' p = nums L p := by
  unfold nums
  congr 2
  exact List.map_congr_left fun t ht => by rw [ix_pre q (h t ht)]
/-- numbers as they are told -/
def nmD (L Q : List Tr) : List (D × D) := (lf false :: lf true :: Q).map fun t => (.int (ix L t), .int (ix Q t))
theorem numD_look {L Q : List Tr} (h : ∀ x ∈ Q, Has L x) {t : Tr} (ht : Has L t) : lookD (nmD L Q) (.int (ix L t)) = if t ∈ lf false :: lf true :: Q then some (.int (ix Q t)) else none := by
  have hs : ∀ x ∈ lf false :: lf true :: Q, D.int (ix L x) = .int (ix L t) → x = t := fun x hx e => by
    rw [D.int.injEq] at e
    refine ix_inj ?_ ht (by omega)
    rcases List.mem_cons.mp hx with rfl | hx
    · trivial
    rcases List.mem_cons.mp hx with rfl | hx
    · trivial
    exact h x hx
  unfold nmD
  split
  · rename_i m
    exact look_some (f := fun t => D.int (ix L t)) (g := fun t => D.int (ix Q t)) (fun x hx e => by rw [hs x hx e]) ⟨t, m, rfl⟩
  · rename_i m
    exact look_none (f := fun t => D.int (ix L t)) (g := fun t => D.int (ix Q t)) fun x hx e => m (hs x hx e ▸ hx)
theorem numD_has {L Q : List Tr} (h : ∀ x ∈ Q, Has L x) {t : Tr} (ht : Has L t) (hq : Has Q t) : lookD (nmD L Q) (.int (ix L t)) = some (.int (ix Q t)) := by
  rw [numD_look h ht, if_pos]
  cases t with
  | lf b => cases b <;> simp
  | nd v l r => exact List.mem_cons_of_mem _ (List.mem_cons_of_mem _ hq)
theorem numD_put {L Q : List Tr} (c : Cl Q) (h : ∀ x ∈ Q, Has L x) {v : Nat} {l r : Tr} (ht : Has L (nd v l r)) (hn : nd v l r ∉ Q) : putD (nmD L Q) (.int (ix L (nd v l r))) (.int ((Q.length + 2 : Nat) : Int)) = nmD L (Q ++ [nd v l r]) := by
  have hs : ∀ x ∈ lf false :: lf true :: Q, D.int (ix L x) ≠ .int (ix L (nd v l r)) := fun x hx e => by
    rw [D.int.injEq] at e
    have hx2 : Has L x := by
      rcases List.mem_cons.mp hx with rfl | hx
      · trivial
      rcases List.mem_cons.mp hx with rfl | hx
      · trivial
      exact h x hx
    have := ix_inj hx2 ht (by omega)
    subst this
    simp at hx
    exact hn hx
  unfold nmD
  rw [put_new (f := fun t => D.int (ix L t)) (g := fun t => D.int (ix Q t)) hs, ← ix_new hn]
  rw [← List.cons_append, ← List.cons_append, List.map_append]
  congr 1
  apply List.map_congr_left
  intro x hx
  show (_, D.int (ix Q x)) = (_, D.int (ix (Q ++ _) x))
  rcases List.mem_cons.mp hx with rfl | hx
  · rfl
  rcases List.mem_cons.mp hx with rfl | hx
  · rfl
  obtain ⟨w, a, b, rfl, _, _, _⟩ := c.mem hx
  rw [ix_app (show Has Q (nd w a b) from hx)]
def rowsD (Q : List Tr) : List D := Q.map (row Q)
theorem rowsD_snoc {L : List Tr} (h : Cl L) {v : Nat} {l r : Tr} (hl : Has L l) (hr : Has L r) : rowsD (L ++ [nd v l r]) = rowsD L ++ [.tup [.int v, .int (ix L l), .int (ix L r)]] := by
  unfold rowsD
  rw [List.map_append, map_pre h row fun v l r m => row_pre ⟨_, rfl⟩ (h.node m).2.1 (h.node m).2.2]
  congr 1
  rw [List.map_cons, List.map_nil, row_pre ⟨_, rfl⟩ hl hr]
  rfl
end Tr
end Zp
end
end

section
section
set_option maxHeartbeats 8000000
open PySem
namespace Zp
open Zy Tr
variable {wl n : Nat}
/-! ### rows of three numbers -/
abbrev T3 := Nat × Nat × Nat
def encT (t : T3) : D := .tup [.int t.1, .int t.2.1, .int t.2.2]
theorem encT_inj (a b : T3) (h : (encT a).norm = (encT b).norm) : a = b := by
  obtain ⟨a1, a2, a3⟩ := a
  obtain ⟨b1, b2, b3⟩ := b
  simp [encT, D.norm, D.norms] at h
  obtain ⟨h1, h2, h3⟩ := h
  rw [show a1 = b1 by omega, show a2 = b2 by omega, show a3 = b3 by omega]
theorem encT_shp (a : T3) : (encT a).shp = true := by unfold encT; rw [shp_tup]; simp [D.shs, sh_int]
theorem encT_shs : ∀ l : List T3, D.shs 63 (l.map encT) = true
  | [] => rfl
  | a :: l => by
    have h := encT_shs l
    rw [List.map_cons, D.shs, h]
    simp [encT, D.sh, D.shs]
theorem inT (l : List T3) (x : T3) : inM (.i (encT x)) (.lst (l.map encT)) = some (decide (x ∈ l)) := inM_lst (enc := encT) encT_inj (encT_shp x) fun a _ => encT_shp a
theorem idxT {l : List T3} {x : T3} (h : x ∈ l) : idxL (l.map encT) (encT x) = some (.i (.int (l.idxOf x : Nat))) := by
  unfold idxL
  rw [if_pos ⟨encT_shp x, by rw [lst_shaped]; exact encT_shs l⟩, List.findIdx?_map]
  have e : ((fun z : D => z.deq (encT x)) ∘ encT) = fun y => y == x := by
    funext y
    show (encT y).deq (encT x) = (y == x)
    rw [deq_norm, Bool.eq_iff_iff, decide_eq_true_eq, beq_iff_eq]
    exact ⟨encT_inj y x, fun h => by rw [h]⟩
  rw [e, List.findIdx?_eq_guard_findIdx_lt]
  have hlt : List.findIdx (fun y => y == x) l < l.length := List.findIdx_lt_length_of_exists ⟨x, h, by simp⟩
  simp only [Option.guard, hlt, decide_true, if_true, Option.map_some]
  rfl
theorem idxOf_inj {α β : Type} [BEq α] [LawfulBEq α] [BEq β] [LawfulBEq β] {f : α → β} {x : α} : ∀ {l : List α}, (∀ y ∈ l, f y = f x → y = x) → (l.map f).idxOf (f x) = l.idxOf x
  | [], _ => rfl
  | y :: l, h => by
    rw [List.map_cons, List.idxOf_cons, List.idxOf_cons]
    rcases Classical.em (y = x) with e | e
    · subst e; simp
    · have e2 : ¬ f y = f x := fun z => e (h y List.mem_cons_self z)
      rw [show (f y == f x) = false by simpa using e2, show (y == x) = false by simpa using e, idxOf_inj fun z hz => h z (List.mem_cons_of_mem _ hz)]
/-- a node's row -/
def key (L : List Tr) : Tr → T3
  | nd v l r => (v, ix L l, ix L r)
  | lf _ => (0, 0, 0)
def keys (L : List Tr) : List T3 := L.map (key L)
theorem keys_rows {L : List Tr} (c : Cl L) : (keys L).map encT = rowsD L := by
  unfold keys rowsD
  rw [List.map_map]
  refine List.map_congr_left fun t ht => ?_
  obtain ⟨v, l, r, rfl, _⟩ := c.mem ht
  rfl
theorem key_inj {L : List Tr} (c : Cl L) {v : Nat} {l r : Tr} (hl : Has L l) (hr : Has L r) : ∀ y ∈ L, key L y = key L (nd v l r) → y = nd v l r := fun y hy e => by
  obtain ⟨w, a, b, rfl, _, h1, h2⟩ := c.mem hy
  simp only [key, Prod.mk.injEq] at e
  rw [ix_inj h1 hl e.2.1, ix_inj h2 hr e.2.2, e.1]
theorem key_mem {L : List Tr} (c : Cl L) {v : Nat} {l r : Tr} (hl : Has L l) (hr : Has L r) : (v, ix L l, ix L r) ∈ keys L ↔ nd v l r ∈ L := by
  constructor
  · intro h
    obtain ⟨y, hy, e⟩ := List.mem_map.mp h
    rw [← key_inj c hl hr y hy e]
    exact hy
  · exact fun h => List.mem_map.mpr ⟨_, h, rfl⟩
theorem row_in {L : List Tr} (c : Cl L) {v : Nat} {l r : Tr} (hl : Has L l) (hr : Has L r) : inM (.i (.tup [.int v, .int (ix L l), .int (ix L r)])) (.lst (rowsD L)) = some (decide (nd v l r ∈ L)) := by
  rw [← keys_rows c]
  have := inT (keys L) (v, ix L l, ix L r)
  simp only [encT] at this
  rw [this]
  congr 1
  exact decide_eq_decide.mpr (key_mem c hl hr)
theorem row_idx {L : List Tr} (c : Cl L) {v : Nat} {l r : Tr} (hl : Has L l) (hr : Has L r) (h : nd v l r ∈ L) : idxL (rowsD L) (.tup [.int v, .int (ix L l), .int (ix L r)]) = some (.i (.int (L.idxOf (nd v l r) : Nat))) := by
  rw [← keys_rows c]
  have := idxT (l := keys L) (x := (v, ix L l, ix L r)) ((key_mem c hl hr).mpr h)
  simp only [encT] at this
  rw [this]
  have e := idxOf_inj (f := key L) (x := nd v l r) (l := L) (key_inj c hl hr)
  show some (M.i (D.int ((keys L).idxOf (v, ix L l, ix L r) : Nat))) = _
  unfold keys
  rw [show ((v, ix L l, ix L r) : T3) = key L (nd v l r) from rfl, e]
/-! ### every other one -/
def ev {α : Type} : List α → List α
  | [] => []
  | [x] => [x]
  | x :: _ :: r => x :: ev r
def od {α : Type} : List α → List α
  | [] => []
  | [_] => []
  | _ :: y :: r => y :: od r
theorem range_two (f : Nat → Nat) (n : Nat) : (List.range (n + 1)).map f = f 0 :: (List.range n).map fun i => f (i + 1) := by
  rw [List.range_succ_eq_map, List.map_cons, List.map_map]
  rfl
theorem fm_congr {α β : Type} {f g : α → Option β} : ∀ {l : List α}, (∀ x ∈ l, f x = g x) → l.filterMap f = l.filterMap g
  | [], _ => rfl
  | x :: l, h => by
    rw [List.filterMap_cons, List.filterMap_cons, h x List.mem_cons_self, fm_congr fun y hy => h y (List.mem_cons_of_mem _ hy)]
theorem pick0 {α : Type} : ∀ (k : Nat) (l : List α), l.length = 2 * k → ((List.range k).map fun i => 2 * i).filterMap (fun i => l[i]?) = ev l
  | 0, l, h => by
    have : l = [] := List.length_eq_zero_iff.mp (by omega)
    subst this
    rfl
  | k + 1, l, h => by
    match l, h with
    | x :: y :: r, h =>
      have ih := pick0 k r (by simp at h; omega)
      rw [range_two, List.filterMap_cons]
      simp only [Nat.mul_zero, List.getElem?_cons_zero, ev]
      congr 1
      rw [← ih, List.filterMap_map, List.filterMap_map]
      refine fm_congr fun i _ => ?_
      show (x :: y :: r)[2 * (i + 1)]? = r[2 * i]?
      rw [show 2 * (i + 1) = 2 * i + 1 + 1 by omega]
      rfl
    | [], h => simp at h
    | [x], h => simp at h; omega
theorem pick1 {α : Type} : ∀ (k : Nat) (l : List α), l.length = 2 * k → ((List.range k).map fun i => 2 * i + 1).filterMap (fun i => l[i]?) = od l
  | 0, l, h => by
    have : l = [] := List.length_eq_zero_iff.mp (by omega)
    subst this
    rfl
  | k + 1, l, h => by
    match l, h with
    | x :: y :: r, h =>
      have ih := pick1 k r (by simp at h; omega)
      rw [range_two, List.filterMap_cons]
      simp only [Nat.mul_zero, Nat.zero_add, List.getElem?_cons_succ, List.getElem?_cons_zero, od]
      congr 1
      rw [← ih, List.filterMap_map, List.filterMap_map]
      refine fm_congr fun i _ => ?_
      show (x :: y :: r)[2 * (i + 1) + 1]? = r[2 * i + 1]?
      rw [show 2 * (i + 1) + 1 = 2 * i + 1 + 1 + 1 by omega]
      rfl
    | [], h => simp at h
    | [x], h => simp at h; omega
theorem sb_two (lo k : Nat) (h : lo ≤ 2 * k) : sliceBounds (some (lo : Int)) none (some 2) (2 * k) = ((lo : Int), ((2 * k : Nat) : Int), 2) := by
  simp only [sliceBounds, Option.getD_some, show ((2 : Int) > 0) = True by decide, if_true]
  rw [if_neg (show ¬ (lo : Int) < 0 by omega)]
  congr 1
  omega
theorem sr_two (lo k : Nat) (h : lo ≤ 1) (h2 : lo = 0 ∨ 0 < k) : sliceRange (lo : Int) ((2 * k : Nat) : Int) 2 = (List.range k).map fun i => 2 * i + lo := by
  have e : (if (lo : Int) < ((2 * k : Nat) : Int) then (((2 * k : Nat) : Int) - lo + 2 - 1) / 2 else 0).toNat = k := by
    split <;> omega
  unfold sliceRange
  simp only [show ((2 : Int) > 0) = True by decide, if_true, e]
  refine List.map_congr_left fun i _ => ?_
  omega
theorem pickL0 {α : Type} (k : Nat) (l : List α) (h : l.length = 2 * k) : pickL 0 2 l = ev l := by
  rw [← pick0 k l h]
  unfold pickL
  have e := sb_two 0 k (by omega)
  rw [h, show (0 : Int) = ((0 : Nat) : Int) from rfl, e]
  congr 1
  exact sr_two 0 k (by omega) (.inl rfl)
theorem pickL1 {α : Type} (k : Nat) (l : List α) (h : l.length = 2 * k) (hk : 0 < k) : pickL 1 2 l = od l := by
  rw [← pick1 k l h]
  unfold pickL
  have e := sb_two 1 k (by omega)
  rw [h, show (1 : Int) = ((1 : Nat) : Int) from rfl, e]
  congr 1
  exact sr_two 1 k (by omega) (.inr hk)
theorem ev_map {α β : Type} (f : α → β) : ∀ l : List α, ev (l.map f) = (ev l).map f
  | [] => rfl
  | [_] => rfl
  | _ :: _ :: r => congrArg _ (ev_map f r)
theorem od_map {α β : Type} (f : α → β) : ∀ l : List α, od (l.map f) = (od l).map f
  | [] => rfl
  | [_] => rfl
  | _ :: _ :: r => congrArg _ (od_map f r)
theorem ev_len {α : Type} : ∀ (k : Nat) (l : List α), l.length = 2 * k → (ev l).length = k ∧ (od l).length = k
  | 0, l, h => by
    have : l = [] := List.length_eq_zero_iff.mp (by omega)
    subst this
    exact ⟨rfl, rfl⟩
  | k + 1, l, h => by
    match l, h with
    | x :: y :: r, h =>
      have := ev_len k r (by simp at h; omega)
      simp [ev, od, this]
    | [], h => simp at h
    | [x], h => simp at h; omega
theorem ev_get {α : Type} (d : α) : ∀ (l : List α) (i : Nat), (ev l).getD i d = l.getD (2 * i) d ∧ (l.length % 2 = 0 → (od l).getD i d = l.getD (2 * i + 1) d)
  | [], i => by simp [ev, od]
  | [x], 0 => by simp [ev]
  | [x], i + 1 => by simp [ev, show 2 * (i + 1) = 2 * i + 1 + 1 by omega]
  | x :: y :: r, 0 => by simp [ev, od]
  | x :: y :: r, i + 1 => by
    obtain ⟨h1, h2⟩ := ev_get d r i
    refine ⟨?_, fun h => ?_⟩
    · rw [show 2 * (i + 1) = 2 * i + 1 + 1 by omega]
      simpa [ev] using h1
    · rw [show 2 * (i + 1) + 1 = 2 * i + 1 + 1 + 1 by omega]
      have := h2 (by simp at h; omega)
      simpa [od] using this
/-! ### the tree of a truth table -/
def tbl : Nat → Nat → List Bool → Tr
  | 0, _, l => lf (l.all id)
  | k + 1, p, l => if l.all id then lf true else if l.any id then mkT p (tbl k (p + 1) (ev l)) (tbl k (p + 1) (od l)) else lf false
theorem tab_RO : ∀ (k p : Nat) (l : List Bool), RO (tbl k p l) ∧ ∀ v, v < p → Gt v (tbl k p l)
  | 0, p, l => ⟨trivial, fun _ _ => trivial⟩
  | k + 1, p, l => by
    have h1 := tab_RO k (p + 1) (ev l)
    have h2 := tab_RO k (p + 1) (od l)
    unfold tbl
    split
    · exact ⟨trivial, fun _ _ => trivial⟩
    · split
      · exact ⟨mkT_RO h1.1 h2.1 (h1.2 p (by omega)) (h2.2 p (by omega)), fun v hv => mkT_Gt hv (h1.2 v (by omega))⟩
      · exact ⟨trivial, fun _ _ => trivial⟩
theorem tbl_In : ∀ (k p : Nat) (l : List Bool), Tr.In (fun v => p ≤ v ∧ v < p + k) (tbl k p l)
  | 0, p, l => fun _ h => by cases h
  | k + 1, p, l => by
    have h1 := tbl_In k (p + 1) (ev l)
    have h2 := tbl_In k (p + 1) (od l)
    unfold tbl
    split
    · exact fun _ h => by cases h
    · split
      · exact mkT_vars ⟨Nat.le_refl _, by omega⟩ (fun v hv => by have := h1 v hv; omega) (fun v hv => by have := h2 v hv; omega)
      · exact fun _ h => by cases h
/-- the place of a set in the truth table -/
def bits : Nat → Nat → (Nat → Bool) → Nat
  | 0, _, _ => 0
  | k + 1, p, s => (if s p then 1 else 0) + 2 * bits k (p + 1) s
theorem bits_lt : ∀ (k p : Nat) (s : Nat → Bool), bits k p s < 2 ^ k
  | 0, _, _ => by simp [bits]
  | k + 1, p, s => by
    have := bits_lt k (p + 1) s
    unfold bits
    rw [Nat.pow_succ]
    split <;> omega
theorem all_get {l : List Bool} (h : l.all id = true) (i : Nat) (hi : i < l.length) : l.getD i false = true := by
  rw [List.getD_eq_getElem?_getD, List.getElem?_eq_getElem hi]
  exact List.all_eq_true.mp h _ (List.getElem_mem hi)
theorem any_get {l : List Bool} (h : l.any id = false) (i : Nat) : l.getD i false = false := by
  rw [List.getD_eq_getElem?_getD]
  cases e : l[i]? with
  | none => rfl
  | some b =>
    have hm := List.mem_of_getElem? e
    cases b with
    | false => rfl
    | true => rw [List.any_eq_false] at h; exact absurd rfl (h _ hm)
theorem tbl_val : ∀ (k p : Nat) (l : List Bool), l.length = 2 ^ k → ∀ s, (tbl k p l).val s = l.getD (bits k p s) false
  | 0, p, l, h, s => by
    match l, h with
    | [b], _ => cases b <;> rfl
  | k + 1, p, l, h, s => by
    have hl : l.length = 2 * 2 ^ k := by rw [h, Nat.pow_succ, Nat.mul_comm]
    obtain ⟨e1, e2⟩ := ev_len _ l hl
    have h1 := tbl_val k (p + 1) (ev l) e1 s
    have h2 := tbl_val k (p + 1) (od l) e2 s
    have lt := bits_lt (k + 1) p s
    unfold tbl
    split
    · rename_i ha
      rw [all_get ha _ (by omega)]
      rfl
    · split
      · rw [mkT_val, h1, h2]
        have g := ev_get false l (bits k (p + 1) s)
        rw [show bits (k + 1) p s = (if s p then 1 else 0) + 2 * bits k (p + 1) s from rfl]
        cases s p with
        | false => simp only [Bool.false_eq_true, if_false, Nat.zero_add]; exact g.1
        | true =>
          simp only [if_true]
          rw [Nat.add_comm 1]
          exact g.2 (by omega)
      · rename_i ha
        rw [any_get (by simpa using ha)]
        rfl
end Zp
end
end

section
section
set_option maxHeartbeats 8000000
open PySem
namespace Zp
open Zy Tr
variable {wl n : Nat}
theorem allB_bl : ∀ l : List Bool, allB (l.map D.bl) = some l
  | [] => rfl
  | b :: l => by
    show (allB (l.map D.bl)).map (b :: ·) = _
    rw [allB_bl l]
    rfl
theorem wr_id {Q : List Tr} : ∀ {t : Tr}, Has Q t → wr t Q = Q
  | lf _, _ => rfl
  | nd v l r, h => if_pos h
theorem mkT_ne {v : Nat} {l r : Tr} (h : l ≠ r) : mkT v l r = nd v l r := if_neg h
theorem mkT_sz (v : Nat) (l r : Tr) : (mkT v l r).sz ≤ l.sz + r.sz + 1 := by
  unfold mkT
  split
  · omega
  · simp only [Tr.sz]; omega
theorem tbl_sz : ∀ (k p : Nat) (l : List Bool), (tbl k p l).sz + 1 ≤ 2 ^ k
  | 0, _, _ => by simp [tbl, Tr.sz]
  | k + 1, p, l => by
    have h1 := tbl_sz k (p + 1) (ev l)
    have h2 := tbl_sz k (p + 1) (od l)
    have h3 := mkT_sz p (tbl k (p + 1) (ev l)) (tbl k (p + 1) (od l))
    have h4 := Nat.two_pow_pos k
    rw [Nat.pow_succ]
    unfold tbl
    split
    · simp [Tr.sz]; omega
    · split
      · omega
      · simp [Tr.sz]; omega
theorem node_ok : ∀ (k p : Nat) (l : List Bool) (L : List Tr), l.length = 2 ^ k → k ≤ 5 → Cl L → L.length + 2 ^ k ≤ 1000 →
    semF tt.pg wl (n + k + 1) 17 [.lst (l.map .bl), .i (.int p), .lst (rowsD L)] = .ok (.i (.int (ix (wr (tbl k p l) L) (tbl k p l)))) [.lst (l.map .bl), .i (.int p), .lst (rowsD (wr (tbl k p l) L))]
  | 0, p, l, L, hl, _, c, _ => by
    apply wF_eq (X := fX)
    rw [r17]
    match l, hl with
    | [b], _ => cases b <;> simp_arith [B17, allB, tbl, wr, ix]
  | k + 1, p, l, L, hl, hk, c, hz => by
    apply wF_eq (X := fX)
    rw [r17]
    have ha := allB_bl l
    have h2 : l.length = 2 * 2 ^ k := by rw [hl, Nat.pow_succ, Nat.mul_comm]
    have pp := Nat.two_pow_pos k
    obtain ⟨e1, e2⟩ := ev_len _ l h2
    have hp : 2 ^ (k + 1) = 2 * 2 ^ k := by rw [Nat.pow_succ, Nat.mul_comm]
    have p0 : pickL 0 2 (l.map D.bl) = (ev l).map D.bl := by rw [pickL0 (2 ^ k) _ (by simpa using h2), ev_map]
    have p1 : pickL 1 2 (l.map D.bl) = (od l).map D.bl := by rw [pickL1 (2 ^ k) _ (by simpa using h2) pp, od_map]
    have g1 := (tab_RO k (p + 1) (ev l)).2 p (by omega)
    have g2 := (tab_RO k (p + 1) (od l)).2 p (by omega)
    have ro1 := (tab_RO k (p + 1) (ev l)).1
    have ro2 := (tab_RO k (p + 1) (od l)).1
    have i1 := node_ok k (p + 1) (ev l) L e1 (by omega) c (by omega)
    have c1 := wr_Cl (tbl k (p + 1) (ev l)) c ro1
    have len1 := wr_len (tbl k (p + 1) (ev l)) L
    have i2 := node_ok k (p + 1) (od l) (wr (tbl k (p + 1) (ev l)) L) e2 (by omega) c1
    have szt1 : (tbl k (p + 1) (ev l)).sz + 1 ≤ 2 ^ k := tbl_sz _ _ _
    have szt2 : (tbl k (p + 1) (od l)).sz + 1 ≤ 2 ^ k := tbl_sz _ _ _
    have i2 := i2 (by omega)
    have h1' := wr_has (tbl k (p + 1) (ev l)) L
    have h2' := wr_has (tbl k (p + 1) (od l)) (wr (tbl k (p + 1) (ev l)) L)
    have pre2 := wr_pre (tbl k (p + 1) (od l)) (wr (tbl k (p + 1) (ev l)) L)
    have c2 := wr_Cl (tbl k (p + 1) (od l)) c1 ro2
    have len2 := wr_len (tbl k (p + 1) (od l)) (wr (tbl k (p + 1) (ev l)) L)
    have mem2 := wr_mem (tbl k (p + 1) (od l)) (wr (tbl k (p + 1) (ev l)) L)
    have mem1 := wr_mem (tbl k (p + 1) (ev l)) L
    have unf : tbl (k + 1) p l = if l.all id then lf true else if l.any id then mkT p (tbl k (p + 1) (ev l)) (tbl k (p + 1) (od l)) else lf false := rfl
    rw [unf]
    generalize tbl k (p + 1) (ev l) = t1 at *
    generalize tbl k (p + 1) (od l) = t2 at *
    have eix := ix_pre pre2 h1'
    cases hA : l.all id with
    | true => simp_arith [B17, ha, hA, wr, ix]
    | false =>
      cases hB : l.any id with
      | false => simp_arith [B17, ha, hA, hB, wr, ix]
      | true =>
        simp_arith [B17, ha, hA, hB, p0, p1]
        refine wF_by i1 ?_
        simp_arith [p1]
        refine wF_by i2 ?_
        rw [← eix]
        have h12 := h1'.pre pre2
        by_cases e : t1 = t2
        · subst e
          have w1 := wr_id h1'
          rw [w1]
          have m1 : mkT p t1 t1 = t1 := if_pos rfl
          simp_arith [m1]
        · have ne : ¬ ix (wr t2 (wr t1 L)) t1 = ix (wr t2 (wr t1 L)) t2 := fun z => e (ix_inj h12 h2' z)
          have m1 := mkT_ne (v := p) e
          have hin := row_in (v := p) c2 h12 h2'
          by_cases hm : nd p t1 t2 ∈ wr t2 (wr t1 L)
          · have hL : nd p t1 t2 ∈ L := by
              rcases mem2 _ hm with z | z
              · rcases mem1 _ z with z | z
                · exact z
                · simp [Tr.sz] at z; omega
              · simp [Tr.sz] at z; omega
            have hn := c.node hL
            have w1 : wr t1 L = L := wr_id hn.2.1
            have w2 : wr t2 L = L := wr_id hn.2.2
            have w3 : wr (nd p t1 t2) L = L := wr_id hL
            have e12 : wr t2 (wr t1 L) = L := by rw [w1, w2]
            rw [e12] at ne hin
            have hix := row_idx (v := p) c hn.2.1 hn.2.2 hL
            simp_arith [e12, ne, m1, w3, hin, hL, hix]
            have e9 : ix L (nd p t1 t2) = L.idxOf (nd p t1 t2) + 2 := rfl
            rw [e9]
            omega
          · have hL : nd p t1 t2 ∉ L := fun z => hm (pre2.subset ((wr_pre t1 L).subset z))
            have w3 : wr (nd p t1 t2) L = wr t2 (wr t1 L) ++ [nd p t1 t2] := if_neg hL
            have ro : RO (nd p t1 t2) := by
              have := mkT_RO ro1 ro2 g1 g2
              rwa [m1] at this
            have c3 : Cl (wr t2 (wr t1 L) ++ [nd p t1 t2]) := .snoc c2 ro h12 h2' hm
            have rs := rowsD_snoc (v := p) c2 h12 h2'
            have x1 := ix_app (M := [nd p t1 t2]) h12
            have x2 := ix_app (M := [nd p t1 t2]) h2'
            have hix := row_idx (v := p) c3 (h12.app) (h2'.app) (by simp)
            rw [x1, x2] at hix
            have sz : (rowsD (wr t2 (wr t1 L))).length < sizeLine := szt (by simp [rowsD]; omega)
            rw [rs] at hix
            simp_arith [ne, m1, w3, hin, hm, sz, hix, rs]
            have e9 : ix (wr t2 (wr t1 L) ++ [nd p t1 t2]) (nd p t1 t2) = (wr t2 (wr t1 L) ++ [nd p t1 t2]).idxOf (nd p t1 t2) + 2 := rfl
            rw [e9]
            omega
/-! ### the table of some rows -/
def mem (m c : Nat) : List Nat := (List.range m).filter fun p => decide ((c : Int) / ((2 ^ p : Nat) : Int) % 2 = 1)
def truthOf (rows : List (List Nat)) (m k : Nat) : List Bool := (List.range k).map fun c => holdsB rows (mem m c)
def treeOf (rows : List (List Nat)) (m : Nat) : Tr := tbl m 0 (truthOf rows m (2 ^ m))
theorem pw_at : ∀ p : Nat, p < 5 → L2.atI [D.int 1, D.int 2, D.int 4, D.int 8, D.int 16] (p : Int) = some (.int ((2 ^ p : Nat) : Int)) := by decide
theorem pw_at6 : ∀ p : Nat, p < 6 → L2.atI [D.int 1, D.int 2, D.int 4, D.int 8, D.int 16, D.int 32] (p : Int) = some (.int ((2 ^ p : Nat) : Int)) := by decide
theorem pw_dv : ∀ p : Nat, p < 5 → ∀ c : Int, L2.CDivW c ((2 ^ p : Nat) : Int) := by
  intro p hp c
  have : ∀ p : Nat, p < 5 → (0 : Int) < ((2 ^ p : Nat) : Int) ∧ ((2 ^ p : Nat) : Int).natAbs.log2 < 9000 := by decide
  exact this p hp
theorem mem_len (m c : Nat) : (mem m c).length ≤ m := by
  have := List.length_filter_le (fun p => decide ((c : Int) / ((2 ^ p : Nat) : Int) % 2 = 1)) (List.range m)
  rwa [List.length_range] at this
theorem table_ok {rows : List (List Nat)} {m : Nat} (hm : m ≤ 5) (hF : Fam m rows) :
    semF tt.pg wl (n + 8) 16 [.lst (rows.map encS), .i (.int m)] = .ok (.i (tabD (treeOf rows m))) [.lst (rows.map encS), .i (.int m)] := by
  apply wF_eq (X := fX)
  rw [r16]
  have p5 : L2.CPow 2 5 := by decide
  have hr := rngOk_nat (n := m) (by omega)
  have hl := hF.l
  have p2 : 2 ^ m ≤ 32 := by have := Nat.pow_le_pow_right (n := 2) (by decide) hm; simpa using this
  have e5 : (2 : Int) ^ (5 : Int).toNat = ((32 : Nat) : Int) := by decide
  have hr32 := rngOk_nat (n := 32) (by decide)
  simp_arith [B16, p5, e5, hr32]
  generalize hN : (32 : Nat) = N at p2 ⊢
  refine wL_rng [2, 3, 4] (fun i vs => ∃ (a b : M), vs = [.lst ((truthOf rows m (min i (2 ^ m))).map .bl), a, b]) ?_ ?_ ?_
  · exact ⟨[_, _, _], rfl, _, _, rfl⟩
  · rintro i vs hi ⟨a, b, rfl⟩
    simp_arith [hr]
    refine wLc_filter (List.range m) (fun i => D.int (0 + (i : Nat))) (fun p => decide ((i : Int) / ((2 ^ p : Nat) : Int) % 2 = 1)) encN (rngL_map m 0) (fun x hx => ?_) (szt (by simp; omega)) ?_
    · have hx := List.mem_range.mp hx
      have h1 := pw_at x (by omega)
      have h2 := pw_dv x (by omega) i
      generalize ((2 ^ x : Nat) : Int) = z at h1 h2 ⊢
      simp_arith [h1, h2, encN]
    · have h3 := pw_at6 m (by omega)
      have lm := mem_len m i
      have hin : ∀ R ∈ rows, semF tt.pg wl (n + 7) 14 [.i (encS R), .rol ((mem m i).map encN)] = _ := fun R hR => insideR_ok (wl := wl) (n := n + 6) R (mem m i) (by have := hF.len R hR; omega)
      have hc : (((i : Nat) : Int) < ((2 ^ m : Nat) : Int)) = (i < 2 ^ m) := by rw [eq_iff_iff]; omega
      rw [show (List.range m).filter (fun p => decide ((i : Int) / ((2 ^ p : Nat) : Int) % 2 = 1)) = mem m i from rfl]
      generalize hz : ((2 ^ m : Nat) : Int) = z at h3 hc
      by_cases hi2 : i < 2 ^ m
      · have hlt : (i : Int) < z := by rw [hc]; exact hi2
        have e1 : min i (2 ^ m) = i := by omega
        have e2 : min (i + 1) (2 ^ m) = i + 1 := by omega
        rw [e1]
        have sz : (truthOf rows m i).length < sizeLine := szt (by simp [truthOf]; omega)
        simp_arith [h3, hlt]
        refine wLc_map rows encS (fun R => .bl (inS R (mem m i))) rfl (fun R hR => ?_) (szt (by omega)) ?_
        · have := hin R hR
          simp only [encS] at this ⊢
          simp_arith
          refine wF_by this ?_
          simp_arith
        · simp_arith [allB_map, sz]
          refine stp_mk [_, _, _] rfl ⟨.i (.int i), .lst ((mem m i).map encN), ?_⟩
          rw [e2]
          unfold truthOf
          rw [List.range_succ, List.map_append, List.map_append]
          simp [holdsB]
      · have hlt : ¬ (i : Int) < z := by rw [hc]; exact hi2
        have e1 : min i (2 ^ m) = 2 ^ m := by omega
        have e2 : min (i + 1) (2 ^ m) = 2 ^ m := by omega
        rw [e1]
        simp_arith [h3, hlt]
        exact stp_mk [_, _, _] rfl ⟨.i (.int i), .lst ((mem m i).map encN), by rw [e2]⟩
  · rintro vs ⟨a, b, rfl⟩
    have e : min N (2 ^ m) = 2 ^ m := by omega
    rw [e]
    have tl : (truthOf rows m (2 ^ m)).length = 2 ^ m := by simp [truthOf]
    have hn := node_ok (wl := wl) (n := n + 6 - m) m 0 (truthOf rows m (2 ^ m)) [] tl hm .nil (by simp; omega)
    rw [show n + 6 - m + m + 1 = n + 7 by omega] at hn
    have sz : (rowsD (wr (tbl m 0 (truthOf rows m (2 ^ m))) [])).length ≤ sizeLine := by
      have := wr_len (tbl m 0 (truthOf rows m (2 ^ m))) []
      have := tbl_sz m 0 (truthOf rows m (2 ^ m))
      exact szi (by simp [rowsD] at *; omega)
    have hn' : semF tt.pg wl (n + 7) 17 [.lst ((truthOf rows m (2 ^ m)).map .bl), .i (.int 0), .lst []] = _ := hn
    simp_arith
    refine wF_by hn' ?_
    simp_arith [sz]
    rfl
end Zp
end
end

section
section
set_option maxHeartbeats 8000000
open PySem
namespace Zp
open Zy Tr
/-! ### sets of numbers, least ones -/
abbrev Asc (R : List Nat) : Prop := R.Pairwise (· < ·)
theorem inS_iff {a b : List Nat} : inS a b = true ↔ ∀ x ∈ a, x ∈ b := by
  unfold inS
  rw [List.all_eq_true]
  simp
theorem inS_refl (a : List Nat) : inS a a = true := inS_iff.mpr fun _ h => h
theorem inS_trans {a b c : List Nat} (h1 : inS a b = true) (h2 : inS b c = true) : inS a c = true := inS_iff.mpr fun x h => inS_iff.mp h2 x (inS_iff.mp h1 x h)
theorem asc_sub : ∀ {b a : List Nat}, Asc a → Asc b → (∀ x ∈ a, x ∈ b) → a.Sublist b
  | [], [], _, _, _ => List.Sublist.refl _
  | [], x :: a, _, _, h => by cases h x List.mem_cons_self
  | y :: b, [], _, _, _ => List.nil_sublist _
  | y :: b, x :: a, ha, hb, h => by
    rw [Asc, List.pairwise_cons] at ha hb
    by_cases e : x = y
    · subst e
      refine (asc_sub ha.2 hb.2 fun z hz => ?_).cons₂ x
      rcases List.mem_cons.mp (h z (List.mem_cons_of_mem _ hz)) with e | hm
      · have := ha.1 z hz; omega
      · exact hm
    · have hx : x ∈ b := (List.mem_cons.mp (h x List.mem_cons_self)).resolve_left e
      have hxy := hb.1 x hx
      refine (asc_sub (List.pairwise_cons.mpr ha) hb.2 fun z hz => ?_).cons y
      rcases List.mem_cons.mp hz with e2 | hz
      · subst e2; exact hx
      · have := ha.1 z hz
        rcases List.mem_cons.mp (h z (List.mem_cons_of_mem _ hz)) with e3 | hm
        · omega
        · exact hm
theorem asc_eq {a b : List Nat} (ha : Asc a) (hb : Asc b) (h1 : inS a b = true) (h2 : inS b a = true) : a = b :=
  have s1 := asc_sub ha hb (inS_iff.mp h1)
  s1.eq_of_length (Nat.le_antisymm s1.length_le (asc_sub hb ha (inS_iff.mp h2)).length_le)
/-- the key of a set -/
def keyS (a : List Nat) : List Int := (a.length : Int) :: a.map fun (x : Nat) => (x : Int)
def kl (a b : List Nat) : Bool := lexI (keyS a) (keyS b)
theorem lexI_tri : ∀ x y : List Int, lexI x y = false → lexI y x = false → x = y
  | [], [], _, _ => rfl
  | [], _ :: _, h, _ => by cases h
  | _ :: _, [], _, h => by cases h
  | a :: x, b :: y, h1, h2 => by
    unfold lexI at h1 h2
    by_cases e : a = b
    · rw [if_pos e] at h1
      rw [if_pos e.symm] at h2
      rw [e, lexI_tri x y h1 h2]
    · rw [if_neg e, decide_eq_false_iff_not] at h1
      rw [if_neg (fun z => e z.symm), decide_eq_false_iff_not] at h2
      omega
theorem keyS_inj {a b : List Nat} (h : keyS a = keyS b) : a = b := by
  unfold keyS at h
  have h := (List.cons.inj h).2
  have inj : ∀ (a b : List Nat), (a.map fun (x : Nat) => (x : Int)) = (b.map fun (x : Nat) => (x : Int)) → a = b := by
    intro a
    induction a with
    | nil => intro b h; cases b with | nil => rfl | cons _ _ => cases h
    | cons x a ih =>
      intro b h
      cases b with
      | nil => cases h
      | cons y b =>
        obtain ⟨h1, h2⟩ := List.cons.inj h
        rw [ih b h2, show x = y from Int.ofNat.inj h1]
  exact inj _ _ h
theorem kl_tri {a b : List Nat} (h1 : kl a b = false) (h2 : kl b a = false) : a = b := keyS_inj (lexI_tri _ _ h1 h2)
theorem kl_asym {a b : List Nat} (h : kl a b = true) : kl b a = false := SrtO.lexI_asym _ _ h
theorem kl_len {a b : List Nat} (h : a.length < b.length) : kl a b = true := by
  show (if (a.length : Int) = b.length then _ else decide _) = true
  rw [if_neg (by omega), decide_eq_true_eq]
  omega
/-- a proper part comes ahead -/
theorem kl_sub {a b : List Nat} (ha : Asc a) (hb : Asc b) (h : inS a b = true) (ne : a ≠ b) : kl a b = true := by
  have s := asc_sub ha hb (inS_iff.mp h)
  refine kl_len (Nat.lt_of_le_of_ne s.length_le fun e => ne (s.eq_of_length e))
/-- laid in, in the order of sets -/
def insS (x : List Nat) : List (List Nat) → List (List Nat)
  | [] => [x]
  | y :: r => if kl y x then y :: insS x r else x :: y :: r
def sortS : List (List Nat) → List (List Nat)
  | [] => []
  | x :: r => insS x (sortS r)
theorem insS_perm (x : List Nat) : ∀ l, (insS x l).Perm (x :: l)
  | [] => List.Perm.refl _
  | y :: r => by
    unfold insS
    split
    · exact ((insS_perm x r).cons y).trans (List.Perm.swap x y r)
    · exact List.Perm.refl _
theorem sortS_perm : ∀ l, (sortS l).Perm l
  | [] => List.Perm.refl _
  | x :: r => (insS_perm x (sortS r)).trans ((sortS_perm r).cons x)
abbrev Wk (l : List (List Nat)) : Prop := l.Pairwise fun a b => kl b a = false
theorem insS_wk (x : List Nat) : ∀ l, Wk l → Wk (insS x l)
  | [], _ => List.pairwise_singleton _ _
  | y :: r, h => by
    have h' := List.pairwise_cons.mp h
    unfold insS
    split
    · rename_i hl
      refine List.pairwise_cons.mpr ⟨fun z hz => ?_, insS_wk x r h'.2⟩
      rcases List.mem_cons.mp ((insS_perm x r).mem_iff.mp hz) with e | hz
      · subst e; exact kl_asym hl
      · exact h'.1 z hz
    · rename_i hl
      have hl : kl y x = false := by simpa using hl
      refine List.pairwise_cons.mpr ⟨fun z hz => ?_, h⟩
      rcases List.mem_cons.mp hz with e | hz
      · subst e; exact hl
      · exact SrtO.lexI_tr _ _ _ hl (h'.1 z hz)
theorem sortS_wk : ∀ l, Wk (sortS l)
  | [] => List.Pairwise.nil
  | x :: r => insS_wk x _ (sortS_wk r)
/-- those that have no other one within them, of those that came -/
def stepL (acc : List (List Nat)) (x : List Nat) : List (List Nat) := if acc.any (fun y => inS y x) then acc else acc ++ [x]
def leastL (rows : List (List Nat)) : List (List Nat) := (sortS rows).foldl stepL []
structure Lst (zs R : List (List Nat)) : Prop where
  sub : R.Sublist zs
  cov : ∀ z ∈ zs, ∃ r ∈ R, inS r z = true
  anti : ∀ r ∈ R, ∀ r' ∈ R, inS r' r = true → r' = r
theorem least_go : ∀ (r p : List (List Nat)) (R : List (List Nat)), (∀ x ∈ p ++ r, Asc x) → Wk (p ++ r) → Lst p R → Lst (p ++ r) (r.foldl stepL R)
  | [], p, R, _, _, h => by rw [List.append_nil]; exact h
  | x :: r, p, R, ha, hw, h => by
    have e : p ++ x :: r = (p ++ [x]) ++ r := by simp
    rw [e] at ha hw ⊢
    refine least_go r (p ++ [x]) (stepL R x) ha hw ?_
    have ax : Asc x := ha x (by simp)
    have aR : ∀ y ∈ R, Asc y := fun y hy => ha y (by simp [h.sub.subset hy])
    unfold stepL
    split
    · rename_i hc
      obtain ⟨y, hy, hi⟩ := List.any_eq_true.mp hc
      refine ⟨h.sub.trans (List.sublist_append_left _ _), fun z hz => ?_, h.anti⟩
      rcases List.mem_append.mp hz with hz | hz
      · exact h.cov z hz
      · rw [List.mem_singleton.mp hz]; exact ⟨y, hy, hi⟩
    · rename_i hc
      have hn : ∀ y ∈ R, inS y x = false := fun y hy => by
        cases q : inS y x with
        | false => rfl
        | true => exact absurd (List.any_eq_true.mpr ⟨y, hy, q⟩) hc
      have hord : ∀ y ∈ R, kl x y = false := fun y hy => by
        have w1 := (List.pairwise_append.mp (List.pairwise_append.mp hw).1).2.2 y (h.sub.subset hy) x (by simp)
        exact w1
      refine ⟨h.sub.append (List.Sublist.refl _), fun z hz => ?_, fun a hA b hB hi => ?_⟩
      · rcases List.mem_append.mp hz with hz | hz
        · obtain ⟨y, hy, hi⟩ := h.cov z hz
          exact ⟨y, List.mem_append_left _ hy, hi⟩
        · rw [List.mem_singleton.mp hz]; exact ⟨x, by simp, inS_refl x⟩
      · rcases List.mem_append.mp hA with hA | hA
        · rcases List.mem_append.mp hB with hB | hB
          · exact h.anti a hA b hB hi
          · rw [List.mem_singleton.mp hB] at hi ⊢
            by_cases ne : x = a
            · exact ne
            · have := kl_sub ax (aR a hA) hi ne
              rw [hord a hA] at this
              cases this
        · rw [List.mem_singleton.mp hA] at hi ⊢
          rcases List.mem_append.mp hB with hB | hB
          · rw [hn b hB] at hi; cases hi
          · exact List.mem_singleton.mp hB
theorem leastL_lst {rows : List (List Nat)} (h : ∀ x ∈ rows, Asc x) : Lst (sortS rows) (leastL rows) := by
  have := least_go (sortS rows) [] [] (fun x hx => h x ((sortS_perm rows).mem_iff.mp (by simpa using hx))) (by simpa using sortS_wk rows) ⟨List.Sublist.refl _, fun z h => (by cases h), fun r h => (by cases h)⟩
  unfold leastL
  simpa using this
theorem leastL_mem {rows : List (List Nat)} {x : List Nat} (h : x ∈ leastL rows) (ha : ∀ x ∈ rows, Asc x) : x ∈ rows := (sortS_perm rows).mem_iff.mp ((leastL_lst ha).sub.subset h)
/-- just the least ones -/
theorem leastL_iff {rows : List (List Nat)} (ha : ∀ x ∈ rows, Asc x) (x : List Nat) : x ∈ leastL rows ↔ x ∈ rows ∧ ∀ y ∈ rows, inS y x = true → y = x := by
  have L := leastL_lst ha
  constructor
  · intro h
    have hx := leastL_mem h ha
    refine ⟨hx, fun y hy hi => ?_⟩
    obtain ⟨r, hr, h1⟩ := L.cov y ((sortS_perm rows).mem_iff.mpr hy)
    have := L.anti x h r hr (inS_trans h1 hi)
    subst this
    exact asc_eq (ha y hy) (ha r hx) hi h1
  · rintro ⟨hx, hm⟩
    obtain ⟨r, hr, h1⟩ := L.cov x ((sortS_perm rows).mem_iff.mpr hx)
    rw [← hm r (leastL_mem hr ha) h1]
    exact hr
abbrev St (l : List (List Nat)) : Prop := l.Pairwise fun a b => kl a b = true
theorem leastL_st {rows : List (List Nat)} (ha : ∀ x ∈ rows, Asc x) : St (leastL rows) := by
  have L := leastL_lst ha
  have w : Wk (leastL rows) := (sortS_wk rows).sublist L.sub
  have nd : (leastL rows).Pairwise fun a b => a ≠ b := by
    have key : ∀ (r : List (List Nat)) (R : List (List Nat)), R.Pairwise (· ≠ ·) → (r.foldl stepL R).Pairwise (· ≠ ·) := by
      intro r
      induction r with
      | nil => exact fun R h => h
      | cons x r ih =>
        intro R h
        refine ih _ ?_
        unfold stepL
        split
        · exact h
        · rename_i hc
          refine List.pairwise_append.mpr ⟨h, List.pairwise_singleton _ _, fun y hy z hz => ?_⟩
          rw [List.mem_singleton.mp hz]
          intro e
          subst e
          exact hc (List.any_eq_true.mpr ⟨y, hy, inS_refl y⟩)
    exact key _ [] List.Pairwise.nil
  refine (w.and nd).imp fun {a b} h => ?_
  cases q : kl a b with
  | true => rfl
  | false => exact absurd (kl_tri q h.1) h.2
theorem st_eq : ∀ {l m : List (List Nat)}, St l → St m → (∀ x, x ∈ l ↔ x ∈ m) → l = m
  | [], [], _, _, _ => rfl
  | [], y :: m, _, _, h => by cases (h y).mpr List.mem_cons_self
  | x :: l, [], _, _, h => by cases (h x).mp List.mem_cons_self
  | x :: l, y :: m, hl, hm, h => by
    have hl' := List.pairwise_cons.mp hl
    have hm' := List.pairwise_cons.mp hm
    have e : x = y := by
      rcases List.mem_cons.mp ((h x).mp List.mem_cons_self) with e | h1
      · exact e
      · rcases List.mem_cons.mp ((h y).mpr List.mem_cons_self) with e | h2
        · exact e.symm
        · have a1 := hm'.1 x h1
          have a2 := hl'.1 y h2
          rw [kl_asym a1] at a2
          cases a2
    subst e
    have irr : kl x x = true → False := fun z => by
      have := kl_asym z
      rw [z] at this
      cases this
    rw [st_eq hl'.2 hm'.2 fun z => ?_]
    constructor
    · intro hz
      rcases List.mem_cons.mp ((h z).mp (List.mem_cons_of_mem _ hz)) with e | h1
      · subst e; exact (irr (hl'.1 z hz)).elim
      · exact h1
    · intro hz
      rcases List.mem_cons.mp ((h z).mpr (List.mem_cons_of_mem _ hz)) with e | h1
      · subst e; exact (irr (hm'.1 z hz)).elim
      · exact h1
theorem holdsB_iff {rows : List (List Nat)} {S : List Nat} : holdsB rows S = true ↔ ∃ R ∈ rows, inS R S = true := List.any_eq_true
/-- rows that say the same to all ascending sets have the same least ones -/
theorem least_eq {A B : List (List Nat)} (hA : ∀ x ∈ A, Asc x) (hB : ∀ x ∈ B, Asc x) (h : ∀ S, Asc S → holdsB A S = holdsB B S) : leastL A = leastL B := by
  have half : ∀ {A B : List (List Nat)}, (∀ x ∈ A, Asc x) → (∀ x ∈ B, Asc x) → (∀ S, Asc S → holdsB A S = holdsB B S) → ∀ x, (x ∈ A ∧ ∀ y ∈ A, inS y x = true → y = x) → x ∈ B ∧ ∀ y ∈ B, inS y x = true → y = x := by
    intro A B hA hB h x ⟨h1, h2⟩
    have up : ∀ y ∈ B, inS y x = true → y = x := fun y hy hi => by
      have := holdsB_iff.mpr ⟨y, hy, inS_refl y⟩
      rw [← h y (hB y hy)] at this
      obtain ⟨a, ha, hi2⟩ := holdsB_iff.mp this
      have e := h2 a ha (inS_trans hi2 hi)
      subst e
      exact asc_eq (hB y hy) (hA a ha) hi hi2
    refine ⟨?_, up⟩
    have := holdsB_iff.mpr ⟨x, h1, inS_refl x⟩
    rw [h x (hA x h1)] at this
    obtain ⟨b, hb, hi⟩ := holdsB_iff.mp this
    rw [← up b hb hi]
    exact hb
  refine st_eq (leastL_st hA) (leastL_st hB) fun x => ?_
  rw [leastL_iff hA, leastL_iff hB]
  exact ⟨half hA hB h x, half hB hA (fun S hS => (h S hS).symm) x⟩
theorem leastL_holds {rows : List (List Nat)} (ha : ∀ x ∈ rows, Asc x) (S : List Nat) : holdsB (leastL rows) S = holdsB rows S := by
  rw [Bool.eq_iff_iff, holdsB_iff, holdsB_iff]
  constructor
  · rintro ⟨R, h1, h2⟩
    exact ⟨R, leastL_mem h1 ha, h2⟩
  · rintro ⟨R, h1, h2⟩
    obtain ⟨r, h3, h4⟩ := (leastL_lst ha).cov R ((sortS_perm rows).mem_iff.mpr h1)
    exact ⟨r, h3, inS_trans h4 h2⟩
theorem leastL_asc {rows : List (List Nat)} (ha : ∀ x ∈ rows, Asc x) : ∀ x ∈ leastL rows, Asc x := fun x hx => ha x (leastL_mem hx ha)
theorem leastL_idem {rows : List (List Nat)} (ha : ∀ x ∈ rows, Asc x) : leastL (leastL rows) = leastL rows := least_eq (leastL_asc ha) ha fun S _ => leastL_holds ha S
theorem leastL_len (rows : List (List Nat)) (ha : ∀ x ∈ rows, Asc x) : (leastL rows).length ≤ rows.length := by
  have := (leastL_lst ha).sub.length_le
  rwa [(sortS_perm rows).length_eq] at this
/-! ### as the program does it: first each set once -/
def stepD (acc : List (List Nat)) (x : List Nat) : List (List Nat) := if acc.getLast? = some x then acc else acc ++ [x]
theorem stepL_same (R : List (List Nat)) (x : List Nat) : stepL (stepL R x) x = stepL R x := by
  have hh : (stepL R x).any (fun y => inS y x) = true := by
    unfold stepL
    split
    · rename_i h; exact h
    · exact List.any_eq_true.mpr ⟨x, by simp, inS_refl x⟩
  rw [stepL, if_pos hh]
theorem dd_least : ∀ (zs acc : List (List Nat)), (zs.foldl stepD acc).foldl stepL [] = zs.foldl stepL (acc.foldl stepL [])
  | [], _ => rfl
  | x :: r, acc => by
    rw [List.foldl_cons, List.foldl_cons, dd_least r]
    congr 1
    unfold stepD
    split
    · rename_i h
      obtain ⟨a, rfl⟩ := List.getLast?_eq_some_iff.mp h
      rw [List.foldl_append]
      show stepL _ x = stepL (stepL _ x) x
      exact (stepL_same _ _).symm
    · rw [List.foldl_append]
      rfl
/-! ### sorting, as the core does it -/
def kyR (x : List Nat) : D := .tup [.int x.length, encS x]
theorem kys_rows : ∀ rows : List (List Nat), kysD (rows.map kyR) = some (rows.map keyS)
  | [] => rfl
  | x :: r => by
    have e : kyD (kyR x) = some (keyS x) := by
      show (allI (x.map encN)).map ((x.length : Int) :: ·) = _
      have : x.map encN = (x.map fun (x : Nat) => (x : Int)).map D.int := by rw [List.map_map]; rfl
      rw [this, allI_ints]
      rfl
    rw [List.map_cons, kysD, e, kys_rows r]
    rfl
theorem insP_rows (x : List Nat) : ∀ l : List (List Nat), Zy.insP (keyS x, encS x) (l.map fun y => (keyS y, encS y)) = (insS x l).map fun y => (keyS y, encS y)
  | [] => rfl
  | y :: r => by
    rw [List.map_cons, Zy.insP, insS]
    show (if kl y x = true then _ else _) = _
    by_cases h : kl y x = true
    · rw [if_pos h, if_pos h, insP_rows x r]
      rfl
    · rw [if_neg h, if_neg h]
      rfl
theorem sortP_rows : ∀ l : List (List Nat), sortP (l.map fun y => (keyS y, encS y)) = (sortS l).map fun y => (keyS y, encS y)
  | [] => rfl
  | x :: r => by
    rw [List.map_cons, sortP, sortP_rows r, insP_rows]
    rfl
theorem srt_rows (rows : List (List Nat)) : srtM (rows.map kyR) (rows.map encS) = some (.lst ((sortS rows).map encS)) := by
  unfold srtM
  rw [kys_rows]
  have ht : (rows.map encS).all isTupD = true := by
    rw [List.all_map]
    exact List.all_eq_true.mpr fun x _ => rfl
  dsimp only
  rw [if_pos ht]
  have ez : (rows.map keyS).zip (rows.map encS) = rows.map fun y => (keyS y, encS y) := by
    rw [List.zip_map']
  rw [ez, sortP_rows, List.map_map]
  rfl
end Zp
end
end

section
section
set_option maxHeartbeats 8000000
open PySem
namespace Zp
open Zy Tr
variable {wl n : Nat}
theorem encNs_shs : ∀ {k : Nat} (l : List Nat), D.shs k (l.map encN) = true
  | _, [] => rfl
  | _, x :: l => by rw [List.map_cons, D.shs, encNs_shs l]; simp [encN, sh_int]
theorem encS_shp (x : List Nat) : (encS x).shp = true := by unfold encS; rw [shp_tup, encNs_shs]
theorem encNs_norm : ∀ {a b : List Nat}, D.norms (a.map encN) = D.norms (b.map encN) → a = b
  | [], [], _ => rfl
  | [], _ :: _, h => by simp [D.norms] at h
  | _ :: _, [], h => by simp [D.norms] at h
  | x :: a, y :: b, h => by
    simp only [List.map_cons, D.norms, List.cons.injEq] at h
    obtain ⟨h1, h2⟩ := h
    rw [encNs_norm h2]
    simp [encN, D.norm] at h1
    rw [show x = y by omega]
theorem encS_norm {a b : List Nat} : (encS a).norm = (encS b).norm ↔ a = b := by
  constructor
  · intro h
    unfold encS at h
    simp only [D.norm] at h
    exact encNs_norm (by simpa using h)
  · intro h; rw [h]
theorem neS (a b : List Nat) : copM .ne (.i (encS a)) (.i (encS b)) = some (!decide (a = b)) := by
  rw [copM_ne, if_pos ⟨encS_shp a, encS_shp b⟩]
  congr 2
  exact decide_eq_decide.mpr encS_norm
theorem eqS (a b : List Nat) : copM .eq (.i (encS a)) (.i (encS b)) = some (decide (a = b)) := by
  rw [copM_eq, if_pos ⟨encS_shp a, encS_shp b⟩]
  congr 1
  exact decide_eq_decide.mpr encS_norm
theorem setkey_ok (x : List Nat) : semF tt.pg wl (n + 1) 2 [.i (encS x)] = .ok (.i (kyR x)) [.i (encS x)] := by
  apply wF_eq (X := fX)
  rw [r2]
  simp_arith [B2, encS, kyR]
theorem last_at {L : List (List Nat)} (h : L ≠ []) : L2.atI (L.map encS) (-1) = (L.getLast?).map encS := by
  have hl : 0 < L.length := List.length_pos_iff.mpr h
  unfold L2.atI L2.ixN
  rw [List.length_map]
  rw [if_neg (by omega), if_pos (by omega)]
  show (L.map encS)[((-1 : Int) + L.length).toNat]? = _
  rw [List.getElem?_map, List.getLast?_eq_getElem?, show ((-1 : Int) + L.length).toNat = L.length - 1 by omega]
theorem stepD_le {L : List (List Nat)} {x : List Nat} : (stepD L x).length ≤ L.length + 1 := by
  unfold stepD
  split
  · omega
  · simp
theorem foldD_le : ∀ (zs L : List (List Nat)), (zs.foldl stepD L).length ≤ L.length + zs.length
  | [], L => by simp
  | x :: r, L => by
    have h1 := foldD_le r (stepD L x)
    have h2 := stepD_le (L := L) (x := x)
    rw [List.foldl_cons, List.length_cons]
    omega
/-- the sets in order, each once -/
def ssets (rows : List (List Nat)) : List (List Nat) := (sortS rows).foldl stepD []
theorem ssets_ok (rows : List (List Nat)) (hz : rows.length ≤ 100000) : semF tt.pg wl (n + 2) 3 [.lst (rows.map encS)] = .ok (.lst ((ssets rows).map encS)) [.lst (rows.map encS)] := by
  apply wF_eq (X := fX)
  rw [r3]
  have ls : (sortS rows).length = rows.length := (sortS_perm rows).length_eq
  simp_arith [B3]
  refine wSr_map rows encS kyR rfl (fun x _ => ⟨_, setkey_ok (wl := wl) (n := n) x⟩) ?_
  rw [srt_rows]
  simp_arith
  refine wL_pre (sortS rows) encS [1, 2] (fun p vs => ∃ a, vs = [.lst ((p.foldl stepD []).map encS), a]) rfl ?_ ?_ ?_
  · exact ⟨[_, _], rfl, _, rfl⟩
  · rintro p x r vs e ⟨a, rfl⟩
    have lp : p.length + 1 ≤ rows.length := by rw [← ls, e]; simp
    have l1 := foldD_le p []
    have e2 : (p ++ [x]).foldl stepD [] = stepD (p.foldl stepD []) x := by rw [List.foldl_append]; rfl
    generalize p.foldl stepD [] = L at *
    have sz : L.length < sizeLine := szt (by simp at l1; omega)
    by_cases hL : L = []
    · subst hL
      simp_arith [sz]
      exact stp_mk [_, _] rfl ⟨_, by rw [e2]; rfl⟩
    · have la := last_at hL
      obtain ⟨y, hy⟩ : ∃ y, L.getLast? = some y := by
        cases q : L.getLast? with
        | none => exact absurd (List.getLast?_eq_none_iff.mp q) hL
        | some y => exact ⟨y, rfl⟩
      rw [hy] at la
      have hne : (L.map encS).isEmpty = false := by cases L with | nil => exact absurd rfl hL | cons _ _ => rfl
      have nn := neS y x
      by_cases hxy : y = x
      · subst hxy
        have es : stepD L y = L := if_pos hy
        simp_arith [hne, la, nn]
        exact stp_mk [_, _] rfl ⟨_, by rw [e2, es]⟩
      · have es : stepD L x = L ++ [x] := if_neg (by rw [hy]; exact fun z => hxy (Option.some.inj z))
        simp_arith [hne, la, nn, hxy, sz]
        exact stp_mk [_, _] rfl ⟨_, by rw [e2, es, List.map_append]; rfl⟩
  · rintro vs ⟨a, rfl⟩
    simp_arith
    rfl
theorem ssets_len (rows : List (List Nat)) : (ssets rows).length ≤ rows.length := by
  have h1 := foldD_le (sortS rows) []
  rw [(sortS_perm rows).length_eq] at h1
  unfold ssets
  simpa using h1
theorem stepL_le {L : List (List Nat)} {x : List Nat} : (stepL L x).length ≤ L.length + 1 := by
  unfold stepL
  split
  · omega
  · simp
theorem foldL_le : ∀ (zs L : List (List Nat)), (zs.foldl stepL L).length ≤ L.length + zs.length
  | [], L => by simp
  | x :: r, L => by
    have h1 := foldL_le r (stepL L x)
    have h2 := stepL_le (L := L) (x := x)
    rw [List.foldl_cons, List.length_cons]
    omega
/-! ### as the law does it -/
theorem ordered_ok (rows : List (List Nat)) : semF tt.pg wl (n + 1) 13 [.lst (rows.map encS)] = .ok (.lst ((sortS rows).map encS)) [.lst (rows.map encS)] := by
  apply wF_eq (X := fX)
  rw [r13]
  simp_arith [B13]
  refine wSl_map rows encS kyR rfl (fun x hx => ?_) ?_
  · simp_arith [encS, kyR]
  · rw [srt_rows]
    simp_arith
theorem lleast_ok (rows : List (List Nat)) (hz : rows.length ≤ 100000) (hl : ∀ R ∈ rows, R.length ≤ 100) : semF tt.pg wl (n + 2) 15 [.lst (rows.map encS)] = .ok (.lst ((leastL rows).map encS)) [.lst (rows.map encS)] := by
  apply wF_eq (X := fX)
  rw [r15]
  have ss := ordered_ok (wl := wl) (n := n) rows
  have ls : (sortS rows).length = rows.length := (sortS_perm rows).length_eq
  simp_arith [B15]
  refine wF_by ss ?_
  simp_arith
  refine wL_pre (sortS rows) encS [1, 2] (fun p vs => ∃ a L, vs = [.lst (L.map encS), a] ∧ L = p.foldl stepL [] ∧ ∀ y ∈ L, y.length ≤ 100) rfl ?_ ?_ ?_
  · exact ⟨[_, _], rfl, _, [], rfl, rfl, fun y h => by cases h⟩
  · rintro p x r vs e ⟨a, L, rfl, eL, bL⟩
    have lp : p.length + 1 ≤ rows.length := by rw [← ls, e]; simp
    have l1 := foldL_le p []
    have e2 : (p ++ [x]).foldl stepL [] = stepL (p.foldl stepL []) x := by rw [List.foldl_append]; rfl
    rw [← eL] at l1 e2
    have bx : x.length ≤ 100 := hl x ((sortS_perm rows).mem_iff.mp (by rw [e]; simp))
    have sz : L.length < sizeLine := szt (by simp at l1; omega)
    simp_arith
    refine wLc_map L encS (fun y => .bl (inS y x)) rfl (fun y hy => ?_) sz ?_
    · have hw := insideT_ok (wl := wl) (n := n) y x (bL y hy)
      simp only [encS] at hw ⊢
      simp_arith
      refine wF_by hw ?_
      simp_arith
    · simp_arith [allB_map]
      by_cases hc : L.any (fun y => inS y x) = true
      · have es : stepL L x = L := if_pos hc
        rw [if_pos (List.any_eq_true.mp hc)]
        exact stp_mk [_, _] rfl ⟨_, L, rfl, by rw [e2, es], bL⟩
      · have es : stepL L x = L ++ [x] := if_neg hc
        rw [if_neg (fun z => hc (List.any_eq_true.mpr z))]
        refine ⟨sz, stp_mk [_, _] rfl ⟨_, L ++ [x], by rw [List.map_append]; rfl, by rw [e2, es], fun y hy => ?_⟩⟩
        rcases List.mem_append.mp hy with z | z
        · exact bL y z
        · rw [List.mem_singleton.mp z]; exact bx
  · rintro vs ⟨a, L, rfl, eL, bL⟩
    simp_arith
    rw [eL]
    rfl
end Zp
end
end

section
section
set_option maxHeartbeats 8000000
open PySem
namespace Zp
open Zy Tr
variable {wl n : Nat}
def memb (S : List Nat) : Nat → Bool := fun k => decide (k ∈ S)
def holdsS (rows : List (List Nat)) (s : Nat → Bool) : Bool := rows.any fun R => R.all s
theorem holdsB_memb (rows : List (List Nat)) (S : List Nat) : holdsB rows S = holdsS rows (memb S) := rfl
theorem bits_div : ∀ (k p : Nat) (s : Nat → Bool) (i : Nat), i < k → bits k p s / 2 ^ i % 2 = if s (p + i) then 1 else 0
  | k + 1, p, s, 0, _ => by
    show ((if s p then 1 else 0) + 2 * bits k (p + 1) s) / 2 ^ 0 % 2 = if s (p + 0) then 1 else 0
    rw [Nat.pow_zero, Nat.div_one, Nat.add_zero]
    generalize bits k (p + 1) s = b
    cases s p
    · simp only [Bool.false_eq_true, if_false]; omega
    · simp only [if_true]; omega
  | k + 1, p, s, i + 1, h => by
    have ih := bits_div k (p + 1) s i (by omega)
    rw [show p + (i + 1) = p + 1 + i by omega, ← ih]
    show ((if s p then 1 else 0) + 2 * bits k (p + 1) s) / 2 ^ (i + 1) % 2 = _
    generalize bits k (p + 1) s = b
    rw [Nat.pow_succ, Nat.mul_comm (2 ^ i) 2, ← Nat.div_div_eq_div_mul]
    have : ((if s p then 1 else 0) + 2 * b) / 2 = b := by
      cases s p
      · simp only [Bool.false_eq_true, if_false]; omega
      · simp only [if_true]; omega
    rw [this]
theorem mem_bits {m : Nat} (s : Nat → Bool) (p : Nat) : p ∈ mem m (bits m 0 s) ↔ p < m ∧ s p = true := by
  unfold mem
  rw [List.mem_filter, List.mem_range, decide_eq_true_eq]
  refine and_congr_right fun hp => ?_
  have := bits_div m 0 s p hp
  rw [Nat.zero_add] at this
  have e : ((bits m 0 s : Nat) : Int) / ((2 ^ p : Nat) : Int) % 2 = ((bits m 0 s / 2 ^ p % 2 : Nat) : Int) := by norm_cast
  rw [e, this]
  cases s p <;> simp
theorem treeOf_val {rows : List (List Nat)} {m : Nat} (hF : Fam m rows) (s : Nat → Bool) : (treeOf rows m).val s = holdsS rows s := by
  unfold treeOf
  rw [tbl_val m 0 _ (by simp [truthOf])]
  have lt := bits_lt m 0 s
  rw [List.getD_eq_getElem?_getD]
  unfold truthOf
  rw [List.getElem?_map, List.getElem?_range lt]
  show holdsB rows (mem m (bits m 0 s)) = _
  unfold holdsB holdsS inS
  rw [Bool.eq_iff_iff, List.any_eq_true, List.any_eq_true]
  refine exists_congr fun R => and_congr_right fun hR => ?_
  rw [List.all_eq_true, List.all_eq_true]
  refine forall_congr' fun x => imp_congr_right fun hx => ?_
  rw [decide_eq_true_eq, mem_bits]
  exact ⟨fun h => h.2, fun h => ⟨hF.b R hR x hx, h⟩⟩
end Zp
end
end

section
section
set_option maxHeartbeats 8000000
open PySem
namespace Zp
open Zy Tr
variable {wl n : Nat}
/-! ### the reasons of a table -/
def rs : Tr → List (List Nat)
  | lf false => []
  | lf true => [[]]
  | nd v a b => leastL (rs a ++ (rs b).map (v :: ·))
theorem rs_bd : ∀ (t : Tr), RO t → (∀ R ∈ rs t, Asc R ∧ (∀ v, Gt v t → ∀ x ∈ R, v < x) ∧ R.length ≤ t.sz ∧ ∀ P : Nat → Prop, Tr.In P t → ∀ x ∈ R, P x) ∧ (rs t).length ≤ t.sz + 1
  | lf false, _ => ⟨fun R h => (by cases h), Nat.zero_le _⟩
  | lf true, _ => ⟨fun R h => by
      rw [List.mem_singleton.mp h]
      exact ⟨List.Pairwise.nil, fun v _ x h => (by cases h), Nat.zero_le _, fun P _ x h => (by cases h)⟩, Nat.le_refl _⟩
  | nd v a b, ro => by
    obtain ⟨_, ra, rb, ga, gb⟩ := ro
    obtain ⟨h1, l1⟩ := rs_bd a ra
    obtain ⟨h2, l2⟩ := rs_bd b rb
    have all : ∀ R ∈ rs a ++ (rs b).map (v :: ·), Asc R ∧ (∀ w, Gt w (nd v a b) → ∀ x ∈ R, w < x) ∧ R.length ≤ (nd v a b).sz ∧ ∀ P : Nat → Prop, Tr.In P (nd v a b) → ∀ x ∈ R, P x := by
      intro R hR
      rcases List.mem_append.mp hR with hR | hR
      · obtain ⟨k1, k2, k3, k4⟩ := h1 R hR
        exact ⟨k1, fun w hw x hx => Nat.lt_trans hw (k2 v ga x hx), by simp only [Tr.sz]; omega, fun P hP x hx => k4 P hP.nd.2.1 x hx⟩
      · obtain ⟨q, hq, rfl⟩ := List.mem_map.mp hR
        obtain ⟨k1, k2, k3, k4⟩ := h2 q hq
        refine ⟨List.pairwise_cons.mpr ⟨fun x hx => k2 v gb x hx, k1⟩, fun w hw x hx => ?_, by simp only [Tr.sz, List.length_cons]; omega, fun P hP x hx => ?_⟩
        · rcases List.mem_cons.mp hx with e | hx
          · subst e; exact hw
          · exact Nat.lt_trans hw (k2 v gb x hx)
        · rcases List.mem_cons.mp hx with e | hx
          · subst e; exact hP.nd.1
          · exact k4 P hP.nd.2.2 x hx
    have ha : ∀ R ∈ rs a ++ (rs b).map (v :: ·), Asc R := fun R hR => (all R hR).1
    refine ⟨fun R hR => all R (leastL_mem hR ha), ?_⟩
    have := leastL_len _ ha
    rw [List.length_append, List.length_map] at this
    show (leastL _).length ≤ _
    simp only [Tr.sz]
    omega
theorem rs_asc {t : Tr} (ro : RO t) : ∀ R ∈ rs t, Asc R := fun R hR => ((rs_bd t ro).1 R hR).1
theorem rs_idem {t : Tr} (ro : RO t) : leastL (rs t) = rs t := by
  cases t with
  | lf b => cases b <;> rfl
  | nd v a b =>
    refine leastL_idem fun R hR => ?_
    rcases List.mem_append.mp hR with hR | hR
    · exact rs_asc ro.2.1 R hR
    · obtain ⟨q, hq, rfl⟩ := List.mem_map.mp hR
      obtain ⟨k1, k2, _⟩ := (rs_bd b ro.2.2.1).1 q hq
      exact List.pairwise_cons.mpr ⟨fun x hx => k2 v ro.2.2.2.2 x hx, k1⟩
/-- more never undoes -/
def Mono (t : Tr) : Prop := ∀ s s' : Nat → Bool, (∀ k, s k = true → s' k = true) → t.val s = true → t.val s' = true
theorem mono_nd {v : Nat} {a b : Tr} (ro : RO (nd v a b)) (h : Mono (nd v a b)) : Mono a ∧ Mono b ∧ ∀ s, a.val s = true → b.val s = true := by
  obtain ⟨_, ra, rb, ga, gb⟩ := ro
  have va : ∀ s, (nd v a b).val (put s v false) = a.val s := fun s => by
    show (if put s v false v = true then _ else _) = _
    rw [show put s v false v = false by unfold put; simp, if_neg Bool.false_ne_true, val_put ra ga]
  have vb : ∀ s, (nd v a b).val (put s v true) = b.val s := fun s => by
    show (if put s v true v = true then _ else _) = _
    rw [show put s v true v = true by unfold put; simp, if_pos rfl, val_put rb gb]
  have up : ∀ (s s' : Nat → Bool) (c d : Bool), (∀ k, s k = true → s' k = true) → (c = true → d = true) → ∀ k, put s v c k = true → put s' v d k = true := by
    intro s s' c d hs hc k
    unfold put
    split
    · exact hc
    · exact hs k
  refine ⟨fun s s' hs e => ?_, fun s s' hs e => ?_, fun s e => ?_⟩
  · rw [← va] at e ⊢
    exact h _ _ (up s s' _ _ hs id) e
  · rw [← vb] at e ⊢
    exact h _ _ (up s s' _ _ hs id) e
  · rw [← va] at e
    rw [← vb]
    exact h _ _ (up s s _ _ (fun _ h => h) fun _ => rfl) e
theorem rs_val : ∀ (t : Tr), RO t → Mono t → ∀ S, holdsB (rs t) S = t.val (memb S)
  | lf false, _, _, S => rfl
  | lf true, _, _, S => rfl
  | nd v a b, ro, mo, S => by
    obtain ⟨ma, mb, mab⟩ := mono_nd ro mo
    have ha := rs_val a ro.2.1 ma S
    have hb := rs_val b ro.2.2.1 mb S
    have asc : ∀ R ∈ rs a ++ (rs b).map (v :: ·), Asc R := fun R hR => by
      rcases List.mem_append.mp hR with hR | hR
      · exact rs_asc ro.2.1 R hR
      · obtain ⟨q, hq, rfl⟩ := List.mem_map.mp hR
        obtain ⟨k1, k2, _⟩ := (rs_bd b ro.2.2.1).1 q hq
        exact List.pairwise_cons.mpr ⟨fun x hx => k2 v ro.2.2.2.2 x hx, k1⟩
    show holdsB (leastL _) S = _
    rw [leastL_holds asc]
    show holdsB _ S = if memb S v = true then b.val (memb S) else a.val (memb S)
    rw [← ha, ← hb]
    have ab := mab (memb S)
    rw [← ha, ← hb] at ab
    unfold holdsB at ab ⊢
    rw [List.any_append, List.any_map]
    have e : ((fun R => inS R S) ∘ fun q => v :: q) = fun q => memb S v && inS q S := by
      funext q
      unfold inS memb
      simp
    rw [e]
    cases hm : memb S v with
    | false => simp
    | true =>
      simp only [Bool.true_and, if_true]
      cases h1 : (rs a).any fun R => inS R S with
      | false => simp
      | true => rw [ab h1]; rfl
def encR (t : Tr) : D := .tup ((rs t).map encS)
def rv (p : List Tr) : List D := encR (lf false) :: encR (lf true) :: p.map encR
theorem rv_at {p : List Tr} : ∀ {t : Tr}, Has p t → L2.atI (rv p) (ix p t : Int) = some (encR t)
  | lf b, _ => by cases b <;> exact L2.atI_nat rfl
  | nd v l r, h => by
    have h2 := List.idxOf_lt_length_iff.mpr (show nd v l r ∈ p from h)
    refine L2.atI_nat ?_
    show (p.map encR)[List.idxOf (nd v l r) p]? = _
    rw [List.getElem?_map, List.getElem?_eq_getElem h2, List.getElem_idxOf h2]
    rfl
theorem rv_snoc (p : List Tr) (t : Tr) : rv (p ++ [t]) = rv p ++ [encR t] := by
  unfold rv
  rw [List.map_append]
  rfl
theorem sortI_asc : ∀ {l : List Int}, l.Pairwise (· < ·) → sortI l = l
  | [], _ => rfl
  | x :: r, h => by
    rw [List.pairwise_cons] at h
    rw [sortI, sortI_asc h.2]
    cases r with
    | nil => rfl
    | cons y r =>
      have := h.1 y List.mem_cons_self
      unfold insI
      rw [if_pos (by omega)]
theorem asc_int {R : List Nat} (h : Asc R) : (R.map fun (x : Nat) => (x : Int)).Pairwise (· < ·) := List.pairwise_map.mpr (h.imp fun h => by omega)
theorem sorted_asc {R : List Nat} (h : Asc R) : (allI (R.map encN)).map (fun ns => M.lst ((sortI ns).map .int)) = some (.lst (R.map encN)) := by
  have : R.map encN = (R.map fun (x : Nat) => (x : Int)).map D.int := by rw [List.map_map]; rfl
  rw [this, allI_ints, Option.map_some, sortI_asc (asc_int h)]
def cnd (T : List Tr) (t : Tr) : D := .tup [.tup (T.map (row T)), .int (ix T t)]
theorem cnd_tab (t : Tr) : cnd (tabL t) t = tabD t := rfl
end Zp
end
end

section
section
set_option maxHeartbeats 8000000
open PySem
namespace Zp
open Zy
variable {wl : Nat}
/-- what `_law_same` walks through -/
def smD : Nat → D → Bool
  | _, .str x => PyData.strOk x
  | _, .int _ => true
  | _, .bl _ => true
  | _, .non => true
  | 0, .tup _ => false
  | k + 1, .tup l => decide (l.length ≤ 1000) && l.attach.all fun d => smD k d.1
theorem smD_tup {k : Nat} {l : List D} : smD (k + 1) (.tup l) = (decide (l.length ≤ 1000) && l.all (smD k)) := by
  rw [smD]
  congr 1
  rw [Bool.eq_iff_iff, List.all_eq_true, List.all_eq_true]
  exact ⟨fun h d hd => h ⟨d, hd⟩ (List.mem_attach _ _), fun h d _ => h d.1 d.2⟩
theorem all_true {α : Type} : ∀ l : List α, allB (l.map fun _ => D.bl true) = some (l.map fun _ => true)
  | [] => rfl
  | x :: l => by rw [List.map_cons, List.map_cons, allB, all_true l]; rfl
theorem same_ok : ∀ {k : Nat} {L : Nat} {d : D}, k + 1 ≤ L → smD k d = true → semF tt.pg wl L 20 [.i d, .i d] = .ok (.i (.bl true)) [.i d, .i d] := by
  intro k
  have flat : ∀ {k L : Nat} {d : D}, (∀ l, d ≠ .tup l) → 1 ≤ L → smD k d = true → semF tt.pg wl L 20 [.i d, .i d] = .ok (.i (.bl true)) [.i d, .i d] := by
    intro k L d hd hL h
    obtain ⟨n, rfl⟩ : ∃ n, L = n + 1 := ⟨L - 1, by omega⟩
    apply wF_eq (X := fX)
    rw [r20]
    cases d with
    | str x =>
      have h : PyData.strOk x = true := by cases k <;> exact h
      simp_arith [B20, isiM, h]
    | int i => simp_arith [B20, isiM]
    | bl b => simp_arith [B20, isiM]
    | non => simp_arith [B20, isiM]
    | tup l => exact absurd rfl (hd l)
  induction k with
  | zero =>
    intro L d hL h
    refine flat (fun l e => ?_) (by omega) h
    subst e
    simp [smD] at h
  | succ k ih =>
    intro L d hL h
    cases d with
    | tup l =>
      obtain ⟨n, rfl⟩ : ∃ n, L = n + 1 := ⟨L - 1, by omega⟩
      rw [smD_tup, Bool.and_eq_true, decide_eq_true_eq, List.all_eq_true] at h
      have hr := rngOk_nat (n := l.length) (by omega)
      apply wF_eq (X := fX)
      rw [r20]
      simp_arith [B20, isiM, hr]
      refine wLc_map (List.range l.length) (fun i => D.int (0 + (i : Nat))) (fun _ => .bl true) (rngL_map l.length 0) (fun j hj => ?_) (szt (by simp; omega)) ?_
      · have hj := List.mem_range.mp hj
        have hat : L2.atI l (j : Int) = some l[j] := L2.atI_nat (by simp [hj])
        simp_arith [Int.zero_add, hat]
        refine wF_by (ih (by omega) (h.2 _ (List.getElem_mem hj))) ?_
        simp_arith
      · have e := all_true (List.range l.length)
        simp_arith [e, List.all_map]
    | str x => exact flat (fun l e => by cases e) (by omega) h
    | int i => exact flat (fun l e => by cases e) (by omega) h
    | bl b => exact flat (fun l e => by cases e) (by omega) h
    | non => exact flat (fun l e => by cases e) (by omega) h
theorem same_str {L : Nat} {q : List Nat} (hL : 1 ≤ L) (h : ∀ x ∈ q, x < 1114112) : semF tt.pg wl L 20 [.i (.str (tq q)), .i (.str (tq q))] = .ok (.i (.bl true)) [.i (.str (tq q)), .i (.str (tq q))] :=
  same_ok (k := 0) hL (by simp only [smD]; rw [strOk_tq]; simpa using h)
end Zp
end
end

section
section
set_option maxHeartbeats 8000000
open PySem
namespace Zp
open Zy Tr
variable {wl n : Nat}
theorem ordered_okR (rows : List (List Nat)) : semF tt.pg wl (n + 1) 13 [.rol (rows.map encS)] = .ok (.lst ((sortS rows).map encS)) [.rol (rows.map encS)] := by
  apply wF_eq (X := fX)
  rw [r13]
  simp_arith [B13]
  refine wSl_map rows encS kyR rfl (fun x hx => ?_) ?_
  · simp_arith [encS, kyR]
  · rw [srt_rows]
    simp_arith
theorem lleast_okR (rows : List (List Nat)) (hz : rows.length ≤ 100000) (hl : ∀ R ∈ rows, R.length ≤ 100) : semF tt.pg wl (n + 2) 15 [.rol (rows.map encS)] = .ok (.lst ((leastL rows).map encS)) [.rol (rows.map encS)] := by
  apply wF_eq (X := fX)
  rw [r15]
  have ss := ordered_okR (wl := wl) (n := n) rows
  have ls : (sortS rows).length = rows.length := (sortS_perm rows).length_eq
  simp_arith [B15]
  refine wF_by ss ?_
  simp_arith
  refine wL_pre (sortS rows) encS [1, 2] (fun p vs => ∃ a L, vs = [.lst (L.map encS), a] ∧ L = p.foldl stepL [] ∧ ∀ y ∈ L, y.length ≤ 100) rfl ?_ ?_ ?_
  · exact ⟨[_, _], rfl, _, [], rfl, rfl, fun y h => by cases h⟩
  · rintro p x r vs e ⟨a, L, rfl, eL, bL⟩
    have lp : p.length + 1 ≤ rows.length := by rw [← ls, e]; simp
    have l1 := foldL_le p []
    have e2 : (p ++ [x]).foldl stepL [] = stepL (p.foldl stepL []) x := by rw [List.foldl_append]; rfl
    rw [← eL] at l1 e2
    have bx : x.length ≤ 100 := hl x ((sortS_perm rows).mem_iff.mp (by rw [e]; simp))
    have sz : L.length < sizeLine := szt (by simp at l1; omega)
    simp_arith
    refine wLc_map L encS (fun y => .bl (inS y x)) rfl (fun y hy => ?_) sz ?_
    · have hw := insideT_ok (wl := wl) (n := n) y x (bL y hy)
      simp only [encS] at hw ⊢
      simp_arith
      refine wF_by hw ?_
      simp_arith
    · simp_arith [allB_map]
      by_cases hc : L.any (fun y => inS y x) = true
      · have es : stepL L x = L := if_pos hc
        rw [if_pos (List.any_eq_true.mp hc)]
        exact stp_mk [_, _] rfl ⟨_, L, rfl, by rw [e2, es], bL⟩
      · have es : stepL L x = L ++ [x] := if_neg hc
        rw [if_neg (fun z => hc (List.any_eq_true.mpr z))]
        refine ⟨sz, stp_mk [_, _] rfl ⟨_, L ++ [x], by rw [List.map_append]; rfl, by rw [e2, es], fun y hy => ?_⟩⟩
        rcases List.mem_append.mp hy with z | z
        · exact bL y z
        · rw [List.mem_singleton.mp z]; exact bx
  · rintro vs ⟨a, L, rfl, eL, bL⟩
    simp_arith
    rw [eL]
    rfl
end Zp
end
section
set_option maxHeartbeats 8000000
open PySem
namespace Zp
open Zy Tr
variable {wl n : Nat}
/-! ### a set that is drawn; the reasons within it -/
structure Tkn (m : Nat) (S : List Nat) : Prop where
  s : Asc S
  b : ∀ x ∈ S, x < m
theorem Tkn.len {m : Nat} {S : List Nat} (h : Tkn m S) : S.length ≤ m := by
  have := asc_len 0 m S h.s fun x hx => ⟨Nat.zero_le _, h.b x hx⟩
  omega
theorem set_w {ns : List Int} {k m : Nat} (hm : m ≤ 10) {K : M → List M → Prop} {X : Ex → List M → Prop}
    (h : ∀ S : List Nat, Tkn m S → K (.i (encS S)) [.rol (ns.map .int), .i (.int k), .i (.int m)]) :
    @wF (semF tt.pg wl (n + 3) 19 [.rol (ns.map .int), .i (.int k), .i (.int m)]) K X := by
  rw [r19]
  have hr := rngOk_nat (n := m) (by omega)
  simp_arith [B19]
  refine draws_w ns k m (by omega) fun fs lf => ?_
  simp_arith [hr]
  refine wLx_pre (List.range m) (fun i => D.int (0 + (i : Nat))) [3, 4] (fun p ds vs => ∃ (R : List Nat) (fs : List Int) (a : M), ds = R.map encN ∧ vs = [.lst (fs.map .int), a] ∧ R.Sublist p) (rngL_map m 0) ?_ ?_ ?_
  · exact ⟨[_, _], rfl, [], _, _, rfl, rfl, List.Sublist.refl _⟩
  · rintro p x q ds vs e ⟨R, fs, a, rfl, rfl, hs⟩
    simp_arith
    refine take_w (by decide) fun w fs3 hw lf3 => ?_
    by_cases w2 : 0 < w
    · simp_arith [w2]
      exact stp_mk [_, _] rfl ⟨R ++ [x], fs3, _, by rw [List.map_append]; rfl, rfl, List.Sublist.append hs (List.Sublist.refl _)⟩
    · simp_arith [w2]
      exact stp_mk [_, _] rfl ⟨R, fs3, _, rfl, rfl, hs.trans (List.sublist_append_left _ _)⟩
  · rintro ds vs ⟨R, fs, a, rfl, rfl, hs⟩
    have hl := hs.length_le
    rw [List.length_range] at hl
    have s2 : R.length < sizeLine := szt (by omega)
    simp_arith [s2]
    exact h R ⟨List.pairwise_lt_range.sublist hs, fun x hx => List.mem_range.mp (hs.subset hx)⟩
theorem holds_ok (rows : List (List Nat)) (S : List Nat) (hz : ∀ R ∈ rows, R.length ≤ 100) (lz : rows.length ≤ 100) : semF tt.pg wl (n + 2) 21 [.lst (rows.map encS), .i (encS S)] = .ok (.i (.bl (holdsB rows S))) [.lst (rows.map encS), .i (encS S)] := by
  apply wF_eq (X := fX)
  rw [r21]
  simp_arith [B21]
  refine wLc_map rows encS (fun R => .bl (inS R S)) rfl (fun R hR => ?_) (szt (by omega)) ?_
  · have := insideT_ok (wl := wl) (n := n) R S (hz R hR)
    simp_arith [this]
  · simp_arith [allB_map, List.any_map]
    unfold holdsB
    simp
def rsn (t : Tr) (S : List Nat) : List (List Nat) := (rs t).filter fun R => inS R S
end Zp
end
end

section
section
set_option maxHeartbeats 8000000
open PySem
namespace Zp
open Zy Tr
variable {wl n : Nat}
/-! ### subsets of a set, what is left of it -/
def setsOf (S : List Nat) : List (List Nat) := S.foldl (fun rows x => rows ++ rows.map (· ++ [x])) [[]]
theorem setsOf_snoc (S : List Nat) (x : Nat) : setsOf (S ++ [x]) = setsOf S ++ (setsOf S).map (· ++ [x]) := by unfold setsOf; rw [List.foldl_append]; rfl
theorem sublist_snoc {R S : List Nat} {x : Nat} : R.Sublist (S ++ [x]) ↔ R.Sublist S ∨ ∃ r, R = r ++ [x] ∧ r.Sublist S := by
  constructor
  · intro h
    obtain ⟨r1, r2, rfl, h1, h2⟩ := List.sublist_append_iff.mp h
    cases r2 with
    | nil => rw [List.append_nil]; exact .inl h1
    | cons y r2 =>
      have : y :: r2 = [x] := by
        have := h2.length_le
        cases r2 with
        | nil => have := h2.eq_of_length (by simp); exact this
        | cons z r2 => simp at this
      rw [this]
      exact .inr ⟨r1, rfl, h1⟩
  · rintro (h | ⟨r, rfl, h⟩)
    · exact h.trans (List.sublist_append_left _ _)
    · exact h.append (List.Sublist.refl _)
theorem setsOf_mem : ∀ (k : Nat) (S : List Nat), S.length = k → ∀ R, R ∈ setsOf S ↔ R.Sublist S
  | 0, S, h => fun R => by
    rw [List.length_eq_zero_iff.mp h]
    show R ∈ [[]] ↔ _
    rw [List.mem_singleton, List.sublist_nil]
  | k + 1, S, h => fun R => by
    rcases List.eq_nil_or_concat S with rfl | ⟨p, x, rfl⟩
    · cases h
    · rw [List.concat_eq_append] at h ⊢
      rw [List.length_append] at h
      have ih := setsOf_mem k p (by simpa using h)
      rw [setsOf_snoc, List.mem_append, ih R, sublist_snoc, List.mem_map]
      refine or_congr Iff.rfl ⟨?_, ?_⟩
      · rintro ⟨r, hr, rfl⟩; exact ⟨r, rfl, (ih r).mp hr⟩
      · rintro ⟨r, rfl, hr⟩; exact ⟨r, (ih r).mpr hr, rfl⟩
theorem setsOf_iff {S R : List Nat} : R ∈ setsOf S ↔ R.Sublist S := setsOf_mem _ S rfl R
theorem setsOf_length : ∀ (k : Nat) (S : List Nat), S.length = k → (setsOf S).length = 2 ^ k
  | 0, S, h => by rw [List.length_eq_zero_iff.mp h]; rfl
  | k + 1, S, h => by
    rcases List.eq_nil_or_concat S with rfl | ⟨p, x, rfl⟩
    · cases h
    · rw [List.concat_eq_append] at h ⊢
      rw [List.length_append] at h
      have ih := setsOf_length k p (by simpa using h)
      rw [setsOf_snoc, List.length_append, List.length_map, ih, Nat.pow_succ]
      omega
theorem subs_ok (S : List Nat) (hz : S.length ≤ 10) : semF tt.pg wl (n + 1) 12 [.i (encS S)] = .ok (.lst ((setsOf S).map encS)) [.i (encS S)] := by
  apply wF_eq (X := fX)
  rw [r12]
  simp_arith [B12, encS]
  refine wL_pre S encN [1, 2, 3, 4] (fun p vs => ∃ (x y z : M), vs = [.lst ((setsOf p).map encS), x, y, z]) rfl ?_ ?_ ?_
  · exact ⟨[_, _, _, _], rfl, _, _, _, rfl⟩
  · rintro p i r vs e ⟨m1, m2, m3, rfl⟩
    have lp : p.length + 1 ≤ S.length := by have := congrArg List.length e; simp at this; omega
    have l1 := setsOf_length _ p rfl
    have l2 : 2 ^ p.length ≤ 1024 := Nat.pow_le_pow_right (n := 2) (by decide) (show p.length ≤ 10 by omega)
    have l3 : ∀ R ∈ setsOf p, R.length ≤ 10 := fun R hR => by
      have := (setsOf_iff.mp hR).length_le
      omega
    simp_arith [encN]
    refine wL_pre (setsOf p) encS [3, 4] (fun q vs => ∃ (x : M), vs = [.lst ((q.map fun R => R ++ [i]).map encS), x]) rfl ?_ ?_ ?_
    · exact ⟨[_, _], rfl, _, rfl⟩
    · rintro q R r2 vs e2 ⟨x, rfl⟩
      have hR := l3 R (by rw [e2]; simp)
      have lq : q.length + 1 ≤ (setsOf p).length := by rw [e2]; simp
      have s1 : R.length + 1 ≤ sizeLine := szi (by omega)
      have s2 : q.length < sizeLine := szt (by omega)
      simp_arith [encS, s1, s2]
      exact stp_mk [_, _] rfl ⟨.i (.tup (R.map encN)), by rw [List.map_append, List.map_append]; simp [encS, encN]⟩
    · rintro vs ⟨x, rfl⟩
      have s3 : (setsOf p).length + (setsOf p).length ≤ sizeLine := szi (by omega)
      simp_arith [s3]
      exact stp_mk [_, _, _, _] rfl ⟨.i (.int i), .lst ((setsOf p).map (encS ∘ fun R => R ++ [i])), x, by rw [setsOf_snoc, List.map_append, List.map_map]⟩
  · rintro vs ⟨m1, m2, m3, rfl⟩
    simp_arith
def rst (S R : List Nat) : List Nat := S.filter fun x => !decide (x ∈ R)
theorem rst_mem {S R : List Nat} {x : Nat} : x ∈ rst S R ↔ x ∈ S ∧ x ∉ R := by
  unfold rst
  rw [List.mem_filter]
  simp
theorem rst_le (S R : List Nat) : (rst S R).length ≤ S.length := List.length_filter_le _ _
theorem rst_asc {S R : List Nat} (h : Asc S) : Asc (rst S R) := h.sublist List.filter_sublist
theorem rest_ok (S R : List Nat) (hz : S.length ≤ 100) : semF tt.pg wl (n + 1) 22 [.i (encS S), .i (encS R)] = .ok (.i (encS (rst S R))) [.i (encS S), .i (encS R)] := by
  apply wF_eq (X := fX)
  rw [r22]
  have h1 := inNt R
  simp_arith [B22, encS]
  refine wLc_filter S encN (fun x => !decide (x ∈ R)) encN rfl (fun x hx => ?_) (szt (by omega)) ?_
  · simp_arith [encN, h1]
  · simp_arith [rst]
theorem holds_okR (rows : List (List Nat)) (S : List Nat) (hz : ∀ R ∈ rows, R.length ≤ 100) (lz : rows.length ≤ 100) : semF tt.pg wl (n + 2) 21 [.rol (rows.map encS), .i (encS S)] = .ok (.i (.bl (holdsB rows S))) [.rol (rows.map encS), .i (encS S)] := by
  apply wF_eq (X := fX)
  rw [r21]
  simp_arith [B21]
  refine wLc_map rows encS (fun R => .bl (inS R S)) rfl (fun R hR => ?_) (szt (by omega)) ?_
  · have := insideT_ok (wl := wl) (n := n) R S (hz R hR)
    simp_arith [this]
  · simp_arith [allB_map, List.any_map]
    unfold holdsB
    simp
end Zp
end
end

section
section
set_option maxHeartbeats 8000000
open PySem
namespace Zp
open Zy Tr
variable {wl n : Nat}
/-! ### a condition asked; the numbers that it asks for -/
theorem ix_lt2 {L : List Tr} {v : Nat} {l r : Tr} : ¬ ((ix L (nd v l r) : Int) < 2) := by
  show ¬ (((_ + 2 : Nat) : Int) < 2)
  omega
def cond (T : List Tr) (t : Tr) : D := .tup [.tup (rowsD T), .int (ix T t)]
theorem cond_tab (t : Tr) : cond (tabL t) t = tabD t := rfl
theorem row_at {T : List Tr} {v : Nat} {l r : Tr} (m : nd v l r ∈ T) : L2.atI (rowsD T) ((ix T (nd v l r) : Int) - 2) = some (.tup [.int v, .int (ix T l), .int (ix T r)]) := by
  have e : ((ix T (nd v l r) : Int) - 2) = ((T.idxOf (nd v l r) : Nat) : Int) := by
    show ((_ + 2 : Nat) : Int) - 2 = _
    omega
  rw [e]
  have h := List.idxOf_lt_length_iff.mpr m
  refine L2.atI_nat ?_
  unfold rowsD
  rw [List.getElem?_map, List.getElem?_eq_getElem h, List.getElem_idxOf h]
  rfl
theorem hld_ok (t : Tr) (S : List Nat) (ro : RO t) (hw : Tr.sz t < wl) : semF tt.pg wl (n + 1) 0 [.i (tabD t), .i (.tup (S.map encN))] = .ok (.i (.bl (t.val (memb S)))) [.i (tabD t), .i (.tup (S.map encN))] := by
  apply wF_eq (X := fX)
  rw [r0]
  have cT := tab_Cl ro
  have hT := tab_has t
  rw [← cond_tab]
  generalize tabL t = T at *
  simp_arith [B0, cond]
  refine wS_whl [3, 4, 5, 6] (fun m vs => ∃ (u : Tr) (x y z : M), vs = [.i (.int (ix T u)), x, y, z] ∧ Has T u ∧ Tr.sz u = m ∧ u.val (memb S) = t.val (memb S)) (Tr.sz t) ?_ (by simp_arith; exact hw) ?_
  · exact ⟨_, rfl, t, _, _, _, rfl, hT, rfl, rfl⟩
  · rintro m vs ⟨u, x, y, z, rfl, hu, hm, hv⟩
    cases u with
    | lf b =>
      have hv : b = t.val (memb S) := hv
      rw [← hv]
      cases b <;> simp_arith [ix]
    | nd v l r =>
      have lt := ix_lt2 (L := T) (v := v) (l := l) (r := r)
      have gt : (1 : Int) < ix T (nd v l r) := by omega
      have at_ := row_at hu
      obtain ⟨_, hl, hr⟩ := cT.node hu
      have hin := inNt S v
      simp only [Tr.sz] at hm
      have hv : (if memb S v then r.val (memb S) else l.val (memb S)) = t.val (memb S) := hv
      generalize hx : ix T (nd v l r) = x at *
      by_cases hs : v ∈ S
      · rw [if_pos (by simp [memb, hs])] at hv
        simp only [hs] at hin
        simp_arith [gt, at_, hin]
        exact stp_mk [_, _, _, _] rfl ⟨Tr.sz r, by omega, r, _, _, _, rfl, hr, rfl, hv⟩
      · rw [if_neg (by simp [memb, hs])] at hv
        simp only [hs] at hin
        simp_arith [gt, at_, hin]
        exact stp_mk [_, _, _, _] rfl ⟨Tr.sz l, by omega, l, _, _, _, rfl, hl, rfl, hv⟩
theorem val_congr {S : List Nat} {s s' : Nat → Bool} (h : ∀ k ∈ S, s k = s' k) : ∀ {t : Tr}, Tr.In (· ∈ S) t → t.val s = t.val s'
  | lf _, _ => rfl
  | nd v l r, i => by
    simp only [val, h v i.nd.1, val_congr h i.nd.2.1, val_congr h i.nd.2.2]
theorem tab_In {P : Nat → Prop} {t : Tr} (hi : Tr.In P t) : ∀ x ∈ tabL t, Tr.In P x := by
  have sub : ∀ (t : Tr) (Q : List Tr), Tr.In P t → (∀ x ∈ Q, Tr.In P x) → ∀ x ∈ wr t Q, Tr.In P x := by
    intro t
    induction t with
    | lf b => intro Q _ h; exact h
    | nd v l r il ir =>
      intro Q hi h x hx
      simp only [wr] at hx
      split at hx
      · exact h x hx
      · rcases List.mem_append.mp hx with hx | hx
        · exact ir _ hi.nd.2.2 (il _ hi.nd.2.1 h) x hx
        · rw [List.mem_singleton.mp hx]; exact hi
  exact sub t [] hi (fun _ h => by cases h)
def fvar : Tr → Int
  | nd v _ _ => v
  | lf _ => 0
theorem tab_vars {t : Tr} (ro : RO t) (x : Nat) : x ∈ t.vars ↔ (x : Int) ∈ (tabL t).map fvar := by
  have key : ∀ (u : Tr) (L : List Tr), Cl L → Has L u → x ∈ u.vars → (x : Int) ∈ L.map fvar := by
    intro u
    induction u with
    | lf b => intro L _ _ h; cases h
    | nd v l r ihl ihr =>
      intro L c h hx
      have hm : nd v l r ∈ L := h
      have hn := c.node hm
      rcases List.mem_cons.mp (show x ∈ v :: (l.vars ++ r.vars) from hx) with rfl | hx
      · exact List.mem_map.mpr ⟨_, hm, rfl⟩
      · rcases List.mem_append.mp hx with hx | hx
        · exact ihl L c hn.2.1 hx
        · exact ihr L c hn.2.2 hx
  constructor
  · exact key t _ (tab_Cl ro) (tab_has t)
  · intro h
    obtain ⟨u, hu, e⟩ := List.mem_map.mp h
    have hin := tab_In (P := (· ∈ t.vars)) (fun v hv => hv) u hu
    obtain ⟨v, c, d, rfl, _⟩ := (tab_Cl ro).mem hu
    have e : (v : Int) = x := e
    have : v = x := by omega
    subst this
    exact hin _ (List.mem_cons_self)
theorem asks_ok {t : Tr} (ro : RO t) (hz : (tabL t).length < 64) {S : List Nat} (hs : (S.map Int.ofNat).Pairwise (· < ·)) (hS : ∀ x, x ∈ S ↔ x ∈ t.vars) :
    semF tt.pg wl (n + 1) 1 [.i (tabD t)] = .ok (.i (.tup (S.map encN))) [.i (tabD t)] := by
  apply wF_eq (X := fX)
  rw [r1]
  have cT := tab_Cl ro
  have e : sortU ((tabL t).map fvar) = S.map Int.ofNat := by
    refine lt_same (sortU_lt _).1 hs fun k => ?_
    rw [(sortU_lt _).2]
    constructor
    · intro hk
      obtain ⟨u, hu, e⟩ := List.mem_map.mp hk
      obtain ⟨v, c, d, rfl, _⟩ := cT.mem hu
      have e : (v : Int) = k := e
      subst e
      exact List.mem_map.mpr ⟨v, (hS v).mpr ((tab_vars ro v).mpr hk), rfl⟩
    · intro hk
      obtain ⟨x, hx, rfl⟩ := List.mem_map.mp hk
      exact (tab_vars ro x).mp ((hS x).mp hx)
  simp_arith [B1, tabD]
  refine wSc_map (tabL t) (row (tabL t)) fvar rfl (fun u hu => ?_) hz ?_
  · obtain ⟨v, c, d, rfl, _⟩ := cT.mem hu
    simp_arith [row, fvar]
  · rw [e, List.map_map]
    simp_arith
    exact fun a _ => rfl
end Zp
end
end

section
section
set_option maxHeartbeats 8000000
open PySem
namespace Zp
open Zy Tr
variable {wl n : Nat}
/-! ### the first of a sorted row -/
theorem ssets_mem : ∀ (zs acc : List (List Nat)) (x : List Nat), x ∈ zs.foldl stepD acc ↔ x ∈ acc ∨ x ∈ zs
  | [], acc, x => by simp
  | z :: zs, acc, x => by
    rw [List.foldl_cons, ssets_mem zs, List.mem_cons, ← or_assoc]
    refine or_congr ?_ Iff.rfl
    unfold stepD
    split
    · rename_i h
      exact ⟨.inl, fun h2 => h2.elim id fun e => by rw [e]; exact List.mem_of_getLast? h⟩
    · rw [List.mem_append, List.mem_singleton]
theorem ssets_sub : ∀ (zs acc : List (List Nat)), (zs.foldl stepD acc).Sublist (acc ++ zs)
  | [], acc => by simp
  | z :: zs, acc => by
    rw [List.foldl_cons]
    refine (ssets_sub zs _).trans ?_
    unfold stepD
    split
    · exact (List.Sublist.refl acc).append (List.sublist_cons_self z zs)
    · rw [List.append_assoc]; exact List.Sublist.refl _
theorem ssets_wk (l : List (List Nat)) : Wk (ssets l) := (sortS_wk l).sublist (show ((sortS l).foldl stepD []).Sublist (sortS l) from ssets_sub (sortS l) [])
theorem ssets_iff {l : List (List Nat)} {x : List Nat} : x ∈ ssets l ↔ x ∈ l := by
  unfold ssets
  rw [ssets_mem, (sortS_perm l).mem_iff]
  simp
theorem kl_irr (x : List Nat) : kl x x = false := by
  cases h : kl x x with
  | false => rfl
  | true => exact (kl_asym h).symm.trans h |>.symm ▸ rfl
theorem find_min {l : List (List Nat)} (h : Wk l) {p : List Nat → Bool} {x : List Nat} (e : l.find? p = some x) : ∀ y ∈ l, p y = true → kl y x = false := by
  induction l with
  | nil => cases e
  | cons z r ih =>
    have h' := List.pairwise_cons.mp h
    rw [List.find?_cons] at e
    intro y hy py
    cases hz : p z with
    | true =>
      rw [hz] at e
      cases e
      rcases List.mem_cons.mp hy with rfl | hy
      · exact kl_irr _
      · exact h'.1 y hy
    | false =>
      rw [hz] at e
      rcases List.mem_cons.mp hy with rfl | hy
      · rw [hz] at py; cases py
      · exact ih h'.2 e y hy py
theorem find_same {l1 l2 : List (List Nat)} (h1 : Wk l1) (h2 : Wk l2) {p : List Nat → Bool} (sub : ∀ y ∈ l2, y ∈ l1) (cov : ∀ y ∈ l1, p y = true → ∃ z ∈ l2, p z = true ∧ kl y z = false) : l1.find? p = l2.find? p := by
  cases e1 : l1.find? p with
  | none =>
    rw [List.find?_eq_none] at e1
    symm
    rw [List.find?_eq_none]
    exact fun y hy => e1 y (sub y hy)
  | some x =>
    obtain ⟨z, hz, pz, kz⟩ := cov x (List.mem_of_find?_eq_some e1) (List.find?_some e1)
    have m1 := find_min h1 e1
    have := kl_tri (m1 z (sub z hz) pz) kz
    subst this
    cases e2 : l2.find? p with
    | none => rw [List.find?_eq_none] at e2; exact absurd pz (e2 z hz)
    | some w =>
      have a := find_min h2 e2 z hz pz
      have b := m1 w (sub w (List.mem_of_find?_eq_some e2)) (List.find?_some e2)
      rw [kl_tri a b]
theorem fm_filter {α β : Type} {f g : α → Option β} {q : α → Bool} : ∀ {l : List α}, (∀ x ∈ l, q x = true → f x = g x) → (∀ x ∈ l, q x = false → g x = none) → (l.filter q).filterMap f = l.filterMap g
  | [], _, _ => rfl
  | x :: r, h1, h2 => by
    have ih := fm_filter (l := r) (fun y hy => h1 y (List.mem_cons_of_mem _ hy)) fun y hy => h2 y (List.mem_cons_of_mem _ hy)
    cases hq : q x with
    | true => rw [List.filter_cons_of_pos hq, List.filterMap_cons, List.filterMap_cons, ih, h1 x List.mem_cons_self hq]
    | false => rw [List.filter_cons_of_neg (by rw [hq]; exact Bool.false_ne_true), ih, List.filterMap_cons, h2 x List.mem_cons_self hq]
/-! ### the numbers that a condition hangs on -/
def pvt (t : Tr) (S : List Nat) (x : Nat) : Bool := t.val (memb S) && !t.val (memb (rst S [x]))
def askL (t : Tr) : List Nat := (sortU ((tabL t).map fvar)).map Int.toNat
theorem askL_int {t : Tr} (ro : RO t) : (askL t).map Int.ofNat = sortU ((tabL t).map fvar) := by
  unfold askL
  rw [List.map_map]
  refine (List.map_congr_left fun k hk => ?_).trans (List.map_id _)
  obtain ⟨u, hu, e⟩ := List.mem_map.mp (((sortU_lt _).2 k).mp hk)
  obtain ⟨v, c, d, rfl, _⟩ := (tab_Cl ro).mem hu
  have e : (v : Int) = k := e
  subst e
  rfl
theorem askL_mem {t : Tr} (ro : RO t) (x : Nat) : x ∈ askL t ↔ x ∈ t.vars := by
  rw [tab_vars ro, ← (sortU_lt _).2, ← askL_int ro, List.mem_map]
  constructor
  · exact fun h => ⟨x, h, rfl⟩
  · rintro ⟨y, hy, e⟩
    have e : (y : Int) = x := e
    have : y = x := by omega
    exact this ▸ hy
theorem askL_ok {t : Tr} (ro : RO t) (hz : (tabL t).length < 64) : semF tt.pg wl (n + 1) 1 [.i (tabD t)] = .ok (.i (encS (askL t))) [.i (tabD t)] := asks_ok ro hz (by rw [askL_int ro]; exact (sortU_lt _).1) (askL_mem ro)
theorem val_same {t : Tr} {S S' : List Nat} (h : ∀ x ∈ t.vars, x ∈ S ↔ x ∈ S') : t.val (memb S) = t.val (memb S') := val_congr (S := t.vars) (fun k hk => by
  unfold memb
  rw [Bool.eq_iff_iff, decide_eq_true_eq, decide_eq_true_eq]
  exact h k hk) fun v hv => hv
theorem pvt_same {t : Tr} {S S' : List Nat} {x : Nat} (h : ∀ y ∈ t.vars, y ∈ S ↔ y ∈ S') : pvt t S x = pvt t S' x := by
  unfold pvt
  rw [val_same h, val_same (S := rst S [x]) (S' := rst S' [x]) fun y hy => by rw [rst_mem, rst_mem, h y hy]]
theorem pvt_none {t : Tr} {S : List Nat} {x : Nat} (h : x ∉ t.vars) : pvt t S x = false := by
  unfold pvt
  rw [val_same (S := rst S [x]) (S' := S) fun y hy => by
    rw [rst_mem, List.mem_singleton]
    exact ⟨fun z => z.1, fun z => ⟨z, fun e => h (e ▸ hy)⟩⟩]
  cases t.val (memb S) <;> rfl
theorem rst_sub {S R : List Nat} : (rst S R).Sublist S := List.filter_sublist
theorem rst_two (S R Q : List Nat) : rst (rst S R) Q = rst (rst S Q) R := by
  unfold rst
  rw [List.filter_filter, List.filter_filter]
  exact List.filter_congr fun x _ => Bool.and_comm _ _
/-- the first one that makes a number count, sought among fewer -/
theorem first_same {t : Tr} {T : List Nat} (hT : Asc T) (C : List Nat) (hC : C = T.filter fun x => decide (x ∈ t.vars)) (x : Nat) :
    (sortS (setsOf (rst T [x]))).find? (fun R => pvt t (rst T R) x) = (ssets (setsOf (rst C [x]))).find? (fun R => pvt t (rst T R) x) := by
  refine find_same (sortS_wk _) (ssets_wk _) (fun y hy => ?_) fun y hy py => ?_
  · rw [(sortS_perm _).mem_iff, setsOf_iff]
    refine (setsOf_iff.mp (ssets_iff.mp hy)).trans ?_
    subst hC
    exact List.Sublist.filter _ List.filter_sublist
  · have hy := setsOf_iff.mp ((sortS_perm _).mem_iff.mp hy)
    refine ⟨y.filter fun x => decide (x ∈ t.vars), ssets_iff.mpr (setsOf_iff.mpr ?_), ?_, ?_⟩
    · subst hC
      have := hy.filter fun x => decide (x ∈ t.vars)
      unfold rst at this ⊢
      rw [List.filter_filter] at this ⊢
      rw [show (fun a => (!decide (a ∈ [x])) && decide (a ∈ t.vars)) = fun a => decide (a ∈ t.vars) && !decide (a ∈ [x]) from funext fun a => Bool.and_comm _ _]
      exact this
    · rw [← py]
      refine pvt_same fun a ha => ?_
      rw [rst_mem, rst_mem, List.mem_filter, decide_eq_true_eq]
      exact and_congr_right fun _ => not_congr ⟨fun z => z.1, fun z => ⟨z, ha⟩⟩
    · have ay : Asc y := hT.sublist (hy.trans rst_sub)
      by_cases e : y = y.filter fun x => decide (x ∈ t.vars)
      · rw [← e]; exact kl_irr _
      · exact kl_asym (kl_sub (ay.sublist List.filter_sublist) ay (inS_iff.mpr fun a ha => (List.mem_filter.mp ha).1) fun z => e z.symm)
/-! ### the program's side -/
theorem allbut_ok (S R : List Nat) (hz : S.length ≤ 100) : semF tt.pg wl (n + 1) 5 [.i (encS S), .i (encS R)] = .ok (.i (encS (rst S R))) [.i (encS S), .i (encS R)] := by
  apply wF_eq (X := fX)
  rw [r5]
  have h1 := inNt R
  simp_arith [B5, encS]
  refine wLc_filter S encN (fun x => !decide (x ∈ R)) encN rfl (fun x hx => ?_) (szt (by omega)) ?_
  · simp_arith [encN, h1]
  · simp_arith [rst]
theorem both_ok (S R : List Nat) (hz : S.length ≤ 100) : semF tt.pg wl (n + 1) 6 [.i (encS S), .i (encS R)] = .ok (.i (encS (S.filter fun x => decide (x ∈ R)))) [.i (encS S), .i (encS R)] := by
  apply wF_eq (X := fX)
  rw [r6]
  have h1 := inNt R
  simp_arith [B6, encS]
  refine wLc_filter S encN (fun x => decide (x ∈ R)) encN rfl (fun x hx => ?_) (szt (by omega)) ?_
  · simp_arith [encN, h1]
  · simp_arith
theorem psubs_ok (S : List Nat) (hz : S.length ≤ 10) : semF tt.pg wl (n + 3) 4 [.i (encS S)] = .ok (.lst ((ssets (setsOf S)).map encS)) [.i (encS S)] := by
  apply wF_eq (X := fX)
  rw [r4]
  have l0 := setsOf_length _ S rfl
  have l2 : 2 ^ S.length ≤ 1024 := Nat.pow_le_pow_right (n := 2) (by decide) hz
  have ss := ssets_ok (wl := wl) (n := n) (setsOf S) (by omega)
  simp_arith [B4, encS]
  refine wL_pre S encN [1, 2] (fun p vs => ∃ (x : M), vs = [.lst ((setsOf p).map encS), x]) rfl ?_ ?_ ?_
  · exact ⟨[_, _], rfl, _, rfl⟩
  · rintro p i r vs e ⟨m1, rfl⟩
    have lp : p.length + 1 ≤ S.length := by have := congrArg List.length e; simp at this; omega
    have l1 := setsOf_length _ p rfl
    have l2 : 2 ^ p.length ≤ 1024 := Nat.pow_le_pow_right (n := 2) (by decide) (show p.length ≤ 10 by omega)
    have l3 : ∀ R ∈ setsOf p, R.length ≤ 10 := fun R hR => by
      have := (setsOf_iff.mp hR).length_le
      omega
    have s3 : (setsOf p).length + (setsOf p).length ≤ sizeLine := szi (by omega)
    simp_arith [encN]
    refine wLc_map (setsOf p) encS (fun R => encS (R ++ [i])) rfl (fun R hR => ?_) (szt (by omega)) ?_
    · have hR := l3 R hR
      have s1 : R.length + 1 ≤ sizeLine := szi (by omega)
      simp_arith [encS, s1, encN]
    · simp_arith [extM, s3]
      exact stp_mk [_, _] rfl ⟨_, by rw [setsOf_snoc, List.map_append, List.map_map]; rfl⟩
  · rintro vs ⟨m1, rfl⟩
    simp_arith
    refine wF_by ss ?_
    simp_arith
theorem hangs_ok (t : Tr) (S : List Nat) (x : Nat) (ro : RO t) (hw : Tr.sz t < wl) (hz : S.length ≤ 100) : semF tt.pg wl (n + 2) 7 [.i (tabD t), .i (encS S), .i (.int x)] = .ok (.i (.bl (pvt t S x))) [.i (tabD t), .i (encS S), .i (.int x)] := by
  apply wF_eq (X := fX)
  rw [r7]
  have h1 := hld_ok (wl := wl) (n := n) t S ro hw
  have h2 := allbut_ok (wl := wl) (n := n) S [x] hz
  have h3 := hld_ok (wl := wl) (n := n) t (rst S [x]) ro hw
  rw [show encS [x] = .tup [.int x] from rfl] at h2
  simp only [encS] at h1 h2 h3 ⊢
  simp_arith [B7]
  refine wF_by h1 ?_
  cases e1 : t.val (memb S) with
  | false => simp_arith [pvt, e1]
  | true =>
    simp_arith
    refine wF_by h2 ?_
    simp_arith
    refine wF_by h3 ?_
    simp_arith [pvt, e1]
end Zp
end
end

section
section
set_option maxHeartbeats 8000000
open PySem
namespace Zp
open Zy Tr
variable {wl n : Nat}
def encP (p : Nat × List Nat) : D := .tup [.int p.1, encS p.2]
def duo (L : Nat → List (List Nat)) (p : Nat → List Nat → Bool) (l : List Nat) : List (Nat × List Nat) := l.filterMap fun x => ((L x).find? (p x)).map fun R => (x, R)
theorem duo_snoc (L : Nat → List (List Nat)) (p : Nat → List Nat → Bool) (l : List Nat) (x : Nat) : duo L p (l ++ [x]) = duo L p l ++ (((L x).find? (p x)).map fun R => (x, R)).toList := by
  unfold duo
  rw [List.filterMap_append, List.filterMap_cons, List.filterMap_nil]
  cases ((L x).find? (p x)).map fun R => (x, R) <;> rfl
theorem duo_len (L : Nat → List (List Nat)) (p : Nat → List Nat → Bool) (l : List Nat) : (duo L p l).length ≤ l.length := List.length_filterMap_le _ _
theorem blame_ok (t : Tr) (T : List Nat) (ro : RO t) (hw : Tr.sz t < wl) (h64 : (tabL t).length < 64) (hz : T.length ≤ 10) :
    semF tt.pg wl (n + 4) 8 [.i (tabD t), .i (encS T)] = .ok (.i (.tup ((duo (fun x => ssets (setsOf (rst (T.filter fun x => decide (x ∈ askL t)) [x]))) (fun x R => pvt t (rst T R) x) (T.filter fun x => decide (x ∈ askL t))).map encP))) [.i (tabD t), .i (encS T)] := by
  apply wF_eq (X := fX)
  rw [r8]
  have a1 := askL_ok (wl := wl) (n := n + 2) ro h64
  have a2 := both_ok (wl := wl) (n := n + 2) T (askL t) (by omega)
  have lC := List.length_filter_le (fun x => decide (x ∈ askL t)) T
  have sn := duo_snoc (fun x => ssets (setsOf (rst (T.filter fun x => decide (x ∈ askL t)) [x]))) (fun x R => pvt t (rst T R) x)
  have dl := duo_len (fun x => ssets (setsOf (rst (T.filter fun x => decide (x ∈ askL t)) [x]))) (fun x R => pvt t (rst T R) x)
  generalize duo (fun x => ssets (setsOf (rst (T.filter fun x => decide (x ∈ askL t)) [x]))) (fun x R => pvt t (rst T R) x) = G at *
  generalize T.filter (fun x => decide (x ∈ askL t)) = C at *
  have eC : encS C = .tup (C.map encN) := rfl
  have g0 : G [] = [] := List.length_eq_zero_iff.mp (Nat.le_zero.mp (dl []))
  simp_arith [B8]
  refine wF_by a1 ?_
  simp_arith
  refine wF_by a2 ?_
  simp_arith [eC]
  refine wL_pre C encN [3, 4, 5] (fun p vs => ∃ (a b : M), vs = [.lst ((G p).map encP), a, b]) rfl ?_ ?_ ?_
  · exact ⟨[_, _, _], rfl, _, _, by rw [g0]; rfl⟩
  · rintro p x r vs e ⟨m1, m2, rfl⟩
    have lp : p.length + 1 ≤ C.length := by have := congrArg List.length e; simp at this; omega
    have sG : (G p).length < sizeLine := szt (by have := dl p; omega)
    have ex : encS [x] = .tup [.int x] := rfl
    have b1 := allbut_ok (wl := wl) (n := n + 2) C [x] (by omega)
    rw [ex, eC] at b1
    have b2 := psubs_ok (wl := wl) (n := n) (rst C [x]) (by have := rst_le C [x]; omega)
    have sx := sn p x
    try simp only at sx
    simp_arith [encN]
    refine wF_by b1 ?_
    simp_arith
    refine wF_by b2 ?_
    generalize ssets (setsOf (rst C [x])) = L at *
    simp_arith
    refine wL_pre L encS [5] (fun q vs => ∃ (a : M), vs = [a] ∧ ∀ R ∈ q, pvt t (rst T R) x = false) rfl ?_ ?_ ?_
    · exact ⟨[_], rfl, _, rfl, fun R h => by cases h⟩
    · rintro q R r2 vs e2 ⟨m3, rfl, hno⟩
      have b3 := allbut_ok (wl := wl) (n := n + 2) T R (by omega)
      have b4 := hangs_ok (wl := wl) (n := n + 1) t (rst T R) x ro hw (by have := rst_le T R; omega)
      simp_arith
      refine wF_by b3 ?_
      simp_arith
      refine wF_by b4 ?_
      cases hp : pvt t (rst T R) x with
      | false =>
        simp_arith
        exact stp_mk [_] rfl ⟨_, rfl, fun Q hQ => by
          rcases List.mem_append.mp hQ with z | z
          · exact hno Q z
          · rw [List.mem_singleton.mp z]; exact hp⟩
      | true =>
        have ef : L.find? (fun R => pvt t (rst T R) x) = some R := by
          rw [e2, List.find?_append, List.find?_eq_none.mpr fun Q hQ => by rw [hno Q hQ]; exact Bool.false_ne_true]
          simp [List.find?_cons, hp]
        rw [ef] at sx
        simp_arith [sG]
        exact stp_mk [_, _, _] rfl ⟨_, _, by rw [sx, List.map_append]; rfl⟩
    · rintro vs ⟨m3, rfl, hno⟩
      have ef : L.find? (fun R => pvt t (rst T R) x) = none := List.find?_eq_none.mpr fun Q hQ => by rw [hno Q hQ]; exact Bool.false_ne_true
      rw [ef] at sx
      simp_arith
      exact stp_mk [_, .i (.int x), m3] rfl ⟨.i (.int x), m3, by rw [sx]; simp⟩
  · rintro vs ⟨m1, m2, rfl⟩
    simp_arith
end Zp
end
end

section
section
set_option maxHeartbeats 8000000
open PySem
namespace Zp
open Zy Tr
variable {wl n : Nat}
theorem mono_tree {rows : List (List Nat)} {m : Nat} (hF : Fam m rows) : Mono (treeOf rows m) := fun s s' hs e => by
  rw [treeOf_val hF] at e ⊢
  unfold holdsS at e ⊢
  rw [List.any_eq_true] at e ⊢
  obtain ⟨R, hR, h⟩ := e
  refine ⟨R, hR, ?_⟩
  rw [List.all_eq_true] at h ⊢
  exact fun x hx => hs x (h x hx)
theorem rs_tree {rows : List (List Nat)} {m : Nat} (hF : Fam m rows) (ha : ∀ R ∈ rows, Asc R) : rs (treeOf rows m) = leastL rows := by
  have ro : RO (treeOf rows m) := (tab_RO m 0 _).1
  rw [← rs_idem ro]
  refine least_eq (rs_asc ro) ha fun S _ => ?_
  rw [rs_val _ ro (mono_tree hF), treeOf_val hF, holdsB_memb]
theorem smD_encS {k : Nat} {x : List Nat} (h : x.length ≤ 1000) : smD (k + 1) (encS x) = true := by
  unfold encS
  rw [smD_tup, List.length_map, Bool.and_eq_true, decide_eq_true_eq, List.all_eq_true]
  refine ⟨h, fun d hd => ?_⟩
  obtain ⟨x, _, rfl⟩ := List.mem_map.mp hd
  cases k <;> rfl
theorem smD_sets {k : Nat} {l : List (List Nat)} (h : l.length ≤ 1000) (hx : ∀ x ∈ l, x.length ≤ 1000) : smD (k + 2) (.tup (l.map encS)) = true := by
  rw [smD_tup, List.length_map, Bool.and_eq_true, decide_eq_true_eq, List.all_eq_true]
  refine ⟨h, fun d hd => ?_⟩
  obtain ⟨x, hx', rfl⟩ := List.mem_map.mp hd
  exact smD_encS (hx x hx')
/-- nothing can be left out of a least one -/
theorem least_tight {F : List (List Nat)} (ha : ∀ R ∈ F, Asc R) {R : List Nat} (hR : R ∈ leastL F) {x : Nat} (hx : x ∈ R) {S : List Nat} (hS : ∀ y ∈ S, y ∈ R ∧ y ≠ x) : holdsB F S = false := by
  rw [← Bool.not_eq_true]
  intro z
  obtain ⟨Q, hQ, hi⟩ := holdsB_iff.mp z
  have hi := inS_iff.mp hi
  have e := ((leastL_iff ha R).mp hR).2 Q hQ (inS_iff.mpr fun y hy => (hS y (hi y hy)).1)
  subst e
  exact (hS x (hi x hx)).2 rfl
theorem duo_same {L1 L2 : Nat → List (List Nat)} {p1 p2 : Nat → List Nat → Bool} {l : List Nat} {q : Nat → Bool} (h1 : ∀ x ∈ l, q x = true → (L1 x).find? (p1 x) = (L2 x).find? (p2 x)) (h2 : ∀ x ∈ l, q x = false → (L2 x).find? (p2 x) = none) : duo L1 p1 (l.filter q) = duo L2 p2 l :=
  fm_filter (fun x hx hq => by rw [h1 x hx hq]) fun x hx hq => by rw [h2 x hx hq]; rfl
theorem duo_fst (L : Nat → List (List Nat)) (p : Nat → List Nat → Bool) : ∀ l : List Nat, (duo L p l).map (fun z => z.1) = l.filter fun x => ((L x).find? (p x)).isSome
  | [] => rfl
  | x :: r => by
    have ih := duo_fst L p r
    unfold duo at ih ⊢
    rw [List.filterMap_cons]
    cases h : (L x).find? (p x) with
    | none => rw [List.filter_cons_of_neg (by rw [h]; exact Bool.false_ne_true)]; exact ih
    | some R => rw [List.filter_cons_of_pos (by rw [h]; rfl)]; exact congrArg (x :: ·) ih
theorem duo_mem {L : Nat → List (List Nat)} {p : Nat → List Nat → Bool} {l : List Nat} {z : Nat × List Nat} (h : z ∈ duo L p l) : z.1 ∈ l ∧ z.2 ∈ L z.1 := by
  obtain ⟨x, hx, e⟩ := List.mem_filterMap.mp h
  obtain ⟨R, hR, rfl⟩ := Option.map_eq_some_iff.mp e
  exact ⟨hx, List.mem_of_find?_eq_some hR⟩
/-- a number counts if one of the least rows has it -/
theorem some_iff {rows : List (List Nat)} {m : Nat} (hF : Fam m rows) {T : List Nat} {x : Nat} (hx : x ∈ T) :
    ((sortS (setsOf (rst T [x]))).find? fun R => pvt (treeOf rows m) (rst T R) x).isSome = ((leastL rows).filter fun R => inS R T).any fun R => decide (x ∈ R) := by
  have ha : ∀ R ∈ rows, Asc R := hF.s
  have tv : ∀ S, (treeOf rows m).val (memb S) = holdsB (leastL rows) S := fun S => by rw [treeOf_val hF, ← holdsB_memb, leastL_holds ha]
  rw [Bool.eq_iff_iff, List.find?_isSome, List.any_eq_true]
  constructor
  · rintro ⟨y, hy, py⟩
    unfold pvt at py
    rw [Bool.and_eq_true, tv, tv, Bool.not_eq_true', ← Bool.not_eq_true] at py
    obtain ⟨R, hR, hi⟩ := holdsB_iff.mp py.1
    have hi := inS_iff.mp hi
    refine ⟨R, List.mem_filter.mpr ⟨hR, inS_iff.mpr fun a h => (rst_mem.mp (hi a h)).1⟩, ?_⟩
    apply decide_eq_true
    apply Classical.byContradiction
    intro no
    exact py.2 (holdsB_iff.mpr ⟨R, hR, inS_iff.mpr fun a h => rst_mem.mpr ⟨hi a h, fun z => no (List.mem_singleton.mp z ▸ h)⟩⟩)
  · rintro ⟨R, hR, hxR⟩
    obtain ⟨hR, hT⟩ := List.mem_filter.mp hR
    have hT := inS_iff.mp hT
    have hxR := of_decide_eq_true hxR
    have e : rst T R = rst (rst T [x]) R := by
      unfold rst
      rw [List.filter_filter]
      refine List.filter_congr fun a _ => ?_
      rw [Bool.eq_iff_iff, Bool.and_eq_true, Bool.not_eq_true', Bool.not_eq_true', decide_eq_false_iff_not, decide_eq_false_iff_not, List.mem_singleton]
      exact ⟨fun h => ⟨h, fun z => h (z ▸ hxR)⟩, fun h => h.1⟩
    refine ⟨rst T R, (sortS_perm _).mem_iff.mpr (setsOf_iff.mpr (by rw [e]; exact rst_sub)), ?_⟩
    unfold pvt
    rw [Bool.and_eq_true, tv, tv]
    refine ⟨holdsB_iff.mpr ⟨R, hR, inS_iff.mpr fun a h => rst_mem.mpr ⟨hT a h, fun z => (rst_mem.mp z).2 h⟩⟩, ?_⟩
    rw [leastL_holds ha, least_tight ha hR hxR]
    · rfl
    · intro a h
      obtain ⟨h1, h2⟩ := rst_mem.mp h
      obtain ⟨h3, h4⟩ := rst_mem.mp h1
      exact ⟨Classical.byContradiction fun z => h4 (rst_mem.mpr ⟨h3, z⟩), fun z => h2 (List.mem_singleton.mpr z)⟩
theorem law_any (hw : 1000 < wl) (ns : List Int) : ∃ ms', semF tt.pg wl (n + 40) 23 [.rol (ns.map .int)] = .ok (.i (.bl true)) ms' := by
  suffices h : @wF (semF tt.pg wl (n + 40) 23 [.rol (ns.map .int)]) (fun m _ => m = .i (.bl true)) fX by
    obtain ⟨m, ms, e, rfl⟩ := wF_ex.mp h
    exact ⟨ms, e⟩
  rw [r23]
  have c0 := cell_ok (wl := wl) (n := n + 38) ns 0
  obtain ⟨v, hv⟩ : ∃ v : Nat, cellv ns 0 % 5 = v := Int.eq_ofNat_of_zero_le (Int.emod_nonneg _ (by decide))
  have hv5 : v < 5 := by have := Int.emod_lt_of_pos (cellv ns 0) (b := 5) (by decide); omega
  obtain ⟨m, hm⟩ : ∃ m : Nat, 1 + (v : Int) = m := ⟨1 + v, by omega⟩
  have hm5 : m ≤ 5 := by omega
  have d5 : L2.CDivW (cellv ns 0) 5 := ⟨by decide, by decide +kernel⟩
  simp_arith [B23]
  refine wF_by c0 ?_
  simp_arith [d5, hv, hm]
  refine family_w (n := n + 36) (k := 1) (m := m) (by omega) fun rows hF => ?_
  simp_arith
  refine set_w (n := n + 36) (k := 3) (m := m) (by omega) fun T hT => ?_
  have tb := table_ok (wl := wl) (n := n + 31) hm5 hF
  have ro : RO (treeOf rows m) := (tab_RO m 0 _).1
  have hsz : (treeOf rows m).sz ≤ 31 := by
    have h1 := tbl_sz m 0 (truthOf rows m (2 ^ m))
    have h2 : 2 ^ m ≤ 2 ^ 5 := Nat.pow_le_pow_right (by decide) hm5
    unfold treeOf
    omega
  have h64 : (tabL (treeOf rows m)).length < 64 := by
    have := wr_len (treeOf rows m) []
    unfold tabL
    simp only [List.length_nil] at this
    omega
  have ha : ∀ R ∈ rows, Asc R := hF.s
  have hR : ∀ R ∈ rows, R.length ≤ 100 := fun R h => by have := hF.len R h; omega
  have lR := hF.l
  have lT := hT.len
  have bl := blame_ok (wl := wl) (n := n + 35) (treeOf rows m) T ro (by omega) h64 (by omega)
  have le := lleast_okR (wl := wl) (n := n + 37) rows (by omega) hR
  have zl := leastL_len rows ha
  have hl : ∀ R ∈ leastL rows, R.length ≤ 100 := fun R h => hR R (leastL_mem h ha)
  have tv : ∀ S, (treeOf rows m).val (memb S) = holdsB rows S := fun S => by rw [treeOf_val hF, ← holdsB_memb]
  have hp : ∀ S x, pvt (treeOf rows m) S x = (holdsB rows S && !holdsB rows (rst S [x])) := fun S x => by unfold pvt; rw [tv, tv]
  have eq : duo (fun x => ssets (setsOf (rst (T.filter fun x => decide (x ∈ askL (treeOf rows m))) [x]))) (fun x R => pvt (treeOf rows m) (rst T R) x) (T.filter fun x => decide (x ∈ askL (treeOf rows m))) = duo (fun x => sortS (setsOf (rst T [x]))) (fun x R => pvt (treeOf rows m) (rst T R) x) T := by
    refine duo_same (fun x _ _ => ?_) fun x _ hx => ?_
    · refine (first_same hT.s _ ?_ x).symm
      exact List.filter_congr fun x _ => by rw [Bool.eq_iff_iff, decide_eq_true_eq, decide_eq_true_eq, askL_mem ro]
    · rw [List.find?_eq_none]
      intro R _
      rw [pvt_none (by rw [← askL_mem ro]; exact of_decide_eq_false hx)]
      exact Bool.false_ne_true
  have dm := fun z hz => duo_mem (L := fun x => sortS (setsOf (rst T [x]))) (p := fun x R => pvt (treeOf rows m) (rst T R) x) (l := T) (z := z) hz
  have df := duo_fst (fun x => sortS (setsOf (rst T [x]))) (fun x R => pvt (treeOf rows m) (rst T R) x) T
  have sn := duo_snoc (fun x => sortS (setsOf (rst T [x]))) (fun x R => pvt (treeOf rows m) (rst T R) x)
  have dl := duo_len (fun x => sortS (setsOf (rst T [x]))) (fun x R => pvt (treeOf rows m) (rst T R) x)
  rw [eq] at bl
  rw [List.filter_congr fun x hx => some_iff hF hx] at df
  have sm := same_ok (wl := wl) (k := 5) (L := n + 39) (d := .tup ((duo (fun x => sortS (setsOf (rst T [x]))) (fun x R => pvt (treeOf rows m) (rst T R) x) T).map encP)) (by omega) (by
    rw [smD_tup, List.length_map, Bool.and_eq_true, decide_eq_true_eq, List.all_eq_true]
    refine ⟨by have := dl T; omega, fun d hd => ?_⟩
    obtain ⟨z, hz, rfl⟩ := List.mem_map.mp hd
    have := (setsOf_iff.mp ((sortS_perm _).mem_iff.mp (dm z hz).2)).length_le
    have := rst_le T [z.1]
    unfold encP
    rw [smD_tup]
    simp only [List.length_cons, List.length_nil, List.all_cons, List.all_nil]
    rw [smD_encS (k := 2) (by omega)]
    rfl)
  generalize duo (fun x => sortS (setsOf (rst T [x]))) (fun x R => pvt (treeOf rows m) (rst T R) x) = G at *
  have g0 : G [] = [] := List.length_eq_zero_iff.mp (Nat.le_zero.mp (dl []))
  have eT : encS T = .tup (T.map encN) := rfl
  simp_arith [eT]
  refine wL_pre T encN [4, 5, 6, 7] (fun p vs => ∃ (a b c : M), vs = [.lst ((G p).map encP), a, b, c]) rfl ?_ ?_ ?_
  · exact ⟨[_, _, _, _], rfl, _, _, _, by rw [g0]; rfl⟩
  · rintro p x r vs e ⟨m1, m2, m3, rfl⟩
    have lp : p.length + 1 ≤ T.length := by have := congrArg List.length e; simp at this; omega
    have sG : (G p).length < sizeLine := szt (by have := dl p; omega)
    have ex : encS [x] = .tup [.int x] := rfl
    have b1 := rest_ok (wl := wl) (n := n + 38) T [x] (by omega)
    rw [ex, eT] at b1
    have b2 := subs_ok (wl := wl) (n := n + 38) (rst T [x]) (by have := rst_le T [x]; omega)
    have b3 := ordered_ok (wl := wl) (n := n + 38) (setsOf (rst T [x]))
    have sx := sn p x
    try simp only at sx
    simp_arith [encN]
    refine wF_by b1 ?_
    simp_arith
    refine wF_by b2 ?_
    simp_arith
    refine wF_by b3 ?_
    generalize sortS (setsOf (rst T [x])) = L at *
    simp_arith
    refine wL_pre L encS [6, 7] (fun q vs => ∃ (a b : M), vs = [a, b] ∧ ∀ R ∈ q, pvt (treeOf rows m) (rst T R) x = false) rfl ?_ ?_ ?_
    · exact ⟨[_, _], rfl, _, _, rfl, fun R h => by cases h⟩
    · rintro q R r2 vs e2 ⟨m4, m5, rfl, hno⟩
      have b4 := rest_ok (wl := wl) (n := n + 38) T R (by omega)
      have b5 := holds_ok (wl := wl) (n := n + 37) rows (rst T R) hR (by omega)
      have b6 := rest_ok (wl := wl) (n := n + 38) (rst T R) [x] (by have := rst_le T R; omega)
      have b7 := holds_ok (wl := wl) (n := n + 37) rows (rst (rst T R) [x]) hR (by omega)
      have hpR := hp (rst T R) x
      rw [eT] at b4
      rw [ex] at b6
      have nof : pvt (treeOf rows m) (rst T R) x = false → ∀ Q ∈ q ++ [R], pvt (treeOf rows m) (rst T Q) x = false := fun h Q hQ => by
        rcases List.mem_append.mp hQ with z | z
        · exact hno Q z
        · rw [List.mem_singleton.mp z]; exact h
      simp_arith
      refine wF_by b4 ?_
      simp_arith
      refine wF_by b5 ?_
      cases h1 : holdsB rows (rst T R) with
      | false =>
        rw [h1] at hpR
        simp_arith
        exact stp_mk [_, _] rfl ⟨_, _, rfl, nof hpR⟩
      | true =>
        simp_arith
        refine wF_by b6 ?_
        simp_arith
        refine wF_by b7 ?_
        cases h2 : holdsB rows (rst (rst T R) [x]) with
        | true =>
          rw [h1, h2] at hpR
          simp_arith
          exact stp_mk [_, _] rfl ⟨_, _, rfl, nof hpR⟩
        | false =>
          rw [h1, h2] at hpR
          have hpR : pvt (treeOf rows m) (rst T R) x = true := hpR
          have ef : L.find? (fun R => pvt (treeOf rows m) (rst T R) x) = some R := by
            rw [e2, List.find?_append, List.find?_eq_none.mpr fun Q hQ => by rw [hno Q hQ]; exact Bool.false_ne_true]
            simp [List.find?_cons, hpR]
          rw [ef] at sx
          simp_arith [sG]
          exact stp_mk [_, _, _, _] rfl ⟨_, _, _, by rw [sx, List.map_append]; rfl⟩
    · rintro vs ⟨m4, m5, rfl, hno⟩
      have ef : L.find? (fun R => pvt (treeOf rows m) (rst T R) x) = none := List.find?_eq_none.mpr fun Q hQ => by rw [hno Q hQ]; exact Bool.false_ne_true
      rw [ef] at sx
      simp_arith
      exact stp_mk [_, .i (.int x), m4, m5] rfl ⟨.i (.int x), m4, m5, by rw [sx]; simp⟩
  · rintro vs ⟨m1, m2, m3, rfl⟩
    have lG := dl T
    simp_arith [le]
    refine wLc_filter (leastL rows) encS (fun R => inS R T) encS rfl (fun R hR => ?_) (szt (by omega)) ?_
    · have := insideT_ok (wl := wl) (n := n + 38) R T (hl R hR)
      rw [eT] at this
      simp_arith [this]
    · have lc := List.length_filter_le (fun R => inS R T) (leastL rows)
      generalize (leastL rows).filter (fun R => inS R T) = Q at *
      simp_arith
      refine wLc_map (G T) encP (fun z => encN z.1) rfl (fun z hz => ?_) (szt (by omega)) ?_
      · have a0 : L2.atI [D.int (z.1 : Int), encS z.2] 0 = some (.int z.1) := rfl
        simp_arith [encP, a0]
        rfl
      · refine wLc_filter T encN (fun x => Q.any fun R => decide (x ∈ R)) encN rfl (fun x hx => ?_) (szt (by omega)) ?_
        · simp_arith [encN]
          refine wLc_map Q encS (fun R => .bl (decide (x ∈ R))) rfl (fun R hR => ?_) (szt (by omega)) ?_
          · have := inNt R x
            simp_arith [encS, this]
          · simp_arith [allB_map, List.any_map]
        · have ee : (G T).map (fun z => encN z.1) = (T.filter fun x => Q.any fun R => decide (x ∈ R)).map encN := by rw [← df, List.map_map]; rfl
          rw [ee]
          have sh := encNs_shs (k := 63) (T.filter fun x => Q.any fun R => decide (x ∈ R))
          simp_arith [copM_neL, sh]
          refine wF_by tb ?_
          simp_arith
          refine wF_by bl ?_
          simp_arith
          refine wF_by sm ?_
          simp_arith
def depth : Nat := 60
def fuel : Nat := 20000
theorem law_true (ns : List Int) (h : ns.length ≤ 63) : ∃ ms', semF tt.pg fuel depth 23 [.rol (ns.map .int)] = .ok (.i (.bl true)) ms' := law_any (n := 20) (by decide) ns
end Zp
end
end

end

namespace Zp
open PySem Zy
set_option maxHeartbeats 0 in
theorem all_mk {l : PySem.W.OpenLaw} {q : Program} {w : World} {K : PySem.W.Frag} {h : Heap} {mg : Str → Option Value} {fa : Addr} {n wl : Nat} (X : K.In h) (G : h.Ns mainGlobals mg) (hfa : mg "law" = some (.ref fa)) (TK : TabsKnown q K h)
    {od0 an0 : Option Addr} {sl0 : Array (Option Value)} {oc0 kV0 dc0 pm0 cd0 ct0 : Value} {f0 : Addr}
    {od1 an1 : Option Addr} {sl1 : Array (Option Value)} {oc1 kV1 dc1 pm1 cd1 ct1 : Value} {f1 : Addr}
    {od2 an2 : Option Addr} {sl2 : Array (Option Value)} {oc2 kV2 dc2 pm2 cd2 ct2 : Value} {f2 : Addr}
    {od3 an3 : Option Addr} {sl3 : Array (Option Value)} {oc3 kV3 dc3 pm3 cd3 ct3 : Value} {f3 : Addr}
    {cc3 cP3 : Addr} {dr3 : DefRec} {tx3 : Value} {ty3 : Option Addr} {tz3 : Array (Option Value)} {tw3 : Array Value}
    {od4 an4 : Option Addr} {sl4 : Array (Option Value)} {oc4 kV4 dc4 pm4 cd4 ct4 : Value} {f4 : Addr}
    {od5 an5 : Option Addr} {sl5 : Array (Option Value)} {oc5 kV5 dc5 pm5 cd5 ct5 : Value} {f5 : Addr}
    {od6 an6 : Option Addr} {sl6 : Array (Option Value)} {oc6 kV6 dc6 pm6 cd6 ct6 : Value} {f6 : Addr}
    {od7 an7 : Option Addr} {sl7 : Array (Option Value)} {oc7 kV7 dc7 pm7 cd7 ct7 : Value} {f7 : Addr}
    {od8 an8 : Option Addr} {sl8 : Array (Option Value)} {oc8 kV8 dc8 pm8 cd8 ct8 : Value} {f8 : Addr}
    {od9 an9 : Option Addr} {sl9 : Array (Option Value)} {oc9 kV9 dc9 pm9 cd9 ct9 : Value} {f9 : Addr}
    {od10 an10 : Option Addr} {sl10 : Array (Option Value)} {oc10 kV10 dc10 pm10 cd10 ct10 : Value} {f10 : Addr}
    {od11 an11 : Option Addr} {sl11 : Array (Option Value)} {oc11 kV11 dc11 pm11 cd11 ct11 : Value} {f11 : Addr}
    {od12 an12 : Option Addr} {sl12 : Array (Option Value)} {oc12 kV12 dc12 pm12 cd12 ct12 : Value} {f12 : Addr}
    {od13 an13 : Option Addr} {sl13 : Array (Option Value)} {oc13 kV13 dc13 pm13 cd13 ct13 : Value} {f13 : Addr}
    {cc13 cP13 : Addr} {dr13 : DefRec} {tx13 : Value} {ty13 : Option Addr} {tz13 : Array (Option Value)} {tw13 : Array Value}
    {od14 an14 : Option Addr} {sl14 : Array (Option Value)} {oc14 kV14 dc14 pm14 cd14 ct14 : Value} {f14 : Addr}
    {od15 an15 : Option Addr} {sl15 : Array (Option Value)} {oc15 kV15 dc15 pm15 cd15 ct15 : Value} {f15 : Addr}
    {od16 an16 : Option Addr} {sl16 : Array (Option Value)} {oc16 kV16 dc16 pm16 cd16 ct16 : Value} {f16 : Addr}
    {od17 an17 : Option Addr} {sl17 : Array (Option Value)} {oc17 kV17 dc17 pm17 cd17 ct17 : Value} {f17 : Addr}
    {od18 an18 : Option Addr} {sl18 : Array (Option Value)} {oc18 kV18 dc18 pm18 cd18 ct18 : Value} {f18 : Addr}
    {od19 an19 : Option Addr} {sl19 : Array (Option Value)} {oc19 kV19 dc19 pm19 cd19 ct19 : Value} {f19 : Addr}
    {od20 an20 : Option Addr} {sl20 : Array (Option Value)} {oc20 kV20 dc20 pm20 cd20 ct20 : Value} {f20 : Addr}
    {od21 an21 : Option Addr} {sl21 : Array (Option Value)} {oc21 kV21 dc21 pm21 cd21 ct21 : Value} {f21 : Addr}
    {od22 an22 : Option Addr} {sl22 : Array (Option Value)} {oc22 kV22 dc22 pm22 cd22 ct22 : Value} {f22 : Addr}
    {od23 an23 : Option Addr} {sl23 : Array (Option Value)} {oc23 kV23 dc23 pm23 cd23 ct23 : Value} {f23 : Addr}
    (a0 : PySem.W.nsIn K mainGlobals "holds" = some (some (.ref f0)))
    (l0 : K.lookup f0 = some ⟨oc0, od0, .func (PySem.W.fnOf "holds" "holds" (L2.defArgs s0) (L2.defBody s0) (L2.defScope s0) .none kV0 dc0 pm0 an0 cd0 ct0), sl0⟩)
    (c0 : PySem.W.codeIn K cd0 "holds" = true)
    (k0 : PySem.W.keepIn K (.ref f0) = true)
    (a1 : PySem.W.nsIn K mainGlobals "asks" = some (some (.ref f1)))
    (l1 : K.lookup f1 = some ⟨oc1, od1, .func (PySem.W.fnOf "asks" "asks" (L2.defArgs s1) (L2.defBody s1) (L2.defScope s1) .none kV1 dc1 pm1 an1 cd1 ct1), sl1⟩)
    (c1 : PySem.W.codeIn K cd1 "asks" = true)
    (k1 : PySem.W.keepIn K (.ref f1) = true)
    (a2 : PySem.W.nsIn K mainGlobals "set_key" = some (some (.ref f2)))
    (l2 : K.lookup f2 = some ⟨oc2, od2, .func (PySem.W.fnOf "set_key" "set_key" (L2.defArgs s2) (L2.defBody s2) (L2.defScope s2) .none kV2 dc2 pm2 an2 cd2 ct2), sl2⟩)
    (c2 : PySem.W.codeIn K cd2 "set_key" = true)
    (k2 : PySem.W.keepIn K (.ref f2) = true)
    (a3 : PySem.W.nsIn K mainGlobals "sorted_sets" = some (some (.ref f3)))
    (l3 : K.lookup f3 = some ⟨oc3, od3, .func (PySem.W.fnOf "sorted_sets" "sorted_sets" (L2.defArgs s3) (L2.defBody s3) (L2.defScope s3) .none kV3 dc3 pm3 an3 cd3 ct3), sl3⟩)
    (c3 : PySem.W.codeIn K cd3 "sorted_sets" = true)
    (k3 : PySem.W.keepIn K (.ref f3) = true)
    (te3 : cd3 = .ref cc3)
    (tc3 : K.lookup cc3 = some ⟨tx3, ty3, .fields tw3, tz3⟩)
    (tv3 : tw3[11]? = some (.ref cP3))
    (tk3 : PySem.W.tabIn K "sorted_sets" = some (cc3, cP3))
    (tl3 : K.lookup cP3 = none)
    (tr3 : (PyProof.Rows.recsOf q).find? (fun e => e.name == Str.ofString "sorted_sets") = some dr3)
    (a4 : PySem.W.nsIn K mainGlobals "subsets" = some (some (.ref f4)))
    (l4 : K.lookup f4 = some ⟨oc4, od4, .func (PySem.W.fnOf "subsets" "subsets" (L2.defArgs s4) (L2.defBody s4) (L2.defScope s4) .none kV4 dc4 pm4 an4 cd4 ct4), sl4⟩)
    (c4 : PySem.W.codeIn K cd4 "subsets" = true)
    (k4 : PySem.W.keepIn K (.ref f4) = true)
    (a5 : PySem.W.nsIn K mainGlobals "all_but" = some (some (.ref f5)))
    (l5 : K.lookup f5 = some ⟨oc5, od5, .func (PySem.W.fnOf "all_but" "all_but" (L2.defArgs s5) (L2.defBody s5) (L2.defScope s5) .none kV5 dc5 pm5 an5 cd5 ct5), sl5⟩)
    (c5 : PySem.W.codeIn K cd5 "all_but" = true)
    (k5 : PySem.W.keepIn K (.ref f5) = true)
    (a6 : PySem.W.nsIn K mainGlobals "common" = some (some (.ref f6)))
    (l6 : K.lookup f6 = some ⟨oc6, od6, .func (PySem.W.fnOf "common" "common" (L2.defArgs s6) (L2.defBody s6) (L2.defScope s6) .none kV6 dc6 pm6 an6 cd6 ct6), sl6⟩)
    (c6 : PySem.W.codeIn K cd6 "common" = true)
    (k6 : PySem.W.keepIn K (.ref f6) = true)
    (a7 : PySem.W.nsIn K mainGlobals "hangs" = some (some (.ref f7)))
    (l7 : K.lookup f7 = some ⟨oc7, od7, .func (PySem.W.fnOf "hangs" "hangs" (L2.defArgs s7) (L2.defBody s7) (L2.defScope s7) .none kV7 dc7 pm7 an7 cd7 ct7), sl7⟩)
    (c7 : PySem.W.codeIn K cd7 "hangs" = true)
    (k7 : PySem.W.keepIn K (.ref f7) = true)
    (a8 : PySem.W.nsIn K mainGlobals "blame" = some (some (.ref f8)))
    (l8 : K.lookup f8 = some ⟨oc8, od8, .func (PySem.W.fnOf "blame" "blame" (L2.defArgs s8) (L2.defBody s8) (L2.defScope s8) .none kV8 dc8 pm8 an8 cd8 ct8), sl8⟩)
    (c8 : PySem.W.codeIn K cd8 "blame" = true)
    (k8 : PySem.W.keepIn K (.ref f8) = true)
    (a9 : PySem.W.nsIn K mainGlobals "_law_cell" = some (some (.ref f9)))
    (l9 : K.lookup f9 = some ⟨oc9, od9, .func (PySem.W.fnOf "_law_cell" "_law_cell" (L2.defArgs s9) (L2.defBody s9) (L2.defScope s9) .none kV9 dc9 pm9 an9 cd9 ct9), sl9⟩)
    (c9 : PySem.W.codeIn K cd9 "_law_cell" = true)
    (k9 : PySem.W.keepIn K (.ref f9) = true)
    (a10 : PySem.W.nsIn K mainGlobals "_law_draws" = some (some (.ref f10)))
    (l10 : K.lookup f10 = some ⟨oc10, od10, .func (PySem.W.fnOf "_law_draws" "_law_draws" (L2.defArgs s10) (L2.defBody s10) (L2.defScope s10) .none kV10 dc10 pm10 an10 cd10 ct10), sl10⟩)
    (c10 : PySem.W.codeIn K cd10 "_law_draws" = true)
    (k10 : PySem.W.keepIn K (.ref f10) = true)
    (a11 : PySem.W.nsIn K mainGlobals "_law_take" = some (some (.ref f11)))
    (l11 : K.lookup f11 = some ⟨oc11, od11, .func (PySem.W.fnOf "_law_take" "_law_take" (L2.defArgs s11) (L2.defBody s11) (L2.defScope s11) .none kV11 dc11 pm11 an11 cd11 ct11), sl11⟩)
    (c11 : PySem.W.codeIn K cd11 "_law_take" = true)
    (k11 : PySem.W.keepIn K (.ref f11) = true)
    (a12 : PySem.W.nsIn K mainGlobals "_law_subsets" = some (some (.ref f12)))
    (l12 : K.lookup f12 = some ⟨oc12, od12, .func (PySem.W.fnOf "_law_subsets" "_law_subsets" (L2.defArgs s12) (L2.defBody s12) (L2.defScope s12) .none kV12 dc12 pm12 an12 cd12 ct12), sl12⟩)
    (c12 : PySem.W.codeIn K cd12 "_law_subsets" = true)
    (k12 : PySem.W.keepIn K (.ref f12) = true)
    (a13 : PySem.W.nsIn K mainGlobals "_law_ordered" = some (some (.ref f13)))
    (l13 : K.lookup f13 = some ⟨oc13, od13, .func (PySem.W.fnOf "_law_ordered" "_law_ordered" (L2.defArgs s13) (L2.defBody s13) (L2.defScope s13) .none kV13 dc13 pm13 an13 cd13 ct13), sl13⟩)
    (c13 : PySem.W.codeIn K cd13 "_law_ordered" = true)
    (k13 : PySem.W.keepIn K (.ref f13) = true)
    (te13 : cd13 = .ref cc13)
    (tc13 : K.lookup cc13 = some ⟨tx13, ty13, .fields tw13, tz13⟩)
    (tv13 : tw13[11]? = some (.ref cP13))
    (tk13 : PySem.W.tabIn K "_law_ordered" = some (cc13, cP13))
    (tl13 : K.lookup cP13 = none)
    (tr13 : (PyProof.Rows.recsOf q).find? (fun e => e.name == Str.ofString "_law_ordered") = some dr13)
    (a14 : PySem.W.nsIn K mainGlobals "_law_inside" = some (some (.ref f14)))
    (l14 : K.lookup f14 = some ⟨oc14, od14, .func (PySem.W.fnOf "_law_inside" "_law_inside" (L2.defArgs s14) (L2.defBody s14) (L2.defScope s14) .none kV14 dc14 pm14 an14 cd14 ct14), sl14⟩)
    (c14 : PySem.W.codeIn K cd14 "_law_inside" = true)
    (k14 : PySem.W.keepIn K (.ref f14) = true)
    (a15 : PySem.W.nsIn K mainGlobals "_law_least" = some (some (.ref f15)))
    (l15 : K.lookup f15 = some ⟨oc15, od15, .func (PySem.W.fnOf "_law_least" "_law_least" (L2.defArgs s15) (L2.defBody s15) (L2.defScope s15) .none kV15 dc15 pm15 an15 cd15 ct15), sl15⟩)
    (c15 : PySem.W.codeIn K cd15 "_law_least" = true)
    (k15 : PySem.W.keepIn K (.ref f15) = true)
    (a16 : PySem.W.nsIn K mainGlobals "_law_table" = some (some (.ref f16)))
    (l16 : K.lookup f16 = some ⟨oc16, od16, .func (PySem.W.fnOf "_law_table" "_law_table" (L2.defArgs s16) (L2.defBody s16) (L2.defScope s16) .none kV16 dc16 pm16 an16 cd16 ct16), sl16⟩)
    (c16 : PySem.W.codeIn K cd16 "_law_table" = true)
    (k16 : PySem.W.keepIn K (.ref f16) = true)
    (a17 : PySem.W.nsIn K mainGlobals "_law_node" = some (some (.ref f17)))
    (l17 : K.lookup f17 = some ⟨oc17, od17, .func (PySem.W.fnOf "_law_node" "_law_node" (L2.defArgs s17) (L2.defBody s17) (L2.defScope s17) .none kV17 dc17 pm17 an17 cd17 ct17), sl17⟩)
    (c17 : PySem.W.codeIn K cd17 "_law_node" = true)
    (k17 : PySem.W.keepIn K (.ref f17) = true)
    (a18 : PySem.W.nsIn K mainGlobals "_law_family" = some (some (.ref f18)))
    (l18 : K.lookup f18 = some ⟨oc18, od18, .func (PySem.W.fnOf "_law_family" "_law_family" (L2.defArgs s18) (L2.defBody s18) (L2.defScope s18) .none kV18 dc18 pm18 an18 cd18 ct18), sl18⟩)
    (c18 : PySem.W.codeIn K cd18 "_law_family" = true)
    (k18 : PySem.W.keepIn K (.ref f18) = true)
    (a19 : PySem.W.nsIn K mainGlobals "_law_set" = some (some (.ref f19)))
    (l19 : K.lookup f19 = some ⟨oc19, od19, .func (PySem.W.fnOf "_law_set" "_law_set" (L2.defArgs s19) (L2.defBody s19) (L2.defScope s19) .none kV19 dc19 pm19 an19 cd19 ct19), sl19⟩)
    (c19 : PySem.W.codeIn K cd19 "_law_set" = true)
    (k19 : PySem.W.keepIn K (.ref f19) = true)
    (a20 : PySem.W.nsIn K mainGlobals "_law_same" = some (some (.ref f20)))
    (l20 : K.lookup f20 = some ⟨oc20, od20, .func (PySem.W.fnOf "_law_same" "_law_same" (L2.defArgs s20) (L2.defBody s20) (L2.defScope s20) .none kV20 dc20 pm20 an20 cd20 ct20), sl20⟩)
    (c20 : PySem.W.codeIn K cd20 "_law_same" = true)
    (k20 : PySem.W.keepIn K (.ref f20) = true)
    (a21 : PySem.W.nsIn K mainGlobals "_law_holds" = some (some (.ref f21)))
    (l21 : K.lookup f21 = some ⟨oc21, od21, .func (PySem.W.fnOf "_law_holds" "_law_holds" (L2.defArgs s21) (L2.defBody s21) (L2.defScope s21) .none kV21 dc21 pm21 an21 cd21 ct21), sl21⟩)
    (c21 : PySem.W.codeIn K cd21 "_law_holds" = true)
    (k21 : PySem.W.keepIn K (.ref f21) = true)
    (a22 : PySem.W.nsIn K mainGlobals "_law_rest" = some (some (.ref f22)))
    (l22 : K.lookup f22 = some ⟨oc22, od22, .func (PySem.W.fnOf "_law_rest" "_law_rest" (L2.defArgs s22) (L2.defBody s22) (L2.defScope s22) .none kV22 dc22 pm22 an22 cd22 ct22), sl22⟩)
    (c22 : PySem.W.codeIn K cd22 "_law_rest" = true)
    (k22 : PySem.W.keepIn K (.ref f22) = true)
    (a23 : PySem.W.nsIn K mainGlobals "law" = some (some (.ref f23)))
    (l23 : K.lookup f23 = some ⟨oc23, od23, .func (PySem.W.fnOf "law" "law" (L2.defArgs s23) (L2.defBody s23) (L2.defScope s23) .none kV23 dc23 pm23 an23 cd23 ct23), sl23⟩)
    (c23 : PySem.W.codeIn K cd23 "law" = true)
    (k23 : PySem.W.keepIn K (.ref f23) = true)
    (z0 : PySem.W.nsIn K mainGlobals "len" = some none)
    (z1 : PySem.W.nsIn K mainGlobals "int" = some none)
    (z2 : PySem.W.nsIn K mainGlobals "tuple" = some none)
    (z3 : PySem.W.nsIn K mainGlobals "list" = some none)
    (z4 : PySem.W.nsIn K mainGlobals "all" = some none)
    (z5 : PySem.W.nsIn K mainGlobals "any" = some none)
    (z6 : PySem.W.nsIn K mainGlobals "sorted" = some none)
    (z7 : PySem.W.nsIn K mainGlobals "isinstance" = some none)
    (z8 : PySem.W.nsIn K mainGlobals "range" = some none)
    (z9 : PySem.W.nsIn K mainGlobals "bool" = some none)
    (z10 : PySem.W.nsIn K mainGlobals "str" = some none) :
    ∃ (fd : FuncData) (cs : List (Addr × Addr)), (∀ p ∈ cs, PySem.W.CodeHd h p.1 p.2 ∧ h.get? p.2 = some { cls := .none, data := .fields #[] }) ∧ (∀ p ∈ cs, K.lookup p.2 = none) ∧ (∀ (s : Shared) (v : Value), BindsTo s fd ⟨[v], []⟩ [(Str.ofString "_law_script", v)]) ∧ ∀ base : Heap, K.In base → base.Ns mainGlobals mg → (∀ p ∈ cs, LamX.TabB base mg p.1 p.2) → L2.FnOk l.prog w K mg base (L2.CX l.prog w) (2 * n) fa fd [Str.ofString "_law_script"] (spF (wd0 (K) (cs.map (·.2))) 1 (semF tt.pg wl n 23)) := by
  have e : f23 = fa := by
    have e := hfa.symm.trans (PySem.W.mg_of X G a23)
    cases e
    rfl
  subst e
  have F0 := L2.fun_mk (st := s0) l0 c0 k0
  have e0 := F0.binds (ps := [Str.ofString "condition", Str.ofString "members"]) fun _ _ _ _ _ _ us hl => match us, hl with | [_, _], _ => rfl
  have F1 := L2.fun_mk (st := s1) l1 c1 k1
  have e1 := F1.binds (ps := [Str.ofString "condition"]) fun _ _ _ _ _ _ us hl => match us, hl with | [_], _ => rfl
  have F2 := L2.fun_mk (st := s2) l2 c2 k2
  have e2 := F2.binds (ps := [Str.ofString "places"]) fun _ _ _ _ _ _ us hl => match us, hl with | [_], _ => rfl
  have F3 := L2.fun_mk (st := s3) l3 c3 k3
  have e3 := F3.binds (ps := [Str.ofString "rows"]) fun _ _ _ _ _ _ us hl => match us, hl with | [_], _ => rfl
  have F4 := L2.fun_mk (st := s4) l4 c4 k4
  have e4 := F4.binds (ps := [Str.ofString "places"]) fun _ _ _ _ _ _ us hl => match us, hl with | [_], _ => rfl
  have F5 := L2.fun_mk (st := s5) l5 c5 k5
  have e5 := F5.binds (ps := [Str.ofString "places", Str.ofString "others"]) fun _ _ _ _ _ _ us hl => match us, hl with | [_, _], _ => rfl
  have F6 := L2.fun_mk (st := s6) l6 c6 k6
  have e6 := F6.binds (ps := [Str.ofString "places", Str.ofString "others"]) fun _ _ _ _ _ _ us hl => match us, hl with | [_, _], _ => rfl
  have F7 := L2.fun_mk (st := s7) l7 c7 k7
  have e7 := F7.binds (ps := [Str.ofString "condition", Str.ofString "places", Str.ofString "one"]) fun _ _ _ _ _ _ us hl => match us, hl with | [_, _, _], _ => rfl
  have F8 := L2.fun_mk (st := s8) l8 c8 k8
  have e8 := F8.binds (ps := [Str.ofString "condition", Str.ofString "taken"]) fun _ _ _ _ _ _ us hl => match us, hl with | [_, _], _ => rfl
  have F9 := L2.fun_mk (st := s9) l9 c9 k9
  have e9 := F9.binds (ps := [Str.ofString "_law_script", Str.ofString "_law_k"]) fun _ _ _ _ _ _ us hl => match us, hl with | [_, _], _ => rfl
  have F10 := L2.fun_mk (st := s10) l10 c10 k10
  have e10 := F10.binds (ps := [Str.ofString "_law_script", Str.ofString "_law_k", Str.ofString "_law_count"]) fun _ _ _ _ _ _ us hl => match us, hl with | [_, _, _], _ => rfl
  have F11 := L2.fun_mk (st := s11) l11 c11 k11
  have e11 := F11.binds (ps := [Str.ofString "_law_draws_here", Str.ofString "_law_many"]) fun _ _ _ _ _ _ us hl => match us, hl with | [_, _], _ => rfl
  have F12 := L2.fun_mk (st := s12) l12 c12 k12
  have e12 := F12.binds (ps := [Str.ofString "_law_places"]) fun _ _ _ _ _ _ us hl => match us, hl with | [_], _ => rfl
  have F13 := L2.fun_mk (st := s13) l13 c13 k13
  have e13 := F13.binds (ps := [Str.ofString "_law_rows"]) fun _ _ _ _ _ _ us hl => match us, hl with | [_], _ => rfl
  have F14 := L2.fun_mk (st := s14) l14 c14 k14
  have e14 := F14.binds (ps := [Str.ofString "_law_row", Str.ofString "_law_other"]) fun _ _ _ _ _ _ us hl => match us, hl with | [_, _], _ => rfl
  have F15 := L2.fun_mk (st := s15) l15 c15 k15
  have e15 := F15.binds (ps := [Str.ofString "_law_rows"]) fun _ _ _ _ _ _ us hl => match us, hl with | [_], _ => rfl
  have F16 := L2.fun_mk (st := s16) l16 c16 k16
  have e16 := F16.binds (ps := [Str.ofString "_law_rows", Str.ofString "_law_many"]) fun _ _ _ _ _ _ us hl => match us, hl with | [_, _], _ => rfl
  have F17 := L2.fun_mk (st := s17) l17 c17 k17
  have e17 := F17.binds (ps := [Str.ofString "_law_truth", Str.ofString "_law_place", Str.ofString "_law_nodes"]) fun _ _ _ _ _ _ us hl => match us, hl with | [_, _, _], _ => rfl
  have F18 := L2.fun_mk (st := s18) l18 c18 k18
  have e18 := F18.binds (ps := [Str.ofString "_law_script", Str.ofString "_law_first", Str.ofString "_law_many"]) fun _ _ _ _ _ _ us hl => match us, hl with | [_, _, _], _ => rfl
  have F19 := L2.fun_mk (st := s19) l19 c19 k19
  have e19 := F19.binds (ps := [Str.ofString "_law_script", Str.ofString "_law_k", Str.ofString "_law_many"]) fun _ _ _ _ _ _ us hl => match us, hl with | [_, _, _], _ => rfl
  have F20 := L2.fun_mk (st := s20) l20 c20 k20
  have e20 := F20.binds (ps := [Str.ofString "_law_actual", Str.ofString "_law_due"]) fun _ _ _ _ _ _ us hl => match us, hl with | [_, _], _ => rfl
  have F21 := L2.fun_mk (st := s21) l21 c21 k21
  have e21 := F21.binds (ps := [Str.ofString "_law_rows", Str.ofString "_law_members"]) fun _ _ _ _ _ _ us hl => match us, hl with | [_, _], _ => rfl
  have F22 := L2.fun_mk (st := s22) l22 c22 k22
  have e22 := F22.binds (ps := [Str.ofString "_law_row", Str.ofString "_law_other"]) fun _ _ _ _ _ _ us hl => match us, hl with | [_, _], _ => rfl
  have F23 := L2.fun_mk (st := s23) l23 c23 k23
  have e23 := F23.binds (ps := [Str.ofString "_law_script"]) fun _ _ _ _ _ _ us hl => match us, hl with | [_], _ => rfl
  have Gl : Glo (wd0 (K) [cP3, cP13]) w tt K mg (fun k => [f0, f1, f2, f3, f4, f5, f6, f7, f8, f9, f10, f11, f12, f13, f14, f15, f16, f17, f18, f19, f20, f21, f22, f23].getD k 0) (fun k => [PySem.W.fnOf "holds" "holds" (L2.defArgs s0) (L2.defBody s0) (L2.defScope s0) .none kV0 dc0 pm0 an0 cd0 ct0,
      PySem.W.fnOf "asks" "asks" (L2.defArgs s1) (L2.defBody s1) (L2.defScope s1) .none kV1 dc1 pm1 an1 cd1 ct1,
      PySem.W.fnOf "set_key" "set_key" (L2.defArgs s2) (L2.defBody s2) (L2.defScope s2) .none kV2 dc2 pm2 an2 cd2 ct2,
      PySem.W.fnOf "sorted_sets" "sorted_sets" (L2.defArgs s3) (L2.defBody s3) (L2.defScope s3) .none kV3 dc3 pm3 an3 cd3 ct3,
      PySem.W.fnOf "subsets" "subsets" (L2.defArgs s4) (L2.defBody s4) (L2.defScope s4) .none kV4 dc4 pm4 an4 cd4 ct4,
      PySem.W.fnOf "all_but" "all_but" (L2.defArgs s5) (L2.defBody s5) (L2.defScope s5) .none kV5 dc5 pm5 an5 cd5 ct5,
      PySem.W.fnOf "common" "common" (L2.defArgs s6) (L2.defBody s6) (L2.defScope s6) .none kV6 dc6 pm6 an6 cd6 ct6,
      PySem.W.fnOf "hangs" "hangs" (L2.defArgs s7) (L2.defBody s7) (L2.defScope s7) .none kV7 dc7 pm7 an7 cd7 ct7,
      PySem.W.fnOf "blame" "blame" (L2.defArgs s8) (L2.defBody s8) (L2.defScope s8) .none kV8 dc8 pm8 an8 cd8 ct8,
      PySem.W.fnOf "_law_cell" "_law_cell" (L2.defArgs s9) (L2.defBody s9) (L2.defScope s9) .none kV9 dc9 pm9 an9 cd9 ct9,
      PySem.W.fnOf "_law_draws" "_law_draws" (L2.defArgs s10) (L2.defBody s10) (L2.defScope s10) .none kV10 dc10 pm10 an10 cd10 ct10,
      PySem.W.fnOf "_law_take" "_law_take" (L2.defArgs s11) (L2.defBody s11) (L2.defScope s11) .none kV11 dc11 pm11 an11 cd11 ct11,
      PySem.W.fnOf "_law_subsets" "_law_subsets" (L2.defArgs s12) (L2.defBody s12) (L2.defScope s12) .none kV12 dc12 pm12 an12 cd12 ct12,
      PySem.W.fnOf "_law_ordered" "_law_ordered" (L2.defArgs s13) (L2.defBody s13) (L2.defScope s13) .none kV13 dc13 pm13 an13 cd13 ct13,
      PySem.W.fnOf "_law_inside" "_law_inside" (L2.defArgs s14) (L2.defBody s14) (L2.defScope s14) .none kV14 dc14 pm14 an14 cd14 ct14,
      PySem.W.fnOf "_law_least" "_law_least" (L2.defArgs s15) (L2.defBody s15) (L2.defScope s15) .none kV15 dc15 pm15 an15 cd15 ct15,
      PySem.W.fnOf "_law_table" "_law_table" (L2.defArgs s16) (L2.defBody s16) (L2.defScope s16) .none kV16 dc16 pm16 an16 cd16 ct16,
      PySem.W.fnOf "_law_node" "_law_node" (L2.defArgs s17) (L2.defBody s17) (L2.defScope s17) .none kV17 dc17 pm17 an17 cd17 ct17,
      PySem.W.fnOf "_law_family" "_law_family" (L2.defArgs s18) (L2.defBody s18) (L2.defScope s18) .none kV18 dc18 pm18 an18 cd18 ct18,
      PySem.W.fnOf "_law_set" "_law_set" (L2.defArgs s19) (L2.defBody s19) (L2.defScope s19) .none kV19 dc19 pm19 an19 cd19 ct19,
      PySem.W.fnOf "_law_same" "_law_same" (L2.defArgs s20) (L2.defBody s20) (L2.defScope s20) .none kV20 dc20 pm20 an20 cd20 ct20,
      PySem.W.fnOf "_law_holds" "_law_holds" (L2.defArgs s21) (L2.defBody s21) (L2.defScope s21) .none kV21 dc21 pm21 an21 cd21 ct21,
      PySem.W.fnOf "_law_rest" "_law_rest" (L2.defArgs s22) (L2.defBody s22) (L2.defScope s22) .none kV22 dc22 pm22 an22 cd22 ct22,
      PySem.W.fnOf "law" "law" (L2.defArgs s23) (L2.defBody s23) (L2.defScope s23) .none kV23 dc23 pm23 an23 cd23 ct23].getD k (PySem.W.fnOf "holds" "holds" (L2.defArgs s0) (L2.defBody s0) (L2.defScope s0) .none kV0 dc0 pm0 an0 cd0 ct0)) := glo0
    ⟨⟨F0, e0, by decide +kernel⟩, ⟨F1, e1, by decide +kernel⟩, ⟨F2, e2, by decide +kernel⟩, ⟨F3, e3, by decide +kernel⟩, ⟨F4, e4, by decide +kernel⟩, ⟨F5, e5, by decide +kernel⟩, ⟨F6, e6, by decide +kernel⟩, ⟨F7, e7, by decide +kernel⟩, ⟨F8, e8, by decide +kernel⟩, ⟨F9, e9, by decide +kernel⟩, ⟨F10, e10, by decide +kernel⟩, ⟨F11, e11, by decide +kernel⟩, ⟨F12, e12, by decide +kernel⟩, ⟨F13, e13, by decide +kernel⟩, ⟨F14, e14, by decide +kernel⟩, ⟨F15, e15, by decide +kernel⟩, ⟨F16, e16, by decide +kernel⟩, ⟨F17, e17, by decide +kernel⟩, ⟨F18, e18, by decide +kernel⟩, ⟨F19, e19, by decide +kernel⟩, ⟨F20, e20, by decide +kernel⟩, ⟨F21, e21, by decide +kernel⟩, ⟨F22, e22, by decide +kernel⟩, ⟨F23, e23, by decide +kernel⟩, trivial⟩
    ⟨PySem.W.mg_none_of X G z0, PySem.W.mg_none_of X G z1, PySem.W.mg_none_of X G z2, PySem.W.mg_none_of X G z3, PySem.W.mg_none_of X G z4, PySem.W.mg_none_of X G z5, PySem.W.mg_none_of X G z6, PySem.W.mg_none_of X G z7, PySem.W.mg_none_of X G z8, PySem.W.mg_none_of X G z9, PySem.W.mg_none_of X G z10, trivial⟩
    trivial
    ⟨⟨PySem.W.mg_of X G a0, by decide⟩, ⟨PySem.W.mg_of X G a1, by decide⟩, ⟨PySem.W.mg_of X G a2, by decide⟩, ⟨PySem.W.mg_of X G a3, by decide⟩, ⟨PySem.W.mg_of X G a4, by decide⟩, ⟨PySem.W.mg_of X G a5, by decide⟩, ⟨PySem.W.mg_of X G a6, by decide⟩, ⟨PySem.W.mg_of X G a7, by decide⟩, ⟨PySem.W.mg_of X G a8, by decide⟩, ⟨PySem.W.mg_of X G a9, by decide⟩, ⟨PySem.W.mg_of X G a10, by decide⟩, ⟨PySem.W.mg_of X G a11, by decide⟩, ⟨PySem.W.mg_of X G a12, by decide⟩, ⟨PySem.W.mg_of X G a13, by decide⟩, ⟨PySem.W.mg_of X G a14, by decide⟩, ⟨PySem.W.mg_of X G a15, by decide⟩, ⟨PySem.W.mg_of X G a16, by decide⟩, ⟨PySem.W.mg_of X G a17, by decide⟩, ⟨PySem.W.mg_of X G a18, by decide⟩, ⟨PySem.W.mg_of X G a19, by decide⟩, ⟨PySem.W.mg_of X G a20, by decide⟩, ⟨PySem.W.mg_of X G a21, by decide⟩, ⟨PySem.W.mg_of X G a22, by decide⟩, ⟨PySem.W.mg_of X G a23, by decide⟩, trivial⟩ rfl rfl rfl
  have ec3 := PySem.W.law_code X G tk3 (PySem.W.mg_of X G a3) (X _ _ l3) rfl
  have ec13 := PySem.W.law_code X G tk13 (PySem.W.mg_of X G a13) (X _ _ l13) rfl
  have hTc : ∀ p ∈ ([(cc3, cP3), (cc13, cP13)] : List (Addr × Addr)), PySem.W.CodeHd h p.1 p.2 ∧ h.get? p.2 = some { cls := .none, data := .fields #[] } := List.forall_mem_cons.mpr ⟨TK _ _ _ _ tr3 tk3, List.forall_mem_cons.mpr ⟨TK _ _ _ _ tr13 tk13, fun _ z => (by cases z)⟩⟩
  have hTl : ∀ p ∈ ([(cc3, cP3), (cc13, cP13)] : List (Addr × Addr)), K.lookup p.2 = none := List.forall_mem_cons.mpr ⟨tl3, List.forall_mem_cons.mpr ⟨tl13, fun _ z => (by cases z)⟩⟩
  refine ⟨_, [(cc3, cP3), (cc13, cP13)], hTc, hTl, fun s v => .of_eq rfl, fun base _ _ TB => all_ok Gl (gtok_of ⟨fun z => (by cases z), fun z => (by cases z), fun z => (by cases z), fun _ => ⟨cc3, cP3, TB (cc3, cP3) (by simp), ec3, by simp [wd0]⟩, fun z => (by cases z), fun z => (by cases z), fun z => (by cases z), fun z => (by cases z), fun z => (by cases z), fun z => (by cases z), fun z => (by cases z), fun z => (by cases z), fun z => (by cases z), fun _ => ⟨cc13, cP13, TB (cc13, cP13) (by simp), ec13, by simp [wd0]⟩, fun z => (by cases z), fun z => (by cases z), fun z => (by cases z), fun z => (by cases z), fun z => (by cases z), fun z => (by cases z), fun z => (by cases z), fun z => (by cases z), fun z => (by cases z), fun z => (by cases z), trivial⟩) n 23 d23 rfl⟩
theorem walk {l : PySem.W.OpenLaw} {q : Program} {loose : List Str} {XP : (Str → Option Value) → Heap → Prop} {YP : World → Heap → Prop} {d : DefRec} {K : Params → PySem.W.Frag} (hn : l.most = some 63) (hdf : d.params.defaults = [])
    (hY : ∀ (w : World) (h : Heap), YP w h → (K w.params).In h)
    (F : ∀ (w : World) (mg : Str → Option Value) (fa : Addr) (h : Heap), (K w.params).In h → h.Ns mainGlobals mg → mg d.name = some (.ref fa) → TabsKnown q (K w.params) h →
      ∃ (fd : FuncData) (cs : List (Addr × Addr)), (∀ p ∈ cs, PySem.W.CodeHd h p.1 p.2 ∧ h.get? p.2 = some { cls := .none, data := .fields #[] }) ∧ (∀ p ∈ cs, (K w.params).lookup p.2 = none) ∧ (∀ (s : Shared) (u : Value), BindsTo s fd ⟨[u], []⟩ [(Str.ofString "_law_script", u)]) ∧ ∀ base : Heap, (K w.params).In base → base.Ns mainGlobals mg → (∀ p ∈ cs, LamX.TabB base mg p.1 p.2) → L2.FnOk l.prog w (K w.params) mg base (L2.CX l.prog w) (2 * depth) fa fd [Str.ofString "_law_script"] (spF (wd0 (K w.params) (cs.map (·.2))) 1 (semF tt.pg fuel depth 23))) :
    PySem.W.WalkO q loose XP YP l.row.toRowW d [] (fun f vs => PySem.call f vs) :=
  walk_tab (n := 63) (k := 2 * depth) (x := Str.ofString "_law_script") (CX := fun w => L2.CX l.prog w) hn (by decide) hdf ⟨rfl, by decide, by decide⟩ hY (fun w mg fa h a b c t => by
    obtain ⟨fd, cs, h1, h2, h3, h4⟩ := F w mg fa h a b c t
    exact ⟨fd, cs, spF (wd0 (K w.params) (cs.map (·.2))) 1 (semF tt.pg fuel depth 23), h1, h2, h3, fun H a ns hl hc ho hS => sp_lawT hc ho hS (law_true ns hl) rfl, h4⟩) fun _ => cx_no
end Zp
open PySem PySem.W PyProof.Rows in
set_option maxRecDepth 100000 in
set_option maxHeartbeats 0 in
theorem PySem.Challenge.cw_ontoworks_k61_blame_holds : PySem.Challenge.rw_ontoworks_k61_blame.Holds := by
  w_on; o_law; k_head; (case hw => w_witness2)
  k_fill
  refine Zp.walk (l := PySem.Challenge.rw_ontoworks_k61_blame) rfl rfl (fun w h Y => by first | exact PySem.W.kIn_of Y | exact PySem.W.km_in_of Y) ?F
  case F =>
    intro w mg fa h KX G hmg TK
    refine' Zp.all_mk KX G hmg TK ?a0 ?l0 ?c0 ?k0 ?a1 ?l1 ?c1 ?k1 ?a2 ?l2 ?c2 ?k2 ?a3 ?l3 ?c3 ?k3 ?te3 ?tc3 ?tv3 ?tk3 ?tl3 ?tr3 ?a4 ?l4 ?c4 ?k4 ?a5 ?l5 ?c5 ?k5 ?a6 ?l6 ?c6 ?k6 ?a7 ?l7 ?c7 ?k7 ?a8 ?l8 ?c8 ?k8 ?a9 ?l9 ?c9 ?k9 ?a10 ?l10 ?c10 ?k10 ?a11 ?l11 ?c11 ?k11 ?a12 ?l12 ?c12 ?k12 ?a13 ?l13 ?c13 ?k13 ?te13 ?tc13 ?tv13 ?tk13 ?tl13 ?tr13 ?a14 ?l14 ?c14 ?k14 ?a15 ?l15 ?c15 ?k15 ?a16 ?l16 ?c16 ?k16 ?a17 ?l17 ?c17 ?k17 ?a18 ?l18 ?c18 ?k18 ?a19 ?l19 ?c19 ?k19 ?a20 ?l20 ?c20 ?k20 ?a21 ?l21 ?c21 ?k21 ?a22 ?l22 ?c22 ?k22 ?a23 ?l23 ?c23 ?k23 ?z0 ?z1 ?z2 ?z3 ?z4 ?z5 ?z6 ?z7 ?z8 ?z9 ?z10
    (case a0 => k_is)
    (case l0 => k_is)
    (case c0 => k_is)
    (case k0 => k_is)
    (case a1 => k_is)
    (case l1 => k_is)
    (case c1 => k_is)
    (case k1 => k_is)
    (case a2 => k_is)
    (case l2 => k_is)
    (case c2 => k_is)
    (case k2 => k_is)
    (case a3 => k_is)
    (case l3 => k_is)
    (case c3 => k_is)
    (case k3 => k_is)
    (case te3 => rfl)
    (case tc3 => k_is)
    (case tv3 => rfl)
    (case tk3 => kernel_rfl)
    (case tl3 => kernel_rfl)
    (case tr3 => rfl)
    (case a4 => k_is)
    (case l4 => k_is)
    (case c4 => k_is)
    (case k4 => k_is)
    (case a5 => k_is)
    (case l5 => k_is)
    (case c5 => k_is)
    (case k5 => k_is)
    (case a6 => k_is)
    (case l6 => k_is)
    (case c6 => k_is)
    (case k6 => k_is)
    (case a7 => k_is)
    (case l7 => k_is)
    (case c7 => k_is)
    (case k7 => k_is)
    (case a8 => k_is)
    (case l8 => k_is)
    (case c8 => k_is)
    (case k8 => k_is)
    (case a9 => k_is)
    (case l9 => k_is)
    (case c9 => k_is)
    (case k9 => k_is)
    (case a10 => k_is)
    (case l10 => k_is)
    (case c10 => k_is)
    (case k10 => k_is)
    (case a11 => k_is)
    (case l11 => k_is)
    (case c11 => k_is)
    (case k11 => k_is)
    (case a12 => k_is)
    (case l12 => k_is)
    (case c12 => k_is)
    (case k12 => k_is)
    (case a13 => k_is)
    (case l13 => k_is)
    (case c13 => k_is)
    (case k13 => k_is)
    (case te13 => rfl)
    (case tc13 => k_is)
    (case tv13 => rfl)
    (case tk13 => kernel_rfl)
    (case tl13 => kernel_rfl)
    (case tr13 => rfl)
    (case a14 => k_is)
    (case l14 => k_is)
    (case c14 => k_is)
    (case k14 => k_is)
    (case a15 => k_is)
    (case l15 => k_is)
    (case c15 => k_is)
    (case k15 => k_is)
    (case a16 => k_is)
    (case l16 => k_is)
    (case c16 => k_is)
    (case k16 => k_is)
    (case a17 => k_is)
    (case l17 => k_is)
    (case c17 => k_is)
    (case k17 => k_is)
    (case a18 => k_is)
    (case l18 => k_is)
    (case c18 => k_is)
    (case k18 => k_is)
    (case a19 => k_is)
    (case l19 => k_is)
    (case c19 => k_is)
    (case k19 => k_is)
    (case a20 => k_is)
    (case l20 => k_is)
    (case c20 => k_is)
    (case k20 => k_is)
    (case a21 => k_is)
    (case l21 => k_is)
    (case c21 => k_is)
    (case k21 => k_is)
    (case a22 => k_is)
    (case l22 => k_is)
    (case c22 => k_is)
    (case k22 => k_is)
    (case a23 => k_is)
    (case l23 => k_is)
    (case c23 => k_is)
    (case k23 => k_is)
    (case z0 => k_is)
    (case z1 => k_is)
    (case z2 => k_is)
    (case z3 => k_is)
    (case z4 => k_is)
    (case z5 => k_is)
    (case z6 => k_is)
    (case z7 => k_is)
    (case z8 => k_is)
    (case z9 => k_is)
    (case z10 => k_is)
