import PyProof.Rows.All
import Wide.All
import OpenK.AllK
import Wide.FinOn
import HandS.ForMost
import HandS.Flow
import HandS.Style
import HandS.IsInst
import HandS.Deep
import HandS.TupAny
import HandS.TupMul
import HandS.Conv
import HandS.Zip
import HandS.CallSlots
import HandS.Defaults
import HandS.CallLocal
import HandS.WordsExc
import HandS.Replace
import HandS.Head0
import HandS.Head1
import HandS.Head2
import HandS.HeadEnd
import HandS.HeadHook1
import HandS.HeadHook2
import HandS.HeadHook3
import HandS.HeadHook4
import PySem.Challenge.RW_evenifothers_k55_letters_and_sums
set_option Elab.async false
set_option linter.all false
set_option maxRecDepth 100000
/-! Ev1: a small language, its values and its evaluator (plain Lean; no machine here). -/
namespace Ev
open PySem L2

/-- values: tuples are trees; kl: a list that nobody writes (the script); loc: a mutable object of the store; fn: a def of the table -/
inductive T where
  | non
  | bl (b : Bool)
  | int (i : Int)
  | str (s : List Nat)
  | tup (ts : List T)
  | kl (ts : List T)
  | loc (l : Nat)
  | fn (k : Nat)
  deriving Inhabited

/-- mutable objects -/
inductive O where
  | lst (xs : List T)
  | dct (kvs : List (T × T))
  deriving Inhabited

abbrev Sto := List O
abbrev En := List (Option T)

/-- an answer with the store behind it; ex: an own exception (class number, its one field) -/
inductive Rs (α : Type) where
  | ok (a : α) (st : Sto)
  | ex (c : Nat) (v : T) (st : Sto)
  | no

@[simp] def Rs.bind {α β : Type} (r : Rs α) (f : α → Sto → Rs β) : Rs β := match r with
  | .ok a st => f a st
  | .ex c v st => .ex c v st
  | .no => .no

/-- some a: ok; none: stuck -/
@[simp] def Rs.of {α : Type} (o : Option α) (st : Sto) : Rs α := match o with
  | some a => .ok a st
  | none => .no

/-! ### looks at values -/
@[simp] def T.isNon : T → Bool | .non => true | _ => false
@[simp] def T.isBl (b : Bool) : T → Bool | .bl c => b == c | _ => false
/-- an int, or a bool as an int -/
@[simp] def T.num : T → Option Int | .int i => some i | .bl true => some 1 | .bl false => some 0 | _ => none
@[simp] def T.strv : T → Option (List Nat) | .str s => some s | _ => none
@[simp] def T.tupv : T → Option (List T) | .tup s => some s | _ => none

mutual
/-- no mutable object, no def within -/
def T.pure : T → Bool
  | .non => true
  | .bl _ => true
  | .int _ => true
  | .str _ => true
  | .tup ts => T.pures ts
  | .kl _ => false
  | .loc _ => false
  | .fn _ => false
def T.pures : List T → Bool
  | [] => true
  | t :: ts => t.pure && T.pures ts
end
mutual
/-- all places within are below n -/
def T.bel (n : Nat) : T → Bool
  | .non => true
  | .bl _ => true
  | .int _ => true
  | .str _ => true
  | .tup ts => T.bels n ts
  | .kl ts => T.bels n ts
  | .loc l => Nat.blt l n
  | .fn _ => true
def T.bels (n : Nat) : List T → Bool
  | [] => true
  | t :: ts => t.bel n && T.bels n ts
end
mutual
/-- how deep tuples are nested -/
def T.dep : T → Nat
  | .non => 0
  | .bl _ => 0
  | .int _ => 0
  | .str _ => 0
  | .tup ts => T.deps ts + 1
  | .kl _ => 0
  | .loc _ => 0
  | .fn _ => 0
def T.deps : List T → Nat
  | [] => 0
  | t :: ts => max t.dep (T.deps ts)
end
mutual
/-- == of pure values -/
def eqT : T → T → Bool
  | .non, b => b.isNon
  | .bl x, b => (match b.num with | some j => (if x then 1 else 0) == j | none => false)
  | .int i, b => (match b.num with | some j => i == j | none => false)
  | .str s, b => (match b.strv with | some z => s == z | none => false)
  | .tup ts, b => (match b.tupv with | some us => eqTs ts us | none => false)
  | .kl _, _ => false
  | .loc _, _ => false
  | .fn _, _ => false
def eqTs : List T → List T → Bool
  | [], us => us.isEmpty
  | t :: ts, us => (match us with | u :: us => eqT t u && eqTs ts us | [] => false)
end

/-! ### lists of the store -/
@[simp] def getL (st : Sto) (l : Nat) : Option (List T) := match st[l]? with
  | some (.lst xs) => some xs
  | _ => none
/-- a list's new items -/
@[simp] def putL (st : Sto) (l : Nat) (xs : List T) : Sto := st.set l (.lst xs)
/-- the items of a list or a tuple -/
@[simp] def seqv (st : Sto) : T → Option (List T)
  | .tup ts => some ts
  | .kl ts => some ts
  | .loc l => getL st l
  | _ => none
abbrev sizeL : Nat := 16777216

/-- as data of the library, n: how deep lists are looked into -/
def toD (st : Sto) : Nat → T → Option PyData
  | 0, _ => none
  | n + 1, t => match t with
    | .non => some .none
    | .bl b => some (.bool b)
    | .int i => some (.int i)
    | .str s => some (.str ⟨s.toArray⟩)
    | .tup ts => (ts.mapM (toD st n)).map .tuple
    | .kl ts => (ts.mapM (toD st n)).map .list
    | .loc l => (match getL st l with | some xs => (xs.mapM (toD st n)).map .list | none => none)
    | .fn _ => none

/-- == with lists -/
def eqS (st : Sto) (a b : T) : Option Bool :=
  if a.pure && b.pure then (if min a.dep b.dep ≤ 64 then some (eqT a b) else none)
  else match toD st 20 a, toD st 20 b with
    | some x, some y => if min (PyData.depth x) (PyData.depth y) ≤ 64 then some (PyData.eqv x y) else none
    | _, _ => none
/-- x == one of these (from the left) -/
def inS (st : Sto) (x : T) (ts : List T) : Option Bool :=
  if x.pure && T.pures ts then (if min (T.deps ts) x.dep ≤ 64 then some (ts.any fun y => eqT y x) else none)
  else match toD st 20 x, toD st 20 (.tup ts) with
    | some d, some (.tuple ds) => if min (PyData.depthAll ds) (PyData.depth d) ≤ 64 then some (ds.any fun y => PyData.eqv y d) else none
    | _, _ => none

/-- truth -/
@[simp] def truth (st : Sto) : T → Option Bool
  | .non => some false
  | .bl b => some b
  | .int i => some (i != 0)
  | .str s => some (!s.isEmpty)
  | .tup ts => some (!ts.isEmpty)
  | .kl ts => some (!ts.isEmpty)
  | .loc l => (match st[l]? with | some (.lst xs) => some (!xs.isEmpty) | some (.dct kvs) => some (!kvs.isEmpty) | none => none)
  | .fn _ => none

/-- the place that an index of any sign means -/
def ixOf (n : Nat) (i : Int) : Option Nat := if 0 ≤ i then (if i < n then some i.toNat else none) else if -(n : Int) ≤ i then some (i + n).toNat else none
def atIx {α : Type} (xs : List α) (i : Int) : Option α := (ixOf xs.length i).bind fun j => xs[j]?
/-- a slice's bound -/
def slIx (n d : Nat) : Option Int → Nat
  | none => d
  | some v => if v < 0 then (v + (n : Int)).toNat else min v.toNat n
def cut {α : Type} (xs : List α) (lo hi : Option Int) : List α := (xs.drop (slIx xs.length 0 lo)).take (slIx xs.length xs.length hi - slIx xs.length 0 lo)

/-! ### the language -/
inductive B2 where | add | sub | mul | fdiv | mod | pow | xor
  deriving DecidableEq, Repr
inductive C2 where | eq | ne | lt | le | gt | ge | is | isNot | inn | notIn
  deriving DecidableEq, Repr
inductive TyK where | int | bool | str | tuple | list | dict
  deriving DecidableEq, Repr
inductive Bi where | len | abs | int | str | max | min | sum | sorted | all | any | tuple | list | listK
  deriving DecidableEq, Repr
inductive Mt where | append | extend | pop | index
  deriving DecidableEq, Repr
/-- what an assignment or a for stores to -/
inductive Tg where
  | nm (i : Nat)
  | tp (gs : List Tg)

mutual
inductive E where
  | var (i : Nat)
  | cst (t : T)
  | tup (es : Es)
  | lst (es : Es)
  | klst (es : Es)
  | bin (op : B2) (a b : E)
  | neg (a : E)
  | not_ (a : E)
  | and_ (a b : E)
  | or_ (a b : E)
  | cmp (op : C2) (a b : E)
  | chain (op op' : C2) (a b c : E)
  | ife (c a b : E)
  | call (k : Nat) (es : Es)
  | callk (k : Nat) (es ks : Es) (perm : List Nat) (dv : List T)
  | cvar (i : Nat) (es : Es)
  | bi (b : Bi) (es : Es)
  | isi (ty : TyK) (a : E)
  | mt (m : Mt) (o : E) (es : Es)
  | ix (a i : E)
  | sl (a : E) (lo hi : OE)
  | rev (a : E)
  | lc (elt : E) (g : Tg) (it : I) (c : OE) (own : List Nat)
  | frz (e : E)
inductive Es where
  | nil
  | cons (e : E) (es : Es)
inductive OE where
  | non
  | som (e : E)
/-- what a for walks -/
inductive I where
  | seq (e : E)
  | rng (es : Es)
  | enu (e : E)
  | zip (a b : E)
end
mutual
inductive S where
  | asg (g : Tg) (e : E)
  | setix (o i e : E)
  | aug (i : Nat) (op : B2) (e : E)
  | ex (e : E)
  | ret (e : E)
  | retN
  | ifs (c : E) (a b : Ss)
  | whl (c : E) (b : Ss)
  | for_ (g : Tg) (it : I) (b : Ss)
  | pass
  | brk
  | cont
inductive Ss where
  | nil
  | cons (s : S) (ss : Ss)
end

/-! ### operators by values -/
def small64 (i : Int) : Bool := decide (-(2 ^ 64) < i) && decide (i < 2 ^ 64)
def op2 : B2 → T → T → Sto → Rs T
  | .add, x, y, st => (match x, y with
    | .int i, .int j => .ok (.int (i + j)) st
    | .str a, .str b => if a.length + b.length ≤ sizeL then .ok (.str (a ++ b)) st else .no
    | .tup a, .tup b => if a.length + b.length ≤ sizeL then .ok (.tup (a ++ b)) st else .no
    | .kl a, .kl b => if a.length + b.length ≤ sizeL then .ok (.kl (a ++ b)) st else .no
    | .loc a, .kl b => (match getL st a with
      | some xs => if xs.length + b.length ≤ sizeL then .ok (.kl (xs ++ b)) st else .no
      | none => .no)
    | .loc a, .loc b => (match getL st a, getL st b with
      | some xs, some ys => if xs.length + ys.length ≤ sizeL then .ok (.loc st.length) (st ++ [.lst (xs ++ ys)]) else .no
      | _, _ => .no)
    | _, _ => .no)
  | .sub, x, y, st => (match x, y with | .int i, .int j => .ok (.int (i - j)) st | _, _ => .no)
  | .mul, x, y, st => (match x, y with
    | .int i, .int j => if small64 i || small64 j then .ok (.int (i * j)) st else .no
    | .tup a, .int k => if a ≠ [] ∧ 2 ≤ k ∧ k ≤ 1000 ∧ a.length ≤ 1000 then .ok (.tup (List.replicate k.toNat a).flatten) st else .no
    | .loc a, .int k => (match getL st a with
      | some xs => if xs.length * k.toNat ≤ sizeL ∧ -(2 ^ 63) ≤ k ∧ k < 2 ^ 63 then .ok (.loc st.length) (st ++ [.lst (List.replicate k.toNat xs).flatten]) else .no
      | _ => .no)
    | _, _ => .no)
  | .fdiv, x, y, st => (match x, y with | .int i, .int j => if j ≠ 0 ∧ j.natAbs < 1073741824 then .ok (.int (i.fdiv j)) st else .no | _, _ => .no)
  | .mod, x, y, st => (match x, y with | .int i, .int j => if j ≠ 0 then .ok (.int (i.fmod j)) st else .no | _, _ => .no)
  | .pow, x, y, st => (match x, y with | .int i, .int j => if 0 ≤ j ∧ j ≤ 1000000 ∧ i.natAbs < 2 ^ 64 then .ok (.int (i ^ j.toNat)) st else .no | _, _ => .no)
  | .xor, x, y, st => (match x, y with | .int i, .int j => .ok (.int (Builtin.bitXor i j)) st | _, _ => .no)
/-- of two ints -/
@[simp] def int2 (f : Int → Int → Bool) : T → T → Option Bool
  | .int i, .int j => some (f i j)
  | _, _ => none
/-- x is None, True, False -/
@[simp] def isS (x : T) : T → Option Bool
  | .non => some x.isNon
  | .bl b => some (x.isBl b)
  | _ => none
/-- comparisons -/
def cmp2 (st : Sto) : C2 → T → T → Option Bool
  | .eq, x, y => eqS st x y
  | .ne, x, y => (eqS st x y).map not
  | .lt, x, y => int2 (fun i j => decide (i < j)) x y
  | .le, x, y => int2 (fun i j => decide (i ≤ j)) x y
  | .gt, x, y => int2 (fun i j => decide (j < i)) x y
  | .ge, x, y => int2 (fun i j => decide (j ≤ i)) x y
  | .is, x, y => isS x y
  | .isNot, x, y => (isS x y).map not
  | .inn, x, y => (match seqv st y with | some ts => inS st x ts | none => none)
  | .notIn, x, y => (match seqv st y with | some ts => (inS st x ts).map not | none => none)
def isiT (st : Sto) : TyK → T → Option Bool
  | .int, .int _ => some true
  | .int, .bl _ => some true
  | .bool, .bl _ => some true
  | .str, .str _ => some true
  | .tuple, .tup _ => some true
  | .list, .kl _ => some true
  | k, .loc l => (match st[l]? with | some (.lst _) => some (decide (k = .list)) | some (.dct _) => some (decide (k = .dict)) | none => none)
  | _, .fn _ => none
  | _, _ => some false
def intsOf : List T → Option (List Int)
  | [] => some []
  | .int i :: ts => (intsOf ts).map (i :: ·)
  | _ => none
def blsOf : List T → Option (List Bool)
  | [] => some []
  | .bl i :: ts => (blsOf ts).map (i :: ·)
  | _ => none
/-- built-in functions -/
def biT : Bi → List T → Sto → Rs T
  | .len, [x], st => (match x with
    | .str s => .ok (.int s.length) st
    | .tup ts => .ok (.int ts.length) st
    | .kl ts => .ok (.int ts.length) st
    | .loc l => (match st[l]? with | some (.lst xs) => .ok (.int xs.length) st | _ => .no)
    | _ => .no)
  | .abs, [x], st => (match x with | .int i => .ok (.int (if i < 0 then -i else i)) st | _ => .no)
  | .int, [x], st => (match x with | .int i => .ok (.int i) st | .bl b => .ok (.int (if b then 1 else 0)) st | _ => .no)
  | .max, [x, y], st => (match x, y with | .int i, .int j => .ok (.int (if j > i then j else i)) st | _, _ => .no)
  | .min, [x, y], st => (match x, y with | .int i, .int j => .ok (.int (if j < i then j else i)) st | _, _ => .no)
  | .tuple, [x], st => (match x with
    | .tup ts => .ok (.tup ts) st
    | .kl ts => .ok (.tup ts) st
    | .loc l => (match getL st l with | some xs => .ok (.tup xs) st | none => .no)
    | _ => .no)
  | .list, [x], st => (match seqv st x with | some xs => .ok (.loc st.length) (st ++ [.lst xs]) | none => .no)
  | .listK, [x], st => (match seqv st x with | some xs => .ok (.kl xs) st | none => .no)
  | _, _, _ => .no
/-- methods; lo: what lies below is not written -/
def mtT (lo : Nat) : Mt → T → List T → Sto → Rs T
  | .append, .loc l, [x], st => if lo ≤ l then (match getL st l with
      | some xs => if xs.length < sizeL then .ok .non (putL st l (xs ++ [x])) else .no
      | none => .no) else .no
  | .extend, .loc l, [.loc m], st => if lo ≤ l then (match getL st l, getL st m with
      | some xs, some ys => if xs.length + ys.length ≤ sizeL then .ok .non (putL st l (xs ++ ys)) else .no
      | _, _ => .no) else .no
  | .extend, .loc l, [.kl ys], st => if lo ≤ l then (match getL st l with
      | some xs => if xs.length + ys.length ≤ sizeL then .ok .non (putL st l (xs ++ ys)) else .no
      | none => .no) else .no
  | .pop, .loc l, [], st => if lo ≤ l then (match getL st l with
      | some xs => (match xs.getLast? with | some x => .ok x (putL st l xs.dropLast) | none => .no)
      | none => .no) else .no
  | .index, .str s, [.str z], st => (match z with | [c] => (match s.findIdx? (· == c) with | some i => if (s.drop (i + 1)).contains c then .no else .ok (.int i) st | none => .no) | _ => .no)
  | _, _, _, _ => .no
/-- whose method it is -/
def okRecv (m : Mt) (st : Sto) (x : T) : Bool := match m, x with
  | .index, .str _ => true
  | .index, _ => false
  | _, .loc l => (getL st l).isSome
  | _, _ => false
def ixT (st : Sto) : T → T → Option T
  | .tup ts, .int i => atIx ts i
  | .kl ts, .int i => atIx ts i
  | .str s, .int i => (atIx s i).map fun c => .str [c]
  | .loc l, .int i => (match getL st l with | some xs => atIx xs i | none => none)
  | _, _ => none
def slT (st : Sto) (x : T) (lo hi : Option Int) : Rs T := match x with
  | .tup ts => .ok (.tup (cut ts lo hi)) st
  | .kl ts => .ok (.kl (cut ts lo hi)) st
  | .str s => .ok (.str (cut s lo hi)) st
  | .loc l => (match getL st l with | some xs => .ok (.loc st.length) (st ++ [.lst (cut xs lo hi)]) | none => .no)
  | _ => .no
def setIx (lo : Nat) (o i v : T) (st : Sto) : Option Sto := match o, i with
  | .loc l, .int i => if lo ≤ l then (match getL st l with | some xs => (match ixOf xs.length i with | some j => some (putL st l (xs.set j v)) | none => none) | none => none) else none
  | _, _ => none

/-! ### stores of names -/
mutual
def asgT : Tg → T → En → Option En
  | .nm i, t, env => some (env.set i (some t))
  | .tp gs, t, env => (match t with | .tup ts => asgTs gs ts env | _ => none)
def asgTs : List Tg → List T → En → Option En
  | [], [], env => some env
  | g :: gs, t :: ts, env => (match asgT g t env with | some env' => asgTs gs ts env' | none => none)
  | _, _, _ => none
end
def wipeE (env : En) : List Nat → En
  | [] => env
  | v :: vs => (wipeE env vs).set v none

/-- what is walked: a row that stands, or a list as it is at each turn -/
inductive Wk where
  | snap (ts : List T)
  | live (l : Nat)
  | enuL (l : Nat)
def Wk.at (it : Wk) (i : Nat) (st : Sto) : Option (Option T) := match it with
  | .snap ts => some ts[i]?
  | .live l => (getL st l).map fun xs => xs[i]?
  | .enuL l => (getL st l).map fun xs => xs[i]?.map fun x => .tup [.int i, x]
/-- how a statement ends -/
inductive Fl where
  | nx (env : En)
  | ret (t : T)
  | brk (env : En)
  | ct (env : En)
  | exc (c : Nat) (v : T) (env : En)
/-- an expression's answer within a statement -/
@[simp] def Rs.atS {α : Type} (r : Rs α) (env : En) (f : α → Sto → Rs Fl) : Rs Fl := match r with
  | .ok a st => f a st
  | .ex c v st => .ok (.exc c v env) st
  | .no => .no

/-- bound of the turns of a loop -/
abbrev turns : Nat := 1000000000

def loopF (body : T → En → Sto → Rs Fl) (it : Wk) : Nat → Nat → En → Sto → Rs Fl
  | 0, _, _, _ => .no
  | n + 1, i, env, st => match it.at i st with
    | none => .no
    | some none => .ok (.nx env) st
    | some (some x) => match body x env st with
      | .ok (.nx env') st' => loopF body it n (i + 1) env' st'
      | .ok (.ct env') st' => loopF body it n (i + 1) env' st'
      | .ok (.brk env') st' => .ok (.nx env') st'
      | .ok (.ret t) st' => .ok (.ret t) st'
      | .ok (.exc c v env') st' => .ok (.exc c v env') st'
      | .ex _ _ _ => .no
      | .no => .no
/-- a comprehension's turns: D the new list -/
def loopC (elt : T → Sto → Rs (Option T)) (it : Wk) (D : Nat) : Nat → Nat → Sto → Rs Unit
  | 0, _, _ => .no
  | n + 1, i, st => match it.at i st with
    | none => .no
    | some none => .ok () st
    | some (some x) => match elt x st with
      | .ok none st' => loopC elt it D n (i + 1) st'
      | .ok (some y) st' => (match getL st' D with
        | some acc => if acc.length < sizeL then loopC elt it D n (i + 1) (putL st' D (acc ++ [y])) else .no
        | none => .no)
      | .ex _ _ _ => .no
      | .no => .no
def loopW (cond : En → Sto → Rs Bool) (body : En → Sto → Rs Fl) : Nat → En → Sto → Rs Fl
  | 0, _, _ => .no
  | n + 1, env, st => (cond env st).atS env fun k st1 => match k with
    | false => .ok (.nx env) st1
    | true => (match body env st1 with
      | .ok (.nx env') st' => loopW cond body n env' st'
      | .ok (.ct env') st' => loopW cond body n env' st'
      | .ok (.brk env') st' => .ok (.nx env') st'
      | .ok (.ret t) st' => .ok (.ret t) st'
      | .ok (.exc c v env') st' => .ok (.exc c v env') st'
      | .ex _ _ _ => .no
      | .no => .no)

/-- the turn of a comprehension -/
def eltF (cond : Option (En → Sto → Rs T)) (elt : En → Sto → Rs T) (env : En) (g : Tg) (own : List Nat) : T → Sto → Rs (Option T) := fun x st => match asgT g x (wipeE env own) with
  | some env' => (match cond with
    | none => (elt env' st).bind fun y st => .ok (some y) st
    | some cond => (cond env' st).bind fun k st => (match truth st k with
      | some true => (elt env' st).bind fun y st => .ok (some y) st
      | some false => .ok none st
      | none => .no))
  | none => .no
/-- the turn of a for -/
def bodyF (g : Tg) (b : En → Sto → Rs Fl) : T → En → Sto → Rs Fl := fun x env st => match asgT g x env with
  | some env' => b env' st
  | none => .no
def rangeI (lo hi : Int) : List T := (List.range (hi - lo).toNat).map fun (i : Nat) => T.int (lo + (i : Int))
/-- those at these places -/
def pick {α : Type} (perm : List Nat) (ts : List α) : List α := perm.filterMap fun i => ts[i]?
def permT (perm : List Nat) (ts : List T) : Option (List T) := if perm.all fun i => Nat.blt i ts.length then some (pick perm ts) else none

section
-- cl: a call: the def, the bar, the arguments, the store
variable (cl : Nat → Nat → List T → Sto → Rs T)
/-- a new list becomes a value; nothing that stood was written -/
def frzT (st' : Sto) (n : Nat) : T → Option T
  | .loc l => if n ≤ l then (match getL st' l with | some xs => if T.bels n xs then some (.kl xs) else none | none => none) else none
  | t => if t.bel n then some t else none
def sealK (st : Sto) (r : Rs T) : Rs T := match r with
  | .ok t st' => (match frzT st' st.length t with | some u => .ok u st | none => .no)
  | .ex c v _ => if v.bel st.length then .ex c v st else .no
  | .no => .no
mutual
def evE (lo : Nat) (env : En) : E → Sto → Rs T
  | .var i, st => (match env[i]? with | some (some t) => .ok t st | _ => .no)
  | .cst t, st => .ok t st
  | .tup es, st => (evEs lo env es st).bind fun ts st => if ts.length ≤ sizeL then .ok (.tup ts) st else .no
  | .klst es, st => (evEs lo env es st).bind fun ts st => if ts.length ≤ sizeL then .ok (.kl ts) st else .no
  | .lst es, st => (evEs lo env es st).bind fun ts st => if ts.length ≤ sizeL then .ok (.loc st.length) (st ++ [.lst ts]) else .no
  | .bin op a b, st => (evE lo env a st).bind fun x st => (evE lo env b st).bind fun y st => op2 op x y st
  | .neg a, st => (evE lo env a st).bind fun x st => (match x with | .int i => .ok (.int (-i)) st | _ => .no)
  | .not_ a, st => (evE lo env a st).bind fun x st => (match truth st x with | some k => .ok (.bl (!k)) st | none => .no)
  | .and_ a b, st => (evE lo env a st).bind fun x st => (match truth st x with | some true => evE lo env b st | some false => .ok x st | none => .no)
  | .or_ a b, st => (evE lo env a st).bind fun x st => (match truth st x with | some true => .ok x st | some false => evE lo env b st | none => .no)
  | .cmp op a b, st => (evE lo env a st).bind fun x st => (evE lo env b st).bind fun y st => (match cmp2 st op x y with | some k => .ok (.bl k) st | none => .no)
  | .chain op op' a b c, st => (evE lo env a st).bind fun x st => (evE lo env b st).bind fun y st => (match cmp2 st op x y with
    | some true => (evE lo env c st).bind fun z st => (match cmp2 st op' y z with | some k => .ok (.bl k) st | none => .no)
    | some false => .ok (.bl false) st
    | none => .no)
  | .ife c a b, st => (evE lo env c st).bind fun x st => (match truth st x with | some true => evE lo env a st | some false => evE lo env b st | none => .no)
  | .call k es, st => (evEs lo env es st).bind fun ts st => cl k lo ts st
  | .callk k es ks perm dv, st => (evEs lo env es st).bind fun ts st => (evEs lo env ks st).bind fun us st => (match permT perm (ts ++ us ++ dv) with
    | some vs => (match cl k lo vs st with | .ok t st => .ok t st | _ => .no)
    | none => .no)
  | .cvar i es, st => (match env[i]? with
    | some (some (.fn k)) => (match evEs lo env es st with
      | .ok ts st => (match cl k lo ts st with | .ok t st => .ok t st | _ => .no)
      | _ => .no)
    | _ => .no)
  | .bi b es, st => (evEs lo env es st).bind fun ts st => biT b ts st
  | .isi ty a, st => (evE lo env a st).bind fun x st => (match isiT st ty x with | some k => .ok (.bl k) st | none => .no)
  | .mt m o es, st => (evE lo env o st).bind fun x st => (match okRecv m st x with
    | true => (evEs lo env es st).bind fun ts st => mtT lo m x ts st
    | false => .no)
  | .ix a i, st => (evE lo env a st).bind fun x st => (evE lo env i st).bind fun y st => Rs.of (ixT st x y) st
  | .sl a l h, st => (evE lo env a st).bind fun x st => (evO lo env l st).bind fun l st => (evO lo env h st).bind fun h st => slT st x l h
  | .rev a, st => (evE lo env a st).bind fun x st => (match x with
    | .loc l => (match getL st l with | some xs => .ok (.loc st.length) (st ++ [.lst xs.reverse]) | none => .no)
    | .kl xs => .ok (.kl xs.reverse) st
    | _ => .no)
  | .frz e, st => sealK st (evE st.length env e st)
  | .lc elt g it c own, st => (evI lo env it st).bind fun it st =>
      (loopC (eltF (match c with | .non => none | .som t => some fun env' st => evE lo env' t st) (fun env' st => evE lo env' elt st) env g own) it st.length turns 0 (st ++ [.lst []])).bind fun _ st' => .ok (.loc st.length) st'
def evEs (lo : Nat) (env : En) : Es → Sto → Rs (List T)
  | .nil, st => .ok [] st
  | .cons e es, st => (evE lo env e st).bind fun t st => (evEs lo env es st).bind fun ts st => .ok (t :: ts) st
def evO (lo : Nat) (env : En) : OE → Sto → Rs (Option Int)
  | .non, st => .ok none st
  | .som e, st => (evE lo env e st).bind fun x st => (match x with | .int i => .ok (some i) st | _ => .no)
def evI (lo : Nat) (env : En) : I → Sto → Rs Wk
  | .seq e, st => (evE lo env e st).bind fun x st => (match x with
    | .tup ts => .ok (.snap ts) st
    | .kl ts => .ok (.snap ts) st
    | .str s => .ok (.snap (s.map fun c => .str [c])) st
    | .loc l => (match getL st l with | some _ => .ok (.live l) st | none => .no)
    | _ => .no)
  | .rng es, st => (evEs lo env es st).bind fun ts st => (match ts with
    | [.int j] => if -(2 ^ 62) ≤ j ∧ j < 2 ^ 62 then .ok (.snap (rangeI 0 j)) st else .no
    | [.int i, .int j] => if (-(2 ^ 62) ≤ i ∧ i < 2 ^ 62) ∧ -(2 ^ 62) ≤ j ∧ j < 2 ^ 62 then .ok (.snap (rangeI i j)) st else .no
    | _ => .no)
  | .enu a, st => (evE lo env a st).bind fun x st => (match x with
    | .loc l => (match getL st l with | some _ => .ok (.enuL l) st | none => .no)
    | _ => .no)
  | .zip a b, st => (evE lo env a st).bind fun x st => (evE lo env b st).bind fun y st => (match x, y with
    | .tup xs, .tup ys => .ok (.snap ((xs.zip ys).map fun p => .tup [p.1, p.2])) st
    | _, _ => .no)
end
variable (lo : Nat)
/-- x += y of ints -/
def augI (op : B2) : T → T → Option T
  | .int i, .int j => (match op with | .add => some (.int (i + j)) | .sub => some (.int (i - j)) | _ => none)
  | _, _ => none
/-- a test -/
def evT (env : En) (c : E) (st : Sto) : Rs Bool := (evE cl lo env c st).bind fun x st => Rs.of (truth st x) st
mutual
def evS : S → En → Sto → Rs Fl
  | .asg g e, env, st => (evE cl lo env e st).atS env fun x st => (match asgT g x env with | some env' => .ok (.nx env') st | none => .no)
  | .setix o i e, env, st => (evE cl lo env e st).atS env fun v st => (evE cl lo env o st).atS env fun o st => (evE cl lo env i st).atS env fun i st =>
    (match setIx lo o i v st with | some st' => .ok (.nx env) st' | none => .no)
  | .aug i op e, env, st => (match env[i]? with
    | some (some x) => (evE cl lo env e st).atS env fun y st => (match augI op x y with
      | some z => .ok (.nx (env.set i (some z))) st
      | none => .no)
    | _ => .no)
  | .ex e, env, st => (evE cl lo env e st).atS env fun _ st => .ok (.nx env) st
  | .ret e, env, st => (evE cl lo env e st).atS env fun t st => .ok (.ret t) st
  | .retN, _, st => .ok (.ret .non) st
  | .ifs c a b, env, st => (evT cl lo env c st).atS env fun k st => if k then evSs a env st else evSs b env st
  | .whl c b, env, st => loopW (fun env st => evT cl lo env c st) (fun env st => evSs b env st) turns env st
  | .for_ g it b, env, st => (evI cl lo env it st).atS env fun it st =>
    loopF (bodyF g fun env st => evSs b env st) it turns 0 env st
  | .pass, env, st => .ok (.nx env) st
  | .brk, env, st => .ok (.brk env) st
  | .cont, env, st => .ok (.ct env) st
def evSs : Ss → En → Sto → Rs Fl
  | .nil, env, st => .ok (.nx env) st
  | .cons s ss, env, st => (match evS s env st with
    | .ok (.nx env') st => evSs ss env' st
    | .ok (.ret t) st => .ok (.ret t) st
    | .ok (.brk env') st => .ok (.brk env') st
    | .ok (.ct env') st => .ok (.ct env') st
    | .ok (.exc c v env') st => .ok (.exc c v env') st
    | .ex _ _ _ => .no
    | .no => .no)
end
end

/-- how a def treats the store: keep: it may write what it is handed, and hand back new objects; pure: it writes nothing that stood, hands back nothing new -/
inductive Mode where | keep | pure | iso
  deriving DecidableEq, Repr
structure FDef where
  name : Str
  ps : List Str
  N : List Str
  dvs : List T
  mode : Mode
  body : Ss

def endF (r : Rs Fl) : Rs T := match r with
  | .ok (.nx _) st => .ok .non st
  | .ok (.ret t) st => .ok t st
  | .ok (.brk _) _ => .no
  | .ok (.ct _) _ => .no
  | .ok (.exc c v _) st => .ex c v st
  | .ex _ _ _ => .no
  | .no => .no
def startE (d : FDef) (ts : List T) : En := ts.map some ++ List.replicate (d.N.length - ts.length) none
def sealF (mode : Mode) (st : Sto) (r : Rs T) : Rs T := match mode with
  | .keep => r
  | .pure => (match r with
    | .ok t _ => if t.bel st.length then .ok t st else .no
    | .ex c v _ => if v.bel st.length then .ex c v st else .no
    | .no => .no)
  | .iso => (match r with
    | .ok t _ => if t.pure then .ok t st else .no
    | .ex c v _ => if v.pure then .ex c v st else .no
    | .no => .no)
/-- a call at a depth -/
def evC (tb : List FDef) : Nat → Nat → Nat → List T → Sto → Rs T
  | 0, _, _, _, _ => .no
  | n + 1, k, lo, ts, st => match tb[k]? with
    | none => .no
    | some d => if (ts ++ d.dvs.drop (d.dvs.length + ts.length - d.ps.length)).length = d.ps.length ∧ d.dvs.length + ts.length ≥ d.ps.length then
        (match d.mode with
        | .keep => endF (evSs (evC tb n) lo d.body (startE d (ts ++ d.dvs.drop (d.dvs.length + ts.length - d.ps.length))) st)
        | .pure => sealF .pure st (endF (evSs (evC tb n) st.length d.body (startE d (ts ++ d.dvs.drop (d.dvs.length + ts.length - d.ps.length))) st))
        | .iso => if T.bels 0 (ts ++ d.dvs.drop (d.dvs.length + ts.length - d.ps.length)) then sealF .iso st (endF (evSs (evC tb n) 0 d.body (startE d (ts ++ d.dvs.drop (d.dvs.length + ts.length - d.ps.length))) [])) else .no)
      else .no
end Ev

set_option autoImplicit false
/-! Ev2: how values and stores stand on the layer's heaps. -/
namespace Ev
open PySem L2

/-- where defs and own classes stand: K the written part, fa a def's address, ca a class's, fl the name of its one field -/
structure Pm where
  K : PySem.W.Frag
  fa : Nat → Addr
  ca : Nat → Addr
  fl : Nat → Str

/-- a list that nobody writes: frozen, of the written part, or at no place of the store -/
def KL (K : PySem.W.Frag) (θ : Nat → Addr) (n : Nat) (H : Hp) (a : Addr) (xs : List V) : Prop :=
  (∃ o, H a = some (.frz o (.lst xs))) ∨ (∃ (o : Obj) (its : Array Value) (n : Nat), K.lookup a = some o ∧ o.cls = .type "list" ∧ o.dict = none ∧ o.data = .seq its n ∧ its.size ≤ sizeLine ∧ Vals xs its.toList) ∨
  (H a = some (.lst xs) ∧ ∀ i, i < n → θ i ≠ a)
theorem KL.sq {K : PySem.W.Frag} {θ : Nat → Addr} {n : Nat} {H : Hp} {a : Addr} {xs : List V} (h : KL K θ n H a xs) : SqL K H a xs := by
  rcases h with h | h | h
  · exact .inl (.inr h)
  · exact .inr h
  · exact .inl (.inl h.1)
variable (P : Pm)
mutual
inductive VT (θ : Nat → Addr) (n : Nat) (H : Hp) : T → V → Prop
  | non : VT θ n H .non .non
  | bl (b : Bool) : VT θ n H (.bl b) (.bl b)
  | int (i : Int) : VT θ n H (.int i) (.int i)
  | str (s : List Nat) : s.length ≤ sizeLine → PyData.strOk ⟨s.toArray⟩ = true → VT θ n H (.str s) (.str ⟨s.toArray⟩)
  | tup {a : Addr} {ts : List T} {vs : List V} : SqT P.K H a vs → VTs θ n H ts vs → VT θ n H (.tup ts) (.ref a)
  | kl {a : Addr} {ts : List T} {vs : List V} : KL P.K θ n H a vs → VTs θ n H ts vs → VT θ n H (.kl ts) (.ref a)
  | loc (l : Nat) : l < n → VT θ n H (.loc l) (.ref (θ l))
  | fn (k : Nat) : VT θ n H (.fn k) (.ref (P.fa k))
inductive VTs (θ : Nat → Addr) (n : Nat) (H : Hp) : List T → List V → Prop
  | nil : VTs θ n H [] []
  | cons {t : T} {ts : List T} {v : V} {vs : List V} : VT θ n H t v → VTs θ n H ts vs → VTs θ n H (t :: ts) (v :: vs)
end

/-- an object of the store -/
def OT (θ : Nat → Addr) (n : Nat) (H : Hp) (o : O) (a : Addr) : Prop := match o with
  | .lst xs => ∃ vs, VTs P θ n H xs vs ∧ H a = some (.lst vs)
  | .dct _ => False

structure Rel (θ : Nat → Addr) (st : Sto) (H : Hp) : Prop where
  inj : ∀ i j, i < st.length → j < st.length → θ i = θ j → i = j
  ob : ∀ i o, st[i]? = some o → OT P θ st.length H o (θ i)

/-- from one state to a later one -/
structure Ext (lo : Nat) (θ : Nat → Addr) (st : Sto) (H : Hp) (θ' : Nat → Addr) (st' : Sto) (H' : Hp) : Prop where
  rel : Rel P θ' st' H'
  ag : ∀ i, i < st.length → θ' i = θ i
  len : st.length ≤ st'.length
  keep : ∀ b o, H b = some o → (∃ i, lo ≤ i ∧ i < st.length ∧ b = θ i) ∨ H' b = some o
  new : ∀ i, st.length ≤ i → i < st'.length → H (θ' i) = none

variable {P} {lo : Nat} {θ θ' θ'' : Nat → Addr} {st st' st'' : Sto} {H H' H'' : Hp}

theorem Rel.lst (r : Rel P θ st H) {i : Nat} {xs : List T} (h : st[i]? = some (.lst xs)) : ∃ vs, VTs P θ st.length H xs vs ∧ H (θ i) = some (.lst vs) := r.ob i _ h
theorem Rel.isl (r : Rel P θ st H) {i : Nat} (hi : i < st.length) : ∃ vs, H (θ i) = some (.lst vs) := by
  have e : st[i]? = some st[i] := List.getElem?_eq_getElem hi
  cases ho : st[i] with
  | lst xs =>
    obtain ⟨vs, _, h⟩ := r.lst (e.trans (congrArg some ho))
    exact ⟨vs, h⟩
  | dct kvs => exact (r.ob i _ (e.trans (congrArg some ho))).elim
theorem Rel.nenone (r : Rel P θ st H) {i : Nat} (hi : i < st.length) {p : Addr} (hp : H p = none) : θ i ≠ p := by
  obtain ⟨vs, h⟩ := r.isl hi
  exact ne_of_none h hp

theorem sqT_keep {K : PySem.W.Frag} {a : Addr} {vs : List V} (h : SqT K H a vs) (k : ∀ o, H a = some o → (∃ zs, o = .tup zs) ∨ (∃ ob zs, o = .frz ob (.tup zs)) → H' a = some o) : SqT K H' a vs := by
  rcases h with (h | ⟨o, h⟩) | h
  · exact .inl (.inl (k _ h (.inl ⟨_, rfl⟩)))
  · exact .inl (.inr ⟨o, k _ h (.inr ⟨_, _, rfl⟩)⟩)
  · exact .inr h
theorem sqL_keep {K : PySem.W.Frag} {a : Addr} {vs : List V} (h : SqL K H a vs) (k : ∀ o, H a = some o → H' a = some o) : SqL K H' a vs := by
  rcases h with (h | ⟨o, h⟩) | h
  · exact .inl (.inl (k _ h))
  · exact .inl (.inr ⟨o, k _ h⟩)
  · exact .inr h

mutual
theorem VT.mono' {n n' : Nat} (ag : ∀ i, i < n → θ' i = θ i) (hn : n ≤ n') (k : ∀ a vs, SqT P.K H a vs → SqT P.K H' a vs) (kk : ∀ a vs, KL P.K θ n H a vs → KL P.K θ' n' H' a vs) : ∀ {t : T} {v : V}, VT P θ n H t v → VT P θ' n' H' t v
  | _, _, .non => .non
  | _, _, .bl b => .bl b
  | _, _, .int i => .int i
  | _, _, .str s h1 h2 => .str s h1 h2
  | _, _, .tup h hs => .tup (k _ _ h) (VTs.mono' ag hn k kk hs)
  | _, _, .kl h hs => .kl (kk _ _ h) (VTs.mono' ag hn k kk hs)
  | _, _, .loc l h => by rw [← ag l h]; exact .loc l (Nat.lt_of_lt_of_le h hn)
  | _, _, .fn k => .fn k
theorem VTs.mono' {n n' : Nat} (ag : ∀ i, i < n → θ' i = θ i) (hn : n ≤ n') (k : ∀ a vs, SqT P.K H a vs → SqT P.K H' a vs) (kk : ∀ a vs, KL P.K θ n H a vs → KL P.K θ' n' H' a vs) : ∀ {t : List T} {v : List V}, VTs P θ n H t v → VTs P θ' n' H' t v
  | _, _, .nil => .nil
  | _, _, .cons h hs => .cons (VT.mono' ag hn k kk h) (VTs.mono' ag hn k kk hs)
end
theorem Ext.sqT (x : Ext P lo θ st H θ' st' H') (r : Rel P θ st H) {a : Addr} {vs : List V} (h : SqT P.K H a vs) : SqT P.K H' a vs := by
  refine sqT_keep h fun o e ht => ?_
  rcases x.keep a o e with ⟨i, h1, h2, rfl⟩ | h
  · obtain ⟨zs, e2⟩ := r.isl h2
    rw [e2] at e; cases e
    rcases ht with ⟨_, ht⟩ | ⟨_, _, ht⟩ <;> cases ht
  · exact h
theorem kl_keep {K : PySem.W.Frag} {n n' : Nat} {a : Addr} {vs : List V} (h : KL K θ n H a vs) (k : ∀ o ob zs, H a = some o → o = .frz ob (.lst zs) → H' a = some o) (k2 : ∀ zs, H a = some (.lst zs) → (∀ i, i < n → θ i ≠ a) → H' a = some (.lst zs) ∧ ∀ i, i < n' → θ' i ≠ a) : KL K θ' n' H' a vs := by
  rcases h with ⟨o, h⟩ | h | ⟨h, h'⟩
  · exact .inl ⟨o, k _ _ _ h rfl⟩
  · exact .inr (.inl h)
  · exact .inr (.inr (k2 _ h h'))
theorem Ext.kl (x : Ext P lo θ st H θ' st' H') (r : Rel P θ st H) {a : Addr} {vs : List V} (h : KL P.K θ st.length H a vs) : KL P.K θ' st'.length H' a vs := by
  refine kl_keep h (fun o ob zs e ht => ?_) fun zs e hn => ?_
  · rcases x.keep a o e with ⟨i, h1, h2, rfl⟩ | h
    · obtain ⟨zs, e2⟩ := r.isl h2
      rw [e2] at e; cases e; cases ht
    · exact h
  · refine ⟨?_, fun i hi => ?_⟩
    · rcases x.keep a _ e with ⟨i, h1, h2, e2⟩ | h
      · exact absurd e2.symm (hn i h2)
      · exact h
    · by_cases h1 : i < st.length
      · rw [x.ag i h1]; exact hn i h1
      · intro e2
        have := x.new i (Nat.le_of_not_lt h1) hi
        rw [e2, e] at this; cases this
theorem Ext.vt (x : Ext P lo θ st H θ' st' H') (r : Rel P θ st H) {t : T} {v : V} (h : VT P θ st.length H t v) : VT P θ' st'.length H' t v := VT.mono' x.ag x.len (fun _ _ => x.sqT r) (fun _ _ => x.kl r) h
theorem Ext.vts (x : Ext P lo θ st H θ' st' H') (r : Rel P θ st H) {t : List T} {v : List V} (h : VTs P θ st.length H t v) : VTs P θ' st'.length H' t v := VTs.mono' x.ag x.len (fun _ _ => x.sqT r) (fun _ _ => x.kl r) h
theorem Ext.refl (r : Rel P θ st H) : Ext P lo θ st H θ st H := ⟨r, fun _ _ => rfl, Nat.le_refl _, fun _ _ h => .inr h, fun i h1 h2 => absurd h2 (Nat.not_lt.mpr h1)⟩
theorem Ext.trans (x : Ext P lo θ st H θ' st' H') (y : Ext P lo θ' st' H' θ'' st'' H'') : Ext P lo θ st H θ'' st'' H'' := by
  refine ⟨y.rel, fun i hi => (y.ag i (Nat.lt_of_lt_of_le hi x.len)).trans (x.ag i hi), Nat.le_trans x.len y.len, fun b o e => ?_, fun i h1 h2 => ?_⟩
  · rcases x.keep b o e with h | h
    · exact .inl h
    · rcases y.keep b o h with ⟨i, h1, h2, rfl⟩ | h'
      · by_cases hi : i < st.length
        · exact .inl ⟨i, h1, hi, x.ag i hi⟩
        · rw [x.new i (Nat.le_of_not_lt hi) h2] at e; cases e
      · exact .inr h'
  · by_cases hi : i < st'.length
    · rw [y.ag i hi]; exact x.new i h1 hi
    · have h3 := y.new i (Nat.le_of_not_lt hi) h2
      cases e : H (θ'' i) with
      | none => rfl
      | some o =>
        rcases x.keep _ o e with ⟨j, h4, h5, h6⟩ | h
        · exact absurd (show θ' j = θ'' i from (x.ag j h5).trans h6.symm) (x.rel.nenone (Nat.lt_of_lt_of_le h5 x.len) h3)
        · rw [h3] at h; cases h

theorem VTs.length {n : Nat} : ∀ {ts : List T} {vs : List V}, VTs P θ n H ts vs → ts.length = vs.length
  | _, _, .nil => rfl
  | _, _, .cons _ h => congrArg Nat.succ (VTs.length h)
theorem VTs.get {n : Nat} : ∀ {ts : List T} {vs : List V}, VTs P θ n H ts vs → ∀ {i : Nat} {t : T}, ts[i]? = some t → ∃ v, vs[i]? = some v ∧ VT P θ n H t v
  | _, _, .nil, _, _, h => by simp at h
  | _, _, .cons h hs, 0, _, e => by
    simp at e; subst e; exact ⟨_, rfl, h⟩
  | _, _, .cons h hs, i + 1, _, e => by
    obtain ⟨v, h1, h2⟩ := VTs.get hs (i := i) (by simpa using e)
    exact ⟨v, by simpa using h1, h2⟩
theorem VTs.append {n : Nat} : ∀ {ts us : List T} {vs ws : List V}, VTs P θ n H ts vs → VTs P θ n H us ws → VTs P θ n H (ts ++ us) (vs ++ ws)
  | _, _, _, _, .nil, h => h
  | _, _, _, _, .cons h hs, k => .cons h (VTs.append hs k)
theorem VTs.take {n : Nat} : ∀ (k : Nat) {ts : List T} {vs : List V}, VTs P θ n H ts vs → VTs P θ n H (ts.take k) (vs.take k)
  | 0, _, _, _ => .nil
  | _ + 1, _, _, .nil => .nil
  | k + 1, _, _, .cons h hs => .cons h (VTs.take k hs)
theorem VTs.drop {n : Nat} : ∀ (k : Nat) {ts : List T} {vs : List V}, VTs P θ n H ts vs → VTs P θ n H (ts.drop k) (vs.drop k)
  | 0, _, _, h => h
  | _ + 1, _, _, .nil => .nil
  | k + 1, _, _, .cons h hs => VTs.drop k hs
theorem VTs.set {n : Nat} {t : T} {v : V} (h : VT P θ n H t v) : ∀ (k : Nat) {ts : List T} {vs : List V}, VTs P θ n H ts vs → VTs P θ n H (ts.set k t) (vs.set k v)
  | _, _, _, .nil => .nil
  | 0, _, _, .cons _ hs => .cons h hs
  | k + 1, _, _, .cons h' hs => .cons h' (VTs.set h k hs)
theorem VTs.reverse {n : Nat} : ∀ {ts : List T} {vs : List V}, VTs P θ n H ts vs → VTs P θ n H ts.reverse vs.reverse
  | _, _, .nil => .nil
  | _, _, .cons h hs => by rw [List.reverse_cons, List.reverse_cons]; exact VTs.append (VTs.reverse hs) (.cons h .nil)
theorem VTs.dropLast {n : Nat} {ts : List T} {vs : List V} (h : VTs P θ n H ts vs) : VTs P θ n H ts.dropLast vs.dropLast := by
  rw [List.dropLast_eq_take, List.dropLast_eq_take, h.length]; exact h.take _

/-- the names' values -/
def EnR (P : Pm) (θ : Nat → Addr) (n : Nat) (H : Hp) (env : En) (σ : List (Option V)) : Prop :=
  env.length = σ.length ∧ ∀ (i : Nat) (t : T), env[i]? = some (some t) → ∃ v : V, σ[i]? = some (some v) ∧ VT P θ n H t v
theorem Ext.en (x : Ext P lo θ st H θ' st' H') (r : Rel P θ st H) {env : En} {σ : L2.St} (h : EnR P θ st.length H env σ) : EnR P θ' st'.length H' env σ :=
  ⟨h.1, fun i t e => let ⟨v, h1, h2⟩ := h.2 i t e; ⟨v, h1, x.vt r h2⟩⟩
theorem EnR.set {n : Nat} {env : En} {σ : L2.St} (h : EnR P θ n H env σ) {t : T} {v : V} (ht : VT P θ n H t v) (i : Nat) : EnR P θ n H (env.set i (some t)) (σ.set i (some v)) := by
  refine ⟨by simpa using h.1, fun j u e => ?_⟩
  by_cases hj : i = j
  · subst hj
    by_cases hi : i < env.length
    · rw [List.getElem?_set_self hi] at e; cases e
      exact ⟨v, by rw [List.getElem?_set_self (by rw [← h.1]; exact hi)], ht⟩
    · rw [List.getElem?_eq_none (by simpa using hi)] at e; cases e
  · rw [List.getElem?_set_ne hj] at e
    rw [List.getElem?_set_ne hj]
    exact h.2 j u e
theorem EnR.wipe1 {n : Nat} {env : En} {σ : L2.St} (h : EnR P θ n H env σ) (i : Nat) : EnR P θ n H (env.set i none) (σ.set i none) := by
  refine ⟨by simpa using h.1, fun j u e => ?_⟩
  by_cases hj : i = j
  · subst hj
    by_cases hi : i < env.length
    · rw [List.getElem?_set_self hi] at e; cases e
    · rw [List.getElem?_eq_none (by simpa using hi)] at e; cases e
  · rw [List.getElem?_set_ne hj] at e
    rw [List.getElem?_set_ne hj]
    exact h.2 j u e
theorem EnR.wipe {n : Nat} {env : En} {σ : L2.St} (h : EnR P θ n H env σ) : ∀ vs : List Nat, EnR P θ n H (wipeE env vs) (wipe σ vs)
  | [] => h
  | v :: vs => (EnR.wipe h vs).wipe1 v

/-! ### a new object, a changed one -/
theorem OT.mono {n n' : Nat} {o : O} {a : Addr} (h : OT P θ n H o a) (ag : ∀ i, i < n → θ' i = θ i) (hn : n ≤ n') (k : ∀ a vs, SqT P.K H a vs → SqT P.K H' a vs) (kk : ∀ a vs, KL P.K θ n H a vs → KL P.K θ' n' H' a vs) (ka : ∀ o, H a = some o → H' a = some o) : OT P θ' n' H' o a := by
  cases o with
  | lst xs =>
    obtain ⟨vs, h1, h2⟩ := h
    exact ⟨vs, VTs.mono' ag hn k kk h1, ka _ h2⟩
  | dct kvs => exact h.elim
theorem OT.mono1 {n n' : Nat} {o : O} {a : Addr} (h : OT P θ n H o a) (ag : ∀ i, i < n → θ' i = θ i) (hn : n ≤ n') (k : ∀ a vs, SqT P.K H a vs → SqT P.K H' a vs) (kk : ∀ a vs, KL P.K θ n H a vs → KL P.K θ' n' H' a vs) (ka : H' a = H a) : OT P θ' n' H' o a :=
  h.mono ag hn k kk fun o e => by rw [ka]; exact e
/-- θ with a new place -/
def lay (θ : Nat → Addr) (n : Nat) (p : Addr) : Nat → Addr := fun i => if i = n then p else θ i
theorem sqT_upd {K : PySem.W.Frag} {a p : Addr} {vs : List V} {o : HO} (hp : H p = none) (h : SqT K H a vs) : SqT K (upd H p o) a vs :=
  sqT_keep h fun o e _ => by rw [upd_ne (ne_of_none e hp)]; exact e
theorem Ext.laid (r : Rel P θ st H) {p : Addr} (hp : H p = none) {xs : List T} {vs : List V} (hx : VTs P θ st.length H xs vs) :
    Ext P lo θ st H (lay θ st.length p) (st ++ [.lst xs]) (upd H p (.lst vs)) := by
  have ag : ∀ i, i < st.length → lay θ st.length p i = θ i := fun i hi => if_neg (Nat.ne_of_lt hi)
  have kt : ∀ a ws, SqT P.K H a ws → SqT P.K (upd H p (.lst vs)) a ws := fun a ws h => sqT_upd hp h
  have ln : (st ++ [O.lst xs]).length = st.length + 1 := by simp
  have kk : ∀ a ws, KL P.K θ st.length H a ws → KL P.K (lay θ st.length p) (st.length + 1) (upd H p (.lst vs)) a ws := fun a ws h => kl_keep h (fun o _ _ e _ => by rw [upd_ne (ne_of_none e hp)]; exact e) fun zs e hn => ⟨by rw [upd_ne (ne_of_none e hp)]; exact e, fun i hi => by
    by_cases h1 : i < st.length
    · rw [ag i h1]; exact hn i h1
    · have : i = st.length := by omega
      subst this
      rw [show lay θ st.length p st.length = p from if_pos rfl]
      intro q; subst q; rw [hp] at e; cases e⟩
  refine ⟨⟨fun i j hi hj e => ?_, fun i o e => ?_⟩, ag, by rw [ln]; exact Nat.le_succ _, fun b o e => .inr (by rw [upd_ne (ne_of_none e hp)]; exact e), fun i h1 h2 => ?_⟩
  · rw [ln] at hi hj
    by_cases h1 : i < st.length
    · by_cases h2 : j < st.length
      · rw [ag i h1, ag j h2] at e; exact r.inj i j h1 h2 e
      · have : j = st.length := by omega
        subst this
        rw [ag i h1, show lay θ st.length p st.length = p from if_pos rfl] at e
        exact absurd e (r.nenone h1 hp)
    · have : i = st.length := by omega
      subst this
      by_cases h2 : j < st.length
      · rw [ag j h2, show lay θ st.length p st.length = p from if_pos rfl] at e
        exact absurd e.symm (r.nenone h2 hp)
      · omega
  · rw [ln]
    by_cases h1 : i < st.length
    · rw [List.getElem?_append_left h1] at e
      rw [ag i h1]
      exact (r.ob i o e).mono ag (Nat.le_succ _) kt kk fun o e => by rw [upd_ne (ne_of_none e hp)]; exact e
    · have : i = st.length := by
        have := (List.getElem?_eq_some_iff.mp e).1
        rw [ln] at this; omega
      subst this
      rw [List.getElem?_append_right (Nat.le_refl _), Nat.sub_self] at e
      cases e
      refine ⟨vs, VTs.mono' ag (Nat.le_succ _) kt kk hx, ?_⟩
      rw [show lay θ st.length p st.length = p from if_pos rfl]
      exact upd_same
  · have e : i = st.length := by rw [ln] at h2; omega
    subst e
    show H (if st.length = st.length then p else _) = none
    rw [if_pos rfl]; exact hp
theorem Ext.put (r : Rel P θ st H) {l : Nat} (hl : lo ≤ l) {xs ys : List T} {ws : List V} (hx : st[l]? = some (.lst xs)) (hy : VTs P θ st.length H ys ws) :
    Ext P lo θ st H θ (st.set l (.lst ys)) (upd H (θ l) (.lst ws)) := by
  have hlt : l < st.length := (List.getElem?_eq_some_iff.mp hx).1
  obtain ⟨zs, _, hz⟩ := r.lst hx
  have kt : ∀ a vs, SqT P.K H a vs → SqT P.K (upd H (θ l) (.lst ws)) a vs := fun a vs h => sqT_keep h fun o e ht => by
    have ne : a ≠ θ l := fun q => by
      subst q; rw [hz] at e; cases e
      rcases ht with ⟨_, ht⟩ | ⟨_, _, ht⟩ <;> cases ht
    rw [upd_ne ne]; exact e
  have kk : ∀ a vs, KL P.K θ st.length H a vs → KL P.K θ st.length (upd H (θ l) (.lst ws)) a vs := fun a vs h => kl_keep h (fun o _ _ e ht => by
    have ne : a ≠ θ l := fun q => by
      subst q; rw [hz] at e; cases e; cases ht
    rw [upd_ne ne]; exact e) fun zs e hn => ⟨by rw [upd_ne fun q => hn l hlt q.symm]; exact e, hn⟩
  have ln : (st.set l (O.lst ys)).length = st.length := List.length_set
  refine ⟨⟨fun i j hi hj => by rw [ln] at hi hj; exact r.inj i j hi hj, fun i o e => ?_⟩, fun _ _ => rfl, by rw [ln]; exact Nat.le_refl _, fun b o e => ?_, fun i h1 h2 => by rw [ln] at h2; omega⟩
  · rw [ln]
    by_cases h1 : l = i
    · subst h1
      rw [List.getElem?_set_self hlt] at e; cases e
      exact ⟨ws, VTs.mono' (fun _ _ => rfl) (Nat.le_refl _) kt kk hy, upd_same⟩
    · rw [List.getElem?_set_ne h1] at e
      have hi : i < st.length := (List.getElem?_eq_some_iff.mp e).1
      have ne : θ i ≠ θ l := fun q => h1 (r.inj i l hi hlt q).symm
      refine (r.ob i o e).mono1 (fun _ _ => rfl) (Nat.le_refl _) kt kk ?_
      rw [upd_ne ne]
  · by_cases hb : b = θ l
    · exact .inl ⟨l, hl, hlt, hb⟩
    · exact .inr (by rw [upd_ne hb]; exact e)

theorem Ext.same (r : Rel P θ st H) (k : ∀ b o, H b = some o → H' b = some o) : Ext P lo θ st H θ st H' := by
  refine ⟨⟨r.inj, fun i o e => (r.ob i o e).mono (fun _ _ => rfl) (Nat.le_refl _) (fun a vs h => sqT_keep h fun o e _ => k _ _ e) (fun a vs h => kl_keep h (fun o _ _ e _ => k _ _ e) fun zs e hn => ⟨k _ _ e, hn⟩) (k _)⟩, fun _ _ => rfl, Nat.le_refl _, fun b o e => .inr (k b o e), fun i h1 h2 => by omega⟩
theorem Ext.grow (r : Rel P θ st H) {p : Addr} (hp : H p = none) (o : HO) : Ext P lo θ st H θ st (upd H p o) := Ext.same r fun b u e => by rw [upd_ne (ne_of_none e hp)]; exact e

/-! ### answers -/
/-- an own exception: its class, its own dict with its one field -/
def XT (P : Pm) (θ : Nat → Addr) (n : Nat) (H : Hp) (c : Nat) (t : T) (cls : Value) (d : Option Addr) : Prop :=
  cls = .ref (P.ca c) ∧ ∃ dx v, d = some dx ∧ H dx = some (.xd [(P.fl c, v)]) ∧ VT P θ n H t v
/-- an answer of the evaluator, told of all states that it fits -/
def Post (P : Pm) {α β : Type} (R : (Nat → Addr) → Nat → Hp → α → β → Prop) (lo : Nat) (θ : Nat → Addr) (st : Sto) (H : Hp) (r : Rs α) (Q : α → Sto → (Nat → Addr) → Hp → β → Prop) (W : XK) : Prop := match r with
  | .ok a st' => ∀ θ' H' v, Ext P lo θ st H θ' st' H' → R θ' st'.length H' a v → Q a st' θ' H' v
  | .ex c t st' => ∀ θ' H' cls d, Ext P lo θ st H θ' st' H' → XT P θ' st'.length H' c t cls d → W cls d H'
  | .no => False
section
variable {α β γ δ : Type} {R : (Nat → Addr) → Nat → Hp → α → β → Prop} {R' : (Nat → Addr) → Nat → Hp → γ → δ → Prop} {r : Rs α} {f : α → Sto → Rs γ} {Q Q' : α → Sto → (Nat → Addr) → Hp → β → Prop} {QQ : γ → Sto → (Nat → Addr) → Hp → δ → Prop} {W W' : XK}
theorem Post.later (h : Post P R lo θ st H r Q W) (x : Ext P lo θ st H θ' st' H') : Post P R lo θ' st' H' r Q W := by
  cases r with
  | ok a st2 => exact fun θ2 H2 v y rv => h θ2 H2 v (x.trans y) rv
  | ex c t st2 => exact fun θ2 H2 cls d y rv => h θ2 H2 cls d (x.trans y) rv
  | no => exact h
theorem Post.mono (h : Post P R lo θ st H r Q W) (k : ∀ a st1 θ1 H1 v, r = .ok a st1 → Ext P lo θ st H θ1 st1 H1 → R θ1 st1.length H1 a v → Q a st1 θ1 H1 v → Q' a st1 θ1 H1 v) : Post P R lo θ st H r Q' W := by
  cases r with
  | ok a st2 => exact fun θ2 H2 v y rv => k _ _ _ _ _ rfl y rv (h θ2 H2 v y rv)
  | ex c t st2 => exact h
  | no => exact h
theorem Post.monoW (h : Post P R lo θ st H r Q W) (k : ∀ cls d H1, W cls d H1 → W' cls d H1) : Post P R lo θ st H r Q W' := by
  cases r with
  | ok a st2 => exact h
  | ex c t st2 => exact fun θ2 H2 cls d y rv => k _ _ _ (h θ2 H2 cls d y rv)
  | no => exact h
theorem Post.bind (R : (Nat → Addr) → Nat → Hp → α → β → Prop) (h : Post P R' lo θ st H (r.bind f) QQ W) : Post P R lo θ st H r (fun a st1 θ1 H1 _ => Post P R' lo θ1 st1 H1 (f a st1) QQ W) W := by
  cases r with
  | ok a st2 => exact fun θ2 H2 v y rv => Post.later (P := P) (r := f a st2) h y
  | ex c t st2 => exact h
  | no => exact h
/-- at once -/
theorem Post.here {a : α} (h : Post P R lo θ st H (.ok a st) Q W) (rel : Rel P θ st H) {v : β} (rv : R θ st.length H a v) : Q a st θ H v := h θ H v (Ext.refl rel) rv
end
structure Now (P : Pm) (lo : Nat) (θ : Nat → Addr) (st : Sto) (H : Hp) : Prop where
  le : lo ≤ st.length
  rel : Rel P θ st H
theorem Now.later (n : Now P lo θ st H) (x : Ext P lo θ st H θ' st' H') : Now P lo θ' st' H' := ⟨Nat.le_trans n.le x.len, x.rel⟩
end Ev

/-! Ev3: from the row's syntax to the small language. -/
namespace Ev
open PySem

/-- a call by keywords: the def, how many values ahead of them, their names, which goes where (behind all: the defaults) -/
structure KwE where
  k : Nat
  n : Nat
  ks : List Str
  perm : List Nat
  dv : List T
structure CC where
  N : List Str
  sc : Scope
  fns : List (Str × Nat)
  cs : List (Str × T)
  kw : List KwE
  mu : List (Nat × Nat)

def plainE : Expr → Bool
  | .Set _ _ _ => false
  | .Starred _ _ => false
  | .Slice _ _ _ _ => false
  | _ => true
/-- its truth is asked of its value alone -/
def wholeE : Expr → Bool
  | .UnaryOp .Not _ _ => false
  | .BoolOp _ _ _ => false
  | .IfExp _ _ _ _ => false
  | .Compare _ _ _ _ => false
  | _ => true
def baseE (m : Str) : Expr → Bool
  | .Call (.Name id _) [] [] _ => id != "super"
  | _ => true
def idxN (N : List Str) (x : Str) : Option Nat := N.findIdx? fun y => decide (y = x)
def okName (x : Str) : Bool := !(x == ("__debug__" : Str)) && !(x == ("__classdict__" : Str)) && !(x == ("__name__" : Str))
def isVis (sc : Scope) (x : Str) : Bool := match sc.names.lookup x with
  | some .local => true
  | some .cell => true
  | some .free => true
  | _ => false
def isLocal (sc : Scope) (x : Str) : Bool := match sc.names.lookup x with
  | some .local => true
  | some .cell => true
  | _ => false
def isGlob (sc : Scope) (x : Str) : Bool := match sc.names.lookup x with
  | some .globalImplicit => true
  | _ => false
def bltN : List Str := ["len", "abs", "int", "str", "max", "min", "sum", "sorted", "all", "any", "tuple", "list", "isinstance", "range", "enumerate", "zip", "bool", "dict"]
def biNm : Bi → Str
  | .len => "len"
  | .abs => "abs"
  | .int => "int"
  | .str => "str"
  | .max => "max"
  | .min => "min"
  | .sum => "sum"
  | .sorted => "sorted"
  | .all => "all"
  | .any => "any"
  | .tuple => "tuple"
  | .list => "list"
  | .listK => "list"
def bis : List (Str × Bi) := [("len", .len), ("abs", .abs), ("int", .int), ("str", .str), ("max", .max), ("min", .min), ("sum", .sum), ("sorted", .sorted), ("all", .all), ("any", .any), ("tuple", .tuple), ("list", .list)]
def biOf (x : Str) : Option Bi := bis.lookup x
/-- a new list that nobody will write -/
def biK (mu : Bool) (b : Bi) : Bi := if mu then b else match b with | .list => .listK | b => b
def frzIf (mu : Bool) (x : E) : E := if mu then x else .frz x
def isMu (mu : List (Nat × Nat)) (p : Pos) : Bool := mu.contains (p.line, p.col)
def mtNm : Mt → Str
  | .append => "append"
  | .extend => "extend"
  | .pop => "pop"
  | .index => "index"
def mts : List (Str × Mt) := [("append", .append), ("extend", .extend), ("pop", .pop), ("index", .index)]
def mtOf (x : Str) : Option Mt := mts.lookup x
def tyNmS : TyK → Str
  | .int => "int"
  | .bool => "bool"
  | .str => "str"
  | .tuple => "tuple"
  | .list => "list"
  | .dict => "dict"
def tys : List (Str × TyK) := [("int", .int), ("bool", .bool), ("str", .str), ("tuple", .tuple), ("list", .list), ("dict", .dict)]
def tyOf (x : Str) : Option TyK := tys.lookup x
def b2Of : Operator → Option B2
  | .Add => some .add
  | .Sub => some .sub
  | .Mult => some .mul
  | .FloorDiv => some .fdiv
  | .Mod => some .mod
  | .Pow => some .pow
  | .BitXor => some .xor
  | _ => none
def c2Of : CmpOp → C2
  | .Eq => .eq
  | .NotEq => .ne
  | .Lt => .lt
  | .LtE => .le
  | .Gt => .gt
  | .GtE => .ge
  | .Is => .is
  | .IsNot => .isNot
  | .In => .inn
  | .NotIn => .notIn
def isNone1 : Expr → Bool
  | .UnaryOp .USub (.Constant (.int 1) _ _) _ => true
  | _ => false

section
variable (f : Expr → Option E)
def compL : List Expr → Option Es
  | [] => some .nil
  | e :: es => if plainE e then (match f e, compL es with | some a, some b => some (.cons a b) | _, _ => none) else none
def compO : Option Expr → Option OE
  | none => some .non
  | some e => (f e).map .som
def compK : List Keyword → Option Es
  | [] => some .nil
  | ⟨nm, e, _⟩ :: ks => if nm.isSome then (match f e, compK ks with | some a, some b => some (.cons a b) | _, _ => none) else none
end
mutual
def compT (N : List Str) (sc : Scope) : Nat → Expr → Option Tg
  | 0, _ => none
  | n + 1, e => match e with
    | .Name x _ => if isLocal sc x then (idxN N x).map .nm else none
    | .Tuple es _ _ => (compTs N sc n es).map .tp
    | _ => none
def compTs (N : List Str) (sc : Scope) : Nat → List Expr → Option (List Tg)
  | 0, _ => none
  | n + 1, es => match es with
    | [] => some []
    | e :: es => match compT N sc n e, compTs N sc n es with
      | some a, some b => some (a :: b)
      | _, _ => none
end
/-- own names of a comprehension's block, with their places -/
def ownOf (N : List Str) (scope : Scope) : List (Str × Nat) := scope.names.filterMap fun y => match y.2 with
  | .local => (idxN N y.1).map fun i => (y.1, i)
  | .cell => (idxN N y.1).map fun i => (y.1, i)
  | _ => none
mutual
def tgIn (own : List Nat) : Tg → Bool
  | .nm i => own.contains i
  | .tp gs => tgsIn own gs
def tgsIn (own : List Nat) : List Tg → Bool
  | [] => true
  | g :: gs => tgIn own g && tgsIn own gs
end

def isTup : Expr → Bool
  | .Tuple _ _ _ => true
  | _ => false
def compI (f : Expr → Option E) (c : CC) (tg e : Expr) : Option I := match e with
  | .Call (.Name x _) args [] _ =>
    if isGlob c.sc x && (c.fns.lookup x).isNone && (c.cs.lookup x).isNone then
      (if x = "range" then (match args with
        | [a] => if plainE a then (f a).map fun a => .rng (.cons a .nil) else none
        | [a, b] => if plainE a && plainE b then (match f a, f b with | some a, some b => some (.rng (.cons a (.cons b .nil))) | _, _ => none) else none
        | _ => none)
       else if x = "zip" then (match args with | [a, b] => (if plainE a && plainE b && isTup tg then (match f a, f b with | some a, some b => some (.zip a b) | _, _ => none) else none) | _ => none)
       else if x = "enumerate" then (match args with | [a] => (if plainE a && isTup tg then (f a).map .enu else none) | _ => none)
       else (f e).map .seq)
    else (f e).map .seq
  | _ => if plainE e then (f e).map .seq else none

def compE : Nat → CC → Expr → Option E
  | 0, _, _ => none
  | n + 1, c, e => match e with
    | .Name x _ => if okName x then
        (if isVis c.sc x then (idxN c.N x).map .var
         else if isGlob c.sc x then (match c.fns.lookup x with
           | some k => some (.cst (.fn k))
           | none => (c.cs.lookup x).map .cst)
         else none) else none
    | .Constant v _ _ => (match v with
      | .none => some (.cst .non)
      | .bool b => some (.cst (.bl b))
      | .int i => some (.cst (.int i))
      | .str s => if s.cps.toList.length ≤ sizeL && PyData.strOk ⟨s.cps.toList.toArray⟩ then some (.cst (.str s.cps.toList)) else none
      | _ => none)
    | .Tuple es _ _ => (compL (compE n c) es).map .tup
    | .List es p => (compL (compE n c) es).map (if isMu c.mu p then .lst else .klst)
    | .BinOp a op b _ => (match compE n c a, b2Of op, compE n c b with
      | some a, some op, some b => some (.bin op a b)
      | _, _, _ => none)
    | .UnaryOp op a _ => (match op with
      | .Not => (compE n c a).map .not_
      | .USub => (compE n c a).map .neg
      | _ => none)
    | .BoolOp op vs p => (match vs with
      | [] => none
      | [a] => compE n c a
      | a :: b :: rest => (match compE n c a, compE n c (.BoolOp op (b :: rest) p) with
        | some a, some b => (match op with | .And => some (.and_ a b) | .Or => some (.or_ a b))
        | _, _ => none))
    | .Compare a ops bs _ => (match ops, bs with
      | [op], [b] => if plainE b then (match compE n c a, compE n c b with
        | some a, some b => some (.cmp (c2Of op) a b)
        | _, _ => none) else none
      | [op, op'], [b, d] => if plainE b && plainE d then (match compE n c a, compE n c b, compE n c d with
        | some a, some b, some d => some (.chain (c2Of op) (c2Of op') a b d)
        | _, _, _ => none) else none
      | _, _ => none)
    | .IfExp t a b _ => (match compE n c t, compE n c a, compE n c b with
      | some t, some a, some b => some (.ife t a b)
      | _, _, _ => none)
    | .Call g args kws cpos => (match g with
      | .Name x _ => if okName x then
          (if isGlob c.sc x then (match c.fns.lookup x with
            | some k => (match kws with
              | [] => (compL (compE n c) args).map (.call k)
              | _ => (match c.kw.find? (fun q => decide (q.k = k) && decide (q.n = args.length) && decide (q.ks = kws.filterMap (·.arg))), compL (compE n c) args, compK (compE n c) kws with
                | some q, some (.cons a as), some ks => some (.callk k (.cons a as) ks q.perm q.dv)
                | _, _, _ => none))
            | none => if (c.cs.lookup x).isSome || !kws.isEmpty then none else
              (if x = "isinstance" then (match args with
                | [a, .Name ty _] => if plainE a && isGlob c.sc ty && (c.fns.lookup ty).isNone && (c.cs.lookup ty).isNone then (match compE n c a, tyOf ty with
                  | some a, some t => some (.isi t a)
                  | _, _ => none) else none
                | _ => none)
               else (match biOf x, args with
                | some b, a :: as => (compL (compE n c) (a :: as)).map (.bi (biK (isMu c.mu cpos) b))
                | _, _ => none)))
           else if isVis c.sc x && kws.isEmpty then (match idxN c.N x, args with
             | some i, a :: as => (compL (compE n c) (a :: as)).map (.cvar i)
             | _, _ => none)
           else none) else none
      | .Attribute o m apos => if baseE m o && kws.isEmpty && (apos.endLine == cpos.line) && plainE o && Nat.blt args.length 10 then (match compE n c o, mtOf m, compL (compE n c) args with
        | some o, some m, some as => some (.mt m o as)
        | _, _, _ => none) else none
      | _ => none)
    | .Subscript a i _ => (match i with
      | .Slice lo hi st _ => (match st with
        | none => (match compE n c a, compO (compE n c) lo, compO (compE n c) hi with
          | some a, some l, some h => some (.sl a l h)
          | _, _, _ => none)
        | some s => if isNone1 s && lo.isNone && hi.isNone then (compE n c a).map .rev else none)
      | _ => if plainE i then (match compE n c a, compE n c i with
        | some a, some i => some (.ix a i)
        | _, _ => none) else none)
    | .ListComp elt gens scope lpos => (match gens with
      | [⟨tg, it, ifs, asy⟩] =>
        if asy = 0 && L2.blkC c.N c.sc scope (ownOf c.N scope) && plainE it then
          (match compT c.N scope 10 tg, compI (compE n c) c tg it, compE n { c with sc := L2.relS scope c.sc } elt with
          | some g, some it, some elt => if tgIn ((ownOf c.N scope).map (·.2)) g then (match ifs with
            | [] => some (frzIf (isMu c.mu lpos) (.lc elt g it .non ((ownOf c.N scope).map (·.2))))
            | [t] => (compE n { c with sc := L2.relS scope c.sc } t).map fun t => frzIf (isMu c.mu lpos) (.lc elt g it (.som t) ((ownOf c.N scope).map (·.2)))
            | _ => none) else none
          | _, _, _ => none)
        else none
      | _ => none)
    | _ => none

def isComp : Expr → Bool
  | .ListComp _ _ _ _ => true
  | .SetComp _ _ _ _ => true
  | .DictComp _ _ _ _ _ => true
  | _ => false
def isLoc1 (sc : Scope) (x : Str) : Bool := match sc.names.lookup x with
  | some .local => true
  | _ => false
def isStar : Expr → Bool
  | .Starred _ _ => true
  | _ => false
/-- the names of stores that go from the right (none: they go as ever; nothing at all: not in the model) -/
def swN (ts vs : List Expr) (sc : Scope) : Option (Option (List Str)) :=
  if !(ts.length == 2 || ts.length == 3) || vs.length != ts.length then some none
  else if vs.any isStar then some none
  else if (ts.filterMap fun
    | .Name id pos => if sc.names.lookup id == some .local && pos.line == (ts.head?.map (·.pos.line)).getD 0 then some id else none
    | _ => none).length != ts.length || (ts.filterMap fun
    | .Name id pos => if sc.names.lookup id == some .local && pos.line == (ts.head?.map (·.pos.line)).getD 0 then some id else none
    | _ => none).eraseDups.length != (ts.filterMap fun
    | .Name id pos => if sc.names.lookup id == some .local && pos.line == (ts.head?.map (·.pos.line)).getD 0 then some id else none
    | _ => none).length then some none
  else if vs.all (foldedForSure 8) then some none
  else if vs.all (constantsAlone 8) then none
  else some (some (ts.filterMap fun
    | .Name id pos => if sc.names.lookup id == some .local && pos.line == (ts.head?.map (·.pos.line)).getD 0 then some id else none
    | _ => none))
def okAsg (sc : Scope) : Expr → Expr → Bool
  | .Tuple ts _ _, .Tuple vs _ _ => (match swN ts vs sc with
    | some none => true
    | some (some ns) => (match ts, vs with
      | [.Name x _, .Name y _], [a, b] => decide (ns = [x, y]) && isLoc1 sc x && isLoc1 sc y && !decide (x = y) && plainE a && plainE b
      | [.Name x _, .Name y _, .Name z _], [a, b, d] => decide (ns = [x, y, z]) && isLoc1 sc x && isLoc1 sc y && isLoc1 sc z && !decide (x = y) && !decide (x = z) && !decide (y = z) && plainE a && plainE b && plainE d
      | _, _ => false)
    | none => false)
  | _, _ => true
mutual
def compS (d : Nat) (c : CC) : Nat → Stmt → Option S
  | 0, _ => none
  | n + 1, s => match s with
    | .Assign ts e _ => (match ts with
      | [.Subscript o i _] => if plainE i && !isComp e then (match compE d c o, compE d c i, compE d c e with
        | some o, some i, some e => some (.setix o i e)
        | _, _, _ => none) else none
      | [t] => if okAsg c.sc t e then (match compT c.N c.sc 10 t, compE d c e with
        | some g, some e => some (.asg g e)
        | _, _ => none) else none
      | _ => none)
    | .AugAssign t op e _ => (match t with
      | .Name x _ => if isLocal c.sc x then (match idxN c.N x, b2Of op, compE d c e with
        | some i, some .add, some e => some (.aug i .add e)
        | some i, some .sub, some e => some (.aug i .sub e)
        | _, _, _ => none) else none
      | _ => none)
    | .Expr e _ => if isComp e then none else (compE d c e).map .ex
    | .Return v _ => (match v with
      | none => some .retN
      | some e => (compE d c e).map .ret)
    | .If t a b _ => (match compE d c t, compSs d c n a, compSs d c n b with
      | some t, some a, some b => some (.ifs t a b)
      | _, _, _ => none)
    | .While t b els _ => (match els, compE d c t, compSs d c n b with
      | [], some t, some b => some (.whl t b)
      | _, _, _ => none)
    | .For tg it b els _ => (match els, compT c.N c.sc 10 tg, compI (compE d c) c tg it, compSs d c n b with
      | [], some g, some it, some b => if true then some (.for_ g it b) else none
      | _, _, _, _ => none)
    | .Pass _ => some .pass
    | .Break _ => some .brk
    | .Continue _ => some .cont
    | _ => none
def compSs (d : Nat) (c : CC) : Nat → List Stmt → Option Ss
  | 0, _ => none
  | n + 1, ss => match ss with
    | [] => some .nil
    | s :: ss => match compS d c n s, compSs d c n ss with
      | some a, some b => some (.cons a b)
      | _, _ => none
end
/-- the names of a def by place: parameters, other own names, comprehensions' names -/
def paramsOf (a : Arguments) : List Str := a.args.map (·.arg)
end Ev

/-! Ev4: the operators by values are those of the layer. -/
namespace Ev
open PySem L2 PySem.Spec PyProof PyProof.Rows
variable {P : Pm} {lo : Nat} {θ θ' : Nat → Addr} {st st' : Sto} {H H' : Hp} {n : Nat}

theorem list_extendW (l : Addr) (items : Array Value) (n : Nat) (b : Addr) (items2 : Array Value) (n2 : Nat) (dd : Option Addr) (sl : Array (Option Value)) (hc0 : ¬(!items.isEmpty && Builtin.List.listTooLong (items.size + items2.size)) = true) (hc1 : items.size ≤ sizeLine) (hs2 : items.size + items2.size ≤ sizeLine + 1) :
    Meets (Builtin.«list.extend» ⟨[.ref l, .ref b], []⟩) (fun _ R s => s.heap.get? l = some { cls := .type "list", dict := none, data := .seq items n, slots := #[] } ∧ s.heap.get? b = some { cls := .type "list", dict := dd, data := .seq items2 n2, slots := sl } ∧ R (.ok (.ret Value.none)) { s with heap := s.heap.update l (Obj.mapSeq fun x => x ++ items2), toks := s.toks }) :=
  .of_wp fun prog w A R s h => by
    obtain ⟨hp, g, d, tk, os⟩ := s; obtain ⟨hl, hb, h⟩ := h; have f1 := AutoSeq1.idx_int; have f2 := AutoSeq1.sub_tuple_tuple; have f3 := AutoSeq1.sub_list_list; have f4 := AutoSeq1.sub_tuple_list; have f5 := AutoSeq1.sub_list_tuple
    have hz' : (items ++ items2).size ≤ sizeLine + 1 := by rw [Array.size_append]; exact hs2
    wp_walk using (wpAny_updateSeq hl rfl (hz := hc1) (_hz' := hz')), wpAny_loadPart' hl, wpAny_loadPart' hb; exact ⟨_, rfl, h⟩
section
variable {X : Cx}
theorem mt_extendS : MtM X "list.extend" (fun x vs H Q => ∃ l b xs zs, x = .ref l ∧ vs = [.ref b] ∧ H l = some (.lst xs) ∧ SqL X.K H b zs ∧ xs.length + zs.length ≤ sizeLine ∧ Q .non (upd H l (.lst (xs ++ zs)))) := by
  intro pins s σ H x vs v us Q I rx rv h
  obtain ⟨l, b, xs, zs, rfl, rfl, hH, hB, hz, q⟩ := h
  cases rx
  obtain ⟨u, rfl, ru⟩ := rv.one
  cases ru
  obtain ⟨z, its, n, r, hl, e⟩ := I.lstM hH
  obtain ⟨its2, r2, pl, hl2⟩ := I.list hB
  have hlen2 := r2.length
  obtain ⟨⟨cls, dd, data, sl⟩, ho, hc, n2, hd⟩ := pl.isList
  simp only at hc hd
  subst hc hd
  have hsz : its.toArray.size + its2.toArray.size ≤ sizeLine := by rw [List.size_toArray, List.size_toArray]; omega
  have hlong : ¬ (!its.toArray.isEmpty && Builtin.List.listTooLong (its.toArray.size + its2.toArray.size)) = true := by
    rw [notLongL hsz, Bool.and_false]
    exact Bool.false_ne_true
  refine call_meets F.slot_list_extend ⟨_, e, rfl⟩ F.entry_list_extend (F.args_list_extend_2 _ _)
    (list_extendW l its.toArray n b its2.toArray n2 dd sl hlong (by rw [List.size_toArray]; omega) (by omega)) ⟨e, ho, ?_⟩
  refine ⟨.non, _, I.lset (its' := its ++ its2) hH e (by simp) (r.append r2) ?_, rfl, q⟩
  rw [List.length_append]; exact hz
theorem op_catS : OpR X (binaryOp .Add) (fun x y H Q => ∃ a b xs ys, x = .ref a ∧ y = .ref b ∧ SqL X.K H a xs ∧ SqL X.K H b ys ∧ xs.length + ys.length ≤ sizeLine ∧ ∀ p, H p = none → Q (.ref p) (upd H p (.lst (xs ++ ys)))) := by
  intro pins s σ H x y v u Q I rx ry h
  obtain ⟨l, b, xs, zs, rfl, rfl, hH, hB, hz, q⟩ := h
  cases rx
  cases ry
  obtain ⟨its, r, pl, hl⟩ := I.list hH
  obtain ⟨its2, r2, pl2, hl2⟩ := I.list hB
  have hlen := r.length
  have hlen2 := r2.length
  obtain ⟨⟨cls, dd, data, sl⟩, ho, hc, n, hd⟩ := pl.isList
  obtain ⟨⟨cls2, dd2, data2, sl2⟩, ho2, hc2, n2, hd2⟩ := pl2.isList
  simp only at hc hd hc2 hd2
  subst hc hd hc2 hd2
  have ea : its.toArray ++ its2.toArray = (its ++ its2).toArray := by simp
  refine concat_meets ⟨_, ho, rfl⟩ ⟨_, ho2, rfl⟩ noFill_list_add seq_list_add PySem.F.slot_list_add PySem.F.entry_list_add (PySem.F.args_list_add_2 _ _) (list_addW l b its.toArray its2.toArray n n2 dd dd2 sl sl2 (by rw [List.size_toArray, List.size_toArray]; omega)) ⟨ho, ho2, ?_⟩
  rw [ea]
  exact ⟨.ref _, _, I.lnew (t' := s.toks) (r.append r2) (by rw [List.length_append]; omega), rfl, q _ I.fresh⟩
end

/-! ### values -/
theorem VT.int_inv {i : Int} {x : V} (h : VT P θ n H (.int i) x) : x = .int i := by cases h; rfl
theorem VT.bl_inv {i : Bool} {x : V} (h : VT P θ n H (.bl i) x) : x = .bl i := by cases h; rfl
theorem VT.non_inv {x : V} (h : VT P θ n H .non x) : x = .non := by cases h; rfl
theorem VT.str_inv {s : List Nat} {x : V} (h : VT P θ n H (.str s) x) : x = .str ⟨s.toArray⟩ ∧ s.length ≤ sizeLine ∧ PyData.strOk ⟨s.toArray⟩ = true := by
  cases h; exact ⟨rfl, by assumption, by assumption⟩
theorem VT.tup_inv {ts : List T} {x : V} (h : VT P θ n H (.tup ts) x) : ∃ a vs, x = .ref a ∧ SqT P.K H a vs ∧ VTs P θ n H ts vs := by
  cases h; exact ⟨_, _, rfl, by assumption, by assumption⟩
theorem VT.kl_inv {ts : List T} {x : V} (h : VT P θ n H (.kl ts) x) : ∃ a vs, x = .ref a ∧ KL P.K θ n H a vs ∧ VTs P θ n H ts vs := by
  cases h; exact ⟨_, _, rfl, by assumption, by assumption⟩
theorem VT.loc_inv {l : Nat} {x : V} (h : VT P θ n H (.loc l) x) : x = .ref (θ l) ∧ l < n := by
  cases h; exact ⟨rfl, by assumption⟩
theorem str_len (s : List Nat) : Str.length ⟨s.toArray⟩ = s.length := by
  show (s.toArray).size = s.length
  simp
theorem str_app (a b : List Nat) : (⟨a.toArray⟩ ++ ⟨b.toArray⟩ : Str) = ⟨(a ++ b).toArray⟩ := by
  show Str.mk (a.toArray ++ b.toArray) = _
  simp
theorem strOk_iff (s : List Nat) : PyData.strOk ⟨s.toArray⟩ = true ↔ ∀ c ∈ s, c < 0x110000 := by
  show Array.all s.toArray _ = true ↔ _
  simp [Array.all_eq_true]
theorem sizeL_eq : sizeL = sizeLine := by rw [sizeLine_eq]
theorem getL_some {l : Nat} {xs : List T} (h : getL st l = some xs) : st[l]? = some (.lst xs) := by
  unfold getL at h
  split at h
  · next e => cases h; exact e
  · cases h

theorem Post.newT {Q : VK} {W : XK} {ts : List T} {vs : List V} (nw : Now P lo θ st H) (p : Post P (VT P) lo θ st H (.ok (.tup ts) st) (fun _ _ _ H' v => Q v H') W) (h : VTs P θ st.length H ts vs) (q : Addr) (hq : H q = none) :
    Q (.ref q) (upd H q (.tup vs)) := by
  have x1 := Ext.grow (P := P) (lo := lo) nw.rel hq (.tup vs)
  exact p _ _ _ x1 (.tup (.inl (.inl upd_same)) (x1.vts nw.rel h))
/-- a new list that nobody writes -/
theorem Post.newK {Q : VK} {W : XK} {ts : List T} {vs : List V} (nw : Now P lo θ st H) (p : Post P (VT P) lo θ st H (.ok (.kl ts) st) (fun _ _ _ H' v => Q v H') W) (h : VTs P θ st.length H ts vs) (q : Addr) (hq : H q = none) :
    Q (.ref q) (upd H q (.lst vs)) := by
  have x1 := Ext.grow (P := P) (lo := lo) nw.rel hq (.lst vs)
  exact p _ _ _ x1 (.kl (.inr (.inr ⟨upd_same, fun i hi => nw.rel.nenone hi hq⟩)) (x1.vts nw.rel h))
theorem VTs.rep {ts : List T} {vs : List V} (h : VTs P θ n H ts vs) : ∀ m : Nat, VTs P θ n H (List.replicate m ts).flatten (List.replicate m vs).flatten
  | 0 => .nil
  | m + 1 => by rw [List.replicate_succ, List.replicate_succ, List.flatten_cons, List.flatten_cons]; exact h.append (VTs.rep h m)
section
variable {X : Cx}
/-- a binary operator, by the evaluator's answer -/
def rB (P : Pm) (op : B2) : R2 := fun x y H Q => ∃ lo θ st t u, Now P lo θ st H ∧ VT P θ st.length H t x ∧ VT P θ st.length H u y ∧
  Post P (VT P) lo θ st H (op2 op t u st) (fun _ _ _ H' v => Q v H') (fun _ _ _ => False)
theorem op_b2 (hK : X.K = P.K) {o : Operator} {op : B2} (ho : b2Of o = some op) : OpR X (binaryOp o) (rB P op) := by
  intro pins s σ H x y v u Q I rx ry h
  obtain ⟨lo, θ, st, t, w, nw, hx, hy, p⟩ := h
  have hsz : sizeL = sizeLine := sizeL_eq
  cases o <;> simp only [b2Of, Option.some.injEq, reduceCtorEq] at ho <;> subst ho
  · -- add
    simp only [op2] at p
    split at p
    · -- ints
      cases hx.int_inv; cases hy.int_inv
      exact op_add pins s σ H _ _ v u Q I rx ry ⟨_, _, rfl, rfl, p.here nw.rel (.int _)⟩
    · -- texts
      obtain ⟨rfl, l1, k1⟩ := hx.str_inv
      obtain ⟨rfl, l2, k2⟩ := hy.str_inv
      split at p
      · next hl =>
        refine op_add_str pins s σ H _ _ v u Q I rx ry ⟨_, _, rfl, rfl, by rw [str_len, str_len, ← hsz]; exact hl, ?_⟩
        rw [str_app]
        refine p.here nw.rel (.str _ (by rw [List.length_append, ← hsz]; exact hl) ?_)
        rw [strOk_iff] at k1 k2 ⊢
        intro c hc
        rcases List.mem_append.mp hc with hc | hc
        · exact k1 c hc
        · exact k2 c hc
      · exact p.elim
    · -- tuples
      next a b =>
      obtain ⟨pa, va, rfl, sa, ha⟩ := hx.tup_inv
      obtain ⟨pb, vb, rfl, sb, hb⟩ := hy.tup_inv
      split at p
      · next hl =>
        have la := ha.length
        have lb := hb.length
        refine op_catA pins s σ H _ _ v u Q I rx ry ⟨pa, pb, va, vb, rfl, rfl, by rw [hK]; exact sa, by rw [hK]; exact sb, by omega, fun e => ?_, fun _ e => ?_, fun _ _ q hq => ?_⟩
        · subst e; cases ha
          exact p.here nw.rel hy
        · subst e; cases hb
          exact p.here nw.rel (by rw [List.append_nil]; exact hx)
        · have x1 := Ext.grow (P := P) (lo := lo) nw.rel hq (.tup (va ++ vb))
          refine p _ _ _ x1 (.tup (.inl (.inl upd_same)) ?_)
          exact (x1.vts nw.rel ha).append (x1.vts nw.rel hb)
      · exact p.elim
    · -- lists that nobody writes
      next a b =>
      obtain ⟨pa, va, rfl, sa, ha⟩ := hx.kl_inv
      obtain ⟨pb, vb, rfl, sb, hb⟩ := hy.kl_inv
      split at p
      · next hl =>
        have la := ha.length
        have lb := hb.length
        exact op_catS pins s σ H _ _ v u Q I rx ry ⟨pa, pb, va, vb, rfl, rfl, by rw [hK]; exact sa.sq, by rw [hK]; exact sb.sq, by omega, fun q hq => p.newK nw (ha.append hb) q hq⟩
      · exact p.elim
    · -- a list and one that nobody writes
      next a b =>
      obtain ⟨pb, vb, rfl, sb, hb⟩ := hy.kl_inv
      split at p
      · next xs e1 =>
        obtain ⟨rfl, h1⟩ := hx.loc_inv
        obtain ⟨va, ha, qa⟩ := nw.rel.lst (getL_some e1)
        split at p
        · next hl =>
          have la := ha.length
          have lb := hb.length
          exact op_catS pins s σ H _ _ v u Q I rx ry ⟨_, pb, va, vb, rfl, rfl, .inl (.inl qa), by rw [hK]; exact sb.sq, by omega, fun q hq => p.newK nw (ha.append hb) q hq⟩
        · exact p.elim
      · exact p.elim
    · -- lists
      next a b =>
      split at p
      · next xs ys e1 e2 =>
        split at p
        · next hc =>
          obtain ⟨rfl, h1⟩ := hx.loc_inv
          obtain ⟨rfl, h2⟩ := hy.loc_inv
          obtain ⟨va, ha, qa⟩ := nw.rel.lst (getL_some e1)
          obtain ⟨vb, hb, qb⟩ := nw.rel.lst (getL_some e2)
          have la := ha.length
          have lb := hb.length
          refine op_cat pins s σ H _ _ v u Q I rx ry ⟨_, _, va, vb, rfl, rfl, qa, qb, by omega, fun q hq => ?_⟩
          have x1 := Ext.laid (P := P) (lo := lo) nw.rel hq (ha.append hb)
          have e3 : lay θ st.length q st.length = q := if_pos rfl
          have := p _ _ (.ref q) x1 (by
            have z : VT P (lay θ st.length q) (st ++ [O.lst (xs ++ ys)]).length (upd H q (.lst (va ++ vb))) (.loc st.length) (.ref (lay θ st.length q st.length)) := .loc _ (by simp)
            rw [e3] at z
            exact z)
          exact this
        · exact p.elim
      · exact p.elim
    · exact p.elim
  · -- sub
    simp only [op2] at p
    split at p
    · cases hx.int_inv; cases hy.int_inv
      exact op_sub pins s σ H _ _ v u Q I rx ry ⟨_, _, rfl, rfl, p.here nw.rel (.int _)⟩
    · exact p.elim
  · -- mul
    simp only [op2] at p
    split at p
    · cases hx.int_inv; cases hy.int_inv
      split at p
      · next hc =>
        refine op_mul pins s σ H _ _ v u Q I rx ry ⟨_, _, rfl, rfl, ?_, p.here nw.rel (.int _)⟩
        unfold CMul
        simpa [small64] using hc
      · exact p.elim
    · next a k =>
      cases hy.int_inv
      obtain ⟨pa, va, rfl, sa, ha⟩ := hx.tup_inv
      split at p
      · next hc =>
        have la := ha.length
        refine op_repT pins s σ H _ _ v u Q I rx ry ⟨pa, k, va, rfl, rfl, by rw [hK]; exact sa, fun e => ?_, hc.2.1, hc.2.2.1, by omega, fun q hq => ?_⟩
        · subst e; cases ha; exact hc.1 rfl
        · have x1 := Ext.grow (P := P) (lo := lo) nw.rel hq (.tup (List.replicate k.toNat va).flatten)
          refine p _ _ _ x1 (.tup (.inl (.inl upd_same)) ?_)
          exact VTs.rep (x1.vts nw.rel ha) _
      · exact p.elim
    · next a k =>
      cases hy.int_inv
      split at p
      · next xs e1 =>
        split at p
        · next hc =>
          obtain ⟨rfl, h1⟩ := hx.loc_inv
          obtain ⟨va, ha, qa⟩ := nw.rel.lst (getL_some e1)
          have la := ha.length
          refine op_rep pins s σ H _ _ v u Q I rx ry ⟨_, k, va, rfl, rfl, qa, hc.2.1, hc.2.2, by rw [← la, ← hsz]; exact hc.1, fun q hq => ?_⟩
          have hr : VTs P θ st.length H (List.replicate k.toNat xs).flatten (List.replicate k.toNat va).flatten := VTs.rep ha _
          have x1 := Ext.laid (P := P) (lo := lo) nw.rel hq hr
          have e3 : lay θ st.length q st.length = q := if_pos rfl
          exact p _ _ (.ref q) x1 (by
            have z : VT P (lay θ st.length q) (st ++ [O.lst (List.replicate k.toNat xs).flatten]).length (upd H q (.lst (List.replicate k.toNat va).flatten)) (.loc st.length) (.ref (lay θ st.length q st.length)) := .loc _ (by simp)
            rw [e3] at z
            exact z)
        · exact p.elim
      · exact p.elim
    · exact p.elim
  · -- mod
    simp only [op2] at p
    split at p
    · cases hx.int_inv; cases hy.int_inv
      split at p
      · next hc => exact op_modN pins s σ H _ _ v u Q I rx ry ⟨_, _, rfl, rfl, hc, p.here nw.rel (.int _)⟩
      · exact p.elim
    · exact p.elim
  · -- pow
    simp only [op2] at p
    split at p
    · cases hx.int_inv; cases hy.int_inv
      split at p
      · next hc => exact op_pow pins s σ H _ _ v u Q I rx ry ⟨_, _, rfl, rfl, hc, p.here nw.rel (.int _)⟩
      · exact p.elim
    · exact p.elim
  · -- xor
    simp only [op2] at p
    split at p
    · cases hx.int_inv; cases hy.int_inv
      exact op_xor pins s σ H _ _ v u Q I rx ry ⟨_, _, rfl, rfl, p.here nw.rel (.int _)⟩
    · exact p.elim
  · -- floordiv
    simp only [op2] at p
    split at p
    · cases hx.int_inv; cases hy.int_inv
      split at p
      · next hc => exact op_fdivN pins s σ H _ _ v u Q I rx ry ⟨_, _, rfl, rfl, hc, p.here nw.rel (.int _)⟩
      · exact p.elim
    · exact p.elim
end

/-! ### == -/
mutual
def dat : T → PyData
  | .non => .none
  | .bl b => .bool b
  | .int i => .int i
  | .str s => .str ⟨s.toArray⟩
  | .tup ts => .tuple (dats ts)
  | .kl _ => .none
  | .loc _ => .none
  | .fn _ => .none
def dats : List T → List PyData
  | [] => []
  | t :: ts => dat t :: dats ts
end
mutual
theorem dep_dat : ∀ t : T, PyData.depth (dat t) = t.dep
  | .non => rfl
  | .bl _ => rfl
  | .int _ => rfl
  | .str _ => rfl
  | .tup ts => congrArg (· + 1) (deps_dats ts)
  | .kl _ => rfl
  | .loc _ => rfl
  | .fn _ => rfl
theorem deps_dats : ∀ ts : List T, PyData.depthAll (dats ts) = T.deps ts
  | [] => rfl
  | t :: ts => by
    show max (PyData.depth (dat t)) (PyData.depthAll (dats ts)) = max t.dep (T.deps ts)
    rw [dep_dat t, deps_dats ts]
end
mutual
theorem eqT_dat : ∀ a b : T, a.pure = true → b.pure = true → PyData.eqv (dat a) (dat b) = eqT a b
  | .non, b, _, hb => by cases b <;> first | rfl | cases hb
  | .bl x, .bl y, _, _ => by cases x <;> cases y <;> rfl
  | .bl x, .non, _, _ => by cases x <;> rfl
  | .bl x, .int _, _, _ => by cases x <;> rfl
  | .bl x, .str _, _, _ => by cases x <;> rfl
  | .bl x, .tup _, _, _ => by cases x <;> rfl
  | .bl x, .kl _, _, hb => by cases hb
  | .bl x, .loc _, _, hb => by cases hb
  | .bl x, .fn _, _, hb => by cases hb
  | .int i, .bl y, _, _ => by cases y <;> rfl
  | .int i, .int _, _, _ => rfl
  | .int i, .non, _, _ => rfl
  | .int i, .str _, _, _ => rfl
  | .int i, .tup _, _, _ => rfl
  | .int i, .kl _, _, hb => by cases hb
  | .int i, .loc _, _, hb => by cases hb
  | .int i, .fn _, _, hb => by cases hb
  | .str s, b, _, hb => by
    cases b <;> first | rfl | cases hb | skip
    rename_i z
    show ((⟨s.toArray⟩ : Str) == ⟨z.toArray⟩) = (s == z)
    by_cases h : s = z
    · subst h; simp
    · rw [beq_eq_false_iff_ne.mpr h, beq_eq_false_iff_ne.mpr]
      intro q
      exact h (by have := congrArg (fun x : Str => x.cps.toList) q; simpa using this)
  | .tup ts, b, ha, hb => by
    cases b <;> first | rfl | cases hb | skip
    rename_i us
    exact eqTs_dats ts us ha hb
  | .kl _, _, ha, _ => by cases ha
  | .loc _, _, ha, _ => by cases ha
  | .fn _, _, ha, _ => by cases ha
theorem eqTs_dats : ∀ a b : List T, T.pures a = true → T.pures b = true → PyData.eqvAll (dats a) (dats b) = eqTs a b
  | [], [], _, _ => rfl
  | [], _ :: _, _, _ => rfl
  | _ :: _, [], _, _ => rfl
  | x :: xs, y :: ys, ha, hb => by
    have ha' : (x.pure && T.pures xs) = true := ha
    have hb' : (y.pure && T.pures ys) = true := hb
    rw [Bool.and_eq_true] at ha' hb'
    show (PyData.eqv (dat x) (dat y) && PyData.eqvAll (dats xs) (dats ys)) = (eqT x y && eqTs xs ys)
    rw [eqT_dat x y ha'.1 hb'.1, eqTs_dats xs ys ha'.2 hb'.2]
end
mutual
theorem VT.dat_ok : ∀ {t : T} {v : V}, VT P θ n H t v → t.pure = true → Dp P.K H v (dat t) ∧ PyData.canLay0 (dat t) = true
  | _, _, .non, _ => ⟨.non, rfl⟩
  | _, _, .bl b, _ => ⟨.bl b, rfl⟩
  | _, _, .int i, _ => ⟨.int i, rfl⟩
  | _, _, .str s h1 h2, _ => ⟨.str _, h2⟩
  | _, _, .tup h hs, hp => let ⟨h1, h2⟩ := VTs.dat_ok hs hp; ⟨.tup h h1, h2⟩
  | _, _, .kl _ _, hp => Bool.noConfusion hp
  | _, _, .loc _ _, hp => Bool.noConfusion hp
  | _, _, .fn _, hp => Bool.noConfusion hp
theorem VTs.dat_ok : ∀ {ts : List T} {vs : List V}, VTs P θ n H ts vs → T.pures ts = true → DpAll P.K H vs (dats ts) ∧ PyData.canLayAll0 (dats ts) = true
  | _, _, .nil, _ => ⟨.nil, rfl⟩
  | _, _, .cons (t := t) (ts := ts) h hs, hp => by
    have hp' : (t.pure && T.pures ts) = true := hp
    rw [Bool.and_eq_true] at hp'
    obtain ⟨h1, h2⟩ := VT.dat_ok h hp'.1
    obtain ⟨h3, h4⟩ := VTs.dat_ok hs hp'.2
    refine ⟨.cons h1 h3, ?_⟩
    show (PyData.canLay0 _ && PyData.canLayAll0 _) = true
    rw [h2, h4]; rfl
end
theorem toDs_ok {n : Nat} (ih : ∀ (t : T) (v : V) (d : PyData), toD st n t = some d → VT P θ st.length H t v → Dp P.K H v d ∧ PyData.canLay0 d = true) :
    ∀ (ts : List T) (vs : List V) (ds : List PyData), ts.mapM (toD st n) = some ds → VTs P θ st.length H ts vs → DpAll P.K H vs ds ∧ PyData.canLayAll0 ds = true := by
  intro ts
  induction ts with
  | nil =>
    intro vs ds h hv
    cases hv
    simp at h
    subst h
    exact ⟨.nil, rfl⟩
  | cons t ts iht =>
    intro vs ds h hv
    cases hv with
    | cons h1 h2 =>
      rw [List.mapM_cons] at h
      simp only [Option.bind_eq_bind, Option.pure_def] at h
      obtain ⟨d, e1, h⟩ := Option.bind_eq_some_iff.mp h
      obtain ⟨ds', e2, h⟩ := Option.bind_eq_some_iff.mp h
      cases h
      obtain ⟨a1, a2⟩ := ih _ _ _ e1 h1
      obtain ⟨b1, b2⟩ := iht _ _ e2 h2
      refine ⟨.cons a1 b1, ?_⟩
      show (PyData.canLay0 _ && PyData.canLayAll0 _) = true
      rw [a2, b2]; rfl
theorem toD_ok (r : Rel P θ st H) : ∀ (n : Nat) (t : T) (v : V) (d : PyData), toD st n t = some d → VT P θ st.length H t v → Dp P.K H v d ∧ PyData.canLay0 d = true := by
  intro n
  induction n with
  | zero => intro t v d h; cases h
  | succ n ih =>
    have all := toDs_ok ih
    intro t v d h hv
    cases t with
    | non => cases h; cases hv; exact ⟨.non, rfl⟩
    | bl b => cases h; cases hv; exact ⟨.bl b, rfl⟩
    | int i => cases h; cases hv; exact ⟨.int i, rfl⟩
    | str s => cases h; obtain ⟨rfl, h1, h2⟩ := hv.str_inv; exact ⟨.str _, h2⟩
    | tup ts =>
      obtain ⟨a, vs, rfl, h1, h2⟩ := hv.tup_inv
      have h : (ts.mapM (toD st n)).map PyData.tuple = some d := h
      obtain ⟨ds, e, rfl⟩ := Option.map_eq_some_iff.mp h
      obtain ⟨b1, b2⟩ := all _ _ _ e h2
      exact ⟨.tup h1 b1, b2⟩
    | kl ts =>
      obtain ⟨a, vs, rfl, h1, h2⟩ := hv.kl_inv
      have h : (ts.mapM (toD st n)).map PyData.list = some d := h
      obtain ⟨ds, e, rfl⟩ := Option.map_eq_some_iff.mp h
      obtain ⟨b1, b2⟩ := all _ _ _ e h2
      exact ⟨.lst h1.sq b1, b2⟩
    | loc l =>
      obtain ⟨rfl, hl⟩ := hv.loc_inv
      have h : (match getL st l with | some xs => (xs.mapM (toD st n)).map PyData.list | none => none) = some d := h
      split at h
      · next xs e =>
        obtain ⟨ds, e2, rfl⟩ := Option.map_eq_some_iff.mp h
        obtain ⟨vs, h1, h2⟩ := r.lst (getL_some e)
        obtain ⟨b1, b2⟩ := all _ _ _ e2 h1
        exact ⟨.lst (.inl (.inl h2)) b1, b2⟩
      · cases h
    | fn k => cases h
/-- == of two values: as data -/
theorem eqS_ok (r : Rel P θ st H) {a b : T} {x y : V} {k : Bool} (h : eqS st a b = some k) (hx : VT P θ st.length H a x) (hy : VT P θ st.length H b y) :
    ∃ d e, Dp P.K H x d ∧ Dp P.K H y e ∧ PyData.canLay0 d = true ∧ PyData.canLay0 e = true ∧ min d.depth e.depth ≤ 64 ∧ PyData.eqv d e = k := by
  unfold eqS at h
  split at h
  · next hp =>
    rw [Bool.and_eq_true] at hp
    split at h
    · next hd =>
      cases h
      obtain ⟨h1, h2⟩ := hx.dat_ok hp.1
      obtain ⟨h3, h4⟩ := hy.dat_ok hp.2
      exact ⟨dat a, dat b, h1, h3, h2, h4, by rw [dep_dat, dep_dat]; exact hd, eqT_dat a b hp.1 hp.2⟩
    · cases h
  · split at h
    · next d e e1 e2 =>
      split at h
      · next hd =>
        cases h
        obtain ⟨h1, h2⟩ := toD_ok r _ _ _ _ e1 hx
        obtain ⟨h3, h4⟩ := toD_ok r _ _ _ _ e2 hy
        exact ⟨d, e, h1, h3, h2, h4, hd, rfl⟩
      · cases h
    · cases h
/-- membership: as data -/
theorem inS_ok (r : Rel P θ st H) {a : T} {ts : List T} {x : V} {vs : List V} {k : Bool} (h : inS st a ts = some k) (hx : VT P θ st.length H a x) (hy : VTs P θ st.length H ts vs) :
    ∃ d ds, Dp P.K H x d ∧ DpAll P.K H vs ds ∧ PyData.canLay0 d = true ∧ PyData.canLayAll0 ds = true ∧ min (PyData.depthAll ds) d.depth ≤ 64 ∧ (ds.any fun y => PyData.eqv y d) = k := by
  unfold inS at h
  split at h
  · next hp =>
    rw [Bool.and_eq_true] at hp
    split at h
    · next hd =>
      cases h
      obtain ⟨h1, h2⟩ := hx.dat_ok hp.1
      obtain ⟨h3, h4⟩ := hy.dat_ok hp.2
      refine ⟨dat a, dats ts, h1, h3, h2, h4, by rw [dep_dat, deps_dats]; exact hd, ?_⟩
      have hpt := hp.2
      have hpa := hp.1
      clear hd hy h3 h4 hp
      induction ts with
      | nil => rfl
      | cons t ts ih =>
        have hp' : (t.pure && T.pures ts) = true := hpt
        rw [Bool.and_eq_true] at hp'
        show ((PyData.eqv (dat t) (dat a)) || (dats ts).any _) = (eqT t a || ts.any _)
        rw [ih hp'.2, eqT_dat t a hp'.1 hpa]
    · cases h
  · split at h
    · next d ds e1 e2 =>
      split at h
      · next hd =>
        cases h
        obtain ⟨h1, h2⟩ := toD_ok r _ _ _ _ e1 hx
        have e3 : (ts.mapM (toD st 19)).map PyData.tuple = some (.tuple ds) := e2
        obtain ⟨ds', e, e4⟩ := Option.map_eq_some_iff.mp e3
        cases e4
        obtain ⟨h3, h4⟩ := toDs_ok (toD_ok r 19) _ _ _ e hy
        exact ⟨d, ds, h1, h3, h2, h4, hd, rfl⟩
      · cases h
    · cases h

/-! ### comparisons -/
section
variable {X : Cx}
/-- a comparison, by the evaluator's answer -/
def rC (P : Pm) (op : C2) : R2 := fun x y H Q => ∃ θ st t u k, Rel P θ st H ∧ VT P θ st.length H t x ∧ VT P θ st.length H u y ∧ cmp2 st op t u = some k ∧ Q (.bl k) H
theorem isNon_ok {t : T} {x : V} (h : VT P θ n H t x) : decide (x = .non) = t.isNon := by cases h <;> rfl
theorem seqv_ok (r : Rel P θ st H) {t : T} {x : V} {ts : List T} (h : seqv st t = some ts) (hx : VT P θ st.length H t x) :
    ∃ a vs, x = .ref a ∧ VTs P θ st.length H ts vs ∧ (SqL P.K H a vs ∨ SqT P.K H a vs) := by
  cases t with
  | tup us =>
    cases h
    obtain ⟨a, vs, rfl, h1, h2⟩ := hx.tup_inv
    exact ⟨a, vs, rfl, h2, .inr h1⟩
  | loc l =>
    obtain ⟨rfl, hl⟩ := hx.loc_inv
    obtain ⟨vs, h1, h2⟩ := r.lst (getL_some h)
    exact ⟨_, vs, rfl, h1, .inl (.inl (.inl h2))⟩
  | kl us =>
    cases h
    obtain ⟨a, vs, rfl, h1, h2⟩ := hx.kl_inv
    exact ⟨a, vs, rfl, h2, .inl h1.sq⟩
  | _ => cases h
theorem is_ok {t u : T} {x y : V} {v w : Value} {k : Bool} (hx : VT P θ n H t x) (hy : VT P θ n H u y) (rx : RelV x v) (ry : RelV y w) (h : isS t u = some k) :
    plainIs v w = true ∧ (v == w) = k := by
  cases u with
  | non =>
    cases h
    cases hy
    cases (show w = Value.none from ry)
    cases hx with
    | non => cases (show v = Value.none from rx); exact ⟨rfl, rfl⟩
    | bl b => cases (show v = Value.bool b from rx); exact ⟨rfl, rfl⟩
    | int i => obtain ⟨q, rfl⟩ := (show ∃ q, v = Value.int i q from rx); exact ⟨rfl, rfl⟩
    | str s h1 h2 => obtain ⟨q, rfl⟩ := (show ∃ q, v = Value.str _ q from rx); exact ⟨rfl, rfl⟩
    | tup h1 h2 => cases (show v = Value.ref _ from rx); exact ⟨rfl, rfl⟩
    | kl h1 h2 => cases (show v = Value.ref _ from rx); exact ⟨rfl, rfl⟩
    | loc l h1 => cases (show v = Value.ref _ from rx); exact ⟨rfl, rfl⟩
    | fn k => cases (show v = Value.ref _ from rx); exact ⟨rfl, rfl⟩
  | bl c =>
    cases h
    cases hy
    cases (show w = Value.bool c from ry)
    cases hx with
    | non => cases (show v = Value.none from rx); exact ⟨rfl, rfl⟩
    | bl b => cases (show v = Value.bool b from rx); exact ⟨rfl, by cases b <;> cases c <;> rfl⟩
    | int i => obtain ⟨q, rfl⟩ := (show ∃ q, v = Value.int i q from rx); exact ⟨rfl, rfl⟩
    | str s h1 h2 => obtain ⟨q, rfl⟩ := (show ∃ q, v = Value.str _ q from rx); exact ⟨rfl, rfl⟩
    | tup h1 h2 => cases (show v = Value.ref _ from rx); exact ⟨rfl, rfl⟩
    | kl h1 h2 => cases (show v = Value.ref _ from rx); exact ⟨rfl, rfl⟩
    | loc l h1 => cases (show v = Value.ref _ from rx); exact ⟨rfl, rfl⟩
    | fn k => cases (show v = Value.ref _ from rx); exact ⟨rfl, rfl⟩
  | _ => cases h
theorem int2_ok {t u : T} {x y : V} {k : Bool} {f : Int → Int → Bool} (hx : VT P θ n H t x) (hy : VT P θ n H u y) (h : int2 f t u = some k) :
    ∃ i j, x = .int i ∧ y = .int j ∧ f i j = k := by
  unfold int2 at h
  split at h
  · cases h; cases hx.int_inv; cases hy.int_inv; exact ⟨_, _, rfl, rfl, rfl⟩
  · cases h
theorem op_c2 (hK : X.K = P.K) (hu : X.A.units + 128 < cLine) (o : CmpOp) : OpR X (compareOp o) (rC P (c2Of o)) := by
  intro pins s σ H x y v u Q I rx ry h
  obtain ⟨θ, st, t, w, k, r, hx, hy, hc, q⟩ := h
  cases o with
  | Eq =>
    obtain ⟨d, e, h1, h2, h3, h4, h5, h6⟩ := eqS_ok r (show eqS st t w = some k from hc) hx hy
    obtain ⟨as, r1⟩ := Dp.reads I d x v (hK ▸ h1) rx
    obtain ⟨bs, r2⟩ := Dp.reads I e y u (hK ▸ h2) ry
    exact SeqAt.compareEq_reads r1 r2 h3 h4 (by omega) ⟨.bl _, H, I, rfl, by rw [h6]; exact q⟩
  | NotEq =>
    obtain ⟨k', e0, rfl⟩ := Option.map_eq_some_iff.mp (show (eqS st t w).map not = some k from hc)
    obtain ⟨d, e, h1, h2, h3, h4, h5, h6⟩ := eqS_ok r e0 hx hy
    obtain ⟨as, r1⟩ := Dp.reads I d x v (hK ▸ h1) rx
    obtain ⟨bs, r2⟩ := Dp.reads I e y u (hK ▸ h2) ry
    exact SeqAt.compareNe_reads r1 r2 h3 h4 (by omega) ⟨.bl _, H, I, rfl, by rw [h6]; exact q⟩
  | Lt =>
    obtain ⟨i, j, rfl, rfl, e⟩ := int2_ok (f := fun i j => decide (i < j)) hx hy hc
    exact op_lt pins s σ H _ _ v u Q I rx ry ⟨i, j, rfl, rfl, by subst e; exact q⟩
  | LtE =>
    obtain ⟨i, j, rfl, rfl, e⟩ := int2_ok (f := fun i j => decide (i ≤ j)) hx hy hc
    exact op_le pins s σ H _ _ v u Q I rx ry ⟨i, j, rfl, rfl, by subst e; exact q⟩
  | Gt =>
    obtain ⟨i, j, rfl, rfl, e⟩ := int2_ok (f := fun i j => decide (j < i)) hx hy hc
    exact op_gt pins s σ H _ _ v u Q I rx ry ⟨i, j, rfl, rfl, by subst e; exact q⟩
  | GtE =>
    obtain ⟨i, j, rfl, rfl, e⟩ := int2_ok (f := fun i j => decide (j ≤ i)) hx hy hc
    exact op_ge pins s σ H _ _ v u Q I rx ry ⟨i, j, rfl, rfl, by subst e; exact q⟩
  | Is =>
    obtain ⟨h1, h2⟩ := is_ok hx hy rx ry hc
    exact wpAny_is_plain h1 ⟨.bl _, H, I, rfl, by rw [h2]; exact q⟩
  | IsNot =>
    obtain ⟨k', hc', rfl⟩ := Option.map_eq_some_iff.mp (show (isS t w).map not = some k from hc)
    obtain ⟨h1, h2⟩ := is_ok hx hy rx ry hc'
    exact wpAny_isNot_plain h1 ⟨.bl _, H, I, rfl, by rw [h2]; exact q⟩
  | In =>
    simp only [c2Of, cmp2] at hc
    split at hc
    · next ts e =>
      obtain ⟨a, vs, rfl, hv, hs⟩ := seqv_ok r e hy
      obtain ⟨d, ds, h1, h2, h3, h4, h5, h6⟩ := inS_ok r hc hx hv
      obtain ⟨as, r1⟩ := Dp.reads I d x v (hK ▸ h1) rx
      rcases hs with hs | hs
      · obtain ⟨bs, r2⟩ := Dp.reads I (.list ds) (.ref a) u (.lst (hK ▸ hs) (hK ▸ h2)) ry
        exact SeqAt.in_list_reads r2 r1 h4 h3 (by omega) ⟨.bl _, H, I, rfl, by rw [h6]; exact q⟩
      · obtain ⟨bs, r2⟩ := Dp.reads I (.tuple ds) (.ref a) u (.tup (hK ▸ hs) (hK ▸ h2)) ry
        exact SeqAt.in_tuple_reads r2 r1 h4 h3 (by omega) ⟨.bl _, H, I, rfl, by rw [h6]; exact q⟩
    · cases hc
  | NotIn =>
    simp only [c2Of, cmp2] at hc
    split at hc
    · next ts e =>
      obtain ⟨k', e0, rfl⟩ := Option.map_eq_some_iff.mp hc
      obtain ⟨a, vs, rfl, hv, hs⟩ := seqv_ok r e hy
      obtain ⟨d, ds, h1, h2, h3, h4, h5, h6⟩ := inS_ok r e0 hx hv
      obtain ⟨as, r1⟩ := Dp.reads I d x v (hK ▸ h1) rx
      rcases hs with hs | hs
      · obtain ⟨bs, r2⟩ := Dp.reads I (.list ds) (.ref a) u (.lst (hK ▸ hs) (hK ▸ h2)) ry
        exact SeqAt.notIn_list_reads r2 r1 h4 h3 (by omega) ⟨.bl _, H, I, rfl, by rw [h6]; exact q⟩
      · obtain ⟨bs, r2⟩ := Dp.reads I (.tuple ds) (.ref a) u (.tup (hK ▸ hs) (hK ▸ h2)) ry
        exact SeqAt.notIn_tuple_reads r2 r1 h4 h3 (by omega) ⟨.bl _, H, I, rfl, by rw [h6]; exact q⟩
    · cases hc
/-! ### truth -/
theorem truth_ok (r : Rel P θ st H) {t : T} {x : V} {k : Bool} (h : truth st t = some k) (hx : VT P θ st.length H t x) : TruV P.K x H k := by
  cases hx with
  | non => cases h; rfl
  | bl b => cases h; rfl
  | int i => cases h; rfl
  | str s h1 h2 =>
    cases h
    refine ⟨by rw [str_len]; exact h1, ?_⟩
    rw [str_len]
    cases s with
    | nil => rfl
    | cons c s =>
      show true = (((s.length + 1 : Nat) : Int) != 0)
      exact (bne_iff_ne.mpr (by omega)).symm
  | tup h1 h2 =>
    cases h
    refine .inr (.inl ⟨_, h1, ?_⟩)
    cases h2 <;> rfl
  | kl h1 h2 =>
    cases h
    refine .inl ⟨_, h1.sq, ?_⟩
    cases h2 <;> rfl
  | loc l hl =>
    simp only [truth] at h
    split at h
    · next xs e =>
      cases h
      obtain ⟨vs, h1, h2⟩ := r.lst e
      refine .inl ⟨vs, .inl (.inl h2), ?_⟩
      cases h1 <;> rfl
    · next e => exact (r.ob _ _ e).elim
    · cases h
  | fn k => cases h
/-! ### places, slices -/
theorem VTs.atI {ts : List T} {vs : List V} (h : VTs P θ n H ts vs) {i : Int} {t : T} (e : atIx ts i = some t) : ∃ v, L2.atI vs i = some v ∧ VT P θ n H t v := by
  obtain ⟨j, e1, e2⟩ := Option.bind_eq_some_iff.mp e
  obtain ⟨v, h1, h2⟩ := h.get e2
  refine ⟨v, ?_, h2⟩
  unfold L2.atI
  rw [← h.length]
  show (ixOf ts.length i).bind _ = _
  rw [e1]; exact h1
/-- one sign -/
theorem vt_sign {c : Nat} (h : c < 0x110000) : VT P θ n H (.str [c]) (.str ⟨#[c]⟩) := .str [c] (by rw [sizeLine_eq]; show 1 ≤ 16777216; decide) ((strOk_iff _).mpr fun d hd => by simp at hd; subst hd; exact h)
def rX (P : Pm) : R2 := fun x y H Q => ∃ θ st t u z, Rel P θ st H ∧ VT P θ st.length H t x ∧ VT P θ st.length H u y ∧ ixT st t u = some z ∧ ∀ v, VT P θ st.length H z v → Q v H
theorem ix_any (hK : X.K = P.K) : IxR X (rX P) := by
  intro ev es pins s σ H x y v u Q I rx ry h hpl
  obtain ⟨θ, st, t, w, z, r, hx, hy, e, q⟩ := h
  refine ix_seq ev es pins s σ H x y v u Q I rx ry ?_ hpl
  unfold ixT at e
  split at e
  · cases hy.int_inv
    obtain ⟨a, vs, rfl, h1, h2⟩ := hx.tup_inv
    obtain ⟨v', e1, h3⟩ := h2.atI e
    exact .inr (.inl ⟨_, _, _, v', rfl, rfl, hK ▸ h1, e1, q _ h3⟩)
  · cases hy.int_inv
    obtain ⟨a, vs, rfl, h1, h2⟩ := hx.kl_inv
    obtain ⟨v', e1, h3⟩ := h2.atI e
    exact .inl ⟨_, _, _, v', rfl, rfl, hK ▸ h1.sq, e1, q _ h3⟩
  · next s' i =>
    cases hy.int_inv
    obtain ⟨rfl, h1, h2⟩ := hx.str_inv
    obtain ⟨c, e1, rfl⟩ := Option.map_eq_some_iff.mp e
    refine .inr (.inr ⟨_, _, c, rfl, rfl, by rw [str_len]; exact h1, by exact e1, q _ (vt_sign ?_)⟩)
    obtain ⟨j, _, e2⟩ := Option.bind_eq_some_iff.mp e1
    exact (strOk_iff _).mp h2 c (List.mem_of_getElem? e2)
  · split at e
    · next xs e0 =>
      cases hy.int_inv
      obtain ⟨rfl, hl⟩ := hx.loc_inv
      obtain ⟨vs, h1, h2⟩ := r.lst (getL_some e0)
      obtain ⟨v', e1, h3⟩ := h1.atI e
      exact .inl ⟨_, _, _, v', rfl, rfl, .inl (.inl h2), e1, q _ h3⟩
    · cases e
  · cases e
theorem slIx_eq (n d : Nat) (o : Option Int) : slIx n d o = HT.sIx n d o := by cases o <;> rfl
theorem cut_vts {ts : List T} {vs : List V} (h : VTs P θ n H ts vs) (lo hi : Option Int) : VTs P θ n H (cut ts lo hi) (cutV vs lo hi) := by
  unfold cut cutV
  rw [slIx_eq, slIx_eq, h.length]
  exact (h.drop _).take _
def rS (P : Pm) : V → Option Int → Option Int → Hp → VK → Prop := fun x l h H Q => ∃ lo θ st t, Now P lo θ st H ∧ VT P θ st.length H t x ∧ Post P (VT P) lo θ st H (slT st t l h) (fun _ _ _ H' v => Q v H') (fun _ _ _ => False)
theorem sl_any (hK : X.K = P.K) : SlR X (rS P) := by
  intro pins s σ H x v vl vu l h sl Q I rx hs pl pu hh
  obtain ⟨lo, θ, st, t, nw, hx, p⟩ := hh
  unfold slT at p
  split at p
  · obtain ⟨a, vs, rfl, h1, h2⟩ := hx.tup_inv
    refine sl_tupA pins s σ H _ v vl vu l h sl Q I rx hs pl pu ⟨a, vs, rfl, hK ▸ h1, fun hw => ?_, fun hw q hq => ?_⟩
    · refine p.here nw.rel (.tup h1 ?_)
      have e := cut_vts h2 l h
      have e2 : cutV vs l h = vs := by
        unfold cutV
        rw [hw.1, hw.2]
        simp
      rw [e2] at e
      exact e
    · have x1 := Ext.grow (P := P) (lo := lo) nw.rel hq (.tup (cutV vs l h))
      exact p _ _ _ x1 (.tup (.inl (.inl upd_same)) (cut_vts (x1.vts nw.rel h2) l h))
  · next ks =>
    obtain ⟨a, vs, rfl, h1, h2⟩ := hx.kl_inv
    exact sl_list pins s σ H _ v vl vu l h sl Q I rx hs pl pu ⟨_, vs, rfl, hK ▸ h1.sq, fun q hq => p.newK nw (cut_vts h2 l h) q hq⟩
  · next z =>
    obtain ⟨rfl, h1, h2⟩ := hx.str_inv
    refine sl_str pins s σ H _ v vl vu l h sl Q I rx hs pl pu ⟨_, rfl, by rw [str_len]; exact h1, ?_⟩
    have e : cutS ⟨z.toArray⟩ l h = ⟨(cut z l h).toArray⟩ := by
      unfold cutS cut
      rw [slIx_eq, slIx_eq, str_len]
    rw [e]
    refine p.here nw.rel (.str _ ?_ ((strOk_iff _).mpr fun c hc => ?_))
    · refine Nat.le_trans ?_ h1
      unfold cut
      rw [List.length_take, List.length_drop]; omega
    · exact (strOk_iff _).mp h2 c (List.mem_of_mem_drop (List.mem_of_mem_take hc))
  · split at p
    · next xs e0 =>
      obtain ⟨rfl, hl⟩ := hx.loc_inv
      obtain ⟨vs, h1, h2⟩ := nw.rel.lst (getL_some e0)
      refine sl_list pins s σ H _ v vl vu l h sl Q I rx hs pl pu ⟨_, vs, rfl, .inl (.inl h2), fun q hq => ?_⟩
      have x1 := Ext.laid (P := P) (lo := lo) nw.rel hq (cut_vts h1 l h)
      exact p _ _ (.ref q) x1 (by
        have z : VT P (lay θ st.length q) (st ++ [O.lst (cut xs l h)]).length (upd H q (.lst (cutV vs l h))) (.loc st.length) (.ref (lay θ st.length q st.length)) := .loc _ (by simp)
        rw [show lay θ st.length q st.length = q from if_pos rfl] at z
        exact z)
    · exact p.elim
  · exact p.elim
end
end Ev

/-! Ev5: built-in functions, methods, tests of kinds. -/
namespace Ev
open PySem L2 PySem.Spec PyProof.Rows
variable {P : Pm} {lo : Nat} {θ θ' : Nat → Addr} {st st' : Sto} {H H' : Hp} {n : Nat}

theorem VTs.nil_inv {vs : List V} (h : VTs P θ n H [] vs) : vs = [] := by cases h; rfl
theorem VTs.one_inv {t : T} {vs : List V} (h : VTs P θ n H [t] vs) : ∃ v, vs = [v] ∧ VT P θ n H t v := by
  cases h with
  | cons h1 h2 => cases h2; exact ⟨_, rfl, h1⟩
theorem VTs.two_inv {t u : T} {vs : List V} (h : VTs P θ n H [t, u] vs) : ∃ v w, vs = [v, w] ∧ VT P θ n H t v ∧ VT P θ n H u w := by
  cases h with
  | cons h1 h2 =>
    obtain ⟨w, rfl, h3⟩ := h2.one_inv
    exact ⟨_, _, rfl, h1, h3⟩
/-- the answer of a new list -/
theorem Post.newL {Q : VK} {W : XK} {ts : List T} {vs : List V} (nw : Now P lo θ st H) (p : Post P (VT P) lo θ st H (.ok (.loc st.length) (st ++ [.lst ts])) (fun _ _ _ H' v => Q v H') W) (h : VTs P θ st.length H ts vs) (q : Addr) (hq : H q = none) :
    Q (.ref q) (upd H q (.lst vs)) := by
  have x1 := Ext.laid (P := P) (lo := lo) nw.rel hq h
  exact p _ _ (.ref q) x1 (by
    have z : VT P (lay θ st.length q) (st ++ [O.lst ts]).length (upd H q (.lst vs)) (.loc st.length) (.ref (lay θ st.length q st.length)) := .loc _ (by simp)
    rw [show lay θ st.length q st.length = q from if_pos rfl] at z
    exact z)
section
variable {X : Cx}
def rBi (P : Pm) (b : Bi) : List V → Hp → VK → Prop := fun xs H Q => ∃ lo θ st ts, Now P lo θ st H ∧ VTs P θ st.length H ts xs ∧ Post P (VT P) lo θ st H (biT b ts st) (fun _ _ _ H' v => Q v H') (fun _ _ _ => False)
theorem bi_len (hK : X.K = P.K) : CallR X (.builtin "len") (rBi P .len) := by
  intro pins s σ H xs us Q I r h
  obtain ⟨lo, θ, st, ts, nw, hx, p⟩ := h
  refine call_len pins s σ H xs us Q I r ?_
  match ts, hx, p with
  | [x], hx, p =>
    obtain ⟨v, rfl, hv⟩ := hx.one_inv
    simp only [biT] at p
    split at p
    · obtain ⟨rfl, h1, h2⟩ := hv.str_inv
      exact ⟨_, _, rfl, ⟨by rw [str_len]; exact h1, (str_len _).symm⟩, p.here nw.rel (.int _)⟩
    · obtain ⟨a, vs, rfl, h1, h2⟩ := hv.tup_inv
      exact ⟨_, _, rfl, .inr ⟨vs, hK ▸ h1, rfl⟩, by rw [← h2.length]; exact p.here nw.rel (.int _)⟩
    · obtain ⟨a, vs, rfl, h1, h2⟩ := hv.kl_inv
      exact ⟨_, _, rfl, .inl ⟨vs, hK ▸ h1.sq, rfl⟩, by rw [← h2.length]; exact p.here nw.rel (.int _)⟩
    · split at p
      · next e =>
        obtain ⟨rfl, hl⟩ := hv.loc_inv
        obtain ⟨vs, h1, h2⟩ := nw.rel.lst e
        exact ⟨_, _, rfl, .inl ⟨vs, .inl (.inl h2), rfl⟩, by rw [← h1.length]; exact p.here nw.rel (.int _)⟩
      · exact p.elim
    · exact p.elim
  | [], _, p => exact p.elim
  | _ :: _ :: _, _, p => exact p.elim
theorem bi_abs : CallR X (.builtin "abs") (rBi P .abs) := by
  intro pins s σ H xs us Q I r h
  obtain ⟨lo, θ, st, ts, nw, hx, p⟩ := h
  refine call_abs pins s σ H xs us Q I r ?_
  match ts, hx, p with
  | [x], hx, p =>
    obtain ⟨v, rfl, hv⟩ := hx.one_inv
    simp only [biT] at p
    split at p
    · cases hv.int_inv
      exact ⟨_, rfl, p.here nw.rel (.int _)⟩
    · exact p.elim
  | [], _, p => exact p.elim
  | _ :: _ :: _, _, p => exact p.elim
theorem bi_int : CallR X (.type "int") (rBi P .int) := by
  intro pins s σ H xs us Q I r h
  obtain ⟨lo, θ, st, ts, nw, hx, p⟩ := h
  refine call_int1 pins s σ H xs us Q I r ?_
  match ts, hx, p with
  | [x], hx, p =>
    obtain ⟨v, rfl, hv⟩ := hx.one_inv
    simp only [biT] at p
    split at p
    · cases hv.int_inv
      exact .inl ⟨_, rfl, p.here nw.rel (.int _)⟩
    · cases hv.bl_inv
      exact .inr ⟨_, rfl, p.here nw.rel (.int _)⟩
    · exact p.elim
  | [], _, p => exact p.elim
  | _ :: _ :: _, _, p => exact p.elim
theorem bi_max (hc : X.calm = true) : CallR X (.builtin "max") (rBi P .max) := by
  intro pins s σ H xs us Q I r h
  obtain ⟨lo, θ, st, ts, nw, hx, p⟩ := h
  refine call_max2 hc pins s σ H xs us Q I r ?_
  match ts, hx, p with
  | [x, y], hx, p =>
    obtain ⟨v, w, rfl, hv, hw⟩ := hx.two_inv
    simp only [biT] at p
    split at p
    · cases hv.int_inv; cases hw.int_inv
      exact ⟨_, _, rfl, p.here nw.rel (.int _)⟩
    · exact p.elim
  | [], _, p => exact p.elim
  | [_], _, p => exact p.elim
  | _ :: _ :: _ :: _, _, p => exact p.elim
theorem bi_min (hc : X.calm = true) : CallR X (.builtin "min") (rBi P .min) := by
  intro pins s σ H xs us Q I r h
  obtain ⟨lo, θ, st, ts, nw, hx, p⟩ := h
  refine call_min2 hc pins s σ H xs us Q I r ?_
  match ts, hx, p with
  | [x, y], hx, p =>
    obtain ⟨v, w, rfl, hv, hw⟩ := hx.two_inv
    simp only [biT] at p
    split at p
    · cases hv.int_inv; cases hw.int_inv
      exact ⟨_, _, rfl, p.here nw.rel (.int _)⟩
    · exact p.elim
  | [], _, p => exact p.elim
  | [_], _, p => exact p.elim
  | _ :: _ :: _ :: _, _, p => exact p.elim
theorem bi_tuple (hK : X.K = P.K) : CallR X (.type "tuple") (rBi P .tuple) := by
  intro pins s σ H xs us Q I r h
  obtain ⟨lo, θ, st, ts, nw, hx, p⟩ := h
  refine call_tuple_of pins s σ H xs us Q I r ?_
  match ts, hx, p with
  | [x], hx, p =>
    obtain ⟨v, rfl, hv⟩ := hx.one_inv
    simp only [biT] at p
    split at p
    · obtain ⟨a, vs, rfl, h1, h2⟩ := hv.tup_inv
      exact ⟨_, vs, rfl, .inr ⟨hK ▸ h1, p.here nw.rel hv⟩⟩
    · obtain ⟨a, vs, rfl, h1, h2⟩ := hv.kl_inv
      exact ⟨_, vs, rfl, .inl ⟨hK ▸ h1.sq, fun q hq => p.newT nw h2 q hq⟩⟩
    · split at p
      · next e =>
        obtain ⟨rfl, hl⟩ := hv.loc_inv
        obtain ⟨vs, h1, h2⟩ := nw.rel.lst (getL_some e)
        exact ⟨_, vs, rfl, .inl ⟨.inl (.inl h2), fun q hq => p.newT nw h1 q hq⟩⟩
      · exact p.elim
    · exact p.elim
  | [], _, p => exact p.elim
  | _ :: _ :: _, _, p => exact p.elim
theorem bi_list (hK : X.K = P.K) : CallR X (.type "list") (rBi P .list) := by
  intro pins s σ H xs us Q I r h
  obtain ⟨lo, θ, st, ts, nw, hx, p⟩ := h
  refine call_list_of pins s σ H xs us Q I r ?_
  match ts, hx, p with
  | [x], hx, p =>
    obtain ⟨v, rfl, hv⟩ := hx.one_inv
    simp only [biT] at p
    split at p
    · next ys e =>
      obtain ⟨a, vs, rfl, h1, h2⟩ := seqv_ok nw.rel e hv
      exact ⟨_, vs, rfl, by rw [hK]; exact h2, fun q hq => p.newL nw h1 q hq⟩
    · exact p.elim
  | [], _, p => exact p.elim
  | _ :: _ :: _, _, p => exact p.elim

theorem bi_listK (hK : X.K = P.K) : CallR X (.type "list") (rBi P .listK) := by
  intro pins s σ H xs us Q I r h
  obtain ⟨lo, θ, st, ts, nw, hx, p⟩ := h
  refine call_list_of pins s σ H xs us Q I r ?_
  match ts, hx, p with
  | [x], hx, p =>
    obtain ⟨v, rfl, hv⟩ := hx.one_inv
    simp only [biT] at p
    split at p
    · next ys e =>
      obtain ⟨a, vs, rfl, h1, h2⟩ := seqv_ok nw.rel e hv
      exact ⟨_, vs, rfl, by rw [hK]; exact h2, fun q hq => p.newK nw h1 q hq⟩
    · exact p.elim
  | [], _, p => exact p.elim
  | _ :: _ :: _, _, p => exact p.elim

/-! ### isinstance -/
def tyNm : TyK → String
  | .int => "int"
  | .bool => "bool"
  | .str => "str"
  | .tuple => "tuple"
  | .list => "list"
  | .dict => "dict"
theorem tyx_tup {K : PySem.W.Frag} {a : Addr} {vs : List V} (h : SqT K H a vs) : TyX K H (.ref a) (.type "tuple") := by
  rcases h with (h | ⟨o, h⟩) | ⟨o, its, n, h1, h2, _⟩
  · exact .base (.tup h)
  · exact .fTuple h
  · exact .kTuple h1 h2
theorem tyx_lst {K : PySem.W.Frag} {a : Addr} {vs : List V} (h : Rd H a (.lst vs)) : TyX K H (.ref a) (.type "list") := by
  rcases h with h | ⟨o, h⟩
  · exact .base (.lst h)
  · exact .base (.frz h)
theorem tyx_kl {K : PySem.W.Frag} {θ : Nat → Addr} {n : Nat} {a : Addr} {vs : List V} (h : KL K θ n H a vs) : TyX K H (.ref a) (.type "list") := by
  rcases h with ⟨o, h⟩ | ⟨o, its, n, h1, h2, _⟩ | h
  · exact .base (.frz h)
  · exact .kList h1 h2
  · exact .base (.lst h.1)
theorem isiT_ok (r : Rel P θ st H) {k : TyK} {t : T} {x : V} {b : Bool} (h : isiT st k t = some b) (hx : VT P θ st.length H t x) : ∃ ty : String, TyX P.K H x (.type ty) ∧ kitB ty (tyNm k) = some b := by
  cases hx with
  | non => exact ⟨"NoneType", .base .non, by cases k <;> cases h <;> decide +kernel⟩
  | bl c => exact ⟨"bool", .base (.bl c), by cases k <;> cases h <;> decide +kernel⟩
  | int i => exact ⟨"int", .base (.int i), by cases k <;> cases h <;> decide +kernel⟩
  | str s h1 h2 => exact ⟨"str", .base (.str _), by cases k <;> cases h <;> decide +kernel⟩
  | tup h1 h2 => exact ⟨"tuple", tyx_tup h1, by cases k <;> cases h <;> decide +kernel⟩
  | kl h1 h2 => exact ⟨"list", tyx_kl h1, by cases k <;> cases h <;> decide +kernel⟩
  | loc l hl =>
    obtain ⟨vs, hr⟩ := r.isl hl
    refine ⟨"list", tyx_lst (.inl hr), ?_⟩
    have h' : (match st[l]? with | some (.lst _) => some (decide (k = .list)) | some (.dct _) => some (decide (k = .dict)) | none => none) = some b := by cases k <;> exact h
    split at h'
    · cases h'
      cases k <;> decide +kernel
    · next e => exact (r.ob _ _ e).elim
    · cases h'
  | fn k' => cases k <;> simp [isiT] at h
/-! ### methods -/
def rMt (P : Pm) (m : Mt) : V → List V → Hp → VK → Prop := fun x xs H Q => ∃ lo θ st t ts, Now P lo θ st H ∧ VT P θ st.length H t x ∧ VTs P θ st.length H ts xs ∧ Post P (VT P) lo θ st H (mtT lo m t ts st) (fun _ _ _ H' v => Q v H') (fun _ _ _ => False)
/-- the answer of a changed list -/
theorem Post.putL {Q : VK} {W : XK} {l : Nat} {t : T} {x : V} {xs ys : List T} {ws : List V} (nw : Now P lo θ st H) (p : Post P (VT P) lo θ st H (.ok t (putL st l ys)) (fun _ _ _ H' v => Q v H') W) (hl : lo ≤ l) (hx : st[l]? = some (.lst xs))
    (h : VTs P θ st.length H ys ws) (ht : VT P θ st.length H t x) : Q x (upd H (θ l) (.lst ws)) := by
  have x1 := Ext.put (P := P) (lo := lo) nw.rel hl hx h
  exact p _ _ _ x1 (x1.vt nw.rel ht)
theorem VTs.last {ts : List T} {vs : List V} (h : VTs P θ n H ts vs) {t : T} (e : ts.getLast? = some t) : ∃ v, vs[vs.length - 1]? = some v ∧ VT P θ n H t v := by
  rw [List.getLast?_eq_getElem?] at e
  obtain ⟨v, h1, h2⟩ := h.get e
  exact ⟨v, by rw [← h.length]; exact h1, h2⟩
theorem mt_app : MtR X "list.append" (rMt P .append) := by
  intro pins s σ H x xs v us Q I rx rs h
  obtain ⟨lo, θ, st, t, ts, nw, hx, hxs, p⟩ := h
  refine mt_append pins s σ H x xs v us Q I rx rs ?_
  unfold mtT at p
  split at p
  · next l y e _ =>
    split at p
    · next hl =>
      split at p
      · next zs e2 =>
        split at p
        · next hlen =>
          obtain ⟨rfl, _⟩ := hx.loc_inv
          obtain ⟨w, rfl, hw⟩ := hxs.one_inv
          obtain ⟨vs, h1, h3⟩ := nw.rel.lst (getL_some e2)
          exact ⟨_, vs, w, rfl, rfl, h3, by rw [← h1.length, sizeLine_eq]; exact hlen, p.putL nw hl (getL_some e2) (h1.append (.cons hw .nil)) .non⟩
        · exact p.elim
      · exact p.elim
    · exact p.elim
  all_goals first | exact p.elim | simp_all
theorem mt_ext (hK : X.K = P.K) : MtR X "list.extend" (rMt P .extend) := by
  intro pins s σ H x xs v us Q I rx rs h
  obtain ⟨lo, θ, st, t, ts, nw, hx, hxs, p⟩ := h
  refine mt_extendS pins s σ H x xs v us Q I rx rs ?_
  unfold mtT at p
  split at p
  · simp_all
  · next l m e _ =>
    split at p
    · next hl =>
      split at p
      · next zs ys e2 e3 =>
        split at p
        · next hlen =>
          obtain ⟨rfl, _⟩ := hx.loc_inv
          obtain ⟨w, rfl, hw⟩ := hxs.one_inv
          obtain ⟨rfl, _⟩ := hw.loc_inv
          obtain ⟨vs, h1, h3⟩ := nw.rel.lst (getL_some e2)
          obtain ⟨ws, h4, h6⟩ := nw.rel.lst (getL_some e3)
          exact ⟨_, _, vs, ws, rfl, rfl, h3, .inl (.inl h6), by rw [← h1.length, ← h4.length, sizeLine_eq]; exact hlen, p.putL nw hl (getL_some e2) (h1.append h4) .non⟩
        · exact p.elim
      · exact p.elim
    · exact p.elim
  · next l ys e _ =>
    split at p
    · next hl =>
      split at p
      · next zs e2 =>
        split at p
        · next hlen =>
          obtain ⟨rfl, _⟩ := hx.loc_inv
          obtain ⟨w, rfl, hw⟩ := hxs.one_inv
          obtain ⟨a, ws, rfl, h4, h6⟩ := hw.kl_inv
          obtain ⟨vs, h1, h3⟩ := nw.rel.lst (getL_some e2)
          exact ⟨_, _, vs, ws, rfl, rfl, h3, by rw [hK]; exact h4.sq, by rw [← h1.length, ← h6.length, sizeLine_eq]; exact hlen, p.putL nw hl (getL_some e2) (h1.append h6) .non⟩
        · exact p.elim
      · exact p.elim
    · exact p.elim
  all_goals first | exact p.elim | simp_all
theorem mt_popL : MtR X "list.pop" (rMt P .pop) := by
  intro pins s σ H x xs v us Q I rx rs h
  obtain ⟨lo, θ, st, t, ts, nw, hx, hxs, p⟩ := h
  refine mt_pop pins s σ H x xs v us Q I rx rs ?_
  unfold mtT at p
  split at p
  · simp_all
  · simp_all
  · simp_all
  · next l e _ =>
    split at p
    · next hl =>
      split at p
      · next zs e2 =>
        split at p
        · next y e3 =>
          obtain ⟨rfl, _⟩ := hx.loc_inv
          cases hxs
          obtain ⟨vs, h1, h3⟩ := nw.rel.lst (getL_some e2)
          obtain ⟨w, h4, h5⟩ := h1.last e3
          exact ⟨_, vs, w, rfl, rfl, h3, h4, p.putL nw hl (getL_some e2) h1.dropLast h5⟩
        · exact p.elim
      · exact p.elim
    · exact p.elim
  all_goals first | exact p.elim | simp_all
theorem occ_one {s : List Nat} {c i : Nat} (h : s.findIdx? (· == c) = some i) (h2 : ¬ (s.drop (i + 1)).contains c = true) : ∃ rest, Builtin.Str.occurrences ⟨s.toArray⟩ ⟨#[c]⟩ 0 (Str.length ⟨s.toArray⟩) 1 = i :: rest := by
  obtain ⟨hi, hc, hb⟩ := List.findIdx?_eq_some_iff_getElem.mp h
  have hc' : s[i] = c := by simpa using hc
  have fo := PySem.StrLaws.found_one ⟨s.toArray⟩ c
  have mem : decide (c ∈ (⟨s.toArray⟩ : Str).cps.toList) = true := by
    rw [decide_eq_true_iff]
    show c ∈ s.toArray.toList
    simp only []
    exact hc' ▸ List.getElem_mem hi
  rw [mem] at fo
  cases e : Builtin.Str.occurrences ⟨s.toArray⟩ ⟨#[c]⟩ 0 (Str.length ⟨s.toArray⟩) 1 with
  | nil => rw [e] at fo; cases fo
  | cons j rest =>
    refine ⟨rest, ?_⟩
    obtain ⟨h3, h4⟩ := PySem.StrLaws.occ_spec ⟨s.toArray⟩ ⟨#[c]⟩ 0 (Str.length ⟨s.toArray⟩) 1 j (by rw [e]; exact List.mem_cons_self)
    have h3' : j + 1 ≤ s.length := by rw [str_len] at h3; exact h3
    have h5 : s[j]'(by omega) = c := by
      have h6 : s.toArray.extract j (j + 1) = #[c] := by simpa [Builtin.Str.subAt, Str.length] using h4
      have h7 := congrArg (fun a : Array Nat => a[0]?) h6
      simpa [show j < s.length by omega] using h7
    have : j = i := by
      rcases Nat.lt_trichotomy j i with h8 | h8 | h8
      · exact absurd h5 (by simpa using hb j h8)
      · exact h8
      · exfalso
        apply h2
        rw [List.contains_iff_mem, List.mem_iff_getElem]
        exact ⟨j - (i + 1), by rw [List.length_drop]; omega, by rw [List.getElem_drop, ← h5]; congr 1; omega⟩
    rw [this]
theorem mt_idxS : MtR X "str.index" (rMt P .index) := by
  intro pins s σ H x xs v us Q I rx rs h
  obtain ⟨lo, θ, st, t, ts, nw, hx, hxs, p⟩ := h
  refine mt_sindex pins s σ H x xs v us Q I rx rs ?_
  unfold mtT at p
  split at p
  · simp_all
  · simp_all
  · simp_all
  · simp_all
  · next z y e _ =>
    split at p
    · next c =>
      split at p
      · next i e2 =>
        split at p
        · exact p.elim
        · next hn =>
          obtain ⟨rfl, h1, h2⟩ := hx.str_inv
          obtain ⟨w, rfl, hw⟩ := hxs.one_inv
          obtain ⟨rfl, h3, h4⟩ := hw.str_inv
          obtain ⟨rest, h5⟩ := occ_one e2 hn
          exact ⟨_, _, i, rest, rfl, rfl, h5, p.here nw.rel (.int _)⟩
      · exact p.elim
    · exact p.elim
  all_goals first | exact p.elim | simp_all
end
end Ev

/-! Ev6: expressions: the evaluator's answer is the machine's. -/
namespace Ev
open PySem L2 PySem.Spec PyProof.Rows

/-- a default's value -/
def cV : T → V
  | .non => .non
  | .bl b => .bl b
  | .int i => .int i
  | .str s => .str ⟨s.toArray⟩
  | _ => .non
def constT : T → Bool
  | .non => true
  | .bl _ => true
  | .int _ => true
  | _ => false
/-- what a def promises: the evaluator's answer -/
def spE (P : Pm) (tb : List FDef) (m k : Nat) : Sp := fun vs H Q E => ∃ d, tb[k]? = some d ∧ vs.length = d.ps.length ∧ ∃ lo θ st ts, Now P lo θ st H ∧ VTs P θ st.length H ts vs ∧
  Post P (VT P) lo θ st H (evC tb m k lo ts st) (fun _ _ _ H' v => Q v H') E
/-- a def at its place -/
structure FnAt (P : Pm) (tb : List FDef) (m : Nat) (kw : List KwE) (X : Cx) (k : Nat) (d : FDef) : Prop where
  ex : ∃ fd, FnOk X.prog X.w X.K X.mg X.base (L2.CX X.prog X.w) m (P.fa k) fd d.ps (spE P tb m k) ∧ (∀ j, j ≤ d.dvs.length → ∃ ds, Vals ((d.dvs.map cV).drop j) ds ∧ Binds X.K fd d.ps ds) ∧
    ∀ q ∈ kw, q.k = k → ((∀ t ∈ q.dv, constT t = true) ∧ q.perm.length = d.ps.length) ∧ ∃ its, KBn X.K fd d.ps q.n q.ks (fun us ws => pick q.perm (us ++ ws ++ its)) (fun vs zs => pick q.perm (vs ++ zs ++ q.dv.map cV))
  kp : PySem.W.keepIn X.K (.ref (P.fa k)) = true
  cst : ∀ t ∈ d.dvs, constT t = true
structure Good (P : Pm) (tb : List FDef) (m : Nat) (c : CC) (W : WX) (X : Cx) : Prop where
  K : X.K = P.K
  N : X.N = c.N
  sc : X.env.scope = c.sc
  calm : X.calm = true
  nd : X.N.Nodup
  room : Room m X.A
  fns : ∀ x k, c.fns.lookup x = some k → X.mg x = some (.ref (P.fa k)) ∧ ∃ d, tb[k]? = some d
  fat : ∀ k d, tb[k]? = some d → FnAt P tb m c.kw X k d
  cs : ∀ x t, c.cs.lookup x = some t → ∃ u v, X.mg x = some u ∧ RelV v u ∧ ∀ θ n H, VT P θ n H t v
  bl : ∀ x, bltN.contains x = true → X.mg x = none
  takes : Takes X W
  own : PassesOwn (model X.prog X.w) X.A X.env X.xe

variable {P : Pm} {tb : List FDef} {m : Nat} {c : CC} {W : WX} {X : Cx}
/-- readings by the evaluator -/
def teE (P : Pm) (tb : List FDef) (m : Nat) (W : WX) (x : E) : TE := fun σ H Q => ∃ lo θ st env, Now P lo θ st H ∧ EnR P θ st.length H env σ ∧ Post P (VT P) lo θ st H (evE (evC tb m) lo env x st) (fun _ _ _ H' v => Q v H') (fun cls d H' => W cls d σ H')
def taE (P : Pm) (tb : List FDef) (m : Nat) (W : WX) (x : Es) : TA := fun σ H Q => ∃ lo θ st env, Now P lo θ st H ∧ EnR P θ st.length H env σ ∧ Post P (VTs P) lo θ st H (evEs (evC tb m) lo env x st) (fun _ _ _ H' v => Q v H') (fun cls d H' => W cls d σ H')
def EqR {α : Type} : (Nat → Addr) → Nat → Hp → α → α → Prop := fun _ _ _ a b => a = b
def toE (P : Pm) (tb : List FDef) (m : Nat) (W : WX) (x : OE) : TO := fun σ H Q => ∃ lo θ st env, Now P lo θ st H ∧ EnR P θ st.length H env σ ∧ Post P EqR lo θ st H (evO (evC tb m) lo env x st) (fun _ _ _ H' v => Q v H') (fun cls d H' => W cls d σ H')
def ttE (P : Pm) (tb : List FDef) (m : Nat) (W : WX) (x : E) : TT := fun σ H Q => ∃ lo θ st env, Now P lo θ st H ∧ EnR P θ st.length H env σ ∧ Post P EqR lo θ st H (evT (evC tb m) lo env x st) (fun _ _ _ H' v => Q v H') (fun cls d H' => W cls d σ H')
/-- what is walked, as the machine walks it -/
def WkR (P : Pm) (lo : Nat) (θ : Nat → Addr) (st : Sto) (H : Hp) (w : Wk) (J : L2.It) : Prop := ∀ θ1 st1 H1, Ext P lo θ st H θ1 st1 H1 → ∀ i,
  (w.at i st1 = some none → J.stop i H1) ∧ ∀ t, w.at i st1 = some (some t) → J.go i H1 ∧ ∀ x H2, J.yld i H1 x H2 → Ext P lo θ1 st1 H1 θ1 st1 H2 ∧ VT P θ1 st1.length H2 t x
def AnyR {α β : Type} : (Nat → Addr) → Nat → Hp → α → β → Prop := fun _ _ _ _ _ => True
def tiE (P : Pm) (tb : List FDef) (m : Nat) (W : WX) (x : I) : TI := fun σ H R => ∃ lo θ st env, Now P lo θ st H ∧ EnR P θ st.length H env σ ∧
  Post P (AnyR (β := L2.It)) lo θ st H (evI (evC tb m) lo env x st) (fun w st' θ' H' J => WkR P lo θ' st' H' w J → R J H') (fun cls d H' => W cls d σ H')
/-- what a translation of expressions is to be -/
def SE (P : Pm) (tb : List FDef) (m : Nat) (c : CC) (f : Expr → Option E) : Prop := ∀ e x, f e = some x → ∀ W X, Good P tb m c W X → PE X e (teE P tb m W x)

/-! ### syntax -/
theorem star_plain {e : Expr} (h : plainE e = true) (es : List Expr) (env : Env) : starEach (e :: es) env = (false, eval e env) :: starEach es env := by
  cases e <;> first | rfl | cases h
theorem behind_plain {e : Expr} (h : plainE e = true) (op : CmpOp) : behindInMarks op e = false := by
  cases e <;> first | rfl | cases h
theorem fold_plain {e : Expr} (h : plainE e = true) (env : Env) (x : Value) : foldedSetIterable e env x = pure x := by
  cases e <;> first | rfl | cases h
theorem ix_plain {e : Expr} (h : plainE e = true) (o i : Value) : subscripted e false o i = operate [o, i] (getItem o i) := by
  cases e <;> first | rfl | cases h
theorem compL_cons {f : Expr → Option E} {e : Expr} {es : List Expr} {x : Es} (h : compL f (e :: es) = some x) : plainE e = true ∧ ∃ a b, f e = some a ∧ compL f es = some b ∧ x = .cons a b := by
  unfold compL at h
  split at h
  · next hp =>
    split at h
    · next a b e1 e2 => cases h; exact ⟨hp, a, b, e1, e2, rfl⟩
    · cases h
  · cases h
theorem compL_any {f : Expr → Option E} (env : Env) (pos : Pos) : ∀ {es : List Expr} {x : Es}, compL f es = some x → (backTo pos (starEach es env)).any (·.1) = false
  | [], _, _ => rfl
  | e :: es, x, h => by
    obtain ⟨hp, a, b, h1, h2, h3⟩ := compL_cons h
    rw [star_plain hp]
    show (false || (backTo pos (starEach es env)).any (·.1)) = false
    rw [compL_any env pos h2]; rfl
theorem compL_all {f : Expr → Option E} (env : Env) (pos : Pos) : ∀ {es : List Expr} {x : Es}, compL f es = some x → (backTo pos (starEach es env)).all (fun x => !x.1) = true
  | [], _, _ => rfl
  | e :: es, x, h => by
    obtain ⟨hp, a, b, h1, h2, h3⟩ := compL_cons h
    rw [star_plain hp]
    show (true && (backTo pos (starEach es env)).all (fun x => !x.1)) = true
    rw [compL_all env pos h2]; rfl
theorem base_plain {e : Expr} {m : Str} (h : baseE m e = true) (env : Env) (whole : Sem Value) : attributeBase e m env whole = whole := by
  unfold attributeBase
  split
  · next id p1 pos =>
    have h' : (id != "super") = true := h
    simp [h']
  · rfl
theorem idx_ok {N : List Str} {x : Str} {i : Nat} (h : idxN N x = some i) : N[i]? = some x := by
  obtain ⟨hi, h1, _⟩ := List.findIdx?_eq_some_iff_getElem.mp h
  rw [List.getElem?_eq_getElem hi]
  simpa using h1
theorem okName_ok {x : Str} (h : okName x = true) : (x == ("__debug__" : Str)) = false ∧ (x == ("__classdict__" : Str)) = false ∧ x ≠ "__name__" := by
  unfold okName at h
  simp only [Bool.and_eq_true, Bool.not_eq_true'] at h
  exact ⟨h.1.1, h.1.2, by simpa using h.2⟩
theorem Good.vis (g : Good P tb m c W X) {x : Str} (h : isVis c.sc x = true) : Vis X.env.scope x := by
  unfold isVis at h
  rw [g.sc]
  split at h <;> first | exact .inl (by assumption) | exact .inr (.inl (by assumption)) | exact .inr (.inr (by assumption)) | cases h
theorem Good.glob (g : Good P tb m c W X) {x : Str} (h : isGlob c.sc x = true) : Gl X x := by
  unfold isGlob at h
  show X.env.scope.names.lookup x = _
  rw [g.sc]
  split at h
  · assumption
  · cases h
theorem Good.units (g : Good P tb m c W X) : X.A.units + 128 < cLine := by have := g.room.un; omega

/-! ### lists of expressions -/
theorem soundL {f : Expr → Option E} (hf : SE P tb m c f) (g : Good P tb m c W X) : ∀ {es : List Expr} {x : Es}, compL f es = some x → PA X es (taE P tb m W x)
  | [], x, h => by
    cases h
    refine ⟨fun pos pins s σ H Q I h => ?_⟩
    obtain ⟨lo, θ, st, env, nw, en, p⟩ := h
    exact pa_nil.run pos pins s σ H Q I (p.here nw.rel .nil)
  | e :: es, x, h => by
    obtain ⟨hp, a, b, h1, h2, rfl⟩ := compL_cons h
    refine ⟨fun pos pins s σ H Q I h => ?_⟩
    obtain ⟨lo, θ, st, env, nw, en, p⟩ := h
    refine (pa_cons (hf e a h1 W X g) (soundL hf g h2) (star_plain hp es X.env)).run pos pins s σ H Q I ?_
    refine ⟨lo, θ, st, env, nw, en, (Post.bind (VT P) p).mono fun t st1 θ1 H1 v _ x1 vt p1 => ?_⟩
    refine ⟨lo, θ1, st1, env, nw.later x1, x1.en nw.rel en, (Post.bind (VTs P) p1).mono fun ts st2 θ2 H2 vs _ x2 vts p2 => ?_⟩
    exact Post.here p2 x2.rel (.cons (x2.vt x1.rel vt) vts)
theorem soundO {f : Expr → Option E} (hf : SE P tb m c f) (g : Good P tb m c W X) {e : Option Expr} {x : OE} (h : compO f e = some x) : PO X e (toE P tb m W x) := by
  cases e with
  | none =>
    cases h
    refine ⟨fun pins s σ H Q I h => ?_⟩
    obtain ⟨lo, θ, st, env, nw, en, p⟩ := h
    exact po_none.run pins s σ H Q I (p.here nw.rel rfl)
  | some e =>
    obtain ⟨a, h1, rfl⟩ := Option.map_eq_some_iff.mp (show (f e).map OE.som = some x from h)
    refine ⟨fun pins s σ H Q I h => ?_⟩
    obtain ⟨lo, θ, st, env, nw, en, p⟩ := h
    refine (po_some (hf e a h1 W X g)).run pins s σ H Q I ?_
    refine ⟨lo, θ, st, env, nw, en, (Post.bind (VT P) p).mono fun t st1 θ1 H1 v _ x1 vt p1 => ?_⟩
    split at p1
    · cases vt.int_inv
      exact ⟨_, rfl, Post.here p1 x1.rel rfl⟩
    · exact p1.elim

/-! ### a call of a def of the table -/
theorem call0SD {CX : CXT} {k : Nat} {f : Addr} {fd : FuncData} {ps : List Str} {sp : Sp} {dvs : List V} {ds : List Value} {E : L2.St → XK} {x : Str} {p pos : Pos} (F : FnOk X.prog X.w X.K X.mg X.base CX k f fd ps sp) (hr : Room k X.A) (hg : Gl X x) (hm : X.mg x = some (.ref f))
    (hk : PySem.W.keepIn X.K (.ref f) = true) (hb : Binds X.K fd ps ds) (hd : Vals dvs ds) (hx : ∀ σ, PassesAt CX X σ (E σ)) (hdb : (x == ("__debug__" : Str)) = false) : PE X (.Call (.Name x p) [] [] pos) (tCallSD sp dvs E tNil) := by
  refine ⟨fun pins s σ H Q I h => ?_⟩
  refine wpAny_Call_Name_kw (ld_glob I hg hm ?_ hdb)
  exact PySem.W.callWith_K0 I.kIn hk (run_fnSD (us := []) F hr hb hd (hx σ) I .nil h)
theorem vts_const {θ : Nat → Addr} {n : Nat} {H : Hp} : ∀ {ts : List T}, (∀ t ∈ ts, constT t = true) → VTs P θ n H ts (ts.map cV)
  | [], _ => .nil
  | t :: ts, h => by
    refine .cons ?_ (vts_const fun u hu => h u (List.mem_cons_of_mem _ hu))
    have ht := h t List.mem_cons_self
    cases t <;> first | exact .non | exact .bl _ | exact .int _ | cases ht
/-- evC asks as much of the full arguments -/
theorem evC_full (tb : List FDef) (m k lo : Nat) (ts : List T) (st : Sto) (d : FDef) (hd : tb[k]? = some d) (hlen : (ts ++ d.dvs.drop (d.dvs.length + ts.length - d.ps.length)).length = d.ps.length) :
    evC tb m k lo (ts ++ d.dvs.drop (d.dvs.length + ts.length - d.ps.length)) st = evC tb m k lo ts st ∨ evC tb m k lo ts st = .no := by
  cases m with
  | zero => exact .inr rfl
  | succ m =>
    unfold evC
    rw [hd]
    simp only
    have e : d.dvs.drop (d.dvs.length + (ts ++ d.dvs.drop (d.dvs.length + ts.length - d.ps.length)).length - d.ps.length) = [] := by
      rw [hlen]; exact List.drop_eq_nil_of_le (by omega)
    rw [e, List.append_nil]
    by_cases hc : d.dvs.length + ts.length ≥ d.ps.length
    · left
      have hA : (ts ++ d.dvs.drop (d.dvs.length + ts.length - d.ps.length)).length = d.ps.length ∧ d.dvs.length + (ts ++ d.dvs.drop (d.dvs.length + ts.length - d.ps.length)).length ≥ d.ps.length := ⟨hlen, by rw [hlen]; omega⟩
      have hB : (ts ++ d.dvs.drop (d.dvs.length + ts.length - d.ps.length)).length = d.ps.length ∧ d.dvs.length + ts.length ≥ d.ps.length := ⟨hlen, hc⟩
      rw [if_pos hA, if_pos hB]
    · right
      rw [if_neg (by intro q; exact hc q.2)]
theorem evC_ok {tb : List FDef} {m k lo : Nat} {ts : List T} {st : Sto} (h : evC tb m k lo ts st ≠ .no) : ∃ d, tb[k]? = some d ∧ (ts ++ d.dvs.drop (d.dvs.length + ts.length - d.ps.length)).length = d.ps.length := by
  cases m with
  | zero => exact absurd rfl h
  | succ m =>
    unfold evC at h
    split at h
    · exact absurd rfl h
    · next d e =>
      split at h
      · next hc => exact ⟨d, e, hc.1⟩
      · exact absurd rfl h
theorem Post.no_ne {α β : Type} {R : (Nat → Addr) → Nat → Hp → α → β → Prop} {lo : Nat} {θ : Nat → Addr} {st : Sto} {H : Hp} {r : Rs α} {Q : α → Sto → (Nat → Addr) → Hp → β → Prop} {W : XK} (h : Post P R lo θ st H r Q W) : r ≠ .no := by
  intro e; subst e; exact h
/-- the arguments are known: the promise -/
theorem sp_of {lo : Nat} {θ : Nat → Addr} {st : Sto} {H : Hp} {k : Nat} {ts : List T} {vs : List V} {Q : VK} {E : XK} (nw : Now P lo θ st H) (hv : VTs P θ st.length H ts vs) (p : Post P (VT P) lo θ st H (evC tb m k lo ts st) (fun _ _ _ H' v => Q v H') E) (d : FDef) (hd : tb[k]? = some d)
    (hc : ∀ t ∈ d.dvs, constT t = true) : spE P tb m k (vs ++ (d.dvs.map cV).drop (d.dvs.length + ts.length - d.ps.length)) H Q E := by
  obtain ⟨d', hd', hl⟩ := evC_ok p.no_ne
  rw [hd] at hd'; cases hd'
  have hv2 : VTs P θ st.length H (ts ++ d.dvs.drop (d.dvs.length + ts.length - d.ps.length)) (vs ++ (d.dvs.map cV).drop (d.dvs.length + ts.length - d.ps.length)) := hv.append ((vts_const hc).drop _)
  refine ⟨d, hd, by rw [← hv2.length]; exact hl, lo, θ, st, _, nw, hv2, ?_⟩
  rcases evC_full tb m k lo ts st d hd hl with e | e
  · rw [e]; exact p
  · exact absurd e p.no_ne
end Ev

/-! Ev7: the induction over expressions. -/
namespace Ev
open PySem L2 PySem.Spec PyProof.Rows
variable {P : Pm} {tb : List FDef} {m : Nat} {c : CC} {W : WX} {X : Cx}


/-! ### each form -/
theorem s_var {x : Str} {i : Nat} {pos : Pos} (g : Good P tb m c W X) (hx : okName x = true) (hv : isVis c.sc x = true) (hi : idxN c.N x = some i) : PE X (PySem.Expr.Name x pos) (teE P tb m W (E.var i)) := by
  obtain ⟨h1, h2, _⟩ := okName_ok hx
  refine ⟨fun pins s σ H Q I h => ?_⟩
  obtain ⟨lo, θ, st, env, nw, en, p⟩ := h
  refine (pe_var (i := i) (by rw [g.N]; exact idx_ok hi) (g.vis hv) h1 h2).run pins s σ H Q I ?_
  cases e : env[i]? with
  | none =>
    have p : Post P (VT P) lo θ st H (match env[i]? with | some (some t) => .ok t st | _ => .no) (fun _ _ _ H' v => Q v H') (fun cls d H' => W cls d σ H') := p
    rw [e] at p; exact p.elim
  | some o =>
    have p : Post P (VT P) lo θ st H (match env[i]? with | some (some t) => .ok t st | _ => .no) (fun _ _ _ H' v => Q v H') (fun cls d H' => W cls d σ H') := p
    rw [e] at p
    cases o with
    | none => exact p.elim
    | some t =>
      obtain ⟨v, e1, vt⟩ := en.2 i t e
      exact ⟨v, e1, Post.here p nw.rel vt⟩
theorem s_cst {e : Expr} {t : T} {v : V} (hp : PE X e (tC v)) (hv : ∀ θ n H, VT P θ n H t v) : PE X e (teE P tb m W (.cst t)) := by
  refine ⟨fun pins s σ H Q I h => ?_⟩
  obtain ⟨lo, θ, st, env, nw, en, p⟩ := h
  exact hp.run pins s σ H Q I (p.here nw.rel (hv _ _ _))
theorem s_bin {f : Expr → Option E} (hf : SE P tb m c f) (g : Good P tb m c W X) {a b : Expr} {o : Operator} {op : B2} {x y : E} {pos : Pos} (ha : f a = some x) (hb : f b = some y) (ho : b2Of o = some op) :
    PE X (.BinOp a o b pos) (teE P tb m W (.bin op x y)) := by
  refine ⟨fun pins s σ H Q I h => ?_⟩
  obtain ⟨lo, θ, st, env, nw, en, p⟩ := h
  refine (pe_op (op_b2 g.K ho) (hf a x ha W X g) (hf b y hb W X g)).run pins s σ H Q I ?_
  refine ⟨lo, θ, st, env, nw, en, (Post.bind (VT P) p).mono fun t st1 θ1 H1 v _ x1 vt p1 => ?_⟩
  refine ⟨lo, θ1, st1, env, nw.later x1, x1.en nw.rel en, (Post.bind (VT P) p1).mono fun u st2 θ2 H2 w _ x2 wt p2 => ?_⟩
  refine ⟨lo, θ2, st2, t, u, (nw.later x1).later x2, x2.vt x1.rel vt, wt, ?_⟩
  -- an operator raises nothing
  generalize hr : op2 op t u st2 = r at p2
  cases r with
  | ok z st3 => exact p2
  | no => exact p2
  | ex k z st3 =>
    exfalso
    cases op <;> simp only [op2] at hr <;> (repeat' split at hr) <;> cases hr
theorem s_neg {f : Expr → Option E} (hf : SE P tb m c f) (g : Good P tb m c W X) {a : Expr} {x : E} {pos : Pos} (ha : f a = some x) : PE X (.UnaryOp .USub a pos) (teE P tb m W (.neg x)) := by
  refine ⟨fun pins s σ H Q I h => ?_⟩
  obtain ⟨lo, θ, st, env, nw, en, p⟩ := h
  refine (pe_un un_neg (hf a x ha W X g)).run pins s σ H Q I ?_
  refine ⟨lo, θ, st, env, nw, en, (Post.bind (VT P) p).mono fun t st1 θ1 H1 v _ x1 vt p1 => ?_⟩
  split at p1
  · cases vt.int_inv
    exact ⟨_, rfl, p1.here x1.rel (.int _)⟩
  · exact p1.elim
theorem s_not {f : Expr → Option E} (hf : SE P tb m c f) (g : Good P tb m c W X) {a : Expr} {x : E} {pos : Pos} (ha : f a = some x) : PE X (.UnaryOp .Not a pos) (teE P tb m W (.not_ x)) := by
  refine ⟨fun pins s σ H Q I h => ?_⟩
  obtain ⟨lo, θ, st, env, nw, en, p⟩ := h
  refine (pe_notT (hf a x ha W X g)).run pins s σ H Q I ?_
  refine ⟨lo, θ, st, env, nw, en, (Post.bind (VT P) p).mono fun t st1 θ1 H1 v _ x1 vt p1 => ?_⟩
  split at p1
  · next k e => exact ⟨k, g.K ▸ truth_ok x1.rel e vt, p1.here x1.rel (.bl _)⟩
  · exact p1.elim
theorem s_and {f : Expr → Option E} (hf : SE P tb m c f) (g : Good P tb m c W X) {a b : Expr} {rest : List Expr} {x y : E} {pos : Pos} (ha : f a = some x) (hb : f (.BoolOp .And (b :: rest) pos) = some y) :
    PE X (.BoolOp .And (a :: b :: rest) pos) (teE P tb m W (.and_ x y)) := by
  refine ⟨fun pins s σ H Q I h => ?_⟩
  obtain ⟨lo, θ, st, env, nw, en, p⟩ := h
  refine (pe_andT (hf a x ha W X g) (hf _ y hb W X g)).run pins s σ H Q I ?_
  refine ⟨lo, θ, st, env, nw, en, (Post.bind (VT P) p).mono fun t st1 θ1 H1 v _ x1 vt p1 => ?_⟩
  split at p1
  · next e => exact ⟨true, g.K ▸ truth_ok x1.rel e vt, iteT ⟨lo, θ1, st1, env, nw.later x1, x1.en nw.rel en, p1⟩⟩
  · next e => exact ⟨false, g.K ▸ truth_ok x1.rel e vt, iteF (p1.here x1.rel vt)⟩
  · exact p1.elim
theorem s_or {f : Expr → Option E} (hf : SE P tb m c f) (g : Good P tb m c W X) {a b : Expr} {rest : List Expr} {x y : E} {pos : Pos} (ha : f a = some x) (hb : f (.BoolOp .Or (b :: rest) pos) = some y) :
    PE X (.BoolOp .Or (a :: b :: rest) pos) (teE P tb m W (.or_ x y)) := by
  refine ⟨fun pins s σ H Q I h => ?_⟩
  obtain ⟨lo, θ, st, env, nw, en, p⟩ := h
  refine (pe_orT (hf a x ha W X g) (hf _ y hb W X g)).run pins s σ H Q I ?_
  refine ⟨lo, θ, st, env, nw, en, (Post.bind (VT P) p).mono fun t st1 θ1 H1 v _ x1 vt p1 => ?_⟩
  split at p1
  · next e => exact ⟨true, g.K ▸ truth_ok x1.rel e vt, iteT (p1.here x1.rel vt)⟩
  · next e => exact ⟨false, g.K ▸ truth_ok x1.rel e vt, iteF ⟨lo, θ1, st1, env, nw.later x1, x1.en nw.rel en, p1⟩⟩
  · exact p1.elim
/-- the reading of a comparison -/
theorem r_cmp {x y : E} {op : C2} {σ : L2.St} {H : Hp} {Q : VK} (h : teE P tb m W (.cmp op x y) σ H Q) : tOp (rC P op) (teE P tb m W x) (teE P tb m W y) σ H Q := by
  obtain ⟨lo, θ, st, env, nw, en, p⟩ := h
  refine ⟨lo, θ, st, env, nw, en, (Post.bind (VT P) p).mono fun t st1 θ1 H1 v _ x1 vt p1 => ?_⟩
  refine ⟨lo, θ1, st1, env, nw.later x1, x1.en nw.rel en, (Post.bind (VT P) p1).mono fun u st2 θ2 H2 w _ x2 wt p2 => ?_⟩
  split at p2
  · next k e => exact ⟨θ2, st2, t, u, k, x2.rel, x2.vt x1.rel vt, wt, e, p2.here x2.rel (.bl _)⟩
  · exact p2.elim
theorem s_cmp {f : Expr → Option E} (hf : SE P tb m c f) (g : Good P tb m c W X) {a b : Expr} {o : CmpOp} {x y : E} {pos : Pos} (ha : f a = some x) (hb : f b = some y) (hp : plainE b = true) :
    PE X (.Compare a [o] [b] pos) (teE P tb m W (.cmp (c2Of o) x y)) :=
  ⟨fun pins s σ H Q I h => (pe_cmpR (op_c2 g.K g.units o) (hf a x ha W X g) (hf b y hb W X g) (behind_plain hp o)).run pins s σ H Q I (r_cmp h)⟩
theorem r_chain {x y z : E} {op op' : C2} {σ : L2.St} {H : Hp} {Q : VK} (h : teE P tb m W (.chain op op' x y z) σ H Q) : tChain (rC P op) (rC P op') (teE P tb m W x) (teE P tb m W y) (teE P tb m W z) σ H Q := by
  obtain ⟨lo, θ, st, env, nw, en, p⟩ := h
  refine ⟨lo, θ, st, env, nw, en, (Post.bind (VT P) p).mono fun t st1 θ1 H1 v _ x1 vt p1 => ?_⟩
  refine ⟨lo, θ1, st1, env, nw.later x1, x1.en nw.rel en, (Post.bind (VT P) p1).mono fun u st2 θ2 H2 w _ x2 wt p2 => ?_⟩
  split at p2
  · next e =>
    refine ⟨θ2, st2, t, u, true, x2.rel, x2.vt x1.rel vt, wt, e, true, rfl, iteT ?_⟩
    refine ⟨lo, θ2, st2, env, (nw.later x1).later x2, x2.en x1.rel (x1.en nw.rel en), (Post.bind (VT P) p2).mono fun u' st3 θ3 H3 w' _ x3 wt' p3 => ?_⟩
    split at p3
    · next k e' => exact ⟨θ3, st3, u, u', k, x3.rel, x3.vt x2.rel wt, wt', e', p3.here x3.rel (.bl _)⟩
    · exact p3.elim
  · next e => exact ⟨θ2, st2, t, u, false, x2.rel, x2.vt x1.rel vt, wt, e, false, rfl, iteF (p2.here x2.rel (.bl _))⟩
  · exact p2.elim
theorem last2 {o o' : CmpOp} {b d : Expr} (hd : plainE d = true) : lastMarks [o, o'] [b, d] = false := by
  show behindInMarks o' d = false
  exact behind_plain hd o'
theorem s_chain {f : Expr → Option E} (hf : SE P tb m c f) (g : Good P tb m c W X) {a b d : Expr} {o o' : CmpOp} {x y z : E} {pos : Pos} (ha : f a = some x) (hb : f b = some y) (hd : f d = some z) (hp : plainE d = true) :
    PE X (.Compare a [o, o'] [b, d] pos) (teE P tb m W (.chain (c2Of o) (c2Of o') x y z)) :=
  ⟨fun pins s σ H Q I h => (pe_chain (op_c2 g.K g.units o) (op_c2 g.K g.units o') (hf a x ha W X g) (hf b y hb W X g) (hf d z hd W X g) (last2 hp)).run pins s σ H Q I (r_chain h)⟩
theorem s_tup {f : Expr → Option E} (hf : SE P tb m c f) (g : Good P tb m c W X) {es : List Expr} {x : Es} {k : Nat} {pos : Pos} (h : compL f es = some x) : PE X (.Tuple es k pos) (teE P tb m W (.tup x)) := by
  refine ⟨fun pins s σ H Q I h' => ?_⟩
  obtain ⟨lo, θ, st, env, nw, en, p⟩ := h'
  refine (pe_tup (soundL hf g h)).run pins s σ H Q I ?_
  refine ⟨lo, θ, st, env, nw, en, (Post.bind (VTs P) p).mono fun ts st1 θ1 H1 vs _ x1 vt p1 => ?_⟩
  split at p1
  · next hl => exact ⟨by rw [← vt.length, sizeLine_eq]; exact hl, fun q hq => p1.newT (nw.later x1) vt q hq⟩
  · exact p1.elim
theorem s_lst {f : Expr → Option E} (hf : SE P tb m c f) (g : Good P tb m c W X) {es : List Expr} {x : Es} {pos : Pos} (h : compL f es = some x) : PE X (.List es pos) (teE P tb m W (.lst x)) := by
  refine ⟨fun pins s σ H Q I h' => ?_⟩
  obtain ⟨lo, θ, st, env, nw, en, p⟩ := h'
  refine (pe_lst (soundL hf g h)).run pins s σ H Q I ?_
  refine ⟨lo, θ, st, env, nw, en, (Post.bind (VTs P) p).mono fun ts st1 θ1 H1 vs _ x1 vt p1 => ?_⟩
  split at p1
  · next hl => exact ⟨by rw [← vt.length, sizeLine_eq]; exact hl, fun q hq => p1.newL (nw.later x1) vt q hq⟩
  · exact p1.elim
theorem s_klst {f : Expr → Option E} (hf : SE P tb m c f) (g : Good P tb m c W X) {es : List Expr} {x : Es} {pos : Pos} (h : compL f es = some x) : PE X (.List es pos) (teE P tb m W (.klst x)) := by
  refine ⟨fun pins s σ H Q I h' => ?_⟩
  obtain ⟨lo, θ, st, env, nw, en, p⟩ := h'
  refine (pe_lst (soundL hf g h)).run pins s σ H Q I ?_
  refine ⟨lo, θ, st, env, nw, en, (Post.bind (VTs P) p).mono fun ts st1 θ1 H1 vs _ x1 vt p1 => ?_⟩
  split at p1
  · next hl => exact ⟨by rw [← vt.length, sizeLine_eq]; exact hl, fun q hq => p1.newK (nw.later x1) vt q hq⟩
  · exact p1.elim
theorem s_ix {f : Expr → Option E} (hf : SE P tb m c f) (g : Good P tb m c W X) {a b : Expr} {x y : E} {pos : Pos} (ha : f a = some x) (hb : f b = some y) (hp : plainE b = true) : PE X (.Subscript a b pos) (teE P tb m W (.ix x y)) := by
  refine ⟨fun pins s σ H Q I h => ?_⟩
  obtain ⟨lo, θ, st, env, nw, en, p⟩ := h
  refine (pe_ix (ix_any g.K) (hf a x ha W X g) (hf b y hb W X g) (ix_plain hp)).run pins s σ H Q I ?_
  refine ⟨lo, θ, st, env, nw, en, (Post.bind (VT P) p).mono fun t st1 θ1 H1 v _ x1 vt p1 => ?_⟩
  refine ⟨lo, θ1, st1, env, nw.later x1, x1.en nw.rel en, (Post.bind (VT P) p1).mono fun u st2 θ2 H2 w _ x2 wt p2 => ?_⟩
  cases e : ixT st2 t u with
  | none => rw [e] at p2; exact p2.elim
  | some z =>
    rw [e] at p2
    exact ⟨θ2, st2, t, u, z, x2.rel, x2.vt x1.rel vt, wt, e, fun v hv => p2.here x2.rel hv⟩
theorem s_sl {f : Expr → Option E} (hf : SE P tb m c f) (g : Good P tb m c W X) {a : Expr} {l h : Option Expr} {x : E} {y z : OE} {p1 pos : Pos} (ha : f a = some x) (hl : compO f l = some y) (hh : compO f h = some z) :
    PE X (.Subscript a (.Slice l h none p1) pos) (teE P tb m W (.sl x y z)) := by
  refine ⟨fun pins s σ H Q I h => ?_⟩
  obtain ⟨lo, θ, st, env, nw, en, p⟩ := h
  refine (pe_slice (sl_any g.K) (hf a x ha W X g) (soundO hf g hl) (soundO hf g hh)).run pins s σ H Q I ?_
  refine ⟨lo, θ, st, env, nw, en, (Post.bind (VT P) p).mono fun t st1 θ1 H1 v _ x1 vt p1 => ?_⟩
  refine ⟨lo, θ1, st1, env, nw.later x1, x1.en nw.rel en, (Post.bind EqR p1).mono fun u st2 θ2 H2 w _ x2 wt p2 => ?_⟩
  cases wt
  refine ⟨lo, θ2, st2, env, (nw.later x1).later x2, x2.en x1.rel (x1.en nw.rel en), (Post.bind EqR p2).mono fun u' st3 θ3 H3 w' _ x3 wt' p3 => ?_⟩
  cases wt'
  refine ⟨lo, θ3, st3, t, ((nw.later x1).later x2).later x3, x3.vt x2.rel (x2.vt x1.rel vt), ?_⟩
  generalize hr : slT st3 t u u' = r at p3
  cases r with
  | ok z st3 => exact p3
  | no => exact p3
  | ex k z st3 =>
    exfalso
    unfold slT at hr
    split at hr <;> first | cases hr | (split at hr <;> cases hr)
theorem s_rev {f : Expr → Option E} (hf : SE P tb m c f) (g : Good P tb m c W X) {a s : Expr} {x : E} {p1 pos : Pos} (ha : f a = some x) (hs : isNone1 s = true) : PE X (.Subscript a (.Slice none none (some s) p1) pos) (teE P tb m W (.rev x)) := by
  unfold isNone1 at hs
  split at hs
  · refine ⟨fun pins s σ H Q I h => ?_⟩
    obtain ⟨lo, θ, st, env, nw, en, p⟩ := h
    refine (pe_revL (hf a x ha W X g)).run pins s σ H Q I ?_
    refine ⟨lo, θ, st, env, nw, en, (Post.bind (VT P) p).mono fun t st1 θ1 H1 v _ x1 vt p1 => ?_⟩
    split at p1
    · split at p1
      · next xs e =>
        obtain ⟨rfl, _⟩ := vt.loc_inv
        obtain ⟨vs, h1, h2⟩ := x1.rel.lst (getL_some e)
        exact ⟨_, vs, rfl, .inl (.inl h2), fun q hq => p1.newL (nw.later x1) h1.reverse q hq⟩
      · exact p1.elim
    · obtain ⟨a, vs, rfl, h1, h2⟩ := vt.kl_inv
      exact ⟨_, vs, rfl, by rw [g.K]; exact h1.sq, fun q hq => p1.newK (nw.later x1) h2.reverse q hq⟩
    · exact p1.elim
  · cases hs
/-! ### calls -/
theorem s_call {f : Expr → Option E} (hf : SE P tb m c f) (g : Good P tb m c W X) {x : Str} {k : Nat} {args : List Expr} {xs : Es} {p0 pos : Pos} (hx : okName x = true) (hg : isGlob c.sc x = true) (hk : c.fns.lookup x = some k) (h : compL f args = some xs) :
    PE X (.Call (.Name x p0) args [] pos) (teE P tb m W (.call k xs)) := by
  obtain ⟨hdb, _, _⟩ := okName_ok hx
  refine ⟨fun pins s σ H Q I h' => ?_⟩
  obtain ⟨lo, θ, st, env, nw, en, p⟩ := h'
  have p1 := Post.bind (VTs P) p
  obtain ⟨hmg, d0, hd0⟩ := g.fns x k hk
  have p' : Post P (VT P) lo θ st H ((evEs (evC tb m) lo env xs st).bind fun ts st => evC tb m k lo ts st) (fun _ _ _ H' v => Q v H') (fun cls d H' => W cls d σ H') := p
  cases hr : evEs (evC tb m) lo env xs st with
  | no => rw [hr] at p1; exact p1.elim
  | ex kk v st' =>
    -- an argument raises: the reading never comes to the call
    cases args with
    | nil => cases h; cases hr
    | cons a as =>
      obtain ⟨hp, _⟩ := compL_cons h
      refine wpAny_Call_Name_kw (ld_glob I (g.glob hg) hmg ?_ hdb)
      have fa := g.fat k d0 hd0
      refine PySem.W.callWith_K (h₀ := X.base) I.ok.mod.kin fa.kp (thn ((soundL hf g h).run pos pins s σ H (fun _ _ => False) I ⟨lo, θ, st, env, nw, en, ?_⟩) fun us s1 ⟨vs, H1, I1, r, q⟩ => q.elim) (star_plain hp as X.env) (by
        have := compL_any X.env pos h
        rw [star_plain hp] at this
        exact this)
      rw [hr] at p1 ⊢
      exact p1
  | ok ts st' =>
    rw [hr] at p1
    have hne : evC tb m k lo ts st' ≠ .no := by
      rw [hr] at p'
      exact Post.no_ne (show Post P (VT P) lo θ st H (evC tb m k lo ts st') _ _ from p')
    obtain ⟨d, hd, hl⟩ := evC_ok hne
    have fa := g.fat k d hd
    obtain ⟨fd, ok, bd, _⟩ := fa.ex
    have hj : d.dvs.length + ts.length - d.ps.length ≤ d.dvs.length := by
      rw [List.length_append, List.length_drop] at hl; omega
    obtain ⟨ds, rel, bd⟩ := bd _ hj
    have rd : tCallSD (spE P tb m k) ((d.dvs.map cV).drop (d.dvs.length + ts.length - d.ps.length)) (WE W) (taE P tb m W xs) σ H Q := by
      refine ⟨lo, θ, st, env, nw, en, ?_⟩
      rw [hr]
      refine Post.mono p1 fun ts' st1 θ1 H1 vs e x1 vt p2 => ?_
      cases e
      exact sp_of (nw.later x1) vt p2 d hd fa.cst
    cases args with
    | nil =>
      cases h
      refine (call0SD ok g.room (g.glob hg) hmg fa.kp bd rel (passAt g.takes) hdb).run pins s σ H Q I ?_
      cases hr
      have := Post.here p1 nw.rel .nil
      exact sp_of nw .nil this d hd fa.cst
    | cons a as =>
      obtain ⟨hp, _⟩ := compL_cons h
      exact (pe_callSD ok g.room (g.glob hg) hmg fa.kp bd rel (passAt g.takes) (soundL hf g h) hdb (star_plain hp as X.env) (by
        have := compL_any X.env pos h
        rw [star_plain hp] at this
        exact this)).run pins s σ H Q I rd

theorem soundK {f : Expr → Option E} (hf : SE P tb m c f) (g : Good P tb m c W X) : ∀ {ks : List Keyword} {x : Es}, compK f ks = some x → PK X ks (taE P tb m W x) ∧ (∀ pos, (backToKw pos (keywordEach ks X.env)).all (·.1.isSome) = true) ∧
    (∀ pos, (backToKw pos (keywordEach ks X.env)).filterMap (·.1) = ks.filterMap (·.arg)) ∧ ∀ pos, (backToKw pos (keywordEach ks X.env)).any (·.1.isNone) = false
  | [], x, h => by
    cases h
    refine ⟨⟨fun pos pins s σ H Q I h => ?_⟩, fun _ => rfl, fun _ => rfl, fun _ => rfl⟩
    obtain ⟨lo, θ, st, env, nw, en, p⟩ := h
    exact pk_nil.run pos pins s σ H Q I (p.here nw.rel .nil)
  | ⟨nm, e, kp⟩ :: ks, x, h => by
    unfold compK at h
    split at h
    · next hn =>
      split at h
      · next a b h1 h2 =>
        cases h
        obtain ⟨k1, k2, k3, k4⟩ := soundK hf g h2
        obtain ⟨nm, rfl⟩ := Option.isSome_iff_exists.mp hn
        refine ⟨⟨fun pos pins s σ H Q I h => ?_⟩, fun pos => k2 pos, fun pos => congrArg (nm :: ·) (k3 pos), fun pos => k4 pos⟩
        obtain ⟨lo, θ, st, env, nw, en, p⟩ := h
        refine (pk_cons (hf e a h1 W X g) k1).run pos pins s σ H Q I ?_
        refine ⟨lo, θ, st, env, nw, en, (Post.bind (VT P) p).mono fun t st1 θ1 H1 v _ x1 vt p1 => ?_⟩
        refine ⟨lo, θ1, st1, env, nw.later x1, x1.en nw.rel en, (Post.bind (VTs P) p1).mono fun ts st2 θ2 H2 vs _ x2 vts p2 => ?_⟩
        exact Post.here p2 x2.rel (.cons (x2.vt x1.rel vt) vts)
      · cases h
    · cases h
theorem VTs.pick {θ : Nat → Addr} {n : Nat} {H : Hp} {ts : List T} {vs : List V} (h : VTs P θ n H ts vs) : ∀ perm : List Nat, VTs P θ n H (pick perm ts) (pick perm vs)
  | [] => .nil
  | i :: perm => by
    have ih := VTs.pick h perm
    unfold Ev.pick at ih ⊢
    rw [List.filterMap_cons, List.filterMap_cons]
    cases e : ts[i]? with
    | none =>
      have e2 : vs[i]? = none := by
        rw [List.getElem?_eq_none_iff] at e ⊢
        rw [← h.length]; exact e
      rw [e2]; exact ih
    | some t =>
      obtain ⟨v, e2, hv⟩ := h.get e
      rw [e2]; exact .cons hv ih
theorem pick_len {α : Type} {ts : List α} : ∀ {perm : List Nat}, (perm.all fun i => Nat.blt i ts.length) = true → (pick perm ts).length = perm.length
  | [], _ => rfl
  | i :: perm, h => by
    rw [List.all_cons, Bool.and_eq_true] at h
    have ih := pick_len (ts := ts) h.2
    unfold pick at ih ⊢
    have hi : i < ts.length := Nat.le_of_ble_eq_true h.1
    rw [List.filterMap_cons, List.getElem?_eq_getElem hi]
    exact congrArg Nat.succ ih
/-- a call that lets nothing out -/
theorem only_ok {R : (Nat → Addr) → Nat → Hp → T → V → Prop} {lo : Nat} {θ : Nat → Addr} {st : Sto} {H : Hp} {r : Rs T} {Q : T → Sto → (Nat → Addr) → Hp → V → Prop} {W : XK}
    (p : Post P R lo θ st H (match r with | .ok t st => .ok t st | _ => .no) Q W) : Post P R lo θ st H r Q E0 := by
  cases r with
  | ok t st => exact p
  | ex k t st => exact p.elim
  | no => exact p.elim
theorem s_callk {f : Expr → Option E} (hf : SE P tb m c f) (g : Good P tb m c W X) {x : Str} {k : Nat} {e : Expr} {es : List Expr} {kws : List Keyword} {a ks : Es} {q : KwE} {p0 pos : Pos} (hx : okName x = true) (hg : isGlob c.sc x = true) (hk : c.fns.lookup x = some k)
    (h : compL f (e :: es) = some a) (hkw : compK f kws = some ks) (hq : q ∈ c.kw) (hqk : q.k = k) (hqn : q.n = (e :: es).length) (hqs : q.ks = kws.filterMap (·.arg)) :
    PE X (.Call (.Name x p0) (e :: es) kws pos) (teE P tb m W (.callk k a ks q.perm q.dv)) := by
  obtain ⟨hdb, _, _⟩ := okName_ok hx
  obtain ⟨hmg, d, hd⟩ := g.fns x k hk
  have fa := g.fat k d hd
  obtain ⟨fd, ok, _, kb⟩ := fa.ex
  obtain ⟨⟨kc, hpl⟩, its, kb⟩ := kb q hq hqk
  obtain ⟨k1, k2, k3, k4⟩ := soundK hf g hkw
  obtain ⟨hp, _⟩ := compL_cons h
  refine ⟨fun pins s σ H Q I h' => ?_⟩
  obtain ⟨lo, θ, st, env, nw, en, p⟩ := h'
  refine (pe_callN ok g.room (g.glob hg) hmg fa.kp kb passL (soundL hf g h) k1 (k2 pos) ((k3 pos).trans hqs.symm) hdb (star_plain hp es X.env) (by rw [compL_any X.env pos h, k4 pos]; rfl)).run pins s σ H Q I ?_
  have la : ∀ {es : List Expr} {x : Es}, compL f es = some x → ∀ {env : En} {st st' : Sto} {ts : List T}, evEs (evC tb m) lo env x st = .ok ts st' → ts.length = es.length := by
    intro es
    induction es with
    | nil =>
      intro x h env st st' ts hh
      cases h; cases hh; rfl
    | cons e es ih =>
      intro x h env st st' ts hh
      obtain ⟨_, a, b, h1, h2, rfl⟩ := compL_cons h
      have hh : ((evE (evC tb m) lo env a st).bind fun t st => (evEs (evC tb m) lo env b st).bind fun ts st => .ok (t :: ts) st) = .ok ts st' := hh
      cases e1 : evE (evC tb m) lo env a st with
      | ok t st1 =>
        rw [e1] at hh
        have hh : ((evEs (evC tb m) lo env b st1).bind fun ts st => .ok (t :: ts) st) = .ok ts st' := hh
        cases e2 : evEs (evC tb m) lo env b st1 with
        | ok us st2 =>
          rw [e2] at hh
          cases hh
          exact congrArg Nat.succ (ih h2 e2)
        | ex _ _ _ => rw [e2] at hh; cases hh
        | no => rw [e2] at hh; cases hh
      | ex _ _ _ => rw [e1] at hh; cases hh
      | no => rw [e1] at hh; cases hh
  have lk : ∀ {es : List Keyword} {x : Es}, compK f es = some x → ∀ {env : En} {st st' : Sto} {ts : List T}, evEs (evC tb m) lo env x st = .ok ts st' → ts.length = (es.filterMap (·.arg)).length := by
    intro es
    induction es with
    | nil =>
      intro x h env st st' ts hh
      cases h; cases hh; rfl
    | cons e es ih =>
      intro x h env st st' ts hh
      obtain ⟨nm, e, kp⟩ := e
      unfold compK at h
      split at h
      · next hn =>
        split at h
        · next a b h1 h2 =>
          cases h
          obtain ⟨nm, rfl⟩ := Option.isSome_iff_exists.mp hn
          have hh : ((evE (evC tb m) lo env a st).bind fun t st => (evEs (evC tb m) lo env b st).bind fun ts st => .ok (t :: ts) st) = .ok ts st' := hh
          cases e1 : evE (evC tb m) lo env a st with
          | ok t st1 =>
            rw [e1] at hh
            have hh : ((evEs (evC tb m) lo env b st1).bind fun ts st => .ok (t :: ts) st) = .ok ts st' := hh
            cases e2 : evEs (evC tb m) lo env b st1 with
            | ok us st2 =>
              rw [e2] at hh
              cases hh
              exact congrArg Nat.succ (ih h2 e2)
            | ex _ _ _ => rw [e2] at hh; cases hh
            | no => rw [e2] at hh; cases hh
          | ex _ _ _ => rw [e1] at hh; cases hh
          | no => rw [e1] at hh; cases hh
        · cases h
      · cases h
  refine ⟨lo, θ, st, env, nw, en, (Post.bind (VTs P) p).mono fun ts st1 θ1 H1 vs e1 x1 vt p1 => ?_⟩
  refine ⟨lo, θ1, st1, env, nw.later x1, x1.en nw.rel en, (Post.bind (VTs P) p1).mono fun us st2 θ2 H2 ws e2 x2 wt p2 => ?_⟩
  refine ⟨by rw [← vt.length, hqn]; exact la h e1, by rw [← wt.length, hqs]; exact lk hkw e2, ?_⟩
  have nw2 := (nw.later x1).later x2
  have all := ((x2.vts x1.rel vt).append wt).append (vts_const (P := P) (θ := θ2) (n := st2.length) (H := H2) kc)
  unfold permT at p2
  split at p2
  · next pv e3 =>
    split at e3
    · cases e3
      have sv := all.pick q.perm
      have p3 := only_ok p2
      have hne : evC tb m k lo (pick q.perm (ts ++ us ++ q.dv)) st2 ≠ .no := p3.no_ne
      obtain ⟨d', hd', hl⟩ := evC_ok hne
      rw [hd] at hd'; cases hd'
      rename_i hall
      exact ⟨d, hd, by rw [← sv.length, pick_len hall]; exact hpl, lo, θ2, st2, _, nw2, sv, p3⟩
    · cases e3
  · exact p2.elim
end Ev

/-! Ev8: built-in calls, methods, tests, what is walked, comprehensions; the induction. -/
namespace Ev
open PySem L2 PySem.Spec PyProof.Rows
variable {P : Pm} {tb : List FDef} {m : Nat} {c : CC} {W : WX} {X : Cx}

/-- an answer that is no exception asks nothing of the wish -/
theorem Post.dropW {α β : Type} {R : (Nat → Addr) → Nat → Hp → α → β → Prop} {lo : Nat} {θ : Nat → Addr} {st : Sto} {H : Hp} {r : Rs α} {Q : α → Sto → (Nat → Addr) → Hp → β → Prop} {W W' : XK} (p : Post P R lo θ st H r Q W) (h : ∀ k t st', r ≠ .ex k t st') : Post P R lo θ st H r Q W' := by
  cases r with
  | ok a st' => exact p
  | ex k t st' => exact absurd rfl (h k t st')
  | no => exact p
theorem biT_noex (b : Bi) (ts : List T) (st : Sto) (k : Nat) (t : T) (st' : Sto) : biT b ts st ≠ .ex k t st' := by
  intro h
  unfold biT at h
  repeat' split at h
  all_goals first | cases h | skip
theorem mtT_noex (lo : Nat) (b : Mt) (x : T) (ts : List T) (st : Sto) (k : Nat) (t : T) (st' : Sto) : mtT lo b x ts st ≠ .ex k t st' := by
  intro h
  unfold mtT at h
  repeat' split at h
  all_goals first | cases h | skip
/-- the reading of a built-in's call -/
theorem r_bi {b : Bi} {xs : Es} {σ : L2.St} {H : Hp} {Q : VK} (h : teE P tb m W (.bi b xs) σ H Q) : tCB (rBi P b) (taE P tb m W xs) σ H Q := by
  obtain ⟨lo, θ, st, env, nw, en, p⟩ := h
  refine ⟨lo, θ, st, env, nw, en, (Post.bind (VTs P) p).mono fun ts st1 θ1 H1 vs _ x1 vt p1 => ?_⟩
  exact ⟨lo, θ1, st1, ts, nw.later x1, vt, Post.dropW p1 (biT_noex _ _ _)⟩
theorem s_biB {f : Expr → Option E} (hf : SE P tb m c f) (g : Good P tb m c W X) {x : Str} {id : String} {b : Bi} {a : Expr} {as : List Expr} {xs : Es} {p0 pos : Pos} (hr : CallR X (.builtin id) (rBi P b)) (hx : okName x = true) (hg : isGlob c.sc x = true) (hb : bltN.contains x = true)
    (hv : bootBuiltins x = some (.builtin id)) (h : compL f (a :: as) = some xs) : PE X (.Call (.Name x p0) (a :: as) [] pos) (teE P tb m W (.bi b xs)) := by
  obtain ⟨hdb, _, hnm⟩ := okName_ok hx
  obtain ⟨hp, _⟩ := compL_cons h
  exact ⟨fun pins s σ H Q I h' => (pe_callB hr (g.glob hg) (g.bl x hb) hv (soundL hf g h) hnm hdb (star_plain hp as X.env) (by
    have := compL_any X.env pos h
    rw [star_plain hp] at this
    exact this)).run pins s σ H Q I (r_bi h')⟩
theorem s_biT {f : Expr → Option E} (hf : SE P tb m c f) (g : Good P tb m c W X) {x : Str} {id : String} {b : Bi} {a : Expr} {as : List Expr} {xs : Es} {p0 pos : Pos} (hr : CallR X (.type id) (rBi P b)) (hx : okName x = true) (hg : isGlob c.sc x = true) (hb : bltN.contains x = true)
    (hv : bootBuiltins x = some (.type id)) (h : compL f (a :: as) = some xs) : PE X (.Call (.Name x p0) (a :: as) [] pos) (teE P tb m W (.bi b xs)) := by
  obtain ⟨hdb, _, hnm⟩ := okName_ok hx
  obtain ⟨hp, _⟩ := compL_cons h
  exact ⟨fun pins s σ H Q I h' => (pe_callTy hr (g.glob hg) (g.bl x hb) hv (soundL hf g h) hnm hdb (star_plain hp as X.env) (by
    have := compL_any X.env pos h
    rw [star_plain hp] at this
    exact this)).run pins s σ H Q I (r_bi h')⟩
theorem cn_len : bltN.contains ("len" : Str) = true := by decide +kernel
theorem cn_abs : bltN.contains ("abs" : Str) = true := by decide +kernel
theorem cn_int : bltN.contains ("int" : Str) = true := by decide +kernel
theorem cn_str : bltN.contains ("str" : Str) = true := by decide +kernel
theorem cn_max : bltN.contains ("max" : Str) = true := by decide +kernel
theorem cn_min : bltN.contains ("min" : Str) = true := by decide +kernel
theorem cn_sum : bltN.contains ("sum" : Str) = true := by decide +kernel
theorem cn_sorted : bltN.contains ("sorted" : Str) = true := by decide +kernel
theorem cn_all : bltN.contains ("all" : Str) = true := by decide +kernel
theorem cn_any : bltN.contains ("any" : Str) = true := by decide +kernel
theorem cn_tuple : bltN.contains ("tuple" : Str) = true := by decide +kernel
theorem cn_list : bltN.contains ("list" : Str) = true := by decide +kernel
theorem cn_isi : bltN.contains ("isinstance" : Str) = true := by decide +kernel
theorem cn_range : bltN.contains ("range" : Str) = true := by decide +kernel
theorem cn_enum : bltN.contains ("enumerate" : Str) = true := by decide +kernel
theorem cn_zip : bltN.contains ("zip" : Str) = true := by decide +kernel
theorem cn_bool : bltN.contains ("bool" : Str) = true := by decide +kernel
theorem cn_dict : bltN.contains ("dict" : Str) = true := by decide +kernel
theorem biOf_nm {x : Str} {b : Bi} (h : biOf x = some b) : x = biNm b :=
  (show ∀ p ∈ bis, p.1 = biNm p.2 by decide +kernel) (x, b) (PySem.mem_of_lookup h)
theorem mtOf_nm {x : Str} {b : Mt} (h : mtOf x = some b) : x = mtNm b :=
  (show ∀ p ∈ mts, p.1 = mtNm p.2 by decide +kernel) (x, b) (PySem.mem_of_lookup h)
theorem tyOf_nm {x : Str} {b : TyK} (h : tyOf x = some b) : x = tyNmS b :=
  (show ∀ p ∈ tys, p.1 = tyNmS p.2 by decide +kernel) (x, b) (PySem.mem_of_lookup h)
/-- no rule yet: the evaluator has no answer -/
theorem no_rule {u : Value} {b : Bi} (hn : ∀ ts st, biT b ts st = .no) : CallR X u (rBi P b) := by
  intro pins s σ H xs us Q I r h
  obtain ⟨lo, θ, st, ts, nw, hx, p⟩ := h
  rw [hn] at p
  exact p.elim
theorem s_bi0 {f : Expr → Option E} (hf : SE P tb m c f) (g : Good P tb m c W X) {x : Str} {b : Bi} {a : Expr} {as : List Expr} {xs : Es} {p0 pos : Pos} (hx : okName x = true) (hg : isGlob c.sc x = true) (hb : biOf x = some b) (h : compL f (a :: as) = some xs) :
    PE X (.Call (.Name x p0) (a :: as) [] pos) (teE P tb m W (.bi b xs)) := by
  have e := biOf_nm hb
  subst e
  cases b with
  | len => exact s_biB hf g (bi_len g.K) hx hg cn_len boot_len h
  | abs => exact s_biB hf g bi_abs hx hg cn_abs boot_abs h
  | int => exact s_biT hf g bi_int hx hg cn_int boot_int h
  | str => exact s_biT hf g (no_rule fun ts st => by cases ts <;> rfl) hx hg cn_str boot_str h
  | max => exact s_biB hf g (bi_max g.calm) hx hg cn_max boot_max h
  | min => exact s_biB hf g (bi_min g.calm) hx hg cn_min boot_min h
  | sum => exact s_biB hf g (no_rule fun ts st => by cases ts <;> rfl) hx hg cn_sum boot_sum h
  | sorted => exact s_biB hf g (no_rule fun ts st => by cases ts <;> rfl) hx hg cn_sorted boot_sorted h
  | all => exact s_biB hf g (no_rule fun ts st => by cases ts <;> rfl) hx hg cn_all boot_all h
  | any => exact s_biB hf g (no_rule fun ts st => by cases ts <;> rfl) hx hg cn_any boot_any h
  | tuple => exact s_biT hf g (bi_tuple g.K) hx hg cn_tuple boot_tuple h
  | list => exact s_biT hf g (bi_list g.K) hx hg cn_list boot_list h
  | listK => exact s_biT hf g (bi_listK g.K) hx hg cn_list boot_list h
theorem s_bi {f : Expr → Option E} (hf : SE P tb m c f) (g : Good P tb m c W X) {x : Str} {b : Bi} {a : Expr} {as : List Expr} {xs : Es} {p0 pos : Pos} (mu : Bool) (hx : okName x = true) (hg : isGlob c.sc x = true) (hb : biOf x = some b) (h : compL f (a :: as) = some xs) :
    PE X (.Call (.Name x p0) (a :: as) [] pos) (teE P tb m W (.bi (biK mu b) xs)) := by
  cases mu with
  | true => exact s_bi0 hf g hx hg hb h
  | false =>
    cases b with
    | list =>
      have e := biOf_nm hb
      subst e
      exact s_biT hf g (bi_listK g.K) hx hg cn_list boot_list h
    | _ => exact s_bi0 hf g hx hg hb h
/-! ### isinstance -/
theorem boot_ty (k : TyK) : bootBuiltins (tyNmS k) = some (.type (tyNm k)) := by
  cases k
  · exact boot_int
  · exact boot_bool
  · exact boot_str
  · exact boot_tuple
  · exact boot_list
  · exact boot_dict
theorem ty_names (k : TyK) : bltN.contains (tyNmS k) = true ∧ tyNmS k ≠ "__name__" ∧ (tyNmS k == ("__debug__" : Str)) = false := by
  cases k
  · exact ⟨cn_int, by decide, by decide⟩
  · exact ⟨cn_bool, by decide, by decide⟩
  · exact ⟨cn_str, by decide, by decide⟩
  · exact ⟨cn_tuple, by decide, by decide⟩
  · exact ⟨cn_list, by decide, by decide⟩
  · exact ⟨cn_dict, by decide, by decide⟩
theorem s_isi {f : Expr → Option E} (hf : SE P tb m c f) (g : Good P tb m c W X) {a : Expr} {ty : Str} {k : TyK} {x : E} {p0 p1 pos : Pos} (hg : isGlob c.sc "isinstance" = true) (ha : f a = some x) (hp : plainE a = true) (hgt : isGlob c.sc ty = true) (ht : tyOf ty = some k) :
    PE X (.Call (.Name "isinstance" p0) [a, .Name ty p1] [] pos) (teE P tb m W (.isi k x)) := by
  refine ⟨fun pins s σ H Q I h => ?_⟩
  obtain ⟨lo, θ, st, env, nw, en, p⟩ := h
  have e := tyOf_nm ht
  obtain ⟨hn1, hn2, hn3⟩ := ty_names k
  have hty : PE X (.Name ty p1) (tC (.ty (tyNm k))) := by
    subst e
    exact pe_bltn (g.glob hgt) (g.bl _ hn1) (boot_ty k) rfl hn2 hn3
  refine (pe_callB call_isi (g.glob hg) (g.bl _ cn_isi) boot_isinstance (pa_cons (hf a x ha W X g) (pa_cons hty pa_nil) (star_plain hp _ _)) (by decide) (by decide) (star_plain hp _ _)).run pins s σ H Q I ?_
  refine ⟨lo, θ, st, env, nw, en, (Post.bind (VT P) p).mono fun t st1 θ1 H1 v _ x1 vt p1 => ?_⟩
  split at p1
  · next b e =>
    obtain ⟨ty, h1, h2⟩ := isiT_ok x1.rel e vt
    exact ⟨v, _, _, _, b, rfl, .ty _, g.K ▸ h1, kit_ty h2, p1.here x1.rel (.bl _)⟩
  · exact p1.elim
/-! ### methods -/
theorem recv_list {θ : Nat → Addr} {st : Sto} {H : Hp} {mt : Mt} {t : T} {x : V} (hm : mt ≠ .index) (r : Rel P θ st H) (hx : VT P θ st.length H t x) (h : okRecv mt st t = true) : tyV P.K "list" x H := by
  unfold okRecv at h
  split at h
  · exact absurd rfl hm
  · exact absurd rfl hm
  · next l _ =>
    obtain ⟨rfl, hl⟩ := hx.loc_inv
    obtain ⟨vs, hr⟩ := r.isl hl
    exact .inl ⟨rfl, vs, .inl (.inl hr)⟩
  · cases h
theorem recv_str {θ : Nat → Addr} {st : Sto} {H : Hp} {t : T} {x : V} (hx : VT P θ st.length H t x) (h : okRecv .index st t = true) : tyV P.K "str" x H := by
  unfold okRecv at h
  split at h
  · obtain ⟨rfl, _⟩ := hx.str_inv
    rfl
  · cases h
  · simp_all
  · cases h
theorem s_mtG {f : Expr → Option E} (hf : SE P tb m c f) (g : Good P tb m c W X) {o : Expr} {T id : String} {mt : Mt} {args : List Expr} {x : E} {xs : Es} {apos cpos : Pos} (pa : PlainAttrs T) (slot : Slot T (mtNm mt) id) (hty : typeOf (.builtin id) = pure (.type "method_descriptor")) (hm : MtR X id (rMt P mt))
    (hT : ∀ {θ : Nat → Addr} {st : Sto} {H : Hp} {t : Ev.T} {v : V}, Rel P θ st H → VT P θ st.length H t v → okRecv mt st t = true → tyV P.K T v H) (hb : baseE (mtNm mt) o = true) (hl : (apos.endLine == cpos.line) = true) (hn : Nat.blt args.length 10 = true) (ho : f o = some x) (h : compL f args = some xs) :
    PE X (.Call (.Attribute o (mtNm mt) apos) args [] cpos) (teE P tb m W (.mt mt x xs)) := by
  refine ⟨fun pins s σ H Q I h' => ?_⟩
  have rd : tBM X.K T (rMt P mt) (teE P tb m W x) (taE P tb m W xs) σ H Q := by
    obtain ⟨lo, θ, st, env, nw, en, p⟩ := h'
    refine ⟨lo, θ, st, env, nw, en, (Post.bind (VT P) p).mono fun t st1 θ1 H1 v _ x1 vt p1 => ?_⟩
    split at p1
    · next e =>
      refine ⟨g.K ▸ hT x1.rel vt e, lo, θ1, st1, env, nw.later x1, x1.en nw.rel en, (Post.bind (VTs P) p1).mono fun ts st2 θ2 H2 vs _ x2 vts p2 => ?_⟩
      exact ⟨lo, θ2, st2, t, ts, (nw.later x1).later x2, x2.vt x1.rel vt, vts, Post.dropW p2 (mtT_noex _ _ _ _ _)⟩
    · exact p1.elim
  cases args with
  | nil =>
    cases h
    refine (pe_bm0 pa slot hty hm (hf o x ho W X g) (base_plain hb _ _) hl).run pins s σ H Q I ?_
    obtain ⟨lo, θ, st, env, nw, en, p⟩ := rd
    refine ⟨lo, θ, st, env, nw, en, p.mono fun t st1 θ1 H1 v _ x1 vt hh => ?_⟩
    obtain ⟨h1, lo', θ', st', env', nw', en', p'⟩ := hh
    exact ⟨h1, Post.here p' nw'.rel .nil⟩
  | cons a as =>
    obtain ⟨hp, _⟩ := compL_cons h
    refine (pe_bm pa slot hty hm (hf o x ho W X g) (soundL hf g h) (base_plain hb _ _) ?_ hl (star_plain hp as X.env) (by
      have := compL_any X.env cpos h
      rw [star_plain hp] at this
      exact this)).run pins s σ H Q I rd
    rw [compL_all X.env cpos h]
    have : (a :: as).length < 10 := Nat.le_of_ble_eq_true hn
    show (true && true && decide ((a :: as).length + 0 + 0 < 30)) = true
    rw [decide_eq_true (by omega)]; rfl
theorem s_mt {f : Expr → Option E} (hf : SE P tb m c f) (g : Good P tb m c W X) {o : Expr} {nm : Str} {mt : Mt} {args : List Expr} {x : E} {xs : Es} {apos cpos : Pos} (hmt : mtOf nm = some mt) (hb : baseE nm o = true) (hl : (apos.endLine == cpos.line) = true) (hn : Nat.blt args.length 10 = true)
    (ho : f o = some x) (h : compL f args = some xs) : PE X (.Call (.Attribute o nm apos) args [] cpos) (teE P tb m W (.mt mt x xs)) := by
  have e := mtOf_nm hmt
  subst e
  cases mt with
  | append => exact s_mtG hf g PySem.F.plainAttrs_list PySem.F.slot_list_append PySem.F.type_list_append mt_app (recv_list (by decide)) hb hl hn ho h
  | extend => exact s_mtG hf g PySem.F.plainAttrs_list PySem.F.slot_list_extend PySem.F.type_list_extend (mt_ext g.K) (recv_list (by decide)) hb hl hn ho h
  | pop => exact s_mtG hf g PySem.F.plainAttrs_list PySem.F.slot_list_pop PySem.F.type_list_pop mt_popL (recv_list (by decide)) hb hl hn ho h
  | index => exact s_mtG hf g PySem.F.plainAttrs_str PySem.F.slot_str_index PySem.F.type_str_index mt_idxS (fun _ hx h => recv_str hx h) hb hl hn ho h
/-! ### a call of a def that a name holds -/
theorem s_cvar {f : Expr → Option E} (hf : SE P tb m c f) (g : Good P tb m c W X) {x : Str} {i : Nat} {a : Expr} {as : List Expr} {xs : Es} {p0 pos : Pos} (hx : okName x = true) (hv : isVis c.sc x = true) (hi : idxN c.N x = some i) (h : compL f (a :: as) = some xs) :
    PE X (.Call (.Name x p0) (a :: as) [] pos) (teE P tb m W (.cvar i xs)) := by
  obtain ⟨hdb, hcd, _⟩ := okName_ok hx
  obtain ⟨hp, _⟩ := compL_cons h
  refine ⟨fun pins s σ H Q I h' => ?_⟩
  obtain ⟨lo, θ, st, env, nw, en, p⟩ := h'
  have p : Post P (VT P) lo θ st H (match env[i]? with
    | some (some (.fn k)) => (match evEs (evC tb m) lo env xs st with
      | .ok ts st => (match evC tb m k lo ts st with | .ok t st => .ok t st | _ => .no)
      | _ => .no)
    | _ => .no) (fun _ _ _ H' v => Q v H') (fun cls d H' => W cls d σ H') := p
  split at p
  · next k e =>
    obtain ⟨v, e1, vt⟩ := en.2 i _ e
    cases vt
    cases hr : evEs (evC tb m) lo env xs st with
    | no => rw [hr] at p; exact p.elim
    | ex kk v st' => rw [hr] at p; exact p.elim
    | ok ts st' =>
      rw [hr] at p
      have p0' := only_ok p
      obtain ⟨d, hd, hl⟩ := evC_ok p0'.no_ne
      have fa := g.fat k d hd
      obtain ⟨fd, ok, bd, _⟩ := fa.ex
      have hj : d.dvs.length + ts.length - d.ps.length ≤ d.dvs.length := by
        rw [List.length_append, List.length_drop] at hl; omega
      obtain ⟨ds, rel, bd⟩ := bd _ hj
      refine (pe_callL ok g.room (i := i) (by rw [g.N]; exact idx_ok hi) (g.vis hv) fa.kp bd rel passL (soundL hf g h) hdb hcd (star_plain hp as X.env) (by
        have := compL_any X.env pos h
        rw [star_plain hp] at this
        exact this)).run pins s σ H Q I ⟨e1, lo, θ, st, env, nw, en, ?_⟩
      rw [hr]
      intro θ1 H1 vs x1 vt
      exact sp_of (nw.later x1) vt (p0'.later x1) d hd fa.cst
  · exact p.elim
end Ev

/-! Ev9: tests, what is walked, comprehensions; the induction over expressions. -/
namespace Ev
open PySem L2 PySem.Spec PyProof.Rows
variable {P : Pm} {tb : List FDef} {m : Nat} {c : CC} {W : WX} {X : Cx}

/-! ### tests -/
def STs (P : Pm) (tb : List FDef) (m : Nat) (c : CC) (f : Expr → Option E) : Prop := ∀ e x, f e = some x → ∀ W X, Good P tb m c W X → PT X e (ttE P tb m W x)
theorem Post.test {α β : Type} {R : (Nat → Addr) → Nat → Hp → α → β → Prop} {lo : Nat} {θ : Nat → Addr} {st : Sto} {H : Hp} {env : En} {x : E} {A B : Sto → Rs α} {Q : α → Sto → (Nat → Addr) → Hp → β → Prop} {W : XK}
    (p : Post P R lo θ st H ((evE (evC tb m) lo env x st).bind fun t st => match truth st t with | some true => A st | some false => B st | none => .no) Q W) :
    Post P EqR lo θ st H (evT (evC tb m) lo env x st) (fun b st1 θ1 H1 (_ : Bool) => Post P R lo θ1 st1 H1 (if b = true then A st1 else B st1) Q W) W := by
  unfold evT
  cases hr : evE (evC tb m) lo env x st with
  | no => rw [hr] at p; exact p
  | ex k t st' => rw [hr] at p; exact p
  | ok t st' =>
    rw [hr] at p
    have p : Post P R lo θ st H (match truth st' t with | some true => A st' | some false => B st' | none => .no) Q W := p
    show Post P EqR lo θ st H (Rs.of (truth st' t) st') _ W
    cases e : truth st' t with
    | none => rw [e] at p; exact p.elim
    | some b =>
      rw [e] at p
      intro θ1 H1 v x1 rv
      cases b with
      | true => exact Post.later p x1
      | false => exact Post.later p x1
theorem t_whole {e : Expr} {x : E} (g : Good P tb m c W X) (hp : PE X e (teE P tb m W x)) (hw : wholeE e = true) : PT X e (ttE P tb m W x) := by
  refine ⟨fun pins s σ H Q I h => ?_⟩
  refine (pt_truth hp (by intro whole; cases e <;> first | rfl | cases hw | (rename_i op _ _; cases op <;> first | rfl | cases hw))).run pins s σ H Q I ?_
  obtain ⟨lo, θ, st, env, nw, en, p⟩ := h
  refine ⟨lo, θ, st, env, nw, en, (Post.bind (VT P) p).mono fun t st1 θ1 H1 v _ x1 vt p1 => ?_⟩
  cases e : truth st1 t with
  | none => rw [e] at p1; exact p1.elim
  | some k =>
    rw [e] at p1
    exact ⟨k, g.K ▸ truth_ok x1.rel e vt, Post.here p1 x1.rel rfl⟩
theorem t_not {f : Expr → Option E} (hf : STs P tb m c f) (g : Good P tb m c W X) {a : Expr} {x : E} {pos : Pos} (ha : f a = some x) : PT X (.UnaryOp .Not a pos) (ttE P tb m W (.not_ x)) := by
  refine ⟨fun pins s σ H Q I h => ?_⟩
  refine (pt_not (hf a x ha W X g)).run pins s σ H Q I ?_
  obtain ⟨lo, θ, st, env, nw, en, p⟩ := h
  refine ⟨lo, θ, st, env, nw, en, ?_⟩
  have p : Post P EqR lo θ st H (((evE (evC tb m) lo env x st).bind fun x st => (match truth st x with | some k => .ok (.bl (!k)) st | none => .no)).bind fun x st => Rs.of (truth st x) st) (fun _ _ _ H' v => Q v H') (fun cls d H' => W cls d σ H') := p
  unfold evT
  cases hr : evE (evC tb m) lo env x st with
  | no => rw [hr] at p; exact p
  | ex k t st' => rw [hr] at p; exact p
  | ok t st' =>
    rw [hr] at p
    have p : Post P EqR lo θ st H ((match truth st' t with | some k => Rs.ok (T.bl (!k)) st' | none => .no).bind fun x st => Rs.of (truth st x) st) (fun _ _ _ H' v => Q v H') (fun cls d H' => W cls d σ H') := p
    show Post P EqR lo θ st H (Rs.of (truth st' t) st') _ _
    cases e : truth st' t with
    | none => rw [e] at p; exact p.elim
    | some b =>
      rw [e] at p
      intro θ1 H1 v x1 rv
      cases rv
      exact p θ1 H1 _ x1 rfl
theorem t_andor {op : BoolOp} {f : Expr → Option E} (hf : STs P tb m c f) (hf2 : ∀ p vs x, f (.BoolOp op vs p) = some x → ∀ W X, Good P tb m c W X → PW X (.BoolOp op vs p) (ttE P tb m W x)) (g : Good P tb m c W X) {a b : Expr} {rest : List Expr} {x y : E} {pos : Pos}
    (ha : f a = some x) (hb : f (.BoolOp op (b :: rest) pos) = some y) : PW X (.BoolOp op (a :: b :: rest) pos) (ttE P tb m W (match op with | .And => .and_ x y | .Or => .or_ x y)) := by
  refine ⟨fun wh pins s σ H Q I h => ?_⟩
  obtain ⟨lo, θ, st, env, nw, en, p⟩ := h
  have ra := hf a x ha W X g
  have rb := hf2 pos _ y hb W X g
  cases op with
  | And =>
    refine (pw_and ra rb).run wh pins s σ H Q I ?_
    have p : Post P EqR lo θ st H (((evE (evC tb m) lo env x st).bind fun x st => (match truth st x with | some true => evE (evC tb m) lo env y st | some false => .ok x st | none => .no)).bind fun x st => Rs.of (truth st x) st) (fun _ _ _ H' v => Q v H') (fun cls d H' => W cls d σ H') := p
    have p2 : Post P EqR lo θ st H ((evE (evC tb m) lo env x st).bind fun t st => match truth st t with | some true => evT (evC tb m) lo env y st | some false => .ok false st | none => .no) (fun _ _ _ H' v => Q v H') (fun cls d H' => W cls d σ H') := by
      cases hr : evE (evC tb m) lo env x st with
      | no => rw [hr] at p; exact p
      | ex k t st' => rw [hr] at p; exact p
      | ok t st' =>
        rw [hr] at p
        have p : Post P EqR lo θ st H ((match truth st' t with | some true => evE (evC tb m) lo env y st' | some false => Rs.ok t st' | none => .no).bind fun x st => Rs.of (truth st x) st) (fun _ _ _ H' v => Q v H') (fun cls d H' => W cls d σ H') := p
        show Post P EqR lo θ st H (match truth st' t with | some true => evT (evC tb m) lo env y st' | some false => .ok false st' | none => .no) _ _
        cases e : truth st' t with
        | none => rw [e] at p; exact p
        | some b =>
          rw [e] at p
          cases b with
          | true => exact p
          | false =>
            have p : Post P EqR lo θ st H (Rs.of (truth st' t) st') (fun _ _ _ H' v => Q v H') (fun cls d H' => W cls d σ H') := p
            rw [e] at p; exact p
    refine ⟨lo, θ, st, env, nw, en, (Post.test p2).mono fun b st1 θ1 H1 v _ x1 rv p3 => ?_⟩
    cases rv
    cases b with
    | true => exact iteT ⟨lo, θ1, st1, env, nw.later x1, x1.en nw.rel en, p3⟩
    | false => exact iteF (Post.here p3 x1.rel rfl)
  | Or =>
    refine (pw_or ra rb).run wh pins s σ H Q I ?_
    have p : Post P EqR lo θ st H (((evE (evC tb m) lo env x st).bind fun x st => (match truth st x with | some true => .ok x st | some false => evE (evC tb m) lo env y st | none => .no)).bind fun x st => Rs.of (truth st x) st) (fun _ _ _ H' v => Q v H') (fun cls d H' => W cls d σ H') := p
    have p2 : Post P EqR lo θ st H ((evE (evC tb m) lo env x st).bind fun t st => match truth st t with | some true => .ok true st | some false => evT (evC tb m) lo env y st | none => .no) (fun _ _ _ H' v => Q v H') (fun cls d H' => W cls d σ H') := by
      cases hr : evE (evC tb m) lo env x st with
      | no => rw [hr] at p; exact p
      | ex k t st' => rw [hr] at p; exact p
      | ok t st' =>
        rw [hr] at p
        have p : Post P EqR lo θ st H ((match truth st' t with | some true => Rs.ok t st' | some false => evE (evC tb m) lo env y st' | none => .no).bind fun x st => Rs.of (truth st x) st) (fun _ _ _ H' v => Q v H') (fun cls d H' => W cls d σ H') := p
        show Post P EqR lo θ st H (match truth st' t with | some true => .ok true st' | some false => evT (evC tb m) lo env y st' | none => .no) _ _
        cases e : truth st' t with
        | none => rw [e] at p; exact p
        | some b =>
          rw [e] at p
          cases b with
          | false => exact p
          | true =>
            have p : Post P EqR lo θ st H (Rs.of (truth st' t) st') (fun _ _ _ H' v => Q v H') (fun cls d H' => W cls d σ H') := p
            rw [e] at p; exact p
    refine ⟨lo, θ, st, env, nw, en, (Post.test p2).mono fun b st1 θ1 H1 v _ x1 rv p3 => ?_⟩
    cases rv
    cases b with
    | true => exact iteT (Post.here p3 x1.rel rfl)
    | false => exact iteF ⟨lo, θ1, st1, env, nw.later x1, x1.en nw.rel en, p3⟩
/-- a comparison's answer is a bool -/
theorem r_isbl {x : E} {σ : L2.St} {H : Hp} {Q : Bool → Hp → Prop} (hb : ∀ lo env st t st', evE (evC tb m) lo env x st = .ok t st' → ∃ k, t = .bl k) (h : ttE P tb m W x σ H Q) : teE P tb m W x σ H (fun v H' => ∃ k, v = .bl k ∧ Q k H') := by
  obtain ⟨lo, θ, st, env, nw, en, p⟩ := h
  refine ⟨lo, θ, st, env, nw, en, (Post.bind (VT P) p).mono fun t st1 θ1 H1 v e x1 vt p1 => ?_⟩
  obtain ⟨k, rfl⟩ := hb _ _ _ _ _ e
  cases vt.bl_inv
  exact ⟨k, rfl, Post.here p1 x1.rel rfl⟩
theorem bind_ok {α β : Type} {r : Rs α} {f : α → Sto → Rs β} {b : β} {st' : Sto} (h : r.bind f = .ok b st') : ∃ a st1, r = .ok a st1 ∧ f a st1 = .ok b st' := by
  cases r with
  | ok a st1 => exact ⟨a, st1, rfl, h⟩
  | ex k t st1 => cases h
  | no => cases h
theorem cmp_bl {op : C2} {x y : E} (lo : Nat) (env : En) (st : Sto) (t : T) (st' : Sto) (h : evE (evC tb m) lo env (.cmp op x y) st = .ok t st') : ∃ k, t = .bl k := by
  obtain ⟨a, st1, _, h⟩ := bind_ok (show ((evE (evC tb m) lo env x st).bind fun x st => (evE (evC tb m) lo env y st).bind fun y st => (match cmp2 st op x y with | some k => .ok (.bl k) st | none => .no)) = .ok t st' from h)
  obtain ⟨b, st2, _, h⟩ := bind_ok h
  split at h
  · cases h; exact ⟨_, rfl⟩
  · cases h
theorem chain_bl {op op' : C2} {x y z : E} (lo : Nat) (env : En) (st : Sto) (t : T) (st' : Sto) (h : evE (evC tb m) lo env (.chain op op' x y z) st = .ok t st') : ∃ k, t = .bl k := by
  obtain ⟨a, st1, _, h⟩ := bind_ok (show ((evE (evC tb m) lo env x st).bind fun x st => (evE (evC tb m) lo env y st).bind fun y st => (match cmp2 st op x y with
    | some true => (evE (evC tb m) lo env z st).bind fun z st => (match cmp2 st op' y z with | some k => .ok (.bl k) st | none => .no)
    | some false => .ok (.bl false) st
    | none => .no)) = .ok t st' from h)
  obtain ⟨b, st2, _, h⟩ := bind_ok h
  split at h
  · obtain ⟨d, st3, _, h⟩ := bind_ok h
    split at h
    · cases h; exact ⟨_, rfl⟩
    · cases h
  · cases h; exact ⟨_, rfl⟩
  · cases h
theorem t_ife {f : Expr → Option E} (hf : STs P tb m c f) (g : Good P tb m c W X) {t a b : Expr} {z x y : E} {pos : Pos} (ht : f t = some z) (ha : f a = some x) (hb : f b = some y) : PT X (.IfExp t a b pos) (ttE P tb m W (.ife z x y)) := by
  refine ⟨fun pins s σ H Q I h => ?_⟩
  obtain ⟨lo, θ, st, env, nw, en, p⟩ := h
  have p : Post P EqR lo θ st H (((evE (evC tb m) lo env z st).bind fun w st => (match truth st w with | some true => evE (evC tb m) lo env x st | some false => evE (evC tb m) lo env y st | none => .no)).bind fun x st => Rs.of (truth st x) st) (fun _ _ _ H' v => Q v H') (fun cls d H' => W cls d σ H') := p
  have p2 : Post P EqR lo θ st H ((evE (evC tb m) lo env z st).bind fun t st => match truth st t with | some true => evT (evC tb m) lo env x st | some false => evT (evC tb m) lo env y st | none => .no) (fun _ _ _ H' v => Q v H') (fun cls d H' => W cls d σ H') := by
    cases hr : evE (evC tb m) lo env z st with
    | no => rw [hr] at p; exact p
    | ex k t st' => rw [hr] at p; exact p
    | ok t st' =>
      rw [hr] at p
      have p : Post P EqR lo θ st H ((match truth st' t with | some true => evE (evC tb m) lo env x st' | some false => evE (evC tb m) lo env y st' | none => .no).bind fun x st => Rs.of (truth st x) st) (fun _ _ _ H' v => Q v H') (fun cls d H' => W cls d σ H') := p
      show Post P EqR lo θ st H (match truth st' t with | some true => evT (evC tb m) lo env x st' | some false => evT (evC tb m) lo env y st' | none => .no) _ _
      cases e : truth st' t with
      | none => rw [e] at p; exact p
      | some b =>
        rw [e] at p
        cases b <;> exact p
  show wpAny _ _ (do if ← PySem.isTrue t X.env (eval t X.env) then PySem.isTrue a X.env (eval a X.env) else PySem.isTrue b X.env (eval b X.env)) _ _ _
  have rd : ttE P tb m W z σ H (fun b H' => if b = true then ttE P tb m W x σ H' Q else ttE P tb m W y σ H' Q) := by
    refine ⟨lo, θ, st, env, nw, en, (Post.test p2).mono fun b st1 θ1 H1 v _ x1 rv p3 => ?_⟩
    cases rv
    cases b with
    | true => exact iteT ⟨lo, θ1, st1, env, nw.later x1, x1.en nw.rel en, p3⟩
    | false => exact iteF ⟨lo, θ1, st1, env, nw.later x1, x1.en nw.rel en, p3⟩
  refine wpAny_bind (thn ((hf t z ht W X g).run pins s σ H _ I rd) fun b s1 hh => ?_)
  obtain ⟨H1, I1, q1⟩ := hh
  cases b with
  | true =>
    rw [if_pos rfl] at q1
    rw [if_pos rfl]
    exact (hf a x ha W X g).run pins s1 σ H1 Q I1 q1
  | false =>
    rw [if_neg (by simp)] at q1
    rw [if_neg (by simp)]
    exact (hf _ y hb W X g).run pins s1 σ H1 Q I1 q1
theorem s_ife {f : Expr → Option E} (hf : SE P tb m c f) (hft : STs P tb m c f) (g : Good P tb m c W X) {t a b : Expr} {z x y : E} {pos : Pos} (ht : f t = some z) (ha : f a = some x) (hb : f b = some y) : PE X (.IfExp t a b pos) (teE P tb m W (.ife z x y)) := by
  refine ⟨fun pins s σ H Q I h => ?_⟩
  refine (pe_ifExp (hft t z ht W X g) (hf a x ha W X g) (hf b y hb W X g)).run pins s σ H Q I ?_
  obtain ⟨lo, θ, st, env, nw, en, p⟩ := h
  refine ⟨lo, θ, st, env, nw, en, (Post.test (R := VT P) p).mono fun b st1 θ1 H1 v _ x1 rv p3 => ?_⟩
  cases rv
  cases b with
  | true => exact iteT ⟨lo, θ1, st1, env, nw.later x1, x1.en nw.rel en, p3⟩
  | false => exact iteF ⟨lo, θ1, st1, env, nw.later x1, x1.en nw.rel en, p3⟩

/-! ### what is walked -/
theorem getL_of {st : Sto} {l : Nat} {xs : List T} (h : st[l]? = some (.lst xs)) : getL st l = some xs := by unfold getL; rw [h]
/-- a list of the store is read as it is -/
theorem Rel.getL_vs {θ : Nat → Addr} {st : Sto} {H : Hp} (r : Rel P θ st H) {l : Nat} (hl : l < st.length) : ∃ xs vs, getL st l = some xs ∧ VTs P θ st.length H xs vs ∧ H (θ l) = some (.lst vs) := by
  have e : st[l]? = some st[l] := List.getElem?_eq_getElem hl
  cases ho : st[l] with
  | lst xs =>
    obtain ⟨vs, h1, h2⟩ := r.lst (e.trans (congrArg some ho))
    exact ⟨xs, vs, getL_of (e.trans (congrArg some ho)), h1, h2⟩
  | dct kvs => exact (r.ob l _ (e.trans (congrArg some ho))).elim
theorem VTs.none {θ : Nat → Addr} {n : Nat} {H : Hp} {ts : List T} {vs : List V} (h : VTs P θ n H ts vs) {i : Nat} (e : ts[i]? = Option.none) : vs.length ≤ i := by
  rw [List.getElem?_eq_none_iff] at e
  rw [← h.length]; exact e
theorem wk_live {lo : Nat} {θ : Nat → Addr} {st : Sto} {H : Hp} {l : Nat} (hl : l < st.length) : WkR P lo θ st H (.live l) (Itl P.K (θ l)) := by
  intro θ1 st1 H1 x1 i
  obtain ⟨xs, vs, e1, h1, h2⟩ := x1.rel.getL_vs (Nat.lt_of_lt_of_le hl x1.len)
  rw [x1.ag l hl] at h2
  have ea : (Wk.live l).at i st1 = some xs[i]? := by show (getL st1 l).map _ = _; rw [e1]; rfl
  rw [ea]
  refine ⟨fun e => ⟨vs, .inl (.inl h2), h1.none (Option.some.inj e)⟩, fun t e => ?_⟩
  obtain ⟨v, e2, hv⟩ := h1.get (Option.some.inj e)
  refine ⟨⟨vs, v, .inl (.inl h2), e2⟩, fun x H2 y => ?_⟩
  obtain ⟨rfl, y⟩ := y
  have := y vs (.inl (.inl h2))
  rw [e2] at this; cases this
  exact ⟨Ext.refl x1.rel, hv⟩

theorem wk_enuL {lo : Nat} {θ : Nat → Addr} {st : Sto} {H : Hp} {l : Nat} (hl : l < st.length) : WkR P lo θ st H (.enuL l) (Ite P.K (θ l)) := by
  intro θ1 st1 H1 x1 i
  obtain ⟨xs, vs, e1, h1, h2⟩ := x1.rel.getL_vs (Nat.lt_of_lt_of_le hl x1.len)
  rw [x1.ag l hl] at h2
  have ea : (Wk.enuL l).at i st1 = some (xs[i]?.map fun x => .tup [.int i, x]) := by show (getL st1 l).map _ = _; rw [e1]; rfl
  rw [ea]
  refine ⟨fun e => ⟨vs, .inl (.inl h2), h1.none (by simpa using e)⟩, fun t e => ?_⟩
  obtain ⟨z, e3, rfl⟩ := Option.map_eq_some_iff.mp (Option.some.inj e)
  obtain ⟨v, e2, hv⟩ := h1.get e3
  refine ⟨⟨vs, v, .inl (.inl h2), e2⟩, fun x H2 y => ?_⟩
  obtain ⟨q, x, rfl, hq, rfl, y⟩ := y
  have := y vs (.inl (.inl h2))
  rw [e2] at this; cases this
  have x2 := Ext.grow (P := P) (lo := lo) x1.rel hq (.tup [.int (i : Nat), v])
  exact ⟨x2, .tup (.inl (.inl upd_same)) (.cons (.int _) (.cons (x2.vt x1.rel hv) .nil))⟩
theorem wk_tup {lo : Nat} {θ : Nat → Addr} {st : Sto} {H : Hp} {a : Addr} {ts : List T} {vs : List V} (r : Rel P θ st H) (hs : SqT P.K H a vs) (hv : VTs P θ st.length H ts vs) : WkR P lo θ st H (.snap ts) (Itt P.K a) := by
  intro θ1 st1 H1 x1 i
  have h2 := x1.sqT r hs
  have h1 := x1.vts r hv
  have ea : (Wk.snap ts).at i st1 = some ts[i]? := rfl
  rw [ea]
  refine ⟨fun e => ⟨vs, h2, h1.none (Option.some.inj e)⟩, fun t e => ?_⟩
  obtain ⟨v, e2, hv⟩ := h1.get (Option.some.inj e)
  refine ⟨⟨vs, v, h2, e2⟩, fun x H2 y => ?_⟩
  obtain ⟨rfl, y⟩ := y
  have := y vs h2
  rw [e2] at this; cases this
  exact ⟨Ext.refl x1.rel, hv⟩
theorem wk_kl {lo : Nat} {θ : Nat → Addr} {st : Sto} {H : Hp} {a : Addr} {ts : List T} {vs : List V} (r : Rel P θ st H) (hs : KL P.K θ st.length H a vs) (hv : VTs P θ st.length H ts vs) : WkR P lo θ st H (.snap ts) (Itl P.K a) := by
  intro θ1 st1 H1 x1 i
  have h2 := (x1.kl r hs).sq
  have h1 := x1.vts r hv
  have ea : (Wk.snap ts).at i st1 = some ts[i]? := rfl
  rw [ea]
  refine ⟨fun e => ⟨vs, h2, h1.none (Option.some.inj e)⟩, fun t e => ?_⟩
  obtain ⟨v, e2, hv⟩ := h1.get (Option.some.inj e)
  refine ⟨⟨vs, v, h2, e2⟩, fun x H2 y => ?_⟩
  obtain ⟨rfl, y⟩ := y
  have := y vs h2
  rw [e2] at this; cases this
  exact ⟨Ext.refl x1.rel, hv⟩
theorem wk_str {lo : Nat} {θ : Nat → Addr} {st : Sto} {H : Hp} {z : List Nat} (hz : PyData.strOk ⟨z.toArray⟩ = true) : WkR P lo θ st H (.snap (z.map fun c => .str [c])) (Its ⟨z.toArray⟩) := by
  intro θ1 st1 H1 x1 i
  have ea : (Wk.snap (z.map fun c => .str [c])).at i st1 = some (z[i]?.map fun c => .str [c]) := by
    show some ((z.map fun c => T.str [c])[i]?) = _
    rw [List.getElem?_map]
  rw [ea]
  refine ⟨fun e => ?_, fun t e => ?_⟩
  · have : z[i]? = none := by simpa using e
    rw [List.getElem?_eq_none_iff] at this
    show (z.toArray).size ≤ i
    simpa using this
  · obtain ⟨d, e3, rfl⟩ := Option.map_eq_some_iff.mp (Option.some.inj e)
    refine ⟨?_, fun x H2 y => ?_⟩
    · show i < (z.toArray).size
      have := (List.getElem?_eq_some_iff.mp e3).1
      simpa using this
    · obtain ⟨rfl, d', e4, rfl⟩ := y
      have : z[i]? = some d' := by simpa using e4
      rw [e3] at this; cases this
      exact ⟨Ext.refl x1.rel, vt_sign ((strOk_iff _).mp hz d (List.mem_of_getElem? e3))⟩
theorem wk_rng {lo : Nat} {θ : Nat → Addr} {st : Sto} {H : Hp} {a b : Int} : WkR P lo θ st H (.snap (rangeI a b)) (Itr a (b - a).toNat) := by
  intro θ1 st1 H1 x1 i
  have ea : (Wk.snap (rangeI a b)).at i st1 = some (if i < (b - a).toNat then some (.int (a + (i : Nat))) else none) := by
    show some ((rangeI a b)[i]?) = _
    unfold rangeI
    rw [List.getElem?_map]
    split
    · next h => rw [List.getElem?_range h]; rfl
    · next h => rw [List.getElem?_eq_none (by simpa using h)]; rfl
  rw [ea]
  refine ⟨fun e => ?_, fun t e => ?_⟩
  · show (b - a).toNat ≤ i
    split at e
    · cases e
    · omega
  · split at e
    · next hi =>
      cases e
      refine ⟨hi, fun x H2 y => ?_⟩
      obtain ⟨rfl, rfl⟩ := y
      exact ⟨Ext.refl x1.rel, .int _⟩
    · cases e
theorem wk_zip {lo : Nat} {θ : Nat → Addr} {st : Sto} {H : Hp} {a b : Addr} {ts us : List T} {vs ws : List V} (r : Rel P θ st H) (ha : SqT P.K H a vs) (hv : VTs P θ st.length H ts vs) (hb : SqT P.K H b ws) (hw : VTs P θ st.length H us ws) :
    WkR P lo θ st H (.snap ((ts.zip us).map fun p => .tup [p.1, p.2])) (RZ.ItzT P.K a b) := by
  intro θ1 st1 H1 x1 i
  have ha2 := x1.sqT r ha
  have hb2 := x1.sqT r hb
  have hv2 := x1.vts r hv
  have hw2 := x1.vts r hw
  have ea : (Wk.snap ((ts.zip us).map fun p => .tup [p.1, p.2])).at i st1 = some ((ts.zip us)[i]?.map fun p => .tup [p.1, p.2]) := by
    show some (((ts.zip us).map fun p => T.tup [p.1, p.2])[i]?) = _
    rw [List.getElem?_map]
  rw [ea]
  refine ⟨fun e => ?_, fun t e => ?_⟩
  · have : (ts.zip us)[i]? = none := by simpa using e
    rw [List.getElem?_eq_none_iff, List.length_zip] at this
    have l1 := hv2.length
    have l2 := hw2.length
    exact ⟨vs, ws, ha2, hb2, by omega⟩
  · obtain ⟨p, e3, rfl⟩ := Option.map_eq_some_iff.mp (Option.some.inj e)
    obtain ⟨x, y⟩ := p
    obtain ⟨e4, e5⟩ := List.getElem?_zip_eq_some.mp e3
    obtain ⟨v, e6, hv3⟩ := hv2.get e4
    obtain ⟨w, e7, hw3⟩ := hw2.get e5
    refine ⟨⟨vs, ws, v, w, ha2, hb2, e6, e7⟩, fun z H2 q => ?_⟩
    obtain ⟨q, v', w', rfl, hq, rfl, y1, y2⟩ := q
    have h1 := y1 vs ha2
    have h2 := y2 ws hb2
    rw [e6] at h1; rw [e7] at h2
    cases h1; cases h2
    have x2 := Ext.grow (P := P) (lo := lo) x1.rel hq (.tup [v, w])
    exact ⟨x2, .tup (.inl (.inl upd_same)) (.cons (x2.vt x1.rel hv3) (.cons (x2.vt x1.rel hw3) .nil))⟩
theorem soundSeq {f : Expr → Option E} (hf : SE P tb m c f) (g : Good P tb m c W X) {tg e : Expr} {x : E} (he : f e = some x) : PI X tg e (tiE P tb m W (.seq x)) := by
  refine ⟨fun pins s σ H R I h => ?_⟩
  obtain ⟨lo, θ, st, env, nw, en, p⟩ := h
  have hp := hf e x he W X g
  have p1 := Post.bind (VT P) p
  have no : ∀ {t : T} {st' : Sto} {C : Prop}, evE (evC tb m) lo env x st = .ok t st' → (match t with
    | .tup ts => Rs.ok (Wk.snap ts) st'
    | .kl ts => .ok (.snap ts) st'
    | .str s => .ok (.snap (s.map fun c => .str [c])) st'
    | .loc l => (match getL st' l with | some _ => .ok (.live l) st' | none => .no)
    | _ => .no) = .no → C := fun {t st' C} e h => by
    have p' : Post P AnyR lo θ st H ((evE (evC tb m) lo env x st).bind fun x st => (match x with
      | .tup ts => Rs.ok (Wk.snap ts) st
      | .kl ts => .ok (.snap ts) st
      | .str s => .ok (.snap (s.map fun c => .str [c])) st
      | .loc l => (match getL st l with | some _ => .ok (.live l) st | none => .no)
      | _ => .no)) (fun w st' θ' H' J => WkR P lo θ' st' H' w J → R J H') (fun cls d H' => W cls d σ H') := p
    rw [e] at p'
    exact (p'.no_ne h).elim
  cases hr : evE (evC tb m) lo env x st with
  | no => rw [hr] at p1; exact p1.elim
  | ex k t st' =>
    rw [hr] at p1
    refine (pi_list hp).run pins s σ H R I ⟨lo, θ, st, env, nw, en, ?_⟩
    rw [hr]; exact p1
  | ok t st' =>
    rw [hr] at p1
    cases t with
    | tup ts =>
      refine (pi_tup hp).run pins s σ H R I ⟨lo, θ, st, env, nw, en, ?_⟩
      rw [hr]
      refine Post.mono p1 fun t st1 θ1 H1 v e x1 vt p2 => ?_
      cases e
      obtain ⟨a, vs, rfl, h1, h2⟩ := vt.tup_inv
      exact ⟨a, rfl, ⟨vs, g.K ▸ h1⟩, Post.here (v := Itt X.K a) p2 x1.rel trivial (g.K ▸ wk_tup x1.rel h1 h2)⟩
    | str z =>
      refine (pi_str hp).run pins s σ H R I ⟨lo, θ, st, env, nw, en, ?_⟩
      rw [hr]
      refine Post.mono p1 fun t st1 θ1 H1 v e x1 vt p2 => ?_
      cases e
      obtain ⟨rfl, h1, h2⟩ := vt.str_inv
      exact ⟨_, rfl, Post.here (v := Its _) p2 x1.rel trivial (wk_str h2)⟩
    | loc l =>
      refine (pi_list hp).run pins s σ H R I ⟨lo, θ, st, env, nw, en, ?_⟩
      rw [hr]
      refine Post.mono p1 fun t st1 θ1 H1 v e x1 vt p2 => ?_
      cases e
      obtain ⟨rfl, hl⟩ := vt.loc_inv
      obtain ⟨vs, h2⟩ := x1.rel.isl hl
      have p2 : Post P AnyR lo θ1 st' H1 (match getL st' l with | some _ => .ok (.live l) st' | none => .no) (fun w st'' θ' H' J => WkR P lo θ' st'' H' w J → R J H') (fun cls d H' => W cls d σ H') := p2
      split at p2
      · exact ⟨_, rfl, ⟨vs, .inl (.inl h2)⟩, Post.here (v := Itl X.K _) p2 x1.rel trivial (g.K ▸ wk_live hl)⟩
      · exact p2.elim
    | kl ts =>
      refine (pi_list hp).run pins s σ H R I ⟨lo, θ, st, env, nw, en, ?_⟩
      rw [hr]
      refine Post.mono p1 fun t st1 θ1 H1 v e x1 vt p2 => ?_
      cases e
      obtain ⟨a, vs, rfl, h1, h2⟩ := vt.kl_inv
      exact ⟨a, rfl, ⟨vs, g.K ▸ h1.sq⟩, Post.here (v := Itl X.K a) p2 x1.rel trivial (g.K ▸ wk_kl x1.rel h1 h2)⟩
    | non => exact no hr rfl
    | bl b => exact no hr rfl
    | int i => exact no hr rfl
    | fn k => exact no hr rfl

theorem any_plain {b : Expr} (h : plainE b = true) (env : Env) : starEach [b] env = [(false, eval b env)] := star_plain h [] env
theorem soundI {f : Expr → Option E} (hf : SE P tb m c f) (g : Good P tb m c W X) {tg e : Expr} {x : I} (h : compI f c tg e = some x) : PI X tg e (tiE P tb m W x) ∧ (∀ v, foldedSetIterable e X.env v = pure v) := by
  unfold compI at h
  split at h
  · next nm p0 args pos =>
    refine ⟨?_, fun _ => rfl⟩
    have seq : ∀ {x : I}, (f (.Call (.Name nm p0) args [] pos)).map I.seq = some x → PI X tg (.Call (.Name nm p0) args [] pos) (tiE P tb m W x) := fun {x} h => by
      obtain ⟨y, e1, rfl⟩ := Option.map_eq_some_iff.mp h
      exact soundSeq hf g e1
    split at h
    · next hc =>
      simp only [Bool.and_eq_true] at hc
      have hg := g.glob hc.1.1
      split at h
      · next e =>
        subst e
        split at h
        · next a =>
          split at h
          · next hp =>
            obtain ⟨y, e1, rfl⟩ := Option.map_eq_some_iff.mp h
            refine ⟨fun pins s σ H R I h => ?_⟩
            have hl : compL f [a] = some (.cons y .nil) := by
              show (if plainE a = true then _ else _) = _
              rw [if_pos hp, e1]; rfl
            refine (pi_range1 hg (g.bl _ cn_range) (soundL hf g hl) (any_plain hp _)).run pins s σ H R I ?_
            obtain ⟨lo, θ, st, env, nw, en, p⟩ := h
            refine ⟨lo, θ, st, env, nw, en, (Post.bind (VTs P) p).mono fun ts st1 θ1 H1 vs _ x1 vt p1 => ?_⟩
            split at p1
            · next j _ =>
              split at p1
              · next hj =>
                obtain ⟨v, rfl, hv⟩ := vt.one_inv
                cases hv.int_inv
                exact ⟨_, rfl, hj.1, hj.2, Post.here (v := Itr 0 j.toNat) p1 x1.rel trivial (by have := wk_rng (P := P) (lo := lo) (θ := θ1) (st := st1) (H := H1) (a := 0) (b := j); rw [Int.sub_zero] at this; exact this)⟩
              · exact p1.elim
            · next i j ee =>
              -- two values cannot come
              have := vt.length
              obtain ⟨t, st2, e3, e4⟩ := bind_ok (show ((evE (evC tb m) lo env y st).bind fun t st => (evEs (evC tb m) lo env .nil st).bind fun ts st => .ok (t :: ts) st) = .ok [.int i, .int j] st1 from ee)
              cases e4
            · exact p1.elim
          · cases h
        · next a b =>
          split at h
          · next hp =>
            rw [Bool.and_eq_true] at hp
            split at h
            · next y z e1 e2 =>
              cases h
              refine ⟨fun pins s σ H R I h => ?_⟩
              have hl : compL f [a, b] = some (.cons y (.cons z .nil)) := by
                show (if plainE a = true then _ else _) = _
                rw [if_pos hp.1, e1]
                show (match some y, (if plainE b = true then _ else _) with | some a, some b => some (Es.cons a b) | _, _ => none) = _
                rw [if_pos hp.2, e2]; rfl
              refine (pi_range2 hg (g.bl _ cn_range) (soundL hf g hl) (by rw [star_plain hp.1, star_plain hp.2]; rfl) (any_plain hp.2 _)).run pins s σ H R I ?_
              obtain ⟨lo, θ, st, env, nw, en, p⟩ := h
              refine ⟨lo, θ, st, env, nw, en, (Post.bind (VTs P) p).mono fun ts st1 θ1 H1 vs _ x1 vt p1 => ?_⟩
              split at p1
              · next j ee =>
                obtain ⟨t, st2, e3, e4⟩ := bind_ok (show ((evE (evC tb m) lo env y st).bind fun t st => ((evE (evC tb m) lo env z st).bind fun t st => (evEs (evC tb m) lo env .nil st).bind fun ts st => .ok (t :: ts) st).bind fun ts st => .ok (t :: ts) st) = .ok [.int j] st1 from ee)
                obtain ⟨us, st3, e5, e6⟩ := bind_ok e4
                obtain ⟨u, st4, e7, e8⟩ := bind_ok e5
                cases e8; cases e6
              · next i j _ =>
                split at p1
                · next hj =>
                  obtain ⟨v, w, rfl, hv, hw⟩ := vt.two_inv
                  cases hv.int_inv; cases hw.int_inv
                  exact ⟨_, _, rfl, ⟨hj.1.1, hj.1.2, hj.2.1, hj.2.2⟩, Post.here (v := Itr i (j - i).toNat) p1 x1.rel trivial wk_rng⟩
                · exact p1.elim
              · exact p1.elim
            · cases h
          · cases h
        · cases h
      · split at h
        · next e =>
          subst e
          split at h
          · next a b =>
            split at h
            · next hp =>
              simp only [Bool.and_eq_true] at hp
              split at h
              · next y z e1 e2 =>
                cases h
                cases tg <;> simp only [isTup, Bool.false_eq_true, and_false] at hp
                have hl : compL f [a, b] = some (.cons y (.cons z .nil)) := by
                  show (if plainE a = true then _ else _) = _
                  rw [if_pos hp.1.1, e1]
                  show (match some y, (if plainE b = true then _ else _) with | some a, some b => some (Es.cons a b) | _, _ => none) = _
                  rw [if_pos hp.1.2, e2]; rfl
                refine ⟨fun pins s σ H R I h => ?_⟩
                refine (RZ.pi_zipA hg (g.bl _ cn_zip) (soundL hf g hl) (star_plain hp.1.1 _ _) (by rw [any_plain hp.1.2]; rfl)).run pins s σ H R I ?_
                obtain ⟨lo, θ, st, env, nw, en, p⟩ := h
                have p' : Post P AnyR lo θ st H ((evEs (evC tb m) lo env (.cons y (.cons z .nil)) st).bind fun ts st => (match ts with
                  | [.tup xs, .tup ys] => .ok (Wk.snap ((xs.zip ys).map fun p => .tup [p.1, p.2])) st
                  | _ => .no)) (fun w st' θ' H' J => WkR P lo θ' st' H' w J → R J H') (fun cls d H' => W cls d σ H') := by
                  have p : Post P AnyR lo θ st H ((evE (evC tb m) lo env y st).bind fun x st => (evE (evC tb m) lo env z st).bind fun y st => (match x, y with
                    | .tup xs, .tup ys => .ok (Wk.snap ((xs.zip ys).map fun p => .tup [p.1, p.2])) st
                    | _, _ => .no)) (fun w st' θ' H' J => WkR P lo θ' st' H' w J → R J H') (fun cls d H' => W cls d σ H') := p
                  show Post P AnyR lo θ st H (((evE (evC tb m) lo env y st).bind fun t st => ((evE (evC tb m) lo env z st).bind fun t st => (Rs.ok [] st : Rs (List T)).bind fun ts st => .ok (t :: ts) st).bind fun ts st => .ok (t :: ts) st).bind _) _ _
                  cases h1 : evE (evC tb m) lo env y st with
                  | no => rw [h1] at p; exact p
                  | ex k t st1 => rw [h1] at p; exact p
                  | ok t st1 =>
                    rw [h1] at p
                    have p : Post P AnyR lo θ st H ((evE (evC tb m) lo env z st1).bind fun y st => (match t, y with
                      | .tup xs, .tup ys => .ok (Wk.snap ((xs.zip ys).map fun p => .tup [p.1, p.2])) st
                      | _, _ => .no)) (fun w st' θ' H' J => WkR P lo θ' st' H' w J → R J H') (fun cls d H' => W cls d σ H') := p
                    show Post P AnyR lo θ st H ((((evE (evC tb m) lo env z st1).bind fun t st => (Rs.ok [] st : Rs (List T)).bind fun ts st => .ok (t :: ts) st).bind fun ts st => .ok (t :: ts) st).bind _) _ _
                    cases h2 : evE (evC tb m) lo env z st1 with
                    | no => rw [h2] at p; exact p
                    | ex k t st1 => rw [h2] at p; exact p
                    | ok u st2 =>
                      rw [h2] at p
                      cases t <;> cases u <;> exact p
                refine ⟨lo, θ, st, env, nw, en, (Post.bind (VTs P) p').mono fun ts st1 θ1 H1 vs _ x1 vt p1 => ?_⟩
                split at p1
                · obtain ⟨v, w, rfl, hv, hw⟩ := vt.two_inv
                  obtain ⟨a1, vs1, rfl, h1, h2⟩ := hv.tup_inv
                  obtain ⟨a2, vs2, rfl, h3, h4⟩ := hw.tup_inv
                  exact ⟨a1, a2, vs1, vs2, rfl, .inr ⟨g.K ▸ h1, g.K ▸ h3, Post.here (v := RZ.ItzT X.K a1 a2) p1 x1.rel trivial (g.K ▸ wk_zip x1.rel h1 h2 h3 h4)⟩⟩
                · exact p1.elim
              · cases h
            · cases h
          · cases h
        · split at h
          · next e =>
            subst e
            split at h
            · next a =>
              split at h
              · next hp =>
                simp only [Bool.and_eq_true] at hp
                obtain ⟨y, e1, rfl⟩ := Option.map_eq_some_iff.mp h
                cases tg <;> simp only [isTup, Bool.false_eq_true, and_false] at hp
                have hl : compL f [a] = some (.cons y .nil) := by
                  show (if plainE a = true then _ else _) = _
                  rw [if_pos hp.1, e1]; rfl
                refine ⟨fun pins s σ H R I h => ?_⟩
                refine (pi_enum hg (g.bl _ cn_enum) (soundL hf g hl) (any_plain hp.1 _)).run pins s σ H R I ?_
                obtain ⟨lo, θ, st, env, nw, en, p⟩ := h
                have p' : Post P AnyR lo θ st H ((evEs (evC tb m) lo env (.cons y .nil) st).bind fun ts st => (match ts with
                  | [.loc l] => (match getL st l with | some _ => .ok (Wk.enuL l) st | none => .no)
                  | _ => .no)) (fun w st' θ' H' J => WkR P lo θ' st' H' w J → R J H') (fun cls d H' => W cls d σ H') := by
                  have p : Post P AnyR lo θ st H ((evE (evC tb m) lo env y st).bind fun x st => (match x with
                    | .loc l => (match getL st l with | some _ => .ok (Wk.enuL l) st | none => .no)
                    | _ => .no)) (fun w st' θ' H' J => WkR P lo θ' st' H' w J → R J H') (fun cls d H' => W cls d σ H') := p
                  show Post P AnyR lo θ st H (((evE (evC tb m) lo env y st).bind fun t st => (Rs.ok [] st : Rs (List T)).bind fun ts st => .ok (t :: ts) st).bind _) _ _
                  cases h1 : evE (evC tb m) lo env y st with
                  | no => rw [h1] at p; exact p
                  | ex k t st1 => rw [h1] at p; exact p
                  | ok t st1 =>
                    rw [h1] at p
                    cases t <;> exact p
                refine ⟨lo, θ, st, env, nw, en, (Post.bind (VTs P) p').mono fun ts st1 θ1 H1 vs _ x1 vt p1 => ?_⟩
                split at p1
                · next l _ =>
                  obtain ⟨v, rfl, hv⟩ := vt.one_inv
                  obtain ⟨rfl, hl⟩ := hv.loc_inv
                  obtain ⟨ws, h2⟩ := x1.rel.isl hl
                  split at p1
                  · exact ⟨_, ws, rfl, .inl (.inl h2), Post.here (v := Ite X.K _) p1 x1.rel trivial (g.K ▸ wk_enuL hl)⟩
                  · exact p1.elim
                · exact p1.elim
              · cases h
            · cases h
          · exact seq h
    · exact seq h
  · split at h
    · next hp =>
      obtain ⟨y, e1, rfl⟩ := Option.map_eq_some_iff.mp h
      exact ⟨soundSeq hf g e1, fold_plain hp X.env⟩
    · cases h
end Ev

/-! Ev10: targets, comprehensions; the induction over expressions. -/
namespace Ev
open PySem L2 PySem.Spec PyProof.Rows
variable {P : Pm} {tb : List FDef} {m : Nat} {c : CC} {W : WX} {X : Cx}

/-! ### targets -/
mutual
def inTg (i : Nat) : Tg → Bool
  | .nm j => decide (i = j)
  | .tp gs => inTgs i gs
def inTgs (i : Nat) : List Tg → Bool
  | [] => false
  | g :: gs => inTg i g || inTgs i gs
end
/-- a target's reading -/
def gE (P : Pm) (g : Tg) : TG := fun v σ H Q => ∃ θ n t env env', VT P θ n H t v ∧ EnR P θ n H env σ ∧ asgT g t env = some env' ∧
  ∀ σ', EnR P θ n H env' σ' → σ'.length = σ.length → (∀ i, inTg i g = false → σ'[i]? = σ[i]?) → Q σ' H
def gsE (P : Pm) (gs : List Tg) : TGs := fun vs σ H Q => ∃ θ n ts env env', VTs P θ n H ts vs ∧ EnR P θ n H env σ ∧ asgTs gs ts env = some env' ∧
  ∀ σ', EnR P θ n H env' σ' → σ'.length = σ.length → (∀ i, inTgs i gs = false → σ'[i]? = σ[i]?) → Q σ' H
theorem assign_each {N : List Str} {sc : Scope} : ∀ {n : Nat} {es : List Expr} {gs : List Tg}, compTs N sc n es = some gs → ∀ env : Env, (assignEach es env).length = es.length ∧ (assignEach es env).findIdx? (·.1) = none ∧ gs.length = es.length
  | 0, _, _, h => by cases h
  | n + 1, [], gs, h => fun env => by cases h; exact ⟨rfl, rfl, rfl⟩
  | n + 1, e :: es, gs, h => fun env => by
    have h : (match compT N sc n e, compTs N sc n es with | some a, some b => some (a :: b) | _, _ => none) = some gs := h
    split at h
    · next a b h1 h2 =>
      cases h
      obtain ⟨i1, i2, i3⟩ := assign_each h2 env
      have hst : assignEach (e :: es) env = (false, assign e env) :: assignEach es env := by
        cases n with
        | zero => cases h1
        | succ n => cases e <;> first | rfl | cases h1
      rw [hst]
      refine ⟨congrArg Nat.succ i1, ?_, congrArg Nat.succ i3⟩
      rw [List.findIdx?_cons]
      simp [i2]
    · cases h
theorem asg_len : ∀ {gs : List Tg} {ts : List T} {env env' : En}, asgTs gs ts env = some env' → gs.length = ts.length
  | [], [], _, _, _ => rfl
  | [], _ :: _, _, _, h => by cases h
  | _ :: _, [], _, _, h => by cases h
  | g :: gs, t :: ts, env, env', h => by
    have h : (match asgT g t env with | some env' => asgTs gs ts env' | none => none) = some env' := h
    split at h
    · exact congrArg Nat.succ (asg_len h)
    · cases h
mutual
theorem soundTg {N : List Str} {sc : Scope} (hK : X.K = P.K) (hN : X.N = N) (nd : X.N.Nodup) (hc : X.calm = true) (hfn : ∀ x, isLocal sc x = true → Loc X.env.scope x ∧ (X.fn x = true ∨ X.env.scope.names.lookup x = some .local)) :
    ∀ (n : Nat) {e : Expr} {g : Tg}, compT N sc n e = some g → PG X e (gE P g)
  | 0, _, _, h => by cases h
  | n + 1, .Name x p, g, h => by
    have h : (if isLocal sc x then (idxN N x).map Tg.nm else none) = some g := h
    split at h
    · next hl =>
      obtain ⟨i, e1, rfl⟩ := Option.map_eq_some_iff.mp h
      obtain ⟨h1, h2⟩ := hfn x hl
      refine ⟨fun pins s σ H v u Q I r hh => ?_⟩
      refine (pg_name (i := i) nd (by rw [hN]; exact idx_ok e1) h1 h2).run pins s σ H v u Q I r ?_
      obtain ⟨θ, n, t, env, env', hv, en, ea, k⟩ := hh
      cases ea
      refine k _ (en.set hv i) (by simp) fun j hj => ?_
      have : i ≠ j := fun q => by
        have hj : decide (j = i) = false := hj
        rw [decide_eq_false_iff_not] at hj
        exact hj q.symm
      exact List.getElem?_set_ne this
    · cases h
  | n + 1, .Tuple es k p, g, h => by
    have h : (compTs N sc n es).map Tg.tp = some g := h
    obtain ⟨gs, e1, rfl⟩ := Option.map_eq_some_iff.mp h
    obtain ⟨i1, i2, i3⟩ := assign_each e1 X.env
    refine ⟨fun pins s σ H v u Q I r hh => ?_⟩
    refine (pg_tup hc (soundTgs hK hN nd hc hfn n e1) i1 i2).run pins s σ H v u Q I r ?_
    obtain ⟨θ, n, t, env, env', hv, en, ea, k⟩ := hh
    cases t with
    | tup ts =>
      have ea : asgTs gs ts env = some env' := ea
      obtain ⟨a, vs, rfl, h1, h2⟩ := hv.tup_inv
      refine ⟨a, vs, rfl, hK ▸ h1, by rw [← h2.length, ← asg_len ea, i3], θ, n, ts, env, env', h2, en, ea, k⟩
    | _ => cases ea
  | n + 1, .BoolOp _ _ _, _, h => by cases h
  | n + 1, .NamedExpr _ _ _, _, h => by cases h
  | n + 1, .BinOp _ _ _ _, _, h => by cases h
  | n + 1, .UnaryOp _ _ _, _, h => by cases h
  | n + 1, .Lambda _ _ _ _, _, h => by cases h
  | n + 1, .IfExp _ _ _ _, _, h => by cases h
  | n + 1, .Dict _ _ _, _, h => by cases h
  | n + 1, .Set _ _ _, _, h => by cases h
  | n + 1, .ListComp _ _ _ _, _, h => by cases h
  | n + 1, .SetComp _ _ _ _, _, h => by cases h
  | n + 1, .DictComp _ _ _ _ _, _, h => by cases h
  | n + 1, .GeneratorExp _ _ _ _, _, h => by cases h
  | n + 1, .Await _ _, _, h => by cases h
  | n + 1, .Yield _ _, _, h => by cases h
  | n + 1, .YieldFrom _ _, _, h => by cases h
  | n + 1, .Compare _ _ _ _, _, h => by cases h
  | n + 1, .Call _ _ _ _, _, h => by cases h
  | n + 1, .FormattedValue _ _ _ _, _, h => by cases h
  | n + 1, .JoinedStr _ _, _, h => by cases h
  | n + 1, .Constant _ _ _, _, h => by cases h
  | n + 1, .Attribute _ _ _, _, h => by cases h
  | n + 1, .Subscript _ _ _, _, h => by cases h
  | n + 1, .Starred _ _, _, h => by cases h
  | n + 1, .List _ _, _, h => by cases h
  | n + 1, .Slice _ _ _ _, _, h => by cases h
theorem soundTgs {N : List Str} {sc : Scope} (hK : X.K = P.K) (hN : X.N = N) (nd : X.N.Nodup) (hc : X.calm = true) (hfn : ∀ x, isLocal sc x = true → Loc X.env.scope x ∧ (X.fn x = true ∨ X.env.scope.names.lookup x = some .local)) :
    ∀ (n : Nat) {es : List Expr} {gs : List Tg}, compTs N sc n es = some gs → PGs X es (gsE P gs)
  | 0, _, _, h => by cases h
  | n + 1, [], _, h => by
    cases h
    refine ⟨fun pins s σ H vs us Q I r hh => ?_⟩
    obtain ⟨θ, n, ts, env, env', hv, en, ea, k⟩ := hh
    cases ts with
    | cons _ _ => cases ea
    | nil =>
      cases ea
      cases hv
      exact pgs_nil.run pins s σ H _ us Q I r ⟨rfl, k σ en rfl fun _ _ => rfl⟩
  | n + 1, e :: es, gs, h => by
    have h : (match compT N sc n e, compTs N sc n es with | some a, some b => some (a :: b) | _, _ => none) = some gs := h
    split at h
    · next g gs h1 h2 =>
      cases h
      have hst : (assignEach (e :: es) X.env).map (·.2) = assign e X.env :: (assignEach es X.env).map (·.2) := by
        cases n with
        | zero => cases h1
        | succ n => cases e <;> first | rfl | cases h1
      refine ⟨fun pins s σ H vs us Q I r hh => ?_⟩
      refine (pgs_cons (soundTg hK hN nd hc hfn n h1) (soundTgs hK hN nd hc hfn n h2) hst).run pins s σ H vs us Q I r ?_
      obtain ⟨θ, n, ts, env, env', hv, en, ea, k⟩ := hh
      cases hv with
      | nil => cases ea
      | cons hv hvs =>
        rename_i t ts' v vs'
        have ea : (match asgT g t env with | some env' => asgTs gs ts' env' | none => none) = some env' := ea
        split at ea
        · next env1 e1 =>
          refine ⟨v, vs', rfl, θ, n, t, env, env1, hv, en, e1, fun σ1 en1 l1 d1 => ?_⟩
          refine ⟨θ, n, ts', env1, env', hvs, en1, ea, fun σ2 en2 l2 d2 => k σ2 en2 (l2.trans l1) fun i hi => ?_⟩
          have hi : (inTg i g || inTgs i gs) = false := hi
          rw [Bool.or_eq_false_iff] at hi
          exact (d2 i hi.2).trans (d1 i hi.1)
        · cases ea
    · cases h
end
theorem wipe_get (σ : L2.St) : ∀ (vs : List Nat) (i : Nat), (wipe σ vs)[i]? = if i ∈ vs then (σ[i]?).map (fun _ => none) else σ[i]?
  | [], i => by simp [wipe]
  | v :: vs, i => by
    unfold wipe
    have ih := wipe_get σ vs i
    by_cases h : v = i
    · subst h
      rw [if_pos List.mem_cons_self]
      by_cases hl : v < σ.length
      · rw [List.getElem?_set_self (by rw [wipe_length]; exact hl), List.getElem?_eq_getElem hl]; rfl
      · rw [List.getElem?_eq_none (by rw [List.length_set, wipe_length]; omega), List.getElem?_eq_none (by omega)]; rfl
    · rw [List.getElem?_set_ne h, ih]
      have : (i ∈ v :: vs) ↔ i ∈ vs := by simp [Ne.symm h]
      by_cases hm : i ∈ vs
      · rw [if_pos hm, if_pos (this.mpr hm)]
      · rw [if_neg hm, if_neg (fun q => hm (this.mp q))]
theorem wipe_same {σ σ' : L2.St} {vs : List Nat} (h : ∀ i, i ∉ vs → σ'[i]? = σ[i]?) (hl : σ'.length = σ.length) : wipe σ' vs = wipe σ vs := by
  refine List.ext_getElem? fun i => ?_
  rw [wipe_get, wipe_get]
  by_cases hm : i ∈ vs
  · rw [if_pos hm, if_pos hm]
    by_cases hi : i < σ.length
    · rw [List.getElem?_eq_getElem hi, List.getElem?_eq_getElem (by omega)]; rfl
    · rw [List.getElem?_eq_none (by omega), List.getElem?_eq_none (by omega)]
  · rw [if_neg hm, if_neg hm, h i hm]
theorem wipe_wipe (σ : L2.St) (vs : List Nat) : wipe (wipe σ vs) vs = wipe σ vs := wipe_same (fun i hi => by rw [wipe_get, if_neg hi]) (wipe_length _ _)
mutual
theorem tgIn_ok {own : List Nat} : ∀ {g : Tg}, tgIn own g = true → ∀ i, i ∉ own → inTg i g = false
  | .nm j, h, i, hi => by
    have h : own.contains j = true := h
    rw [List.contains_iff_mem] at h
    show decide (i = j) = false
    rw [decide_eq_false_iff_not]
    intro q; subst q; exact hi h
  | .tp gs, h, i, hi => tgsIn_ok (gs := gs) h i hi
theorem tgsIn_ok {own : List Nat} : ∀ {gs : List Tg}, tgsIn own gs = true → ∀ i, i ∉ own → inTgs i gs = false
  | [], _, _, _ => rfl
  | g :: gs, h, i, hi => by
    have h : (tgIn own g && tgsIn own gs) = true := h
    rw [Bool.and_eq_true] at h
    show (inTg i g || inTgs i gs) = false
    rw [tgIn_ok h.1 i hi, tgsIn_ok h.2 i hi]; rfl
end
/-- the context of a comprehension's block -/
theorem Good.blk (g : Good P tb m c W X) (s : Shared) (H : Hp) (C : Addr) (cl : List (Str × Addr)) (fp : List Addr) (scope : Scope) :
    Good P tb m { c with sc := relS scope c.sc } (fun _ _ _ _ => False) (X.blk s H scope (compEnvC scope cl C X.env) fp) :=
  ⟨g.K, g.N, by rw [← g.sc]; rfl, g.calm, g.nd, g.room, g.fns, fun k d h => let ⟨e, kp, c⟩ := g.fat k d h; ⟨e, kp, c⟩, g.cs, g.bl, takes0, PassesOwn.never⟩
theorem lookup_rel {scope sc : Scope} {x : Str} {k : NameKind} (hk : k ≠ .free) : ∀ {names : List (Str × NameKind)}, names.lookup x = some k →
    (names.map fun (n, k) => if (k == NameKind.free && sc.kind == .function && sc.names.lookup n == some .cell) then (n, NameKind.cell) else (n, k)).lookup x = some k
  | [], h => by cases h
  | (n, k0) :: r, h => by
    rw [List.map_cons]
    cases hx : x == n with
    | true =>
      rw [List.lookup_cons, hx] at h
      cases h
      have : ((k == NameKind.free && sc.kind == .function && sc.names.lookup n == some .cell)) = false := by
        have : (k == NameKind.free) = false := by cases k <;> first | rfl | exact absurd rfl hk
        rw [this]; rfl
      show List.lookup x ((if (k == NameKind.free && sc.kind == .function && sc.names.lookup n == some .cell) = true then (n, .cell) else (n, k)) :: _) = _
      rw [this, if_neg (by simp), List.lookup_cons, hx]
    | false =>
      rw [List.lookup_cons, hx] at h
      have ih := lookup_rel (scope := scope) (sc := sc) hk h
      show List.lookup x ((if (k0 == NameKind.free && sc.kind == .function && sc.names.lookup n == some .cell) = true then (n, .cell) else (n, k0)) :: _) = _
      split
      · rw [List.lookup_cons, hx]; exact ih
      · rw [List.lookup_cons, hx]; exact ih

mutual
theorem VT.bel_to {θ θ' : Nat → Addr} {n n' : Nat} {H : Hp} (ag : ∀ i, i < n → θ' i = θ i) (hn : n ≤ n') : ∀ {t : T} {v : V}, VT P θ' n' H t v → t.bel n = true → VT P θ n H t v
  | _, _, .non, _ => .non
  | _, _, .bl b, _ => .bl b
  | _, _, .int i, _ => .int i
  | _, _, .str s h1 h2, _ => .str s h1 h2
  | _, _, .tup h hs, hb => .tup h (VTs.bel_to ag hn hs hb)
  | _, _, .kl h hs, hb => .kl (by
      rcases h with h | h | ⟨h, h'⟩
      · exact .inl h
      · exact .inr (.inl h)
      · exact .inr (.inr ⟨h, fun i hi => by rw [← ag i hi]; exact h' i (Nat.lt_of_lt_of_le hi hn)⟩)) (VTs.bel_to ag hn hs hb)
  | _, _, .loc l h, hb => by
    have hl : l < n := Nat.le_of_ble_eq_true hb
    rw [ag l hl]; exact .loc l hl
  | _, _, .fn k, _ => .fn k
theorem VTs.bel_to {θ θ' : Nat → Addr} {n n' : Nat} {H : Hp} (ag : ∀ i, i < n → θ' i = θ i) (hn : n ≤ n') : ∀ {t : List T} {v : List V}, VTs P θ' n' H t v → T.bels n t = true → VTs P θ n H t v
  | _, _, .nil, _ => .nil
  | _, _, .cons (t := t) (ts := ts) h hs, hb => by
    have hb : (t.bel n && T.bels n ts) = true := hb
    rw [Bool.and_eq_true] at hb
    exact .cons (VT.bel_to ag hn h hb.1) (VTs.bel_to ag hn hs hb.2)
end
theorem Rel.nil {θ : Nat → Addr} {H : Hp} : Rel P θ [] H := ⟨fun i j hi => absurd hi (Nat.not_lt_zero _), fun i o e => by cases e⟩
theorem sealK_post {lo : Nat} {θ : Nat → Addr} {st : Sto} {H : Hp} {r : Rs T} {Q : VK} {E : XK} (nw : Now P lo θ st H) (p : Post P (VT P) lo θ st H (sealK st r) (fun _ _ _ H' v => Q v H') E) :
    Post P (VT P) st.length θ st H r (fun _ _ _ H' v => Q v H') E := by
  have key : ∀ {θ' st' H'}, Ext P st.length θ st H θ' st' H' → Ext P lo θ st H θ st H' := fun {θ' st' H'} x => Ext.same nw.rel fun b o e => by
    rcases x.keep b o e with ⟨i, h1, h2, _⟩ | h
    · omega
    · exact h
  cases r with
  | no => exact p
  | ok t st' =>
    intro θ' H' v x vt
    have p : Post P (VT P) lo θ st H (match frzT st' st.length t with | some u => Rs.ok u st | none => .no) (fun _ _ _ H' v => Q v H') E := p
    split at p
    · next u e =>
      refine p θ H' v (key x) ?_
      unfold frzT at e
      split at e
      · next l =>
        split at e
        · next hl =>
          split at e
          · next xs e2 =>
            split at e
            · next hb =>
              cases e
              obtain ⟨rfl, hl'⟩ := vt.loc_inv
              obtain ⟨vs, h1, h2⟩ := x.rel.lst (getL_some e2)
              refine .kl (.inr (.inr ⟨h2, fun i hi q => ?_⟩)) (VTs.bel_to x.ag x.len h1 hb)
              rw [← x.ag i hi] at q
              have := x.rel.inj i l (Nat.lt_of_lt_of_le hi x.len) hl' q
              omega
            · cases e
          · cases e
        · cases e
      · split at e
        · next hb => cases e; exact VT.bel_to x.ag x.len vt hb
        · cases e
    · exact p.elim
  | ex k t st' =>
    intro θ' H' cls d x xt
    have p : Post P (VT P) lo θ st H (if t.bel st.length then Rs.ex k t st else .no) (fun _ _ _ H' v => Q v H') E := p
    split at p
    · next hb =>
      obtain ⟨h1, dx, v, h2, h3, h4⟩ := xt
      exact p θ H' cls d (key x) ⟨h1, dx, v, h2, h3, VT.bel_to x.ag x.len h4 hb⟩
    · exact p.elim
theorem r_frz {x : E} {σ : L2.St} {H : Hp} {Q : VK} (h : teE P tb m W (.frz x) σ H Q) : teE P tb m W x σ H Q := by
  obtain ⟨lo, θ, st, env, nw, en, p⟩ := h
  exact ⟨st.length, θ, st, env, ⟨Nat.le_refl _, nw.rel⟩, en, sealK_post nw p⟩
theorem r_frzIf {mu : Bool} {x : E} {σ : L2.St} {H : Hp} {Q : VK} (h : teE P tb m W (frzIf mu x) σ H Q) : teE P tb m W x σ H Q := by
  cases mu with
  | true => exact h
  | false => exact r_frz h
abbrev cndF (cl : Nat → Nat → List T → Sto → Rs T) (lo : Nat) : OE → Option (En → Sto → Rs T)
  | .non => none
  | .som t => some fun env' st => evE cl lo env' t st
theorem evE_lc (cl : Nat → Nat → List T → Sto → Rs T) (lo : Nat) (env : En) (g : Tg) (own : List Nat) (c : OE) (elt : E) (it : I) (st : Sto) :
    evE cl lo env (.lc elt g it c own) st = (evI cl lo env it st).bind fun it st => (loopC (eltF (cndF cl lo c) (fun env' st => evE cl lo env' elt st) env g own) it st.length turns 0 (st ++ [.lst []])).bind fun _ st' => .ok (.loc st.length) st' := by
  cases c <;> rfl
theorem eltF_none {cond : Option (En → Sto → Rs T)} {elt : En → Sto → Rs T} {env : En} {g : Tg} {own : List Nat} {x : T} {st : Sto} (h : asgT g x (wipeE env own) = none) : eltF cond elt env g own x st = .no := by
  unfold eltF; rw [h]
theorem eltF_non {elt : En → Sto → Rs T} {env env' : En} {g : Tg} {own : List Nat} {x : T} {st : Sto} (h : asgT g x (wipeE env own) = some env') : eltF none elt env g own x st = (elt env' st).bind fun y st => .ok (some y) st := by
  unfold eltF; rw [h]
theorem eltF_som {cond elt : En → Sto → Rs T} {env env' : En} {g : Tg} {own : List Nat} {x : T} {st : Sto} (h : asgT g x (wipeE env own) = some env') : eltF (some cond) elt env g own x st = (cond env' st).bind fun k st => (match truth st k with
      | some true => (elt env' st).bind fun y st => .ok (some y) st
      | some false => .ok none st
      | none => .no) := by
  unfold eltF; rw [h] <;> rfl
/-- behind the turn's element -/
theorem Post.elt {lo : Nat} {θ : Nat → Addr} {st : Sto} {H : Hp} {r : Rs T} {F : T → Sto → Rs Unit} {Q : Unit → Sto → (Nat → Addr) → Hp → Unit → Prop} {W : XK}
    (p : Post P AnyR lo θ st H (match r.bind fun y st => .ok (some y) st with | .ok none st' => .no | .ok (some y) st' => F y st' | .ex _ _ _ => .no | .no => .no) Q W) {W' : XK} :
    Post P (VT P) lo θ st H r (fun y st1 θ1 H1 _ => Post P AnyR lo θ1 st1 H1 (F y st1) Q W) W' := by
  cases r with
  | no => exact p
  | ex k t st' => exact p.elim
  | ok y st' => exact fun θ1 H1 v x1 _ => Post.later (P := P) (r := F y st') p x1
def condT (P : Pm) (tb : List FDef) (m : Nat) : OE → TT
  | .non => tYes
  | .som t => ttE P tb m (fun _ _ _ _ => False) t
/-- a comprehension, its parts' readings given -/
theorem s_lc {f : Expr → Option E} (hf : SE P tb m c f) (g : Good P tb m c W X) {elt tg it : Expr} {ifs : List Expr} {scope : Scope} {gt : Tg} {xi : I} {xc : OE} {xe : E} {pos : Pos}
    (hb : L2.blkC c.N c.sc scope (ownOf c.N scope) = true) (hin : tgIn ((ownOf c.N scope).map (·.2)) gt = true) (hi : PI X tg it (tiE P tb m W xi)) (hs : ∀ v, foldedSetIterable it X.env v = pure v)
    (hg : ∀ (s : Shared) (H : Hp) (C : Addr) (cl : List (Str × Addr)) (fp : List Addr), PG (X.blk s H scope (compEnvC scope cl C X.env) fp) tg (gE P gt))
    (ht : ∀ (s : Shared) (H : Hp) (C : Addr) (cl : List (Str × Addr)) (fp : List Addr), PTs (X.blk s H scope (compEnvC scope cl C X.env) fp) ifs (condT P tb m xc))
    (he : ∀ (s : Shared) (H : Hp) (C : Addr) (cl : List (Str × Addr)) (fp : List Addr), PE (X.blk s H scope (compEnvC scope cl C X.env) fp) elt (teE P tb m (fun _ _ _ _ => False) xe)) :
    (∀ σ H Q, teE P tb m W (.lc xe gt xi xc ((ownOf c.N scope).map (·.2))) σ H Q → tLc (tiE P tb m W xi) (gE P gt) (condT P tb m xc) (teE P tb m (fun _ _ _ _ => False) xe) ((ownOf c.N scope).map (·.2)) σ H Q) ∧
    PE X (.ListComp elt [⟨tg, it, ifs, 0⟩] scope pos) (teE P tb m W (.lc xe gt xi xc ((ownOf c.N scope).map (·.2)))) := by
  have ok : BlkOk X.N X.env.scope scope (ownOf c.N scope) := by rw [g.N, g.sc]; exact blkOk_by hb
  have main : ∀ σ H Q, teE P tb m W (.lc xe gt xi xc ((ownOf c.N scope).map (·.2))) σ H Q → tLc (tiE P tb m W xi) (gE P gt) (condT P tb m xc) (teE P tb m (fun _ _ _ _ => False) xe) ((ownOf c.N scope).map (·.2)) σ H Q := by
    intro σ H Q h
    obtain ⟨lo, θ, st, env, nw, en, p⟩ := h
    rw [evE_lc] at p
    generalize hown : (ownOf c.N scope).map (·.2) = own at p hin ⊢
    refine ⟨lo, θ, st, env, nw, en, (Post.bind (AnyR (β := L2.It)) p).mono fun w st1 θ1 H1 J _ x1 _ p1 => ?_⟩
    intro wk D hD
    have nw1 := nw.later x1
    have x0 := Ext.laid (P := P) (lo := lo) nw1.rel hD (xs := []) (vs := []) .nil
    generalize hθ0 : lay θ1 st1.length D = θ0 at x0
    have hD0 : θ0 st1.length = D := by rw [← hθ0]; exact if_pos rfl
    have hn : st1.length < (st1 ++ [O.lst []]).length := by simp
    have p0 := Post.bind (AnyR (β := Unit)) (Post.later p1 x0)
    generalize hst0 : st1 ++ [O.lst []] = st0 at x0 p0 hn
    generalize hH0 : upd H1 D (.lst []) = H0 at x0 p0
    refine ⟨fun i mm H' => ∃ θ2 st2, Ext P lo θ0 st0 H0 θ2 st2 H' ∧ Post P (AnyR (β := Unit)) lo θ2 st2 H' (loopC (eltF (cndF (evC tb m) lo xc) (fun env' st => evE (evC tb m) lo env' xe st) env gt own) w st1.length mm i st2) (fun _ st' θ' H'' _ => Post P (VT P) lo θ' st' H'' (.ok (.loc st1.length) st') (fun _ _ _ H' v => Q v H') (fun cls d H' => W cls d σ H')) (fun cls d H' => W cls d σ H'), ⟨turns, θ0, st0, Ext.refl x0.rel, p0⟩, ?_⟩
    intro i mm H2 hw
    obtain ⟨θ2, st2, x2, q⟩ := hw
    cases mm with
    | zero => exact q.elim
    | succ mm =>
      have q : Post P (AnyR (β := Unit)) lo θ2 st2 H2 (match w.at i st2 with
        | none => .no
        | some none => .ok () st2
        | some (some x) => match eltF (cndF (evC tb m) lo xc) (fun env' st => evE (evC tb m) lo env' xe st) env gt own x st2 with
          | .ok none st' => loopC (eltF (cndF (evC tb m) lo xc) (fun env' st => evE (evC tb m) lo env' xe st) env gt own) w st1.length mm (i + 1) st'
          | .ok (some y) st' => (match getL st' st1.length with
            | some acc => if acc.length < sizeL then loopC (eltF (cndF (evC tb m) lo xc) (fun env' st => evE (evC tb m) lo env' xe st) env gt own) w st1.length mm (i + 1) (putL st' st1.length (acc ++ [y])) else .no
            | none => .no)
          | .ex _ _ _ => .no
          | .no => .no) (fun _ st' θ' H'' _ => Post P (VT P) lo θ' st' H'' (.ok (.loc st1.length) st') (fun _ _ _ H' v => Q v H') (fun cls d H' => W cls d σ H')) (fun cls d H' => W cls d σ H') := q
      have wk2 := wk θ2 st2 H2 (x0.trans x2) i
      cases ea : w.at i st2 with
      | none => rw [ea] at q; exact q.elim
      | some o =>
        rw [ea] at q wk2
        cases o with
        | none =>
          refine .inl ⟨wk2.1 rfl, ?_⟩
          have q2 := Post.here (v := ()) q x2.rel trivial
          have hv : VT P θ2 st2.length H2 (.loc st1.length) (.ref D) := by
            have := VT.loc (P := P) (θ := θ2) (n := st2.length) (H := H2) st1.length (Nat.lt_of_lt_of_le hn x2.len)
            rw [x2.ag _ hn, hD0] at this
            exact this
          exact Post.here q2 x2.rel hv
        | some t =>
          obtain ⟨hgo, hy⟩ := wk2.2 t rfl
          refine .inr ⟨hgo, fun H' => ∃ θ3 st3, Ext P lo θ0 st0 H0 θ3 st3 H' ∧ Post P (AnyR (β := Unit)) lo θ3 st3 H' (loopC (eltF (cndF (evC tb m) lo xc) (fun env' st => evE (evC tb m) lo env' xe st) env gt own) w st1.length mm (i + 1) st3) (fun _ st' θ' H'' _ => Post P (VT P) lo θ' st' H'' (.ok (.loc st1.length) st') (fun _ _ _ H' v => Q v H') (fun cls d H' => W cls d σ H')) (fun cls d H' => W cls d σ H'), fun H' h => ⟨mm, Nat.lt_succ_self _, h⟩, ?_⟩
          intro x H3 yl
          obtain ⟨x3, vt⟩ := hy x H3 yl
          have q := Post.later q x3
          dsimp only at q
          have en2 := (x0.trans x2).trans x3 |>.en nw1.rel (x1.en nw.rel en) |>.wipe own
          cases e1 : asgT gt t (wipeE env own) with
          | none => rw [eltF_none e1] at q; exact q.elim
          | some env' =>
            refine ⟨θ2, st2.length, t, _, env', vt, en2, e1, fun σ2 en3 l2 d2 => ?_⟩
            have hwipe : wipe σ2 own = wipe σ own := by
              rw [← wipe_wipe σ own]
              exact wipe_same (fun i hi => d2 i (tgIn_ok hin i hi)) l2
            refine ⟨hwipe, ?_⟩
            have nw3 : Now P lo θ2 st2 H3 := ((nw1.later x0).later x2).later x3
            -- the element
            have fin : ∀ {θ4 st4 H4}, Ext P lo θ0 st0 H0 θ4 st4 H4 → Now P lo θ4 st4 H4 → EnR P θ4 st4.length H4 env' σ2 → ∀ {W'' : XK},
                Post P AnyR lo θ4 st4 H4 (match (evE (evC tb m) lo env' xe st4).bind fun y st => .ok (some y) st with
                  | .ok none st' => .no
                  | .ok (some y) st' => (match getL st' st1.length with
                    | some acc => if acc.length < sizeL then loopC (eltF (cndF (evC tb m) lo xc) (fun env' st => evE (evC tb m) lo env' xe st) env gt own) w st1.length mm (i + 1) (putL st' st1.length (acc ++ [y])) else .no
                    | none => .no)
                  | .ex _ _ _ => .no
                  | .no => .no) (fun _ st' θ' H'' (_ : Unit) => Post P (VT P) lo θ' st' H'' (.ok (.loc st1.length) st') (fun _ _ _ H' v => Q v H') (fun cls d H' => W cls d σ H')) (fun cls d H' => W cls d σ H') →
                teE P tb m (fun _ _ _ _ => False) xe σ2 H4 (fun y H4 => ∃ acc, H4 D = some (.lst acc) ∧ acc.length < sizeLine ∧ (fun H' => ∃ θ3 st3, Ext P lo θ0 st0 H0 θ3 st3 H' ∧ Post P (AnyR (β := Unit)) lo θ3 st3 H' (loopC (eltF (cndF (evC tb m) lo xc) (fun env' st => evE (evC tb m) lo env' xe st) env gt own) w st1.length mm (i + 1) st3) (fun _ st' θ' H'' _ => Post P (VT P) lo θ' st' H'' (.ok (.loc st1.length) st') (fun _ _ _ H' v => Q v H') (fun cls d H' => W cls d σ H')) (fun cls d H' => W cls d σ H')) (upd H4 D (.lst (acc ++ [y])))) := by
              intro θ4 st4 H4 x4 nw4 en4 W'' q4
              refine ⟨lo, θ4, st4, env', nw4, en4, (Post.elt q4).mono fun y st5 θ5 H5 v _ x5 vy q5 => ?_⟩
              have x45 := x4.trans x5
              have hn5 : st1.length < st5.length := Nat.lt_of_lt_of_le hn x45.len
              split at q5
              · next acc e5 =>
                split at q5
                · next hl =>
                  obtain ⟨vs, h1, h3⟩ := x5.rel.lst (getL_some e5)
                  have hDD : θ5 st1.length = D := by rw [x45.ag _ hn, hD0]
                  have h3' := h3
                  rw [hDD] at h3'
                  have x6 := Ext.put (P := P) (lo := lo) x5.rel nw1.le (getL_some e5) (h1.append (.cons vy .nil))
                  rw [hDD] at x6
                  exact ⟨vs, h3', by rw [← h1.length, sizeLine_eq]; exact hl, θ5, _, x45.trans x6, Post.later q5 x6⟩
                · exact q5.elim
              · exact q5.elim
            cases xc with
            | non =>
              dsimp only [condT, tYes]
              rw [if_pos rfl]
              refine fin (x2.trans x3) nw3 en3 (W'' := fun _ _ _ => False) ?_
              rw [show cndF (evC tb m) lo .non = none from rfl, eltF_non e1] at q
              cases hr : evE (evC tb m) lo env' xe st2 with
              | no => rw [hr] at q; exact q
              | ex k t st' => rw [hr] at q; exact q
              | ok y st' => rw [hr] at q; exact q
            | som tc =>
              refine ⟨lo, θ2, st2, env', nw3, en3, ?_⟩
              unfold evT
              rw [show cndF (evC tb m) lo (.som tc) = some fun env' st => evE (evC tb m) lo env' tc st from rfl, eltF_som e1] at q
              cases hr : evE (evC tb m) lo env' tc st2 with
              | no => rw [hr] at q; exact q
              | ex k t st' => rw [hr] at q; exact q.elim
              | ok k st' =>
                rw [hr] at q
                show Post P EqR lo θ2 st2 H3 (Rs.of (truth st' k) st') _ _
                have q : Post P AnyR lo θ2 st2 H3 (match (match truth st' k with
                  | some true => (evE (evC tb m) lo env' xe st').bind fun y st => Rs.ok (some y) st
                  | some false => .ok none st'
                  | none => .no) with
                  | .ok none st' => loopC (eltF (some fun env' st => evE (evC tb m) lo env' tc st) (fun env' st => evE (evC tb m) lo env' xe st) env gt own) w st1.length mm (i + 1) st'
                  | .ok (some y) st' => (match getL st' st1.length with
                    | some acc => if acc.length < sizeL then loopC (eltF (some fun env' st => evE (evC tb m) lo env' tc st) (fun env' st => evE (evC tb m) lo env' xe st) env gt own) w st1.length mm (i + 1) (putL st' st1.length (acc ++ [y])) else .no
                    | none => .no)
                  | .ex _ _ _ => .no
                  | .no => .no) (fun _ st' θ' H'' (_ : Unit) => Post P (VT P) lo θ' st' H'' (.ok (.loc st1.length) st') (fun _ _ _ H' v => Q v H') (fun cls d H' => W cls d σ H')) (fun cls d H' => W cls d σ H') := q
                cases et : truth st' k with
                | none => rw [et] at q; exact q
                | some b =>
                  rw [et] at q
                  intro θ4 H4 vb x4 rv
                  cases rv
                  have q := Post.later q x4
                  cases b with
                  | false =>
                    exact iteF ⟨θ4, st', (x2.trans x3).trans x4, q⟩
                  | true =>
                    dsimp only at q ⊢
                    rw [if_pos rfl]
                    refine fin ((x2.trans x3).trans x4) (nw3.later x4) (x4.en nw3.rel en3) (W'' := fun _ _ _ => False) ?_
                    cases hr2 : evE (evC tb m) lo env' xe st' with
                    | no => rw [hr2] at q; exact q
                    | ex k t st' => rw [hr2] at q; exact q
                    | ok y st' => rw [hr2] at q; exact q
  exact ⟨main, ⟨fun pins s σ H Q I h => (pe_lc g.calm g.nd hi ok hg ht he hs).run pins s σ H Q I (main σ H Q h)⟩⟩
end Ev

/-! Ev11: the induction over expressions. -/
namespace Ev
open PySem L2 PySem.Spec PyProof.Rows
variable {P : Pm} {tb : List FDef} {m : Nat} {c : CC} {W : WX} {X : Cx}

theorem s_name {n : Nat} {x : Str} {p : Pos} {y : E} (g : Good P tb m c W X) (h : compE (n + 1) c (.Name x p) = some y) : PE X (.Name x p) (teE P tb m W y) := by
  dsimp only [compE] at h
  split at h
  · next hx =>
    split at h
    · next hv =>
      obtain ⟨i, e, rfl⟩ := Option.map_eq_some_iff.mp h
      exact s_var g hx hv e
    · split at h
      · next hg =>
        obtain ⟨hdb, _, _⟩ := okName_ok hx
        split at h
        · next k e =>
          cases h
          exact s_cst (pe_glob (g.glob hg) (g.fns x k e).1 (v := .ref (P.fa k)) rfl hdb) fun _ _ _ => .fn k
        · obtain ⟨t, e, rfl⟩ := Option.map_eq_some_iff.mp h
          obtain ⟨u, v, h1, h2, h3⟩ := g.cs x t e
          exact s_cst (pe_glob (g.glob hg) h1 h2 hdb) h3
      · cases h
  · cases h
theorem s_const {n : Nat} {v : Const} {k : Nat} {p : Pos} {y : E} (h : compE (n + 1) c (.Constant v k p) = some y) : PE X (.Constant v k p) (teE P tb m W y) := by
  dsimp only [compE] at h
  cases v with
  | none => cases h; exact s_cst pe_non fun _ _ _ => .non
  | bool b => cases h; exact s_cst pe_bl fun _ _ _ => .bl b
  | int i => cases h; exact s_cst pe_int fun _ _ _ => .int i
  | str s =>
    dsimp only at h
    split at h
    · next hc =>
      cases h
      rw [Bool.and_eq_true, decide_eq_true_iff] at hc
      have e : (⟨s.cps.toList.toArray⟩ : Str) = s := by simp
      refine s_cst (v := .str s) pe_str fun θ n H => ?_
      have := VT.str (P := P) (θ := θ) (n := n) (H := H) s.cps.toList (by rw [sizeLine_eq]; exact hc.1) hc.2
      rw [e] at this
      exact this
    · cases h
  | _ => cases h
/-- what a comprehension's translation says of its parts -/
theorem lc_parts {n : Nat} (ihE : ∀ c, SE P tb m c (compE n c)) (ihT : ∀ c, STs P tb m c (compE n c)) (g : Good P tb m c W X) {elt : Expr} {gens : List Comprehension} {scope : Scope} {p : Pos} {y : E} (h : compE (n + 1) c (.ListComp elt gens scope p) = some y) :
    ∃ tg it ifs gt xi xc xe, gens = [⟨tg, it, ifs, 0⟩] ∧ (∃ mu, y = frzIf mu (.lc xe gt xi xc ((ownOf c.N scope).map (·.2)))) ∧ True ∧ True ∧ PI X tg it (tiE P tb m W xi) ∧ (∀ v, foldedSetIterable it X.env v = pure v) ∧
      (∀ (s : Shared) (H : Hp) (C : Addr) (cl : List (Str × Addr)) (fp : List Addr), PG (X.blk s H scope (compEnvC scope cl C X.env) fp) tg (gE P gt)) ∧
      (∀ (s : Shared) (H : Hp) (C : Addr) (cl : List (Str × Addr)) (fp : List Addr), PTs (X.blk s H scope (compEnvC scope cl C X.env) fp) ifs (condT P tb m xc)) ∧
      (∀ (s : Shared) (H : Hp) (C : Addr) (cl : List (Str × Addr)) (fp : List Addr), PE (X.blk s H scope (compEnvC scope cl C X.env) fp) elt (teE P tb m (fun _ _ _ _ => False) xe)) ∧
      tgIn ((ownOf c.N scope).map (·.2)) gt = true ∧ L2.blkC c.N c.sc scope (ownOf c.N scope) = true := by
  have hf := ihE c
  dsimp only [compE] at h
  split at h
  · next tg it ifs asy =>
    split at h
    · next hc =>
      simp only [Bool.and_eq_true, decide_eq_true_iff] at hc
      obtain ⟨⟨rfl, hb⟩, hpl⟩ := hc
      split at h
      · next gt xi xe e1 e2 e3 =>
        split at h
        · next hin =>
          obtain ⟨hi, hs⟩ := soundI hf g e2
          have hg : ∀ (s : Shared) (H : Hp) (C : Addr) (cl : List (Str × Addr)) (fp : List Addr), PG (X.blk s H scope (compEnvC scope cl C X.env) fp) tg (gE P gt) := fun s H C cl fp => by
            refine soundTg (X := X.blk s H scope (compEnvC scope cl C X.env) fp) g.K g.N g.nd g.calm (fun y hy => ?_) 10 e1
            have hsc : (compEnvC scope cl C X.env).scope.names = scope.names.map fun (n, k) => if (k == NameKind.free && X.env.scope.kind == .function && X.env.scope.names.lookup n == some .cell) then (n, NameKind.cell) else (n, k) := rfl
            unfold isLocal at hy
            split at hy
            · next e =>
              have := lookup_rel (scope := scope) (sc := X.env.scope) (by decide) e
              rw [← hsc] at this
              exact ⟨.inl this, .inr this⟩
            · next e =>
              have := lookup_rel (scope := scope) (sc := X.env.scope) (by decide) e
              rw [← hsc] at this
              exact ⟨.inr this, .inl (by show (scope.names.lookup y == some .cell) = true; rw [e]; rfl)⟩
            · cases hy
          have he := fun (s : Shared) (H : Hp) (C : Addr) (cl : List (Str × Addr)) (fp : List Addr) => ihE { c with sc := L2.relS scope c.sc } elt xe e3 _ _ (g.blk s H C cl fp scope)
          split at h
          · cases h
            exact ⟨tg, it, _, gt, xi, .non, xe, rfl, ⟨_, rfl⟩, trivial, trivial, hi, hs, hg, fun s H C cl fp => pts_nil, he, hin, hb⟩
          · next t =>
            obtain ⟨y, e4, rfl⟩ := Option.map_eq_some_iff.mp h
            exact ⟨tg, it, _, gt, xi, .som y, xe, rfl, ⟨_, rfl⟩, trivial, trivial, hi, hs, hg, fun s H C cl fp => pts_one (ihT { c with sc := L2.relS scope c.sc } t y e4 _ _ (g.blk s H C cl fp scope)), he, hin, hb⟩
          · cases h
        · cases h
      · cases h
    · cases h
  · cases h
theorem soundAll : ∀ n : Nat, (∀ c, SE P tb m c (compE n c)) ∧ (∀ c, STs P tb m c (compE n c)) ∧ ∀ c op p vs x, compE n c (.BoolOp op vs p) = some x → ∀ W X, Good P tb m c W X → PW X (.BoolOp op vs p) (ttE P tb m W x) := by
  intro n
  induction n with
  | zero => exact ⟨fun c e x h => (by cases h), fun c e x h => (by cases h), fun c op p vs x h => (by cases h)⟩
  | succ n ih =>
    obtain ⟨ihE, ihT, ihW⟩ := ih
    have hE : ∀ c, SE P tb m c (compE (n + 1) c) := by
      intro c e x h W X g
      have hf := ihE c
      have hft := ihT c
      cases e with
      | Name x p => exact s_name g h
      | Constant v k p => exact s_const h
      | Tuple es k p =>
        obtain ⟨xs, e, rfl⟩ := Option.map_eq_some_iff.mp (show (compL (compE n c) es).map E.tup = some x from h)
        exact s_tup hf g e
      | List es p =>
        obtain ⟨xs, e, rfl⟩ := Option.map_eq_some_iff.mp (show (compL (compE n c) es).map (if isMu c.mu p then E.lst else E.klst) = some x from h)
        split
        · exact s_lst hf g e
        · exact s_klst hf g e
      | BinOp a op b p =>
        dsimp only [compE] at h
        split at h
        · next e1 e2 e3 => cases h; exact s_bin hf g e1 e3 e2
        · cases h
      | UnaryOp op a p =>
        dsimp only [compE] at h
        cases op with
        | Not => obtain ⟨y, e, rfl⟩ := Option.map_eq_some_iff.mp h; exact s_not hf g e
        | USub => obtain ⟨y, e, rfl⟩ := Option.map_eq_some_iff.mp h; exact s_neg hf g e
        | _ => cases h
      | BoolOp op vs p =>
        dsimp only [compE] at h
        match vs, h with
        | [], h => cases h
        | [a], h => exact pe_one (hf a x h W X g)
        | a :: b :: rest, h =>
          dsimp only at h
          split at h
          · next e1 e2 =>
            cases op with
            | And => cases h; exact s_and hf g e1 e2
            | Or => cases h; exact s_or hf g e1 e2
          · cases h
      | Compare a ops bs p =>
        dsimp only [compE] at h
        split at h
        · split at h
          · next hp =>
            split at h
            · next e1 e2 => cases h; exact s_cmp hf g e1 e2 hp
            · cases h
          · cases h
        · split at h
          · next hp =>
            rw [Bool.and_eq_true] at hp
            split at h
            · next e1 e2 e3 => cases h; exact s_chain hf g e1 e2 e3 hp.2
            · cases h
          · cases h
        · cases h
      | IfExp t a b p =>
        dsimp only [compE] at h
        split at h
        · next e1 e2 e3 => cases h; exact s_ife hf hft g e1 e2 e3
        · cases h
      | Subscript a i p =>
        dsimp only [compE] at h
        split at h
        · next lo hi st p1 =>
          split at h
          · split at h
            · next e1 e2 e3 => cases h; exact s_sl hf g e1 e2 e3
            · cases h
          · next s =>
            split at h
            · next hc =>
              simp only [Bool.and_eq_true, Option.isNone_iff_eq_none] at hc
              obtain ⟨⟨h1, rfl⟩, rfl⟩ := hc
              obtain ⟨y, e, rfl⟩ := Option.map_eq_some_iff.mp h
              exact s_rev hf g e h1
            · cases h
        · split at h
          · next hp =>
            split at h
            · next e1 e2 => cases h; exact s_ix hf g e1 e2 hp
            · cases h
          · cases h
      | Call f args kws cpos =>
        dsimp only [compE] at h
        split at h
        · next nm p0 =>
          split at h
          · next hx =>
            split at h
            · next hg =>
              split at h
              · next k e =>
                split at h
                · obtain ⟨xs, e1, rfl⟩ := Option.map_eq_some_iff.mp h
                  exact s_call hf g hx hg e e1
                · split at h
                  · next q a as ks e1 e2 e3 =>
                    cases h
                    have hq := List.mem_of_find?_eq_some e1
                    have hc := List.find?_some e1
                    simp only [Bool.and_eq_true, decide_eq_true_iff] at hc
                    cases args with
                    | nil => cases e2
                    | cons a0 as0 => exact s_callk hf g hx hg e e2 e3 hq hc.1.1 hc.1.2 hc.2
                  · cases h
              · next e =>
                split at h
                · cases h
                · next hn =>
                  simp only [Bool.or_eq_true, not_or, Bool.not_eq_true, Bool.not_eq_false', List.isEmpty_iff] at hn
                  obtain ⟨_, rfl⟩ := hn
                  split at h
                  · next hi =>
                    subst hi
                    split at h
                    · split at h
                      · next hc =>
                        simp only [Bool.and_eq_true] at hc
                        split at h
                        · next e1 e2 => cases h; exact s_isi hf g hg e1 hc.1.1.1 hc.1.1.2 e2
                        · cases h
                      · cases h
                    · cases h
                  · split at h
                    · next e1 =>
                      obtain ⟨xs, e2, rfl⟩ := Option.map_eq_some_iff.mp h
                      exact s_bi hf g _ hx hg e1 e2
                    · cases h
            · split at h
              · next hc =>
                simp only [Bool.and_eq_true, List.isEmpty_iff] at hc
                obtain ⟨hv, rfl⟩ := hc
                split at h
                · next e1 =>
                  obtain ⟨xs, e2, rfl⟩ := Option.map_eq_some_iff.mp h
                  exact s_cvar hf g hx hv e1 e2
                · cases h
              · cases h
          · cases h
        · split at h
          · next hc =>
            simp only [Bool.and_eq_true, List.isEmpty_iff] at hc
            obtain ⟨⟨⟨⟨hb, rfl⟩, hl⟩, hp⟩, hn⟩ := hc
            split at h
            · next e1 e2 e3 => cases h; exact s_mt hf g e2 hb hl hn e1 e3
            · cases h
          · cases h
        · cases h
      | ListComp elt gens scope p =>
        obtain ⟨tg, it, ifs, gt, xi, xc, xe, rfl, ⟨mu, rfl⟩, _, _, hi, hs, hg, ht, he, hin, hb⟩ := lc_parts ihE ihT g h
        exact ⟨fun pins s σ H Q I hh => (s_lc hf g hb hin hi hs hg ht he).2.run pins s σ H Q I (r_frzIf hh)⟩
      | _ => cases h
    have hW : ∀ c op p vs x, compE (n + 1) c (.BoolOp op vs p) = some x → ∀ W X, Good P tb m c W X → PW X (.BoolOp op vs p) (ttE P tb m W x) := by
      intro c op p vs x h W X g
      dsimp only [compE] at h
      match vs, h with
      | [], h => cases h
      | [a], h =>
        have := ihT c a x h W X g
        cases op with
        | And => exact pw_and1 this
        | Or => exact pw_or1 this
      | a :: b :: rest, h =>
        dsimp only at h
        split at h
        · next e1 e2 =>
          have := t_andor (op := op) (ihT c) (fun p vs x h W X g => ihW c op p vs x h W X g) g e1 e2
          cases op with
          | And => cases h; exact this
          | Or => cases h; exact this
        · cases h
    refine ⟨hE, fun c e x h W X g => ?_, hW⟩
    by_cases hw : wholeE e = true
    · exact t_whole g (hE c e x h W X g) hw
    · cases e with
      | UnaryOp op a p =>
        cases op with
        | Not =>
          dsimp only [compE] at h
          obtain ⟨y, e, rfl⟩ := Option.map_eq_some_iff.mp h
          exact t_not (ihT c) g e
        | _ => exact absurd rfl hw
      | BoolOp op vs p => exact (hW c op p vs x h W X g).pt
      | Compare a ops bs p =>
        dsimp only [compE] at h
        split at h
        · split at h
          · next hp =>
            split at h
            · next e1 e2 =>
              cases h
              exact ⟨fun pins s σ H Q I hh => (pt_cmpR (op_c2 g.K g.units _) (ihE c _ _ e1 W X g) (ihE c _ _ e2 W X g) (behind_plain hp _)).run pins s σ H Q I (r_cmp (r_isbl cmp_bl hh))⟩
            · cases h
          · cases h
        · split at h
          · next hp =>
            rw [Bool.and_eq_true] at hp
            split at h
            · next e1 e2 e3 =>
              cases h
              exact ⟨fun pins s σ H Q I hh => (pt_chain (op_c2 g.K g.units _) (op_c2 g.K g.units _) (ihE c _ _ e1 W X g) (ihE c _ _ e2 W X g) (ihE c _ _ e3 W X g) (last2 hp.2)).run pins s σ H Q I (r_chain (r_isbl chain_bl hh))⟩
            · cases h
          · cases h
        · cases h
      | IfExp t a b p =>
        dsimp only [compE] at h
        split at h
        · next e1 e2 e3 => cases h; exact t_ife (ihT c) g e1 e2 e3
        · cases h
      | _ => exact absurd rfl hw
end Ev

/-! Ev12: statements. -/
namespace Ev
open PySem L2 PySem.Spec PyProof.Rows
variable {P : Pm} {tb : List FDef} {m : Nat} {c : CC} {W : WX} {X : Cx}

def PostS (P : Pm) (lo : Nat) (θ : Nat → Addr) (st : Sto) (H : Hp) (r : Rs Fl) (D : Ends) (W : WX) : Prop := match r with
  | .ok (.nx env') st' => ∀ θ' H' σ', Ext P lo θ st H θ' st' H' → EnR P θ' st'.length H' env' σ' → D.nx σ' H'
  | .ok (.ret t) st' => ∀ θ' H' v, Ext P lo θ st H θ' st' H' → VT P θ' st'.length H' t v → D.rt v H'
  | .ok (.brk env') st' => ∀ θ' H' σ', Ext P lo θ st H θ' st' H' → EnR P θ' st'.length H' env' σ' → D.bk σ' H'
  | .ok (.ct env') st' => ∀ θ' H' σ', Ext P lo θ st H θ' st' H' → EnR P θ' st'.length H' env' σ' → D.ct σ' H'
  | .ok (.exc k t env') st' => ∀ θ' H' σ' cls d, Ext P lo θ st H θ' st' H' → EnR P θ' st'.length H' env' σ' → XT P θ' st'.length H' k t cls d → W cls d σ' H'
  | .ex _ _ _ => False
  | .no => False
section
variable {lo : Nat} {θ θ' : Nat → Addr} {st st' : Sto} {H H' : Hp} {r : Rs Fl} {D D' : Ends} {env : En} {σ : L2.St}
theorem PostS.later (h : PostS P lo θ st H r D W) (x : Ext P lo θ st H θ' st' H') : PostS P lo θ' st' H' r D W := by
  cases r with
  | no => exact h
  | ex _ _ _ => exact h
  | ok f st2 =>
    cases f with
    | nx env' => exact fun θ2 H2 σ2 y => h θ2 H2 σ2 (x.trans y)
    | ret t => exact fun θ2 H2 v y => h θ2 H2 v (x.trans y)
    | brk env' => exact fun θ2 H2 σ2 y => h θ2 H2 σ2 (x.trans y)
    | ct env' => exact fun θ2 H2 σ2 y => h θ2 H2 σ2 (x.trans y)
    | exc k t env' => exact fun θ2 H2 σ2 cls d y => h θ2 H2 σ2 cls d (x.trans y)
/-- an expression within a statement -/
theorem PostS.atS {α β : Type} (R : (Nat → Addr) → Nat → Hp → α → β → Prop) {q : Rs α} {f : α → Sto → Rs Fl} (h : PostS P lo θ st H (q.atS env f) D W) (rel : Rel P θ st H) (en : EnR P θ st.length H env σ) :
    Post P R lo θ st H q (fun a st1 θ1 H1 _ => PostS P lo θ1 st1 H1 (f a st1) D W) (fun cls d H' => W cls d σ H') := by
  cases q with
  | no => exact h
  | ex k t st' => exact fun θ' H' cls d x xt => h θ' H' σ cls d x (x.en rel en) xt
  | ok a st' => exact fun θ' H' v x rv => PostS.later (r := f a st') h x
theorem PostS.no_ne (h : PostS P lo θ st H r D W) : r ≠ .no := by intro e; subst e; exact h
end
/-- the reading of a statement, of a block -/
def tsE (P : Pm) (tb : List FDef) (m : Nat) (W : WX) (s : S) : TS := fun D σ H => ∃ lo θ st env, Now P lo θ st H ∧ EnR P θ st.length H env σ ∧ PostS P lo θ st H (evS (evC tb m) lo s env st) D W
def tssE (P : Pm) (tb : List FDef) (m : Nat) (W : WX) (s : Ss) : TS := fun D σ H => ∃ lo θ st env, Now P lo θ st H ∧ EnR P θ st.length H env σ ∧ PostS P lo θ st H (evSs (evC tb m) lo s env st) D W

/-- a def's own block: all its cells are made at its entry -/
structure GoodF (P : Pm) (tb : List FDef) (m : Nat) (c : CC) (W : WX) (X : Cx) : Prop extends Good P tb m c W X where
  fn : ∀ x, X.fn x = true
  kind : c.sc.kind = .function

theorem isLocal_loc (g : GoodF P tb m c W X) {x : Str} (h : isLocal c.sc x = true) : Loc X.env.scope x ∧ (X.fn x = true ∨ X.env.scope.names.lookup x = some .local) := by
  refine ⟨?_, .inl (g.fn x)⟩
  unfold isLocal at h
  rw [g.sc]
  split at h <;> first | exact .inl (by assumption) | exact .inr (by assumption) | cases h
theorem s_tg (g : GoodF P tb m c W X) {n : Nat} {e : Expr} {gt : Tg} (h : compT c.N c.sc n e = some gt) : PG X e (gE P gt) :=
  soundTg g.K g.N g.nd g.calm (fun x hx => isLocal_loc g hx) n h
/-! ### assignments -/
theorem sw_nocomp {e : Expr} (h : isComp e = false) (t : Option Expr) (l : Nat) (env : Env) : swapsWith e t l env = pure false := by
  cases e <;> first | rfl | cases h
theorem sw_tup {e : Expr} {ts : List Expr} {k : Nat} {p : Pos} (l : Nat) (env : Env) : swapsWith e (some (.Tuple ts k p)) l env = pure false := by
  cases e <;> rfl
theorem sws_nocomp {e t : Expr} (h : isComp e = false) (l : Nat) (env : Env) : swapsWithSole [t] e l env = pure false := sw_nocomp h (some t) l env
theorem sws_tup {e : Expr} {ts : List Expr} {k : Nat} {p : Pos} (l : Nat) (env : Env) : swapsWithSole [.Tuple ts k p] e l env = pure false := sw_tup (ts := ts) (k := k) (p := p) l env
/-- the reading of x = e -/
theorem r_asg {gt : Tg} {x : E} {D : Ends} {σ : L2.St} {H : Hp} (h : tsE P tb m W (.asg gt x) D σ H) : tAsg (teE P tb m W x) (gE P gt) D σ H := by
  obtain ⟨lo, θ, st, env, nw, en, p⟩ := h
  refine ⟨lo, θ, st, env, nw, en, (PostS.atS (VT P) p nw.rel en).mono fun t st1 θ1 H1 v _ x1 vt p1 => ?_⟩
  split at p1
  · next env' e => exact ⟨θ1, st1.length, t, env, env', vt, x1.en nw.rel en, e, fun σ' en' _ _ => p1 θ1 H1 σ' (Ext.refl x1.rel) en'⟩
  · exact p1.elim
theorem stores_of {ts vs : List Expr} {k k2 : Nat} {p p2 : Pos} {env : Env} {r : Option (List Str)} (hk : env.scope.kind = .function) (h : swN ts vs env.scope = some r) : swappedStores [.Tuple ts k p] (.Tuple vs k2 p2) env = pure r := by
  have hb : env.blockKind = .function := by unfold Env.blockKind; rw [hk]; rfl
  unfold swN at h
  unfold swappedStores
  simp only [hb, bne_self_eq_false, Bool.or_false]
  split at h
  · next h1 => cases h; exact if_pos h1
  · next h1 =>
    refine (if_neg h1).trans ?_
    split at h
    · next h2 => cases h; exact if_pos h2
    · next h2 =>
      refine (if_neg h2).trans ?_
      split at h
      · next h3 => cases h; exact if_pos h3
      · next h3 =>
        refine (if_neg h3).trans ?_
        split at h
        · next h4 => cases h; exact if_pos h4
        · next h4 =>
          refine (if_neg h4).trans ?_
          split at h
          · cases h
          · next h5 => cases h; exact if_neg h5
/-- several names from a written tuple -/
theorem r_par {gt : Tg} {xs : Es} {D : Ends} {σ : L2.St} {H : Hp} (h : tsE P tb m W (.asg gt (.tup xs)) D σ H) : taE P tb m W xs σ H (fun vs H1 => ∃ ts θ1 st1 env env' lo, VTs P θ1 st1.length H1 ts vs ∧ EnR P θ1 st1.length H1 env σ ∧ Rel P θ1 st1 H1 ∧ asgT gt (.tup ts) env = some env' ∧ PostS P lo θ1 st1 H1 (.ok (.nx env') st1) D W) := by
  obtain ⟨lo, θ, st, env, nw, en, p⟩ := h
  refine ⟨lo, θ, st, env, nw, en, ?_⟩
  have p : PostS P lo θ st H (((evEs (evC tb m) lo env xs st).bind fun ts st => if ts.length ≤ sizeL then .ok (.tup ts) st else .no).atS env fun x st => (match asgT gt x env with | some env' => .ok (.nx env') st | none => .no)) D W := p
  cases hr : evEs (evC tb m) lo env xs st with
  | no => rw [hr] at p; exact p
  | ex k t st' => rw [hr] at p; exact fun θ' H' cls d x xt => p θ' H' σ cls d x (x.en nw.rel en) xt
  | ok ts st' =>
    rw [hr] at p
    intro θ1 H1 vs x1 vt
    have p : PostS P lo θ st H ((if ts.length ≤ sizeL then Rs.ok (T.tup ts) st' else .no).atS env fun x st => (match asgT gt x env with | some env' => .ok (.nx env') st | none => .no)) D W := p
    split at p
    · have p : PostS P lo θ st H (match asgT gt (.tup ts) env with | some env' => .ok (.nx env') st' | none => .no) D W := p
      split at p
      · next env' e => exact ⟨ts, θ1, st', env, env', lo, vt, x1.en nw.rel en, x1.rel, e, p.later x1⟩
      · exact p.elim
    · exact p.elim
theorem isLoc1_ok {sc : Scope} {x : Str} (h : isLoc1 sc x = true) : sc.names.lookup x = some .local := by
  unfold isLoc1 at h
  split at h
  · assumption
  · cases h
theorem compTs_cons {N : List Str} {sc : Scope} {n : Nat} {x : Str} {px : Pos} {es : List Expr} {gs : List Tg} (h : compTs N sc n (.Name x px :: es) = some gs) : ∃ i gs' n', gs = .nm i :: gs' ∧ N[i]? = some x ∧ compTs N sc n' es = some gs' := by
  match n, h with
  | 0, h => cases h
  | n + 1, h =>
    have h : (match compT N sc n (.Name x px), compTs N sc n es with | some a, some b => some (a :: b) | _, _ => none) = some gs := h
    split at h
    · next a b e1 e2 =>
      cases h
      match n, e1, e2 with
      | 0, e1, _ => cases e1
      | n + 1, e1, e2 =>
        have e1 : (if isLocal sc x then (idxN N x).map Tg.nm else none) = some a := e1
        split at e1
        · obtain ⟨i, e3, rfl⟩ := Option.map_eq_some_iff.mp e1
          exact ⟨i, b, _, rfl, idx_ok e3, e2⟩
        · cases e1
    · cases h
theorem compTs_nil {N : List Str} {sc : Scope} {n : Nat} {gs : List Tg} (h : compTs N sc n [] = some gs) : gs = [] := by
  match n, h with
  | 0, h => cases h
  | n + 1, h => cases h; rfl
theorem ne_ix {N : List Str} {i j : Nat} {x y : Str} (h1 : N[i]? = some x) (h2 : N[j]? = some y) (h : x ≠ y) : i ≠ j := by
  intro e; subst e; rw [h1] at h2; exact h (Option.some.inj h2)
theorem tup_of {n : Nat} {es : List Expr} {k : Nat} {p : Pos} {x : E} (h : compE n c (.Tuple es k p) = some x) : ∃ n' xs, x = .tup xs ∧ compL (compE n' c) es = some xs := by
  cases n with
  | zero => cases h
  | succ n =>
    obtain ⟨xs, e, rfl⟩ := Option.map_eq_some_iff.mp (show (compL (compE n c) es).map E.tup = some x from h)
    exact ⟨n, xs, rfl, e⟩
theorem s_asg (g : GoodF P tb m c W X) {n : Nat} {t e : Expr} {gt : Tg} {x : E} {pos : Pos} (ht : compT c.N c.sc 10 t = some gt) (he : compE n c e = some x) (ho : okAsg c.sc t e = true) : PS X (.Assign [t] e pos) (tsE P tb m W (.asg gt x)) := by
  have pe := (soundAll n).1 c e x he W X g.toGood
  refine ⟨fun pins s σ H D I h => ?_⟩
  have pg := s_tg g ht
  cases t with
  | Name y py =>
    have rd := r_asg h
    by_cases hc : isComp e = true
    · cases e with
      | ListComp elt gens scope p =>
        have hsw : swapsWith (.ListComp elt gens scope p) (some (.Name y py)) pos.line X.env = pure (X.env.blockKind == .function && X.env.kindOf y == some .local && py.line == p.line && !(scope.names.any fun (n, k) => n == y && (k == .local || k == .cell))) := rfl
        cases hb : (X.env.blockKind == .function && X.env.kindOf y == some .local && py.line == p.line && !(scope.names.any fun (n, k) => n == y && (k == .local || k == .cell))) with
        | true =>
          rw [hb] at hsw
          cases n with
          | zero => cases he
          | succ n =>
            obtain ⟨tg, it, ifs, gt', xi, xc, xe, rfl, ⟨mu, rfl⟩, _, _, hi, hs, hg, hts, hel, hin, hbk⟩ := lc_parts (soundAll n).1 (soundAll n).2.1 g.toGood he
            have ok : BlkOk X.N X.env.scope scope (ownOf c.N scope) := by rw [g.N, g.sc]; exact blkOk_by hbk
            simp only [Bool.and_eq_true, beq_iff_eq] at hb
            have main := (s_lc (soundAll n |>.1 c) g.toGood (pos := p) hbk hin hi hs hg hts hel).1
            have ht' : (if isLocal c.sc y then (idxN c.N y).map Tg.nm else none) = some gt := ht
            split at ht'
            · obtain ⟨i, ei, rfl⟩ := Option.map_eq_some_iff.mp ht'
              refine (ps_setLc (i := i) g.calm g.nd (by rw [g.N]; exact idx_ok ei) hb.1.1.2 hsw hi ok hg hts hel hs).run pins s σ H D I ?_
              refine main σ H _ (r_frzIf (mu := mu) ?_)
              obtain ⟨lo, θ, st, env, nw, en, p⟩ := h
              refine ⟨lo, θ, st, env, nw, en, (PostS.atS (VT P) p nw.rel en).mono fun t st1 θ1 H1 v _ x1 vt p1 => ?_⟩
              exact p1 θ1 H1 _ (Ext.refl x1.rel) ((x1.en nw.rel en).set vt i)
            · cases ht'
        | false =>
          rw [hb] at hsw
          exact (ps_asg pe pg hsw rfl rfl).run pins s σ H D I rd
      | SetComp _ _ _ _ => cases n <;> cases he
      | DictComp _ _ _ _ _ => cases n <;> cases he
      | _ => cases hc
    · exact (ps_asg pe pg (sws_nocomp (by simpa using hc) _ _) (by cases e <;> rfl) rfl).run pins s σ H D I rd
  | Tuple ts k p =>
    cases e with
    | Tuple vs k2 p2 =>
      dsimp only [okAsg] at ho
      have hk : X.env.scope.kind = .function := by rw [g.sc]; exact g.kind
      split at ho
      · next e0 => exact (ps_asg pe pg (sws_tup _ _) (stores_of hk (by rw [g.sc]; exact e0)) rfl).run pins s σ H D I (r_asg h)
      · next ns e0 =>
        split at ho
        · next x px y py a b =>
          simp only [Bool.and_eq_true, Bool.not_eq_true', decide_eq_true_iff, decide_eq_false_iff_not] at ho
          obtain ⟨⟨⟨⟨⟨hns, lx⟩, ly⟩, hne⟩, pa⟩, pb⟩ := ho
          subst hns
          obtain ⟨gs, e1, rfl⟩ := Option.map_eq_some_iff.mp (show (compTs c.N c.sc 9 [.Name x px, .Name y py]).map Tg.tp = some gt from ht)
          obtain ⟨i, gs1, _, rfl, hi, e2⟩ := compTs_cons e1
          obtain ⟨j, gs2, _, rfl, hj, e3⟩ := compTs_cons e2
          cases compTs_nil e3
          obtain ⟨n', xs, rfl, hl⟩ := tup_of he
          refine (ps_par (i := i) (j := j) g.calm g.nd (by rw [g.N]; exact hi) (by rw [g.N]; exact hj) (ne_ix hi hj hne) (by rw [g.sc]; exact isLoc1_ok lx) (by rw [g.sc]; exact isLoc1_ok ly)
            (soundL ((soundAll n').1 c) g.toGood hl) (stores_of hk (by rw [g.sc]; exact e0)) (sws_tup _ _)).run pins s σ H D I ?_
          obtain ⟨lo, θ, st, env, nw, en, p⟩ := r_par h
          refine ⟨lo, θ, st, env, nw, en, p.mono fun ts st1 θ1 H1 vs _ x1 vt hh => ?_⟩
          obtain ⟨us, θ2, st2, env2, env', lo', hv, en2, r2, ea, p2⟩ := hh
          have ea : asgTs [.nm i, .nm j] us env2 = some env' := ea
          match us, hv, ea with
          | [t, u], hv, ea =>
            obtain ⟨v, w, rfl, h1, h2⟩ := hv.two_inv
            cases ea
            exact ⟨v, w, rfl, p2 _ _ _ (Ext.refl r2) ((en2.set h1 i).set h2 j)⟩
          | [], _, ea => cases ea
          | [_], _, ea => cases ea
          | _ :: _ :: _ :: _, _, ea => cases ea
        · next x px y py z pz a b d =>
          simp only [Bool.and_eq_true, Bool.not_eq_true', decide_eq_true_iff, decide_eq_false_iff_not] at ho
          obtain ⟨⟨⟨⟨⟨⟨⟨⟨⟨hns, lx⟩, ly⟩, lz⟩, hxy⟩, hxz⟩, hyz⟩, pa⟩, pb⟩, pd⟩ := ho
          subst hns
          obtain ⟨gs, e1, rfl⟩ := Option.map_eq_some_iff.mp (show (compTs c.N c.sc 9 [.Name x px, .Name y py, .Name z pz]).map Tg.tp = some gt from ht)
          obtain ⟨i, gs1, _, rfl, hi, e2⟩ := compTs_cons e1
          obtain ⟨j, gs2, _, rfl, hj, e3⟩ := compTs_cons e2
          obtain ⟨l, gs3, _, rfl, hl3, e4⟩ := compTs_cons e3
          cases compTs_nil e4
          obtain ⟨n', xs, rfl, hl⟩ := tup_of he
          refine (ps_par3 (i := i) (j := j) (l := l) g.calm g.nd (by rw [g.N]; exact hi) (by rw [g.N]; exact hj) (by rw [g.N]; exact hl3) (ne_ix hi hj hxy) (ne_ix hi hl3 hxz) (ne_ix hj hl3 hyz) (by rw [g.sc]; exact isLoc1_ok lx) (by rw [g.sc]; exact isLoc1_ok ly) (by rw [g.sc]; exact isLoc1_ok lz)
            (soundL ((soundAll n').1 c) g.toGood hl) (stores_of hk (by rw [g.sc]; exact e0)) (sws_tup _ _)).run pins s σ H D I ?_
          obtain ⟨lo, θ, st, env, nw, en, p⟩ := r_par h
          refine ⟨lo, θ, st, env, nw, en, p.mono fun ts st1 θ1 H1 vs _ x1 vt hh => ?_⟩
          obtain ⟨us, θ2, st2, env2, env', lo', hv, en2, r2, ea, p2⟩ := hh
          have ea : asgTs [.nm i, .nm j, .nm l] us env2 = some env' := ea
          match us, hv, ea with
          | [t, u, o], hv3, ea =>
            cases hv3 with
            | cons h0 hv4 =>
              obtain ⟨v, w, rfl, h1, h2⟩ := hv4.two_inv
              cases ea
              exact ⟨_, v, w, rfl, p2 _ _ _ (Ext.refl r2) (((en2.set h0 i).set h1 j).set h2 l)⟩
          | [], _, ea => cases ea
          | [_], _, ea => cases ea
          | [_, _], _, ea => cases ea
          | _ :: _ :: _ :: _ :: _, _, ea => cases ea
        · cases ho
      · cases ho
    | _ => exact (ps_asg pe pg (sws_tup _ _) rfl rfl).run pins s σ H D I (r_asg h)
  | _ => cases ht
end Ev

/-! Ev13: the induction over statements; defs. -/
namespace Ev
open PySem L2 PySem.Spec PyProof.Rows
variable {P : Pm} {tb : List FDef} {m : Nat} {c : CC} {W : WX} {X : Cx}

theorem s_ret {n : Nat} {e : Expr} {x : E} {pos : Pos} (g : GoodF P tb m c W X) (he : compE n c e = some x) : PS X (.Return (some e) pos) (tsE P tb m W (.ret x)) := by
  refine ⟨fun pins s σ H D I h => ?_⟩
  obtain ⟨lo, θ, st, env, nw, en, p⟩ := h
  refine (ps_ret ((soundAll n).1 c e x he W X g.toGood)).run pins s σ H D I ⟨lo, θ, st, env, nw, en, (PostS.atS (VT P) p nw.rel en).mono fun t st1 θ1 H1 v _ x1 vt p1 => ?_⟩
  exact p1 θ1 H1 v (Ext.refl x1.rel) vt
theorem s_ex {n : Nat} {e : Expr} {x : E} {pos : Pos} (g : GoodF P tb m c W X) (he : compE n c e = some x) (hc : isComp e = false) : PS X (.Expr e pos) (tsE P tb m W (.ex x)) := by
  refine ⟨fun pins s σ H D I h => ?_⟩
  obtain ⟨lo, θ, st, env, nw, en, p⟩ := h
  refine (ps_expr ((soundAll n).1 c e x he W X g.toGood) (sw_nocomp hc _ _ _)).run pins s σ H D I ⟨lo, θ, st, env, nw, en, (PostS.atS (VT P) p nw.rel en).mono fun t st1 θ1 H1 v _ x1 vt p1 => ?_⟩
  exact p1 θ1 H1 σ (Ext.refl x1.rel) (x1.en nw.rel en)
theorem s_aug {n : Nat} {e : Expr} {o : Operator} {op : B2} {y : Str} {i : Nat} {x : E} {p0 pos : Pos} (g : GoodF P tb m c W X) (he : compE n c e = some x) (hl : isLocal c.sc y = true) (hi : idxN c.N y = some i) (ho : (o = .Add ∧ op = .add) ∨ (o = .Sub ∧ op = .sub)) :
    PS X (.AugAssign (.Name y p0) o e pos) (tsE P tb m W (.aug i op x)) := by
  refine ⟨fun pins s σ H D I h => ?_⟩
  obtain ⟨lo, θ, st, env, nw, en, p⟩ := h
  obtain ⟨h1, h2⟩ := isLocal_loc g hl
  have rd : ∀ f : Int → Int → Int, (∀ a b, augI op (.int a) (.int b) = some (.int (f a b))) → tAug i (teE P tb m W x) (ipI f) D σ H := fun f hf => by
    have p : PostS P lo θ st H (match env[i]? with
      | some (some z) => (evE (evC tb m) lo env x st).atS env fun y st => (match augI op z y with
        | some z => .ok (.nx (env.set i (some z))) st
        | none => .no)
      | _ => .no) D W := p
    split at p
    · next z ez =>
      obtain ⟨v, e1, vt⟩ := en.2 i z ez
      refine ⟨v, e1, lo, θ, st, env, nw, en, (PostS.atS (VT P) p nw.rel en).mono fun t st1 θ1 H1 w _ x1 wt p1 => ?_⟩
      cases z with
      | int a =>
        cases t with
        | int b =>
          cases vt.int_inv; cases wt.int_inv
          rw [hf a b] at p1
          exact ⟨a, b, rfl, rfl, p1 θ1 H1 _ (Ext.refl x1.rel) ((x1.en nw.rel en).set (.int _) i)⟩
        | _ => exact p1.elim
      | _ => cases t <;> exact p1.elim
    · exact p.elim
  rcases ho with ⟨rfl, rfl⟩ | ⟨rfl, rfl⟩
  · exact (ps_aug (i := i) g.nd (by rw [g.N]; exact idx_ok hi) h1 ((soundAll n).1 c e x he W X g.toGood) ip_add h2).run pins s σ H D I (rd _ fun _ _ => rfl)
  · exact (ps_aug (i := i) g.nd (by rw [g.N]; exact idx_ok hi) h1 ((soundAll n).1 c e x he W X g.toGood) ip_sub h2).run pins s σ H D I (rd _ fun _ _ => rfl)
theorem s_setix {n : Nat} {o i e : Expr} {xo xi xe : E} {p0 pos : Pos} (g : GoodF P tb m c W X) (ho : compE n c o = some xo) (hi : compE n c i = some xi) (he : compE n c e = some xe) (hp : plainE i = true) (hc : isComp e = false) :
    PS X (.Assign [.Subscript o i p0] e pos) (tsE P tb m W (.setix xo xi xe)) := by
  refine ⟨fun pins s σ H D I h => ?_⟩
  obtain ⟨lo, θ, st, env, nw, en, p⟩ := h
  have S := (soundAll (P := P) (tb := tb) (m := m) n).1 c
  refine (ps_asg (S e xe he W X g.toGood) (pg_sub (S o xo ho W X g.toGood) (S i xi hi W X g.toGood) set_list (by intro v; cases i <;> first | rfl | cases hp)) (sws_nocomp hc _ _) (by cases e <;> rfl) rfl).run pins s σ H D I ?_
  refine ⟨lo, θ, st, env, nw, en, (PostS.atS (VT P) p nw.rel en).mono fun t st1 θ1 H1 v _ x1 vt p1 => ?_⟩
  refine ⟨lo, θ1, st1, env, nw.later x1, x1.en nw.rel en, (PostS.atS (VT P) p1 x1.rel (x1.en nw.rel en)).mono fun t2 st2 θ2 H2 v2 _ x2 vt2 p2 => ?_⟩
  refine ⟨lo, θ2, st2, env, (nw.later x1).later x2, x2.en x1.rel (x1.en nw.rel en), (PostS.atS (VT P) p2 x2.rel (x2.en x1.rel (x1.en nw.rel en))).mono fun t3 st3 θ3 H3 v3 _ x3 vt3 p3 => ?_⟩
  have nw3 := ((nw.later x1).later x2).later x3
  have en3 := x3.en x2.rel (x2.en x1.rel (x1.en nw.rel en))
  have v2' := x3.vt x2.rel vt2
  have v' := x3.vt x2.rel (x2.vt x1.rel vt)
  cases t2 with
  | loc l =>
    cases t3 with
    | int k =>
      obtain ⟨rfl, hl⟩ := v2'.loc_inv
      cases vt3.int_inv
      have p3 : PostS P lo θ3 st3 H3 (match (if lo ≤ l then (match getL st3 l with | some xs => (match ixOf xs.length k with | some j => some (putL st3 l (xs.set j t)) | none => none) | none => none) else none) with | some st' => .ok (.nx env) st' | none => .no) D W := p3
      split at p3
      · next st' e5 =>
        split at e5
        · next hlo =>
          split at e5
          · next xs e6 =>
            split at e5
            · next j e7 =>
              cases e5
              obtain ⟨vs, h1, h3⟩ := x3.rel.lst (getL_some e6)
              have x4 := Ext.put (P := P) (lo := lo) x3.rel hlo (getL_some e6) (h1.set v' j)
              refine ⟨_, vs, k, j, rfl, rfl, h3, by rw [← h1.length]; exact e7, ?_⟩
              exact p3 θ3 _ σ x4 (x4.en x3.rel en3)
            · cases e5
          · cases e5
        · cases e5
      · exact p3.elim
    | _ => exact p3.elim
  | _ => exact p3.elim
theorem s_if {n : Nat} {t : Expr} {a b : List Stmt} {x : E} {xa xb : Ss} {pos : Pos} (g : GoodF P tb m c W X) (ht : compE n c t = some x) (ha : PSs X a (tssE P tb m W xa)) (hb : PSs X b (tssE P tb m W xb)) : PS X (.If t a b pos) (tsE P tb m W (.ifs x xa xb)) := by
  refine ⟨fun pins s σ H D I h => ?_⟩
  obtain ⟨lo, θ, st, env, nw, en, p⟩ := h
  refine (ps_if ((soundAll n).2.1 c t x ht W X g.toGood) ha hb).run pins s σ H D I ⟨lo, θ, st, env, nw, en, (PostS.atS EqR p nw.rel en).mono fun k st1 θ1 H1 v _ x1 rv p1 => ?_⟩
  cases rv
  cases k with
  | true => exact iteT ⟨lo, θ1, st1, env, nw.later x1, x1.en nw.rel en, p1⟩
  | false => exact iteF ⟨lo, θ1, st1, env, nw.later x1, x1.en nw.rel en, p1⟩
/-- what a loop's body is to reach, by what the evaluator says of the loop -/
theorem body_post {lo : Nat} {θ : Nat → Addr} {st : Sto} {H : Hp} {r : Rs Fl} {K : En → Sto → Rs Fl} {D : Ends} {N : L2.St → Hp → Prop}
    (p : PostS P lo θ st H (match r with
      | .ok (.nx env') st' => K env' st'
      | .ok (.ct env') st' => K env' st'
      | .ok (.brk env') st' => .ok (.nx env') st'
      | .ok (.ret t) st' => .ok (.ret t) st'
      | .ok (.exc c v env') st' => .ok (.exc c v env') st'
      | .ex _ _ _ => .no
      | .no => .no) D W) (hN : ∀ env' st' θ' H' σ', Ext P lo θ st H θ' st' H' → EnR P θ' st'.length H' env' σ' → PostS P lo θ' st' H' (K env' st') D W → N σ' H') :
    PostS P lo θ st H r { D with nx := N, ct := N, bk := D.nx } W := by
  cases r with
  | no => exact p
  | ex _ _ _ => exact p
  | ok f st' =>
    cases f with
    | nx env' => exact fun θ' H' σ' x en => hN env' st' θ' H' σ' x en (PostS.later (r := K env' st') p x)
    | ct env' => exact fun θ' H' σ' x en => hN env' st' θ' H' σ' x en (PostS.later (r := K env' st') p x)
    | brk env' => exact p
    | ret t => exact p
    | exc k t env' => exact p
theorem s_whl {n : Nat} {t : Expr} {b : List Stmt} {x : E} {xb : Ss} {pos : Pos} (g : GoodF P tb m c W X) (ht : compE n c t = some x) (hb : PSs X b (tssE P tb m W xb)) : PS X (.While t b [] pos) (tsE P tb m W (.whl x xb)) := by
  refine ⟨fun pins s σ H D I h => ?_⟩
  obtain ⟨lo, θ, st, env, nw, en, p⟩ := h
  refine (ps_while g.own ((soundAll n).2.1 c t x ht W X g.toGood) hb).run pins s σ H D I ?_
  refine ⟨fun mm σ1 H1 => ∃ θ1 st1 env1, Now P lo θ1 st1 H1 ∧ EnR P θ1 st1.length H1 env1 σ1 ∧ PostS P lo θ1 st1 H1 (loopW (fun env st => evT (evC tb m) lo env x st) (fun env st => evSs (evC tb m) lo xb env st) mm env1 st1) D W, ⟨turns, θ, st, env, nw, en, p⟩, ?_⟩
  intro mm σ1 H1 hw
  obtain ⟨θ1, st1, env1, nw1, en1, p1⟩ := hw
  cases mm with
  | zero => exact p1.elim
  | succ mm =>
    refine ⟨lo, θ1, st1, env1, nw1, en1, (PostS.atS EqR p1 nw1.rel en1).mono fun k st2 θ2 H2 v _ x2 rv p2 => ?_⟩
    cases rv
    have nw2 := nw1.later x2
    have en2 := x2.en nw1.rel en1
    cases k with
    | false => exact iteF (p2 θ2 H2 σ1 (Ext.refl x2.rel) en2)
    | true =>
      refine iteT ⟨fun σ' H' => ∃ θ1 st1 env1, Now P lo θ1 st1 H' ∧ EnR P θ1 st1.length H' env1 σ' ∧ PostS P lo θ1 st1 H' (loopW (fun env st => evT (evC tb m) lo env x st) (fun env st => evSs (evC tb m) lo xb env st) mm env1 st1) D W, fun σ' H' hh => ⟨mm, Nat.lt_succ_self _, hh⟩, lo, θ2, st2, env1, nw2, en2, ?_⟩
      exact body_post p2 fun env' st' θ' H' σ' x' en' q => ⟨θ', st', env', nw2.later x', en', q⟩
theorem s_for {n : Nat} {tg it : Expr} {b : List Stmt} {gt : Tg} {xi : I} {xb : Ss} {pos : Pos} (g : GoodF P tb m c W X) (htg : compT c.N c.sc 10 tg = some gt) (hi : compI (compE n c) c tg it = some xi) (hb : PSs X b (tssE P tb m W xb)) : PS X (.For tg it b [] pos) (tsE P tb m W (.for_ gt xi xb)) := by
  obtain ⟨hpi, hs⟩ := soundI ((soundAll n).1 c) g.toGood hi
  refine ⟨fun pins s σ H D I h => ?_⟩
  obtain ⟨lo, θ, st, env, nw, en, p⟩ := h
  refine (ps_for g.own g.calm hpi (s_tg g htg) hb hs).run pins s σ H D I ?_
  refine ⟨lo, θ, st, env, nw, en, (PostS.atS (AnyR (β := L2.It)) p nw.rel en).mono fun w st1 θ1 H1 J _ x1 _ p1 => ?_⟩
  intro wk
  have nw1 := nw.later x1
  refine ⟨fun i mm σ2 H2 => ∃ θ2 st2 env2, Ext P lo θ1 st1 H1 θ2 st2 H2 ∧ EnR P θ2 st2.length H2 env2 σ2 ∧ PostS P lo θ2 st2 H2 (loopF (bodyF gt fun env st => evSs (evC tb m) lo xb env st) w mm i env2 st2) D W, ⟨turns, θ1, st1, env, Ext.refl x1.rel, x1.en nw.rel en, p1⟩, ?_⟩
  intro i mm σ2 H2 hw
  obtain ⟨θ2, st2, env2, x2, en2, p2⟩ := hw
  cases mm with
  | zero => exact p2.elim
  | succ mm =>
    have p2 : PostS P lo θ2 st2 H2 (match w.at i st2 with
      | none => .no
      | some none => .ok (.nx env2) st2
      | some (some x) => match bodyF gt (fun env st => evSs (evC tb m) lo xb env st) x env2 st2 with
        | .ok (.nx env') st' => loopF (bodyF gt fun env st => evSs (evC tb m) lo xb env st) w mm (i + 1) env' st'
        | .ok (.ct env') st' => loopF (bodyF gt fun env st => evSs (evC tb m) lo xb env st) w mm (i + 1) env' st'
        | .ok (.brk env') st' => .ok (.nx env') st'
        | .ok (.ret t) st' => .ok (.ret t) st'
        | .ok (.exc c v env') st' => .ok (.exc c v env') st'
        | .ex _ _ _ => .no
        | .no => .no) D W := p2
    have wk2 := wk θ2 st2 H2 x2 i
    cases ea : w.at i st2 with
    | none => rw [ea] at p2; exact p2.elim
    | some o =>
      rw [ea] at p2 wk2
      cases o with
      | none => exact .inl ⟨wk2.1 rfl, p2 θ2 H2 σ2 (Ext.refl x2.rel) en2⟩
      | some t =>
        obtain ⟨hgo, hy⟩ := wk2.2 t rfl
        refine .inr ⟨hgo, fun σ' H' => ∃ θ2 st2 env2, Ext P lo θ1 st1 H1 θ2 st2 H' ∧ EnR P θ2 st2.length H' env2 σ' ∧ PostS P lo θ2 st2 H' (loopF (bodyF gt fun env st => evSs (evC tb m) lo xb env st) w mm (i + 1) env2 st2) D W, fun σ' H' hh => ⟨mm, Nat.lt_succ_self _, hh⟩, ?_⟩
        intro x H3 yl
        obtain ⟨x3, vt⟩ := hy x H3 yl
        have p3 := PostS.later p2 x3
        dsimp only at p3
        have en3 := x3.en x2.rel en2
        unfold bodyF at p3
        cases e1 : asgT gt t env2 with
        | none => rw [e1] at p3; exact p3.elim
        | some env' =>
          rw [e1] at p3
          refine ⟨θ2, st2.length, t, env2, env', vt, en3, e1, fun σ' en' _ _ => ?_⟩
          exact ⟨lo, θ2, st2, env', (nw1.later x2).later x3, en', body_post p3 fun env'' st'' θ'' H'' σ'' x'' en'' q => ⟨θ'', st'', env'', (x2.trans x3).trans x'', en'', q⟩⟩
end Ev

/-! Ev14: the induction over statements; every def keeps the evaluator's promise. -/
namespace Ev
open PySem L2 PySem.Spec PyProof.Rows
variable {P : Pm} {tb : List FDef} {m : Nat} {c : CC} {W : WX} {X : Cx}

mutual
theorem soundS (d : Nat) (g : GoodF P tb m c W X) : ∀ (n : Nat) {s : Stmt} {x : S}, compS d c n s = some x → PS X s (tsE P tb m W x)
  | 0, _, _, h => by cases h
  | n + 1, s, x, h => by
    cases s with
    | Assign ts e pos =>
      dsimp only [compS] at h
      split at h
      · split at h
        · next hc =>
          rw [Bool.and_eq_true, Bool.not_eq_true'] at hc
          split at h
          · next e1 e2 e3 => cases h; exact s_setix g e1 e2 e3 hc.1 hc.2
          · cases h
        · cases h
      · split at h
        · next ho =>
          split at h
          · next e1 e2 => cases h; exact s_asg g e1 e2 ho
          · cases h
        · cases h
      · cases h
    | AugAssign t op e pos =>
      dsimp only [compS] at h
      split at h
      · split at h
        · next hl =>
          split at h
          · next e1 e2 e3 =>
            cases h
            refine s_aug g e3 hl e1 (.inl ⟨?_, rfl⟩)
            cases op <;> first | rfl | cases e2
          · next e1 e2 e3 =>
            cases h
            refine s_aug g e3 hl e1 (.inr ⟨?_, rfl⟩)
            cases op <;> first | rfl | cases e2
          · cases h
        · cases h
      · cases h
    | Expr e pos =>
      dsimp only [compS] at h
      split at h
      · cases h
      · next hc =>
        obtain ⟨y, e1, rfl⟩ := Option.map_eq_some_iff.mp h
        exact s_ex g e1 (by simpa using hc)
    | Return v pos =>
      dsimp only [compS] at h
      cases v with
      | none =>
        cases h
        refine ⟨fun pins s σ H D I h => ?_⟩
        obtain ⟨lo, θ, st, env, nw, en, p⟩ := h
        exact ps_retN.run pins s σ H D I (p θ H .non (Ext.refl nw.rel) .non)
      | some e =>
        obtain ⟨y, e1, rfl⟩ := Option.map_eq_some_iff.mp h
        exact s_ret g e1
    | If t a b pos =>
      dsimp only [compS] at h
      split at h
      · next e1 e2 e3 => cases h; exact s_if g e1 (soundSs d g n e2) (soundSs d g n e3)
      · cases h
    | While t b els pos =>
      dsimp only [compS] at h
      split at h
      · next e1 e2 => cases h; exact s_whl g e1 (soundSs d g n e2)
      · cases h
    | For tg it b els pos =>
      dsimp only [compS] at h
      split at h
      · next e1 e2 e3 => rw [if_pos rfl] at h; cases h; exact s_for g e1 e2 (soundSs d g n e3)
      · cases h
    | Pass pos =>
      cases h
      refine ⟨fun pins s σ H D I h => ?_⟩
      obtain ⟨lo, θ, st, env, nw, en, p⟩ := h
      exact ps_pass.run pins s σ H D I (p θ H σ (Ext.refl nw.rel) en)
    | Break pos =>
      cases h
      refine ⟨fun pins s σ H D I h => ?_⟩
      obtain ⟨lo, θ, st, env, nw, en, p⟩ := h
      exact ps_break.run pins s σ H D I (p θ H σ (Ext.refl nw.rel) en)
    | Continue pos =>
      cases h
      refine ⟨fun pins s σ H D I h => ?_⟩
      obtain ⟨lo, θ, st, env, nw, en, p⟩ := h
      exact ps_continue.run pins s σ H D I (p θ H σ (Ext.refl nw.rel) en)
    | _ => cases h
theorem soundSs (d : Nat) (g : GoodF P tb m c W X) : ∀ (n : Nat) {ss : List Stmt} {x : Ss}, compSs d c n ss = some x → PSs X ss (tssE P tb m W x)
  | 0, _, _, h => by cases h
  | n + 1, [], x, h => by
    cases h
    refine ⟨fun pins s σ H D I h => ?_⟩
    obtain ⟨lo, θ, st, env, nw, en, p⟩ := h
    exact pss_nil.run pins s σ H D I (p θ H σ (Ext.refl nw.rel) en)
  | n + 1, s :: ss, x, h => by
    have h : (match compS d c n s, compSs d c n ss with | some a, some b => some (Ss.cons a b) | _, _ => none) = some x := h
    split at h
    · next a b e1 e2 =>
      cases h
      refine ⟨fun pins s σ H D I h => ?_⟩
      refine (pss_cons (soundS d g n e1) (soundSs d g n e2)).run pins s σ H D I ?_
      obtain ⟨lo, θ, st, env, nw, en, p⟩ := h
      refine ⟨lo, θ, st, env, nw, en, ?_⟩
      have p : PostS P lo θ st H (match evS (evC tb m) lo a env st with
        | .ok (.nx env') st => evSs (evC tb m) lo b env' st
        | .ok (.ret t) st => .ok (.ret t) st
        | .ok (.brk env') st => .ok (.brk env') st
        | .ok (.ct env') st => .ok (.ct env') st
        | .ok (.exc c v env') st => .ok (.exc c v env') st
        | .ex _ _ _ => .no
        | .no => .no) D W := p
      cases hr : evS (evC tb m) lo a env st with
      | no => rw [hr] at p; exact p
      | ex _ _ _ => rw [hr] at p; exact p.elim
      | ok f st' =>
        rw [hr] at p
        cases f with
        | nx env' => exact fun θ' H' σ' x en' => ⟨lo, θ', st', env', nw.later x, en', PostS.later (r := evSs (evC tb m) lo b env' st') p x⟩
        | ret t => exact p
        | brk env' => exact p
        | ct env' => exact p
        | exc k t env' => exact p
    · cases h
end

/-- what the head tells of the program -/
structure Prog (P : Pm) (tb : List FDef) (fl : List (Str × Nat)) (cl : List (Str × T)) (kw : List KwE) (mu : List (Nat × Nat)) (mg : Str → Option Value) : Prop where
  fns : ∀ x k, fl.lookup x = some k → mg x = some (.ref (P.fa k)) ∧ ∃ d, tb[k]? = some d
  cs : ∀ x t, cl.lookup x = some t → ∃ u v, mg x = some u ∧ RelV v u ∧ ∀ θ n H, VT P θ n H t v
  bl : ∀ x, bltN.contains x = true → mg x = none
  defs : ∀ k d, tb[k]? = some d → ∃ (fd : FuncData) (x qual : Str) (params : Arguments) (body : List Stmt) (scope : Scope) (dv : List V), FunD P.K x qual params body scope dv [] (P.fa k) fd ∧ FnScope d.N d.ps scope ∧
    (∃ a b, compSs a ⟨d.N, scope, fl, cl, kw, mu⟩ b body = some d.body) ∧ (∀ j, j ≤ d.dvs.length → ∃ ds, Vals ((d.dvs.map cV).drop j) ds ∧ Binds P.K fd d.ps ds) ∧
    (∀ q ∈ kw, q.k = k → ((∀ t ∈ q.dv, constT t = true) ∧ q.perm.length = d.ps.length) ∧ ∃ its, KBn P.K fd d.ps q.n q.ks (fun us ws => pick q.perm (us ++ ws ++ its)) (fun vs zs => pick q.perm (vs ++ zs ++ q.dv.map cV))) ∧ ∀ t ∈ d.dvs, constT t = true
section
variable {fns : List (Str × Nat)} {cs : List (Str × T)} {kw : List KwE} {mu : List (Nat × Nat)} {mg : Str → Option Value} {prog : Program} {w : World} {base : Heap}
theorem spE_len {P : Pm} {m k : Nat} {d : FDef} (hd : tb[k]? = some d) (vs : List V) (H : Hp) (Q : VK) (E : XK) (h : spE P tb m k vs H Q E) : vs.length = d.ps.length := by
  obtain ⟨d', h1, h2, _⟩ := h
  rw [hd] at h1; cases h1; exact h2
/-- a def that writes nothing that stood: its answer at the caller's store -/
theorem seal_post {lo : Nat} {θ : Nat → Addr} {st : Sto} {H : Hp} {r : Rs T} {Q : VK} {E : XK} (nw : Now P lo θ st H) (p : Post P (VT P) lo θ st H (sealF .pure st r) (fun _ _ _ H' v => Q v H') E) :
    Post P (VT P) st.length θ st H r (fun _ _ _ H' v => Q v H') E := by
  have key : ∀ {θ' st' H'}, Ext P st.length θ st H θ' st' H' → Ext P lo θ st H θ st H' := fun {θ' st' H'} x => Ext.same nw.rel fun b o e => by
    rcases x.keep b o e with ⟨i, h1, h2, _⟩ | h
    · omega
    · exact h
  cases r with
  | no => exact p
  | ok t st' =>
    intro θ' H' v x vt
    have p : Post P (VT P) lo θ st H (if t.bel st.length then Rs.ok t st else .no) (fun _ _ _ H' v => Q v H') E := p
    split at p
    · next hb => exact p θ H' v (key x) (VT.bel_to x.ag x.len vt hb)
    · exact p.elim
  | ex k t st' =>
    intro θ' H' cls d x xt
    have p : Post P (VT P) lo θ st H (if t.bel st.length then Rs.ex k t st else .no) (fun _ _ _ H' v => Q v H') E := p
    split at p
    · next hb =>
      obtain ⟨h1, dx, v, h2, h3, h4⟩ := xt
      exact p θ H' cls d (key x) ⟨h1, dx, v, h2, h3, VT.bel_to x.ag x.len h4 hb⟩
    · exact p.elim
mutual
/-- a value with no object in it stands at any store -/
theorem VT.pure_to {θ θ' : Nat → Addr} {n n' : Nat} {H : Hp} : ∀ {t : T} {v : V}, VT P θ' n' H t v → t.pure = true → VT P θ n H t v
  | _, _, .non, _ => .non
  | _, _, .bl b, _ => .bl b
  | _, _, .int i, _ => .int i
  | _, _, .str s h1 h2, _ => .str s h1 h2
  | _, _, .tup h hs, hb => .tup h (VTs.pure_to hs hb)
  | _, _, .kl _ _, hb => Bool.noConfusion hb
  | _, _, .loc _ _, hb => Bool.noConfusion hb
  | _, _, .fn _, hb => Bool.noConfusion hb
theorem VTs.pure_to {θ θ' : Nat → Addr} {n n' : Nat} {H : Hp} : ∀ {t : List T} {v : List V}, VTs P θ' n' H t v → T.pures t = true → VTs P θ n H t v
  | _, _, .nil, _ => .nil
  | _, _, .cons (t := t) (ts := ts) h hs, hb => by
    have hb : (t.pure && T.pures ts) = true := hb
    rw [Bool.and_eq_true] at hb
    exact .cons (VT.pure_to h hb.1) (VTs.pure_to hs hb.2)
end
/-- a def that is run at the empty store: its answer at the caller's -/
theorem iso_post {lo : Nat} {θ : Nat → Addr} {st : Sto} {H : Hp} {r : Rs T} {Q : VK} {E : XK} (nw : Now P lo θ st H) (p : Post P (VT P) lo θ st H (sealF .iso st r) (fun _ _ _ H' v => Q v H') E) :
    Post P (VT P) 0 θ [] H r (fun _ _ _ H' v => Q v H') E := by
  have key : ∀ {θ' st' H'}, Ext P 0 θ [] H θ' st' H' → Ext P lo θ st H θ st H' := fun {θ' st' H'} x => Ext.same nw.rel fun b o e => by
    rcases x.keep b o e with ⟨i, h1, h2, _⟩ | h
    · exact absurd h2 (Nat.not_lt_zero _)
    · exact h
  cases r with
  | no => exact p
  | ok t st' =>
    intro θ' H' v x vt
    have p : Post P (VT P) lo θ st H (if t.pure then Rs.ok t st else .no) (fun _ _ _ H' v => Q v H') E := p
    split at p
    · next hb => exact p θ H' v (key x) (VT.pure_to vt hb)
    · exact p.elim
  | ex k t st' =>
    intro θ' H' cls d x xt
    have p : Post P (VT P) lo θ st H (if t.pure then Rs.ex k t st else .no) (fun _ _ _ H' v => Q v H') E := p
    split at p
    · next hb =>
      obtain ⟨h1, dx, v, h2, h3, h4⟩ := xt
      exact p θ H' cls d (key x) ⟨h1, dx, v, h2, h3, VT.pure_to h4 hb⟩
    · exact p.elim
theorem start_en {θ : Nat → Addr} {n : Nat} {H : Hp} {d : FDef} {ts : List T} {vs : List V} (hv : VTs P θ n H ts vs) : EnR P θ n H (startE d ts) (L2.start d.N vs) := by
  have hl := hv.length
  refine ⟨by simp [startE, L2.start, hl], fun i t e => ?_⟩
  unfold startE at e
  unfold L2.start
  by_cases hi : i < ts.length
  · rw [List.getElem?_append_left (by simpa using hi), List.getElem?_map] at e
    obtain ⟨u, e1, e2⟩ := Option.map_eq_some_iff.mp e
    cases e2
    obtain ⟨v, h1, h2⟩ := hv.get e1
    exact ⟨v, by rw [List.getElem?_append_left (by simpa using hl ▸ hi), List.getElem?_map, h1]; rfl, h2⟩
  · rw [List.getElem?_append_right (by simpa using Nat.le_of_not_lt hi), List.getElem?_replicate] at e
    split at e <;> cases e
/-- a block's end is a call's -/
theorem end_post {lo : Nat} {θ : Nat → Addr} {st : Sto} {H : Hp} {r : Rs Fl} {Q : VK} {E : XK} (p : Post P (VT P) lo θ st H (endF r) (fun _ _ _ H' v => Q v H') E) : PostS P lo θ st H r { nx := fun _ H' => Q .non H', rt := Q } (fun cls d _ H => E cls d H) := by
  cases r with
  | no => exact p
  | ex _ _ _ => exact p
  | ok f st' =>
    cases f with
    | nx env => exact fun θ' H' σ' x en => p θ' H' .non x .non
    | ret t => exact p
    | brk env => exact p.elim
    | ct env => exact p.elim
    | exc k t env => exact fun θ' H' σ' cls d x _ xt => p θ' H' cls d x xt
/-- what is known of each def at a level -/
abbrev LevelOk (P : Pm) (tb : List FDef) (kw : List KwE) (prog : Program) (w : World) (mg : Str → Option Value) (base : Heap) (n : Nat) : Prop := ∀ (k : Nat) (d : FDef), tb[k]? = some d → 
    (∃ fd, FnOk prog w P.K mg base (L2.CX prog w) n (P.fa k) fd d.ps (spE P tb n k) ∧ (∀ j, j ≤ d.dvs.length → ∃ ds, Vals ((d.dvs.map cV).drop j) ds ∧ Binds P.K fd d.ps ds) ∧
      ∀ q ∈ kw, q.k = k → ((∀ t ∈ q.dv, constT t = true) ∧ q.perm.length = d.ps.length) ∧ ∃ its, KBn P.K fd d.ps q.n q.ks (fun us ws => pick q.perm (us ++ ws ++ its)) (fun vs zs => pick q.perm (vs ++ zs ++ q.dv.map cV))) ∧
    PySem.W.keepIn P.K (.ref (P.fa k)) = true ∧ ∀ t ∈ d.dvs, constT t = true
/-- a def one level up -/
theorem ok_at (G : Prog P tb fns cs kw mu mg) {n : Nat} (ih : LevelOk P tb kw prog w mg base n) {k : Nat} {d : FDef} (hd : tb[k]? = some d) {fd : FuncData} {x qual : Str} {params : Arguments} {body : List Stmt} {scope : Scope} {dv : List V}
    (F : FunD P.K x qual params body scope dv [] (P.fa k) fd) (S : FnScope d.N d.ps scope) {ca cb : Nat} (hcomp : compSs ca ⟨d.N, scope, fns, cs, kw, mu⟩ cb body = some d.body) : FnOk prog w P.K mg base (L2.CX prog w) (n + 1) (P.fa k) fd d.ps (spE P tb (n + 1) k) := by
  refine F.ok S (spE_len hd) (fun cdv A outer s H vs Q E hr hsp => ?_)
  refine ⟨tssE P tb n (fun cls d _ H => E cls d H) d.body, ?_, ?_⟩
  · refine soundSs ca (c := ⟨d.N, scope, fns, cs, kw, mu⟩) ⟨⟨rfl, rfl, rfl, rfl, S.nd, hr, G.fns, fun k' d' h' => ?_, G.cs, G.bl, L2.takes_of rfl rfl rfl rfl, L2.passes_of rfl⟩, fun _ => rfl, S.kind⟩ cb hcomp
    obtain ⟨h1, h2, h3⟩ := ih k' d' h'
    exact ⟨h1, h2, h3⟩
  · obtain ⟨d', hd', hl, lo, θ, st, ts, nw, hv, p⟩ := hsp
    rw [hd] at hd'; cases hd'
    have hlen : ts.length = d.ps.length := hv.length.trans hl
    have hdrop : d.dvs.drop (d.dvs.length + ts.length - d.ps.length) = [] := List.drop_eq_nil_of_le (by omega)
    unfold evC at p
    rw [hd] at p
    simp only [hdrop, List.append_nil] at p
    have hA : ts.length = d.ps.length ∧ d.dvs.length + ts.length ≥ d.ps.length := ⟨hlen, by omega⟩
    rw [if_pos hA] at p
    cases hm : d.mode with
    | keep =>
      rw [hm] at p
      exact ⟨lo, θ, st, _, nw, start_en hv, end_post p⟩
    | pure =>
      rw [hm] at p
      exact ⟨st.length, θ, st, _, ⟨Nat.le_refl _, nw.rel⟩, start_en hv, end_post (seal_post nw p)⟩
    | iso =>
      rw [hm] at p
      dsimp only at p
      split at p
      · next hb => exact ⟨0, θ, [], _, ⟨Nat.le_refl _, Rel.nil⟩, start_en (VTs.bel_to (n := 0) (fun i hi => absurd hi (Nat.not_lt_zero _)) (Nat.zero_le _) hv hb), end_post (iso_post nw p)⟩
      · exact p.elim
theorem all_ok (G : Prog P tb fns cs kw mu mg) : ∀ n : Nat, LevelOk P tb kw prog w mg base n := by
  intro n
  induction n with
  | zero =>
    intro k d hd
    obtain ⟨fd, x, qual, params, body, scope, dv, F, S, _, hb, hk, hc⟩ := G.defs k d hd
    refine ⟨⟨fd, ⟨spE_len hd, fun A outer s H args us vs Q E hr e0 hbt r hsp => ?_⟩, hb, hk⟩, F.kp, hc⟩
    obtain ⟨d', _, _, lo, θ, st, ts, nw, hv, p⟩ := hsp
    exact p.elim
  | succ n ih =>
    intro k d hd
    obtain ⟨fd, x, qual, params, body, scope, dv, F, S, ⟨ca, cb, hcomp⟩, hb, hk, hc⟩ := G.defs k d hd
    exact ⟨⟨fd, ok_at G ih hd F S hcomp, hb, hk⟩, F.kp, hc⟩
theorem FunD.same {K : PySem.W.Frag} {x x' qual qual' : Str} {params params' : Arguments} {body body' : List Stmt} {scope scope' : Scope} {dv dv' : List V} {kws kws' : List (Str × V)} {f : Addr} {fd fd' : FuncData} (F : FunD K x qual params body scope dv kws f fd) (F' : FunD K x' qual' params' body' scope' dv' kws' f fd') : fd = fd' := by
  obtain ⟨_, _, _, _, _, _, _, _, _, _, _, lk, _⟩ := F.ex
  obtain ⟨_, _, _, _, _, _, _, _, _, _, _, lk', _⟩ := F'.ex
  rw [lk] at lk'
  cases lk'
  rfl
/-- a def's promise at each heap, its function object given -/
theorem ok_base (G : Prog P tb fns cs kw mu mg) (n : Nat) {k : Nat} {d : FDef} (hd : tb[k]? = some d) {fd : FuncData} {x qual : Str} {params : Arguments} {body : List Stmt} {scope : Scope} {dv : List V} {kws : List (Str × V)} (F : FunD P.K x qual params body scope dv kws (P.fa k) fd) (base : Heap) :
    FnOk prog w P.K mg base (L2.CX prog w) (n + 1) (P.fa k) fd d.ps (spE P tb (n + 1) k) := by
  obtain ⟨fd', x', qual', params', body', scope', dv', F', S, ⟨ca, cb, hcomp⟩, _⟩ := G.defs k d hd
  have e := FunD.same F F'
  subst e
  exact ok_at G (all_ok G n) hd F' S hcomp
end
end Ev

/-! Ev15: from the head's facts to the program's. -/
namespace Ev
open PySem L2 PySem.Spec PyProof.Rows

mutual
/-- the value of the written part is this one -/
def vtB (K : PySem.W.Frag) : T → Value → Bool
  | .non, u => (match u with | .none => true | _ => false)
  | .bl b, u => (match u with | .bool c => b == c | _ => false)
  | .int i, u => (match u with | .int j _ => decide (j = i) | _ => false)
  | .str s, u => (match u with | .str y _ => decide (y = ⟨s.toArray⟩) && (Nat.ble s.length sizeL && PyData.strOk ⟨s.toArray⟩) | _ => false)
  | .tup ts, u => (match u with
    | .ref a => (match K.lookup a with
      | some ⟨.type c, _, .seq its _, _⟩ => decide (c = "tuple") && (Nat.ble its.size sizeL && vtBs K ts its.toList)
      | _ => false)
    | _ => false)
  | .kl ts, u => (match u with
    | .ref a => (match K.lookup a with
      | some ⟨.type c, none, .seq its _, _⟩ => decide (c = "list") && (Nat.ble its.size sizeL && vtBs K ts its.toList)
      | _ => false)
    | _ => false)
  | .loc _, _ => false
  | .fn _, _ => false
def vtBs (K : PySem.W.Frag) : List T → List Value → Bool
  | [], us => us.isEmpty
  | t :: ts, us => (match us with | u :: us => vtB K t u && vtBs K ts us | [] => false)
end
mutual
theorem vtB_ok {P : Pm} : ∀ {t : T} {u : Value}, vtB P.K t u = true → ∃ v, RelV v u ∧ ∀ θ n H, VT P θ n H t v
  | .non, u, h => by
    cases u <;> first | exact ⟨.non, rfl, fun _ _ _ => .non⟩ | cases h
  | .bl b, u, h => by
    cases u with
    | bool c =>
      have e : b = c := eq_of_beq (show (b == c) = true from h)
      subst e
      exact ⟨.bl b, rfl, fun _ _ _ => .bl b⟩
    | _ => cases h
  | .int i, u, h => by
    cases u with
    | int j t =>
      have e : j = i := of_decide_eq_true h
      subst e
      exact ⟨.int j, ⟨_, rfl⟩, fun _ _ _ => .int j⟩
    | _ => cases h
  | .str s, u, h => by
    cases u with
    | str y t =>
      have h : (decide (y = ⟨s.toArray⟩) && (Nat.ble s.length sizeL && PyData.strOk ⟨s.toArray⟩)) = true := h
      simp only [Bool.and_eq_true] at h
      have e : y = ⟨s.toArray⟩ := of_decide_eq_true h.1
      subst e
      exact ⟨.str _, ⟨_, rfl⟩, fun _ _ _ => .str s (by rw [sizeLine_eq]; exact Nat.le_of_ble_eq_true h.2.1) h.2.2⟩
    | _ => cases h
  | .tup ts, u, h => by
    unfold vtB at h
    split at h
    · split at h
      · next a _ c d its n sl e =>
        simp only [Bool.and_eq_true] at h
        have ec : c = "tuple" := of_decide_eq_true h.1
        subst ec
        obtain ⟨vs, h1, h2⟩ := vtBs_ok h.2.2
        exact ⟨.ref a, rfl, fun θ n H => .tup (.inr ⟨_, its, _, e, rfl, rfl, by rw [sizeLine_eq]; exact Nat.le_of_ble_eq_true h.2.1, h1⟩) (h2 θ n H)⟩
      · cases h
    · cases h
  | .kl ts, u, h => by
    unfold vtB at h
    split at h
    · split at h
      · next a _ c its n sl e =>
        simp only [Bool.and_eq_true] at h
        have ec : c = "list" := of_decide_eq_true h.1
        subst ec
        obtain ⟨vs, h1, h2⟩ := vtBs_ok h.2.2
        exact ⟨.ref a, rfl, fun θ n H => .kl (.inr (.inl ⟨_, its, _, e, rfl, rfl, rfl, by rw [sizeLine_eq]; exact Nat.le_of_ble_eq_true h.2.1, h1⟩)) (h2 θ n H)⟩
      · cases h
    · cases h
  | .loc _, _, h => by cases h
  | .fn _, _, h => by cases h
theorem vtBs_ok {P : Pm} : ∀ {ts : List T} {us : List Value}, vtBs P.K ts us = true → ∃ vs, Vals vs us ∧ ∀ θ n H, VTs P θ n H ts vs
  | [], us, h => by
    cases us with
    | nil => exact ⟨[], .nil, fun _ _ _ => .nil⟩
    | cons _ _ => cases h
  | t :: ts, us, h => by
    cases us with
    | nil => cases h
    | cons u us =>
      have h : (vtB P.K t u && vtBs P.K ts us) = true := h
      rw [Bool.and_eq_true] at h
      obtain ⟨v, h1, h2⟩ := vtB_ok h.1
      obtain ⟨vs, h3, h4⟩ := vtBs_ok h.2
      exact ⟨v :: vs, .cons h1 h3, fun θ n H => .cons (h2 θ n H) (h4 θ n H)⟩
end
/-- a global constant is this value -/
def csB (K : PySem.W.Frag) (p : Str × T) : Bool := match PySem.W.nsIn K mainGlobals p.1 with
  | some (some u) => vtB K p.2 u
  | _ => false
/-- all that the head is to tell: constants, names that nobody binds, defs -/
def exB (cl : List (Str × T)) (fl : List (Str × Nat)) (K : PySem.W.Frag) : Bool := cl.all (csB K) && (bltN.all (fun x => (He.Fa.free x).ok K) && fl.all fun p => (He.Fa.glo p.1).ok K)
/-- the world's parameters of a program -/
def pmOf (K : PySem.W.Frag) (fl : List (Str × Nat)) : Pm := ⟨K, fun k => match fl.find? (fun p => p.2 == k) with | some p => He.ga K p.1 | none => 0, fun _ => 0, fun _ => ""⟩
theorem pm_fa {K : PySem.W.Frag} {fl : List (Str × Nat)} {k : Nat} {nm : Str} (h : fl.find? (fun p => p.2 == k) = some (nm, k)) : (pmOf K fl).fa k = He.ga K nm := by
  show (match fl.find? (fun p => p.2 == k) with | some p => He.ga K p.1 | none => 0) = _
  rw [h]
theorem look_mem {α β : Type} [BEq α] [LawfulBEq α] {x : α} {y : β} : ∀ {l : List (α × β)}, l.lookup x = some y → (x, y) ∈ l
  | [], h => by cases h
  | (a, b) :: l, h => by
    cases e : x == a with
    | true =>
      rw [List.lookup_cons, e] at h
      cases h
      rw [eq_of_beq e]
      exact List.mem_cons_self
    | false =>
      rw [List.lookup_cons, e] at h
      exact List.mem_cons_of_mem _ (look_mem h)
/-- one def's part -/
structure DefOk (fl : List (Str × Nat)) (cl : List (Str × T)) (kw : List KwE) (mu : List (Nat × Nat)) (k : Nat) (d : FDef) (D : He.DefD) : Prop where
  at_ : D.at_ = (d.name, none)
  nm : D.name = d.name
  qual : D.qual = d.name
  kwd : D.kwd = []
  sc : FnScope d.N d.ps D.scope
  comp : ∃ a b, compSs a ⟨d.N, D.scope, fl, cl, kw, mu⟩ b D.body = some d.body
  look : fl.find? (fun p => p.2 == k) = some (d.name, k)
  binds : ∀ (K : PySem.W.Frag) (f : Addr) (fd : FuncData), FunD K D.name D.qual D.params D.body D.scope (D.dvs K) [] f fd → (∀ j, j ≤ d.dvs.length → ∃ ds, Vals ((d.dvs.map cV).drop j) ds ∧ Binds K fd d.ps ds) ∧
    (∀ q ∈ kw, q.k = k → ((∀ t ∈ q.dv, constT t = true) ∧ q.perm.length = d.ps.length) ∧ ∃ its, KBn K fd d.ps q.n q.ks (fun us ws => pick q.perm (us ++ ws ++ its)) (fun vs zs => pick q.perm (vs ++ zs ++ q.dv.map cV)))
  cst : ∀ t ∈ d.dvs, constT t = true
theorem prog_of {tb : List FDef} {fl : List (Str × Nat)} {cl : List (Str × T)} {kw : List KwE} {mu : List (Nat × Nat)} {fn : List He.DefD} {w : World} {h : Heap} {K : PySem.W.Frag} {mg : Str → Option Value}
    (X : K.In h) (G : h.Ns mainGlobals mg) (c : He.SaysX [] fn [] [] (exB cl fl) w h K) (hfl : ∀ p ∈ fl, ∃ d, tb[p.2]? = some d) (hun : ∀ p ∈ fl, fl.find? (fun q => q.2 == p.2) = some p)
    (hd : ∀ k d, tb[k]? = some d → ∃ D, fn[k]? = some D ∧ DefOk fl cl kw mu k d D) : Prog (pmOf K fl) tb fl cl kw mu mg := by
  have hex : (cl.all (csB K) && (bltN.all (fun x => (He.Fa.free x).ok K) && fl.all fun p => (He.Fa.glo p.1).ok K)) = true := c.more
  rw [Bool.and_eq_true, Bool.and_eq_true] at hex
  obtain ⟨h1, h2, h3⟩ := hex
  have fa_eq : ∀ p ∈ fl, (pmOf K fl).fa p.2 = He.ga K p.1 := fun p hp => by
    show (match fl.find? (fun q => q.2 == p.2) with | some p => He.ga K p.1 | none => 0) = _
    rw [hun p hp]
  refine ⟨fun x k e => ?_, fun x t e => ?_, fun x hx => ?_, fun k d e => ?_⟩
  · have hm := look_mem e
    refine ⟨?_, hfl _ hm⟩
    rw [fa_eq _ hm]
    exact He.glo_ok X G (List.all_eq_true.mp h3 _ hm)
  · have hm := List.all_eq_true.mp h1 _ (look_mem e)
    unfold csB at hm
    split at hm
    · next u eu =>
      obtain ⟨v, h4, h5⟩ := vtB_ok (P := pmOf K fl) hm
      exact ⟨u, v, PySem.W.mg_of X G eu, h4, h5⟩
    · cases hm
  · have hx' : x ∈ bltN := by simpa using hx
    exact He.free_ok X G (List.all_eq_true.mp h2 _ hx')
  · obtain ⟨D, eD, O⟩ := hd k d e
    obtain ⟨fd, F⟩ := (He.SaysT.d c.t).def_ k eD
    have hk : (pmOf K fl).fa k = He.fAd K D.at_ := by
      show (match fl.find? (fun p => p.2 == k) with | some p => He.ga K p.1 | none => 0) = _
      rw [O.look, O.at_]
      rfl
    have ekw : D.kws K = [] := by unfold He.DefD.kws; rw [O.kwd]; rfl
    rw [ekw] at F
    obtain ⟨b1, b2⟩ := O.binds K _ fd F
    have en := O.nm
    have eq := O.qual
    refine ⟨fd, d.name, d.name, D.params, D.body, D.scope, D.dvs K, ?_, O.sc, O.comp, b1, b2, O.cst⟩
    rw [hk, ← en]
    rw [eq, ← en] at F
    exact F
end Ev

/-! Ev16: the end: a law whose evaluator's answer is True at every script. -/
namespace Ev
open PySem L2 PySem.Spec PyProof.Rows
theorem walkE {l : PySem.W.OpenLaw} {n k : Nat} {q : Program} {loose : List Str} {XP : (Str → Option Value) → Heap → Prop} {YP : World → Heap → Prop} {d : DefRec} {x : Str} (hn : l.most = some n) (hn2 : n ≤ sizeLine) (hdf : d.params.defaults = []) (hr : Room k callerA)
    (F : ∀ (w : World) (mg : Str → Option Value) (fa : Addr) (h : Heap), YP w h → h.Ns mainGlobals mg → mg d.name = some (.ref fa) → ∃ (K : PySem.W.Frag) (fd : FuncData) (sp : Sp), K.In h ∧ (∀ (s : Shared) (u : Value), BindsTo s fd ⟨[u], []⟩ [(x, u)]) ∧
      (∀ (H : Hp) (a : Addr) (ns : List Int), ns.length ≤ n → SqL K H a (ns.map V.int) → sp [.ref a] H (fun v _ => v = .bl true) fun _ _ _ => False) ∧ ∀ base : Heap, K.In base → base.Ns mainGlobals mg → FnOk l.prog w K mg base (L2.CX l.prog w) k fa fd [x] sp) :
    PySem.W.WalkO q loose XP YP l.row.toRowW d [] (fun f vs => PySem.call f vs) := by
  refine Att.attach_call hn hdf fun w s₀ s₁ mg mb fa o pm cd doc a vs ns G Y ho hd hcd hmg hobj hints hlen hg => ?_
  obtain ⟨K, fd, sp, KX, b1, b2, b3⟩ := F w mg fa _ Y G.T.g hmg
  refine law_call (CX := L2.CX l.prog w) KX G.T.g G.T.b G.T.builtins G.T.nolimit hg hobj hints (Nat.le_trans hlen hn2) hr b3 b1 (fun H _ hS => b2 H a ns hlen hS) fun H e s' hx => ?_
  obtain ⟨_, _, _, _, _, _, _, _, _, _, _, _, z⟩ := hx
  exact z
theorem vts_ints {P : Pm} {θ : Nat → Addr} {n : Nat} {H : Hp} : ∀ ns : List Int, VTs P θ n H (ns.map T.int) (ns.map V.int)
  | [] => .nil
  | i :: ns => .cons (.int i) (vts_ints ns)
/-- the law's promise, by the evaluator's answer -/
theorem sp_law {K : PySem.W.Frag} {fl : List (Str × Nat)} {tb : List FDef} {m k : Nat} {d : FDef} (hd : tb[k]? = some d) (hp : d.ps.length = 1) {H : Hp} {a : Addr} {ns : List Int} (hS : SqL K H a (ns.map V.int))
    (hev : ∃ st, evC tb m k 0 [.kl (ns.map T.int)] [] = .ok (.bl true) st) : spE (pmOf K fl) tb m k [.ref a] H (fun v _ => v = .bl true) fun _ _ _ => False := by
  obtain ⟨st, e⟩ := hev
  have kl : KL K (fun _ => 0) 0 H a (ns.map V.int) := by
    rcases hS with (h | h) | h
    · exact .inr (.inr ⟨h, fun i hi => absurd hi (Nat.not_lt_zero _)⟩)
    · exact .inl h
    · exact .inr (.inl h)
  refine ⟨d, hd, hp.symm, 0, fun _ => 0, [], [.kl (ns.map T.int)], ⟨Nat.le_refl _, Rel.nil⟩, .cons (.kl kl (vts_ints ns)) .nil, ?_⟩
  rw [e]
  intro θ' H' v x vt
  exact vt.bl_inv
/-- a def of a top statement -/
def defD (nm : Str) (st : Stmt) (dfl : List He.Dv) : He.DefD := ⟨(nm, none), nm, nm, defArgs st, defBody st, defScope st, dfl, []⟩
/-- names of a def, checked -/
def scB (N ps : List Str) (sc : Scope) : Bool := decide (sc.kind = .function) && !sc.isCoroutine && !sc.isGenerator && decide N.Nodup && decide (N.take ps.length = ps) &&
  (ps.all fun x => match sc.names.lookup x with | some .local => true | some .cell => true | _ => false) && sc.names.all fun y => decide (y.2 ≠ .free)
theorem scB_ok {N ps : List Str} {sc : Scope} (h : scB N ps sc = true) : FnScope N ps sc := by
  unfold scB at h
  simp only [Bool.and_eq_true, Bool.not_eq_true', decide_eq_true_iff, List.all_eq_true] at h
  obtain ⟨⟨⟨⟨⟨⟨h1, h2⟩, h3⟩, h4⟩, h5⟩, h6⟩, h7⟩ := h
  refine ⟨h1, h2, h3, h4, h5, fun x hx => ?_, fun y hy => by simpa using h7 y hy⟩
  have := h6 x hx
  split at this
  · next e => exact .inl e
  · next e => exact .inr e
  · cases this
theorem no_kw {kw : List KwE} {k : Nat} {C : KwE → Prop} (h : (kw.all fun q => q.k != k) = true) : ∀ q ∈ kw, q.k = k → C q := fun q hq e => by
  have := List.all_eq_true.mp h q hq
  rw [e] at this
  simp at this
/-- no defaults -/
theorem b_none {K : PySem.W.Frag} {fd : FuncData} {ps : List Str} (h : Binds K fd ps []) : ∀ j, j ≤ ([] : List T).length → ∃ ds, Vals ((([] : List T).map cV).drop j) ds ∧ Binds K fd ps ds := fun j hj => by
  have : j = 0 := Nat.le_zero.mp hj
  subst this
  exact ⟨[], .nil, h⟩
end Ev
namespace Ev
open PySem L2 PySem.Spec PyProof.Rows
theorem vals_at {xs : List V} {us : List Value} (h : Vals xs us) : ∀ i : Nat, (xs[i]? = none ∧ us[i]? = none) ∨ ∃ v u, xs[i]? = some v ∧ us[i]? = some u ∧ RelV v u := by
  induction h with
  | nil => intro i; exact .inl ⟨rfl, rfl⟩
  | cons h _ ih =>
    intro i
    cases i with
    | zero => exact .inr ⟨_, _, rfl, rfl, h⟩
    | succ i => simpa using ih i
theorem vals_pick {xs : List V} {us : List Value} (h : Vals xs us) : ∀ perm : List Nat, Vals (pick perm xs) (pick perm us)
  | [] => .nil
  | i :: perm => by
    unfold pick
    rcases vals_at h i with ⟨h1, h2⟩ | ⟨v, u, h1, h2, r⟩
    · rw [List.filterMap_cons_none h1, List.filterMap_cons_none h2]; exact vals_pick h perm
    · rw [List.filterMap_cons_some h1, List.filterMap_cons_some h2]; exact .cons r (vals_pick h perm)
/-- a call by keywords of a def without defaults -/
theorem kb_none {K : PySem.W.Frag} {x qual : Str} {params : Arguments} {body : List Stmt} {scope : Scope} {f : Addr} {fd : FuncData} {ps : List Str} (F : FunD K x qual params body scope [] [] f fd) (n : Nat) (ks : List Str) (perm : List Nat)
    (h : ∀ (kV doc pm : Value) (an : Option Addr) (cdv ct : Value) (us ws : List Value), us.length = n → ws.length = ks.length → bindArgs (PySem.W.fnOf x qual params body scope .none kV doc pm an cdv ct) ⟨us, ks.zip ws⟩ = pure (ps.zip (pick perm (us ++ ws ++ [])))) :
    ∃ its, KBn K fd ps n ks (fun us ws => pick perm (us ++ ws ++ its)) (fun vs zs => pick perm (vs ++ zs ++ [])) := by
  obtain ⟨oc, od, dV, kV, doc, pm, an, cdv, ct, osl, rfl, lk, hcd, hD, hK⟩ := F.ex
  rcases hD with ⟨_, rfl⟩ | ⟨e, _⟩
  · exact ⟨[], ⟨fun s us ws _ l1 l2 => .of_eq (h kV doc pm an cdv ct us ws l1 l2), fun r1 r2 => vals_pick ((r1.append r2).append .nil) perm⟩⟩
  · exact absurd rfl e
/-- .. with defaults -/
theorem kb_some {K : PySem.W.Frag} {x qual : Str} {params : Arguments} {body : List Stmt} {scope : Scope} {dvs : List V} {f : Addr} {fd : FuncData} {ps : List Str} (F : FunD K x qual params body scope dvs [] f fd) (n : Nat) (ks : List Str) (perm : List Nat) (hd : dvs ≠ [])
    (h : ∀ (T : Addr) (kV doc pm : Value) (an : Option Addr) (cdv ct : Value) (us its ws : List Value), us.length = n → its.length = dvs.length → ws.length = ks.length →
      ∃ k, bindArgs (PySem.W.fnOf x qual params body scope (.ref T) kV doc pm an cdv ct) ⟨us, ks.zip ws⟩ = seqItems? (.ref T) >>= k ∧ k (some its.toArray) = pure (ps.zip (pick perm (us ++ ws ++ its)))) :
    ∃ its, KBn K fd ps n ks (fun us ws => pick perm (us ++ ws ++ its)) (fun vs zs => pick perm (vs ++ zs ++ dvs)) := by
  obtain ⟨oc, od, dV, kV, doc, pm, an, cdv, ct, osl, rfl, lk, hcd, hD, hK⟩ := F.ex
  rcases hD with ⟨e, _⟩ | ⟨_, T, o, its, m, rfl, lT, oT, rT⟩
  · exact absurd e hd
  · refine ⟨its, ⟨fun s us ws X l1 l2 => ?_, fun r1 r2 => vals_pick ((r1.append r2).append rT) perm⟩⟩
    obtain ⟨k, e1, e2⟩ := h T kV doc pm an cdv ct us its ws l1 rT.length.symm l2
    refine BindsTo.of_looks fun M => ?_
    rw [e1]
    exact looks_items X lT oT (.of_pure e2)
end Ev

/-! Sx: the evaluator's equations, to run it by symbols. -/
namespace Ev
def andK (o : Option Bool) (f : Unit → Rs T) (r : Rs T) : Rs T := match o with | some true => f () | some false => r | none => .no
def orK (o : Option Bool) (f : Unit → Rs T) (r : Rs T) : Rs T := match o with | some true => r | some false => f () | none => .no
def ifK (o : Option Bool) (f g : Unit → Rs T) : Rs T := match o with | some true => f () | some false => g () | none => .no
def optB (o : Option Bool) (st : Sto) : Rs T := match o with | some k => .ok (.bl k) st | none => .no
def notB (o : Option Bool) (st : Sto) : Rs T := match o with | some k => .ok (.bl (!k)) st | none => .no
@[simp] theorem andK_t (f : Unit → Rs T) (r : Rs T) : andK (some true) f r = f () := rfl
@[simp] theorem andK_f (f : Unit → Rs T) (r : Rs T) : andK (some false) f r = r := rfl
@[simp] theorem andK_b (p q : Bool) (st : Sto) : andK (some p) (fun _ => .ok (.bl q) st) (.ok (.bl p) st) = .ok (.bl (p && q)) st := by cases p <;> rfl
@[simp] theorem orK_t (f : Unit → Rs T) (r : Rs T) : orK (some true) f r = r := rfl
@[simp] theorem orK_f (f : Unit → Rs T) (r : Rs T) : orK (some false) f r = f () := rfl
@[simp] theorem orK_b (p q : Bool) (st : Sto) : orK (some p) (fun _ => .ok (.bl q) st) (.ok (.bl p) st) = .ok (.bl (p || q)) st := by cases p <;> rfl
@[simp] theorem ifK_t (f g : Unit → Rs T) : ifK (some true) f g = f () := rfl
@[simp] theorem ifK_f (f g : Unit → Rs T) : ifK (some false) f g = g () := rfl
@[simp] theorem optB_s (k : Bool) (st : Sto) : optB (some k) st = .ok (.bl k) st := rfl
@[simp] theorem notB_s (k : Bool) (st : Sto) : notB (some k) st = .ok (.bl (!k)) st := rfl
@[simp] theorem truth_bl (st : Sto) (b : Bool) : truth st (.bl b) = some b := rfl
@[simp] theorem eqS_int (st : Sto) (i j : Int) : eqS st (.int i) (.int j) = some (decide (i = j)) := by
  show some (i == j) = _
  rw [show (i == j) = decide (i = j) from rfl]
@[simp] theorem eqS_str (st : Sto) (a b : List Nat) : eqS st (.str a) (.str b) = some (decide (a = b)) := by
  show some (a == b) = _
  by_cases h : a = b
  · subst h; simp
  · rw [decide_eq_false h, beq_eq_false_iff_ne.mpr h]
@[simp] theorem inS_nil (st : Sto) (w : List Nat) : inS st (.str w) [] = some false := rfl
theorem inS_str (st : Sto) (w : List Nat) : ∀ zs : List (List Nat), inS st (.str w) (zs.map T.str) = some (zs.any fun z => decide (z = w)) := by
  intro zs
  have h1 : T.pures (zs.map T.str) = true := by
    induction zs with
    | nil => rfl
    | cons z zs ih => show (true && T.pures (zs.map T.str)) = true; rw [ih]; rfl
  unfold inS
  rw [show (T.str w).pure = true from rfl, h1]
  simp only [Bool.and_self, if_true]
  rw [if_pos (by show min _ 0 ≤ 64; omega)]
  congr 1
  induction zs with
  | nil => rfl
  | cons z zs ih =>
    rw [List.map_cons, List.any_cons, List.any_cons]
    have h2 : T.pures (zs.map T.str) = true := by
      have : (true && T.pures (zs.map T.str)) = true := h1
      simpa using this
    rw [ih h2]
    congr 1
    show (z == w) = _
    by_cases h : z = w
    · subst h; simp
    · rw [decide_eq_false h, beq_eq_false_iff_ne.mpr h]
@[simp] theorem inS_str2 (st : Sto) (w a b : List Nat) : inS st (.str w) [.str a, .str b] = some (decide (w = a) || decide (w = b)) := by
  have := inS_str st w [a, b]
  simpa [eq_comm] using this
@[simp] theorem inS_str4 (st : Sto) (w a b c d : List Nat) : inS st (.str w) [.str a, .str b, .str c, .str d] = some (decide (w = a) || (decide (w = b) || (decide (w = c) || decide (w = d)))) := by
  have := inS_str st w [a, b, c, d]
  simpa [eq_comm] using this
@[simp] theorem c_eq (st : Sto) (x y : T) : cmp2 st .eq x y = eqS st x y := rfl
@[simp] theorem c_lt (st : Sto) (i j : Int) : cmp2 st .lt (.int i) (.int j) = some (decide (i < j)) := rfl
@[simp] theorem c_le (st : Sto) (i j : Int) : cmp2 st .le (.int i) (.int j) = some (decide (i ≤ j)) := rfl
@[simp] theorem c_gt (st : Sto) (i j : Int) : cmp2 st .gt (.int i) (.int j) = some (decide (j < i)) := rfl
@[simp] theorem c_ge (st : Sto) (i j : Int) : cmp2 st .ge (.int i) (.int j) = some (decide (j ≤ i)) := rfl
@[simp] theorem c_isN (st : Sto) (x : T) : cmp2 st .is x .non = some x.isNon := rfl
@[simp] theorem c_isB (st : Sto) (x : T) (b : Bool) : cmp2 st .is x (.bl b) = some (x.isBl b) := rfl
@[simp] theorem c_inT (st : Sto) (x : T) (ts : List T) : cmp2 st .inn x (.tup ts) = inS st x ts := rfl
@[simp] theorem c_ninT (st : Sto) (x : T) (ts : List T) : cmp2 st .notIn x (.tup ts) = (inS st x ts).map not := rfl
section
variable (cl : Nat → Nat → List T → Sto → Rs T) (lo : Nat) (env : En) (st : Sto)
@[simp] theorem x_var (i : Nat) : evE cl lo env (.var i) st = (match env[i]? with | some (some t) => .ok t st | _ => .no) := rfl
@[simp] theorem x_cst (t : T) : evE cl lo env (.cst t) st = .ok t st := rfl
@[simp] theorem x_tup (es : Es) : evE cl lo env (.tup es) st = (evEs cl lo env es st).bind fun ts st => if ts.length ≤ sizeL then .ok (.tup ts) st else .no := rfl
@[simp] theorem x_lst (es : Es) : evE cl lo env (.lst es) st = (evEs cl lo env es st).bind fun ts st => if ts.length ≤ sizeL then .ok (.loc st.length) (st ++ [.lst ts]) else .no := rfl
@[simp] theorem x_klst (es : Es) : evE cl lo env (.klst es) st = (evEs cl lo env es st).bind fun ts st => if ts.length ≤ sizeL then .ok (.kl ts) st else .no := rfl
@[simp] theorem x_bin (op : B2) (a b : E) : evE cl lo env (.bin op a b) st = (evE cl lo env a st).bind fun x st => (evE cl lo env b st).bind fun y st => op2 op x y st := rfl
@[simp] theorem x_neg (a : E) : evE cl lo env (.neg a) st = (evE cl lo env a st).bind fun x st => (match x with | .int i => .ok (.int (-i)) st | _ => .no) := rfl
@[simp] theorem x_not (a : E) : evE cl lo env (.not_ a) st = (evE cl lo env a st).bind fun x st => notB (truth st x) st := rfl
@[simp] theorem x_and (a b : E) : evE cl lo env (.and_ a b) st = (evE cl lo env a st).bind fun x st => andK (truth st x) (fun _ => evE cl lo env b st) (.ok x st) := rfl
@[simp] theorem x_or (a b : E) : evE cl lo env (.or_ a b) st = (evE cl lo env a st).bind fun x st => orK (truth st x) (fun _ => evE cl lo env b st) (.ok x st) := rfl
@[simp] theorem x_cmp (op : C2) (a b : E) : evE cl lo env (.cmp op a b) st = (evE cl lo env a st).bind fun x st => (evE cl lo env b st).bind fun y st => optB (cmp2 st op x y) st := rfl
@[simp] theorem x_ife (c a b : E) : evE cl lo env (.ife c a b) st = (evE cl lo env c st).bind fun x st => ifK (truth st x) (fun _ => evE cl lo env a st) (fun _ => evE cl lo env b st) := rfl
@[simp] theorem x_call (k : Nat) (es : Es) : evE cl lo env (.call k es) st = (evEs cl lo env es st).bind fun ts st => cl k lo ts st := rfl
@[simp] theorem x_callk (k : Nat) (es ks : Es) (perm : List Nat) (dv : List T) : evE cl lo env (.callk k es ks perm dv) st = (evEs cl lo env es st).bind fun ts st => (evEs cl lo env ks st).bind fun us st => (match permT perm (ts ++ us ++ dv) with
    | some vs => (match cl k lo vs st with | .ok t st => .ok t st | _ => .no)
    | none => .no) := rfl
@[simp] theorem x_bi (b : Bi) (es : Es) : evE cl lo env (.bi b es) st = (evEs cl lo env es st).bind fun ts st => biT b ts st := rfl
@[simp] theorem x_isi (ty : TyK) (a : E) : evE cl lo env (.isi ty a) st = (evE cl lo env a st).bind fun x st => optB (isiT st ty x) st := rfl
@[simp] theorem x_mt (m : Mt) (o : E) (es : Es) : evE cl lo env (.mt m o es) st = (evE cl lo env o st).bind fun x st => (match okRecv m st x with
    | true => (evEs cl lo env es st).bind fun ts st => mtT lo m x ts st
    | false => .no) := rfl
@[simp] theorem x_ix (a i : E) : evE cl lo env (.ix a i) st = (evE cl lo env a st).bind fun x st => (evE cl lo env i st).bind fun y st => Rs.of (ixT st x y) st := rfl
@[simp] theorem x_sl (a : E) (l h : OE) : evE cl lo env (.sl a l h) st = (evE cl lo env a st).bind fun x st => (evO cl lo env l st).bind fun l st => (evO cl lo env h st).bind fun h st => slT st x l h := rfl
@[simp] theorem x_frz (e : E) : evE cl lo env (.frz e) st = sealK st (evE cl st.length env e st) := rfl
@[simp] theorem x_lc0 (elt : E) (g : Tg) (it : I) (own : List Nat) : evE cl lo env (.lc elt g it .non own) st = (evI cl lo env it st).bind fun it st =>
      (loopC (eltF none (fun env' st => evE cl lo env' elt st) env g own) it st.length turns 0 (st ++ [.lst []])).bind fun _ st' => .ok (.loc st.length) st' := rfl
@[simp] theorem x_lc1 (elt : E) (g : Tg) (it : I) (t : E) (own : List Nat) : evE cl lo env (.lc elt g it (.som t) own) st = (evI cl lo env it st).bind fun it st =>
      (loopC (eltF (some fun env' st => evE cl lo env' t st) (fun env' st => evE cl lo env' elt st) env g own) it st.length turns 0 (st ++ [.lst []])).bind fun _ st' => .ok (.loc st.length) st' := rfl
@[simp] theorem x_nil : evEs cl lo env .nil st = .ok [] st := rfl
@[simp] theorem x_cons (e : E) (es : Es) : evEs cl lo env (.cons e es) st = (evE cl lo env e st).bind fun t st => (evEs cl lo env es st).bind fun ts st => .ok (t :: ts) st := rfl
@[simp] theorem x_non : evO cl lo env .non st = .ok none st := rfl
@[simp] theorem x_som (e : E) : evO cl lo env (.som e) st = (evE cl lo env e st).bind fun x st => (match x with | .int i => .ok (some i) st | _ => .no) := rfl
@[simp] theorem x_seq (e : E) : evI cl lo env (.seq e) st = (evE cl lo env e st).bind fun x st => (match x with
    | .tup ts => .ok (.snap ts) st
    | .kl ts => .ok (.snap ts) st
    | .str s => .ok (.snap (s.map fun c => .str [c])) st
    | .loc l => (match getL st l with | some _ => .ok (.live l) st | none => .no)
    | _ => .no) := rfl
@[simp] theorem x_rng (es : Es) : evI cl lo env (.rng es) st = (evEs cl lo env es st).bind fun ts st => (match ts with
    | [.int j] => if -(2 ^ 62) ≤ j ∧ j < 2 ^ 62 then .ok (.snap (rangeI 0 j)) st else .no
    | [.int i, .int j] => if (-(2 ^ 62) ≤ i ∧ i < 2 ^ 62) ∧ -(2 ^ 62) ≤ j ∧ j < 2 ^ 62 then .ok (.snap (rangeI i j)) st else .no
    | _ => .no) := rfl
@[simp] theorem x_zip (a b : E) : evI cl lo env (.zip a b) st = (evE cl lo env a st).bind fun x st => (evE cl lo env b st).bind fun y st => (match x, y with
    | .tup xs, .tup ys => .ok (.snap ((xs.zip ys).map fun p => .tup [p.1, p.2])) st
    | _, _ => .no) := rfl
@[simp] theorem x_T (c : E) : evT cl lo env c st = (evE cl lo env c st).bind fun x st => Rs.of (truth st x) st := rfl
@[simp] theorem x_asg (g : Tg) (e : E) : evS cl lo (.asg g e) env st = (evE cl lo env e st).atS env fun x st => (match asgT g x env with | some env' => .ok (.nx env') st | none => .no) := rfl
@[simp] theorem x_setix (o i e : E) : evS cl lo (.setix o i e) env st = (evE cl lo env e st).atS env fun v st => (evE cl lo env o st).atS env fun o st => (evE cl lo env i st).atS env fun i st =>
    (match setIx lo o i v st with | some st' => .ok (.nx env) st' | none => .no) := rfl
@[simp] theorem x_ex (e : E) : evS cl lo (.ex e) env st = (evE cl lo env e st).atS env fun _ st => .ok (.nx env) st := rfl
@[simp] theorem x_ret (e : E) : evS cl lo (.ret e) env st = (evE cl lo env e st).atS env fun t st => .ok (.ret t) st := rfl
@[simp] theorem x_retN : evS cl lo .retN env st = .ok (.ret .non) st := rfl
@[simp] theorem x_ifs (c : E) (a b : Ss) : evS cl lo (.ifs c a b) env st = (evT cl lo env c st).atS env fun k st => if k then evSs cl lo a env st else evSs cl lo b env st := rfl
theorem x_whl (c : E) (b : Ss) : evS cl lo (.whl c b) env st = loopW (fun env st => evT cl lo env c st) (fun env st => evSs cl lo b env st) turns env st := rfl
theorem x_for (g : Tg) (it : I) (b : Ss) : evS cl lo (.for_ g it b) env st = (evI cl lo env it st).atS env fun it st => loopF (bodyF g fun env st => evSs cl lo b env st) it turns 0 env st := rfl
@[simp] theorem x_pass : evS cl lo .pass env st = .ok (.nx env) st := rfl
@[simp] theorem x_ssnil : evSs cl lo .nil env st = .ok (.nx env) st := rfl
@[simp] theorem x_sscons (s : S) (ss : Ss) : evSs cl lo (.cons s ss) env st = (match evS cl lo s env st with
    | .ok (.nx env') st => evSs cl lo ss env' st
    | .ok (.ret t) st => .ok (.ret t) st
    | .ok (.brk env') st => .ok (.brk env') st
    | .ok (.ct env') st => .ok (.ct env') st
    | .ok (.exc c v env') st => .ok (.exc c v env') st
    | .ex _ _ _ => .no
    | .no => .no) := rfl
end
/-- a call's run, its def given -/
def callD (tb : List FDef) (n : Nat) (d : FDef) (lo : Nat) (ts : List T) (st : Sto) : Rs T := match d.mode with
  | .keep => endF (evSs (evC tb n) lo d.body (startE d ts) st)
  | .pure => sealF .pure st (endF (evSs (evC tb n) st.length d.body (startE d ts) st))
  | .iso => if T.bels 0 ts then sealF .iso st (endF (evSs (evC tb n) 0 d.body (startE d ts) [])) else .no
theorem evC_full' {tb : List FDef} {n k : Nat} {d : FDef} {lo : Nat} {ts : List T} {st : Sto} (hd : tb[k]? = some d) (hl : ts.length = d.ps.length) : evC tb (n + 1) k lo ts st = callD tb n d lo ts st := by
  show (match tb[k]? with | none => _ | some d => _) = _
  rw [hd]
  have e : d.dvs.drop (d.dvs.length + ts.length - d.ps.length) = [] := List.drop_eq_nil_of_le (by omega)
  simp only [e, List.append_nil]
  rw [if_pos ⟨hl, by omega⟩]
  rfl
/-- .. with its defaults -/
theorem evC_dflt {tb : List FDef} {n k : Nat} {d : FDef} {lo : Nat} {ts us : List T} {st : Sto} (hd : tb[k]? = some d) (hu : ts ++ d.dvs.drop (d.dvs.length + ts.length - d.ps.length) = us) (hl : us.length = d.ps.length) (h2 : d.ps.length ≤ d.dvs.length + ts.length) : evC tb (n + 1) k lo ts st = callD tb n d lo us st := by
  show (match tb[k]? with | none => _ | some d => _) = _
  rw [hd]
  simp only [hu]
  rw [if_pos ⟨hl, h2⟩]
  rfl
/-- a closed run -/
theorem evC_iso {tb : List FDef} {n k : Nat} {d : FDef} {lo : Nat} {ts us : List T} {st st' : Sto} {r : T} (hd : tb[k]? = some d) (hu : ts ++ d.dvs.drop (d.dvs.length + ts.length - d.ps.length) = us) (hl : us.length = d.ps.length) (h2 : d.ps.length ≤ d.dvs.length + ts.length) (hm : d.mode = .iso)
    (hb : T.bels 0 us = true) (he : endF (evSs (evC tb n) 0 d.body (startE d us) []) = .ok r st') (hr : r.pure = true) : evC tb (n + 1) k lo ts st = .ok r st := by
  rw [evC_dflt hd hu hl h2]
  unfold callD
  rw [hm]
  simp only [hb, if_true, he, sealF, hr]
end Ev
namespace Ev
mutual
/-- a value with no object and no def within -/
def T.gd : T → Bool
  | .non => true
  | .bl _ => true
  | .int _ => true
  | .str _ => true
  | .tup ts => Nat.ble ts.length 1000 && T.gds ts
  | .kl ts => Nat.ble ts.length 1000 && T.gds ts
  | .loc _ => false
  | .fn _ => false
def T.gds : List T → Bool
  | [] => true
  | t :: ts => t.gd && T.gds ts
end
mutual
theorem gd_bel (n : Nat) : ∀ {t : T}, t.gd = true → t.bel n = true
  | .non, _ => rfl
  | .bl _, _ => rfl
  | .int _, _ => rfl
  | .str _, _ => rfl
  | .tup ts, h => gds_bel n (Bool.and_eq_true_iff.mp (show (Nat.ble ts.length 1000 && T.gds ts) = true from h)).2
  | .kl ts, h => gds_bel n (Bool.and_eq_true_iff.mp (show (Nat.ble ts.length 1000 && T.gds ts) = true from h)).2
  | .loc _, h => Bool.noConfusion h
  | .fn _, h => Bool.noConfusion h
theorem gds_bel (n : Nat) : ∀ {ts : List T}, T.gds ts = true → T.bels n ts = true
  | [], _ => rfl
  | t :: ts, h => by
    have h : (t.gd && T.gds ts) = true := h
    rw [Bool.and_eq_true] at h
    show (t.bel n && T.bels n ts) = true
    rw [gd_bel n h.1, gds_bel n h.2]; rfl
end
/-- .. as propositions -/
def Gd (t : T) : Prop := t.gd = true
def Gds (ts : List T) : Prop := T.gds ts = true
@[simp] theorem gds_nil : Gds [] := rfl
@[simp] theorem gds_cons (t : T) (ts : List T) : Gds (t :: ts) ↔ Gd t ∧ Gds ts := by
  show (t.gd && T.gds ts) = true ↔ _
  rw [Bool.and_eq_true]; rfl
@[simp] theorem gd_non : Gd .non := rfl
@[simp] theorem gd_bl (b : Bool) : Gd (.bl b) := rfl
@[simp] theorem gd_int (i : Int) : Gd (.int i) := rfl
@[simp] theorem gd_str (s : List Nat) : Gd (.str s) := rfl
theorem gd_tup' (ts : List T) : Gd (.tup ts) ↔ ts.length ≤ 1000 ∧ Gds ts := by
  show (Nat.ble ts.length 1000 && T.gds ts) = true ↔ _
  rw [Bool.and_eq_true, Nat.ble_eq]; rfl
@[simp] theorem gd_tup (ts : List T) : Gd (.tup ts) ↔ ts.length ≤ 1000 ∧ Gds ts := gd_tup' ts
@[simp] theorem gd_kl (ts : List T) : Gd (.kl ts) ↔ ts.length ≤ 1000 ∧ Gds ts := gd_tup' ts
theorem gds_mem {ts : List T} (h : Gds ts) {x : T} (hx : x ∈ ts) : Gd x := by
  induction ts with
  | nil => cases hx
  | cons t ts ih =>
    rw [gds_cons] at h
    rcases List.mem_cons.mp hx with rfl | hx
    · exact h.1
    · exact ih h.2 hx
@[simp] theorem gd_loc (l : Nat) : ¬ Gd (.loc l) := fun h => by cases h
@[simp] theorem gd_fn (l : Nat) : ¬ Gd (.fn l) := fun h => by cases h
/-- a closed run of a def with all its arguments -/
theorem evC_iso' {tb : List FDef} {n k : Nat} {d : FDef} {lo : Nat} {ts : List T} {st st' : Sto} {r : T} (hd : tb[k]? = some d) (hl : ts.length = d.ps.length) (hm : d.mode = .iso)
    (hb : Gds ts) (he : endF (evSs (evC tb n) 0 d.body (startE d ts) []) = .ok r st') (hr : r.pure = true) : evC tb (n + 1) k lo ts st = .ok r st := by
  rw [evC_full' hd hl]
  unfold callD
  rw [hm]
  simp only [gds_bel 0 hb, if_true, he, sealF, hr]
/-- .. with defaults -/
theorem evC_dfl {tb : List FDef} {n k : Nat} {d : FDef} {lo : Nat} {ts us : List T} {st : Sto} (hd : tb[k]? = some d) (hu : ts ++ d.dvs.drop (d.dvs.length + ts.length - d.ps.length) = us) (hl : us.length = d.ps.length) (h2 : Nat.ble d.ps.length (d.dvs.length + ts.length) = true) : evC tb (n + 1) k lo ts st = evC tb (n + 1) k lo us st := by
  rw [evC_dflt hd hu hl (Nat.le_of_ble_eq_true h2), evC_full' hd hl]
end Ev
namespace Ev
@[simp] theorem b_lenT (ts : List T) (st : Sto) : biT .len [.tup ts] st = .ok (.int ts.length) st := rfl
@[simp] theorem b_lenK (ts : List T) (st : Sto) : biT .len [.kl ts] st = .ok (.int ts.length) st := rfl
@[simp] theorem b_lenS (s : List Nat) (st : Sto) : biT .len [.str s] st = .ok (.int s.length) st := rfl
@[simp] theorem ix_tup (ts : List T) (i : Int) (st : Sto) : ixT st (.tup ts) (.int i) = atIx ts i := rfl
@[simp] theorem ix_kl (ts : List T) (i : Int) (st : Sto) : ixT st (.kl ts) (.int i) = atIx ts i := rfl
theorem atIx_nat {α : Type} (xs : List α) (n : Nat) : atIx xs (n : Int) = xs[n]? := by
  unfold atIx ixOf
  by_cases h : n < xs.length
  · rw [if_pos (by omega), if_pos (by omega)]; simp
  · rw [if_pos (by omega), if_neg (by omega)]
    exact (List.getElem?_eq_none (by omega)).symm
@[simp] theorem at0 {α : Type} (xs : List α) : atIx xs 0 = xs[0]? := atIx_nat xs 0
@[simp] theorem at1 {α : Type} (xs : List α) : atIx xs 1 = xs[1]? := atIx_nat xs 1
@[simp] theorem at2 {α : Type} (xs : List α) : atIx xs 2 = xs[2]? := atIx_nat xs 2
@[simp] theorem at3 {α : Type} (xs : List α) : atIx xs 3 = xs[3]? := atIx_nat xs 3
@[simp] theorem at4 {α : Type} (xs : List α) : atIx xs 4 = xs[4]? := atIx_nat xs 4
@[simp] theorem at5 {α : Type} (xs : List α) : atIx xs 5 = xs[5]? := atIx_nat xs 5
theorem cut_hi {α : Type} (xs : List α) (n : Nat) : cut xs none (some (n : Int)) = xs.take n := by
  unfold cut slIx
  simp only [Nat.sub_zero, List.drop_zero]
  rw [if_neg (by omega)]
  rw [Int.toNat_natCast, List.take_eq_take_iff]
  omega
theorem cut_lo {α : Type} (xs : List α) (n : Nat) : cut xs (some (n : Int)) none = xs.drop n := by
  unfold cut slIx
  simp only []
  rw [if_neg (by omega), Int.toNat_natCast]
  by_cases h : n ≤ xs.length
  · rw [Nat.min_eq_left h, List.take_of_length_le (by rw [List.length_drop]; omega)]
  · rw [Nat.min_eq_right (by omega), List.drop_eq_nil_of_le (by omega), List.drop_eq_nil_of_le (by omega), List.take_nil]
@[simp] theorem sl_t2 (ts : List T) (st : Sto) : slT st (.tup ts) none (some 2) = .ok (.tup (ts.take 2)) st := by
  show Rs.ok (T.tup (cut ts none (some ((2 : Nat) : Int)))) st = _
  rw [cut_hi]
@[simp] theorem sl_t3 (ts : List T) (st : Sto) : slT st (.tup ts) none (some 3) = .ok (.tup (ts.take 3)) st := by
  show Rs.ok (T.tup (cut ts none (some ((3 : Nat) : Int)))) st = _
  rw [cut_hi]
@[simp] theorem sl_d2 (ts : List T) (st : Sto) : slT st (.tup ts) (some 2) none = .ok (.tup (ts.drop 2)) st := by
  show Rs.ok (T.tup (cut ts (some ((2 : Nat) : Int)) none)) st = _
  rw [cut_lo]
def isT : T → Bool | .tup _ => true | _ => false
def isSt : T → Bool | .str _ => true | _ => false
@[simp] theorem isT_tup (ts : List T) : isT (.tup ts) = true := rfl
@[simp] theorem isSt_str (s : List Nat) : isSt (.str s) = true := rfl
theorem isi_T {v : T} {st : Sto} (hg : Gd v) : isiT st .tuple v = some (isT v) := by cases v <;> first | rfl | cases hg
theorem isi_S {v : T} {st : Sto} (hg : Gd v) : isiT st .str v = some (isSt v) := by cases v <;> first | rfl | cases hg
/-- a comprehension's turns over a row -/
theorem loopC_snap {elt : T → Sto → Rs (Option T)} {ts : List T} {st0 : Sto} {f : T → Bool} {g : T → T} (h : ∀ x ∈ ts, ∀ acc, elt x (st0 ++ [.lst acc]) = .ok (if f x then some (g x) else none) (st0 ++ [.lst acc])) :
    ∀ (m i : Nat) (acc : List T), ts.length < m + i → i ≤ ts.length → acc.length + (ts.length - i) ≤ sizeL → loopC elt (.snap ts) st0.length m i (st0 ++ [.lst acc]) = .ok () (st0 ++ [.lst (acc ++ ((ts.drop i).filter f).map g)]) := by
  intro m
  induction m with
  | zero => intro i acc h1 h2; omega
  | succ m ih =>
    intro i acc h1 h2 h3
    by_cases hi : i < ts.length
    · have e : ts[i]? = some ts[i] := List.getElem?_eq_getElem hi
      have ed : ts.drop i = ts[i] :: ts.drop (i + 1) := List.drop_eq_getElem_cons hi
      have he := h ts[i] (List.getElem_mem hi) acc
      unfold loopC
      show (match some ts[i]? with | none => _ | some none => _ | some (some x) => _) = _
      rw [e]
      simp only [he]
      cases hf : f ts[i] with
      | true =>
        have eg : getL (st0 ++ [O.lst acc]) st0.length = some acc := by
          unfold getL
          rw [List.getElem?_append_right (Nat.le_refl _), Nat.sub_self]; rfl
        simp only [if_true, eg]
        rw [if_pos (by omega)]
        have ep : putL (st0 ++ [O.lst acc]) st0.length (acc ++ [g ts[i]]) = st0 ++ [O.lst (acc ++ [g ts[i]])] := by
          unfold putL
          rw [List.set_append_right _ _ (Nat.le_refl _), Nat.sub_self]; rfl
        rw [ep, ih (i + 1) _ (by omega) (by omega) (by rw [List.length_append]; simp only [List.length_singleton]; omega)]
        rw [ed, List.filter_cons_of_pos hf, List.map_cons]
        simp
      | false =>
        simp only [Bool.false_eq_true, if_false]
        rw [ih (i + 1) _ (by omega) (by omega) (by omega), ed, List.filter_cons_of_neg (by simp [hf])]
    · have : i = ts.length := by omega
      subst this
      unfold loopC
      show (match some ts[ts.length]? with | none => _ | some none => _ | some (some x) => _) = _
      rw [List.getElem?_eq_none (Nat.le_refl _)]
      simp
theorem sealK_new {st : Sto} {ys : List T} (h : T.bels st.length ys = true) : sealK st (.ok (.loc st.length) (st ++ [.lst ys])) = .ok (.kl ys) st := by
  have eg : getL (st ++ [O.lst ys]) st.length = some ys := by
    unfold getL
    rw [List.getElem?_append_right (Nat.le_refl _), Nat.sub_self]; rfl
  unfold sealK frzT
  simp only [Nat.le_refl, if_true, eg, h]
/-- [e for x in row if c], frozen: c and e write nothing -/
theorem x_frzlc {cl : Nat → Nat → List T → Sto → Rs T} {lo : Nat} {env : En} {st : Sto} {elt t e : E} {j : Nat} {own : List Nat} {ts : List T} {f : T → Bool} {g : T → T} (he : evE cl st.length env e st = .ok (.tup ts) st)
    (hc : ∀ x ∈ ts, ∀ acc, evE cl st.length ((wipeE env own).set j (some x)) t (st ++ [.lst acc]) = .ok (.bl (f x)) (st ++ [.lst acc]))
    (hg : ∀ x ∈ ts, ∀ acc, evE cl st.length ((wipeE env own).set j (some x)) elt (st ++ [.lst acc]) = .ok (g x) (st ++ [.lst acc])) (hl : ts.length ≤ 1000)
    (hb : T.bels st.length ((ts.filter f).map g) = true) : evE cl lo env (.frz (.lc elt (.nm j) (.seq e) (.som t) own)) st = .ok (.kl ((ts.filter f).map g)) st := by
  rw [x_frz, x_lc1, x_seq, he]
  have key := loopC_snap (elt := eltF (some fun env' st_1 => evE cl st.length env' t st_1) (fun env' st_1 => evE cl st.length env' elt st_1) env (.nm j) own) (ts := ts) (st0 := st) (f := f) (g := g) (fun x hx acc => by
    have e1 : asgT (.nm j) x (wipeE env own) = some ((wipeE env own).set j (some x)) := rfl
    unfold eltF
    simp only [e1, hc x hx acc, Rs.bind, truth]
    cases f x with
    | true => simp [hg x hx acc]
    | false => simp) turns 0 [] (by show ts.length < 1000000000 + 0; omega) (Nat.zero_le _) (by simp only [List.length_nil]; show 0 + (ts.length - 0) ≤ 16777216; omega)
  simp only [Rs.bind]
  rw [key]
  simp only [List.nil_append, List.drop_zero]
  exact sealK_new hb
end Ev

namespace Ev
/-- if c: return e -/
theorem g_ret {cl : Nat → Nat → List T → Sto → Rs T} {lo : Nat} {env : En} {st : Sto} {c : E} {a r : Ss} {p : Bool} {z : T} (hc : evE cl lo env c st = .ok (.bl p) st) (ha : p = true → evSs cl lo a env st = .ok (.ret z) st) : evSs cl lo (.cons (.ifs c a .nil) r) env st = if p then .ok (.ret z) st else evSs cl lo r env st := by
  cases p with
  | true => simp [hc, ha rfl]
  | false => simp [hc]
end Ev
namespace Ev
@[simp] theorem sz0 : (0 ≤ sizeL) = True := eq_true (by show 0 ≤ 16777216; decide)
@[simp] theorem sz1 : (1 ≤ sizeL) = True := eq_true (by show 1 ≤ 16777216; decide)
@[simp] theorem sz2 : (2 ≤ sizeL) = True := eq_true (by show 2 ≤ 16777216; decide)
@[simp] theorem sz3 : (3 ≤ sizeL) = True := eq_true (by show 3 ≤ 16777216; decide)
@[simp] theorem sz4 : (4 ≤ sizeL) = True := eq_true (by show 4 ≤ 16777216; decide)
@[simp] theorem sz5 : (5 ≤ sizeL) = True := eq_true (by show 5 ≤ 16777216; decide)
@[simp] theorem sz6 : (6 ≤ sizeL) = True := eq_true (by show 6 ≤ 16777216; decide)
@[simp] theorem sz7 : (7 ≤ sizeL) = True := eq_true (by show 7 ≤ 16777216; decide)
@[simp] theorem sz8 : (8 ≤ sizeL) = True := eq_true (by show 8 ≤ 16777216; decide)
@[simp] theorem sz9 : (9 ≤ sizeL) = True := eq_true (by show 9 ≤ 16777216; decide)
@[simp] theorem sz10 : (10 ≤ sizeL) = True := eq_true (by show 10 ≤ 16777216; decide)
@[simp] theorem sz11 : (11 ≤ sizeL) = True := eq_true (by show 11 ≤ 16777216; decide)
@[simp] theorem sz12 : (12 ≤ sizeL) = True := eq_true (by show 12 ≤ 16777216; decide)
end Ev

/-! Sy: == of values with lists within. -/
namespace Ev
open PySem
mutual
def T.ldp : T → Nat
  | .non => 0
  | .bl _ => 0
  | .int _ => 0
  | .str _ => 0
  | .tup ts => T.ldps ts + 1
  | .kl ts => T.ldps ts + 1
  | .loc _ => 0
  | .fn _ => 0
def T.ldps : List T → Nat
  | [] => 0
  | t :: ts => max t.ldp (T.ldps ts)
end
theorem mapM_some {α β : Type} {f : α → Option β} : ∀ {xs : List α}, (∀ x ∈ xs, ∃ y, f x = some y) → ∃ ys, xs.mapM f = some ys ∧ ys.length = xs.length
  | [], _ => ⟨[], by simp, rfl⟩
  | x :: xs, h => by
    obtain ⟨y, e⟩ := h x List.mem_cons_self
    obtain ⟨ys, e2, l⟩ := mapM_some (xs := xs) fun z hz => h z (List.mem_cons_of_mem _ hz)
    exact ⟨y :: ys, by rw [List.mapM_cons, e, e2]; rfl, by simp [l]⟩
theorem ldps_mem {ts : List T} {x : T} (hx : x ∈ ts) : x.ldp ≤ T.ldps ts := by
  induction ts with
  | nil => cases hx
  | cons t ts ih =>
    show x.ldp ≤ max t.ldp (T.ldps ts)
    rcases List.mem_cons.mp hx with rfl | hx
    · omega
    · have := ih hx; omega
theorem toD_some (st : Sto) : ∀ (n : Nat) (t : T), Gd t → t.ldp < n → ∃ d, toD st n t = some d := by
  intro n
  induction n with
  | zero => intro t _ h; omega
  | succ n ih =>
    intro t hg hd
    cases t with
    | non => exact ⟨_, rfl⟩
    | bl b => exact ⟨_, rfl⟩
    | int i => exact ⟨_, rfl⟩
    | str s => exact ⟨_, rfl⟩
    | tup ts =>
      have hs := ((gd_tup ts).mp hg).2
      have hd : T.ldps ts + 1 < n + 1 := hd
      obtain ⟨ys, e, _⟩ := mapM_some (f := toD st n) (xs := ts) fun x hx => ih x (gds_mem hs hx) (by have := ldps_mem hx; omega)
      exact ⟨.tuple ys, by show (ts.mapM (toD st n)).map PyData.tuple = _; rw [e]; rfl⟩
    | kl ts =>
      have hs := ((gd_kl ts).mp hg).2
      have hd : T.ldps ts + 1 < n + 1 := hd
      obtain ⟨ys, e, _⟩ := mapM_some (f := toD st n) (xs := ts) fun x hx => ih x (gds_mem hs hx) (by have := ldps_mem hx; omega)
      exact ⟨.list ys, by show (ts.mapM (toD st n)).map PyData.list = _; rw [e]; rfl⟩
    | loc _ => exact absurd hg (gd_loc _)
    | fn _ => exact absurd hg (gd_fn _)
/-- (w, ..) == (z,) -/
theorem eq_one {w z : List Nat} {xs : List T} {st : Sto} (hg : Gd (.tup (.str w :: xs))) (hd : (T.tup (.str w :: xs)).ldp ≤ 18) : eqS st (.tup (.str w :: xs)) (.tup [.str z]) = some (decide (w = z) && xs.isEmpty) := by
  have hw : (w == z) = decide (w = z) := by
    by_cases h : w = z
    · subst h; simp
    · rw [decide_eq_false h, beq_eq_false_iff_ne.mpr h]
  unfold eqS
  split
  · rw [if_pos (by show min _ 1 ≤ 64; omega)]
    show some ((w == z) && eqTs xs []) = _
    rw [hw]
    cases xs <;> rfl
  · have hs := (gds_cons _ xs).mp ((gd_tup (_ :: xs)).mp hg).2
    have hd' : max 0 (T.ldps xs) + 1 ≤ 18 := hd
    obtain ⟨ys, e, l⟩ := mapM_some (f := toD st 19) (xs := xs) fun x hx => toD_some st 19 x (gds_mem hs.2 hx) (by have := ldps_mem hx; omega)
    have e1 : toD st 20 (.tup (.str w :: xs)) = some (.tuple (.str ⟨w.toArray⟩ :: ys)) := by
      show ((T.str w :: xs).mapM (toD st 19)).map PyData.tuple = _
      rw [List.mapM_cons, e]; rfl
    have e2 : toD st 20 (.tup [.str z]) = some (.tuple [.str ⟨z.toArray⟩]) := rfl
    rw [e1, e2]
    simp only []
    rw [if_pos (by show min _ 1 ≤ 64; omega)]
    show some (((⟨w.toArray⟩ : Str) == ⟨z.toArray⟩) && PyData.eqvAll ys []) = _
    have hw2 : ((⟨w.toArray⟩ : Str) == ⟨z.toArray⟩) = decide (w = z) := by
      by_cases h : w = z
      · subst h; simp
      · rw [decide_eq_false h, beq_eq_false_iff_ne.mpr]
        intro q
        exact h (by have := congrArg (fun x : Str => x.cps.toList) q; simpa using this)
    rw [hw2]
    cases xs with
    | nil => cases ys with
      | nil => rfl
      | cons _ _ => cases l
    | cons x xs => cases ys with
      | nil => cases l
      | cons _ _ => rfl
end Ev

set_option maxHeartbeats 0
/-! Lw: the law's own draws: box, take, pick. -/
namespace Ev
/-- a box: two ints -/
def Bx (o : O) : Prop := ∃ g x : Int, o = .lst [.int g, .int x]
def dBox : FDef := ⟨"_law_box", ["script", "k"], ["script", "k", "cell", "great"], [], .keep,
  (.cons (.asg (.nm 2) (.bin .add (.bin .mul (.cst (.int 31013)) (.var 1)) (.cst (.int 7919))))
  (.cons (.ifs (.cmp .lt (.var 1) (.bi .len (.cons (.var 0) .nil))) (.cons (.asg (.nm 2) (.bi .abs (.cons (.bi .int (.cons (.ix (.var 0) (.var 1)) .nil)) .nil)))
    .nil) (.cons (.ifs (.cmp .gt (.bi .len (.cons (.var 0) .nil)) (.cst (.int 0))) (.cons (.asg (.nm 2) (.bin .add (.var 2) (.bin .mul (.bin .mod (.bi .int (.cons (.bi .abs (.cons (.bi .int (.cons (.ix (.var 0) (.bin .mod (.bi .int (.cons (.var 1) .nil)) (.bi .len (.cons (.var 0) .nil)))) .nil)) .nil)) .nil)) (.cst (.int 2147483563))) (.cst (.int 94121)))))
      .nil) .nil)
    .nil))
  (.cons (.asg (.nm 3) (.ife (.cmp .ge (.var 2) (.bin .pow (.cst (.int 10)) (.cst (.int 18)))) (.var 2) (.cst (.int 0))))
  (.cons (.ret (.lst (.cons (.var 3) (.cons (.bin .add (.bin .mod (.bi .int (.cons (.bin .add (.bin .mul (.bin .mod (.bi .int (.cons (.var 2) .nil)) (.cst (.int 2147483563))) (.cst (.int 54250013))) (.bin .mul (.cst (.int 7919)) (.var 1))) .nil)) (.cst (.int 2147483563))) (.cst (.int 1))) .nil))))
  .nil))))⟩
def dTake : FDef := ⟨"_law_take", ["box", "many"], ["box", "many", "digit", "raw"], [], .keep,
  (.cons (.ifs (.cmp .gt (.ix (.var 0) (.cst (.int 0))) (.cst (.int 0))) (.cons (.asg (.nm 2) (.bin .mod (.bi .int (.cons (.ix (.var 0) (.cst (.int 0))) .nil)) (.var 1)))
    (.cons (.setix (.var 0) (.cst (.int 0)) (.bin .fdiv (.ix (.var 0) (.cst (.int 0))) (.var 1)))
    (.cons (.ret (.var 2))
    .nil))) .nil)
  (.cons (.asg (.nm 3) (.bin .mod (.bi .int (.cons (.bin .add (.bin .mul (.ix (.var 0) (.cst (.int 1))) (.cst (.int 39373))) (.cst (.int 227))) .nil)) (.cst (.int 2147483647))))
  (.cons (.setix (.var 0) (.cst (.int 1)) (.bin .add (.bin .mod (.bi .int (.cons (.bin .add (.bin .mul (.var 3) (.cst (.int 40692))) (.cst (.int 101))) .nil)) (.cst (.int 2147483563))) (.cst (.int 1))))
  (.cons (.ret (.bin .mod (.bi .int (.cons (.bin .fdiv (.bin .add (.bin .mul (.var 3) (.cst (.int 2147483629))) (.ix (.var 0) (.cst (.int 1)))) (.cst (.int 8269))) .nil)) (.var 1)))
  .nil))))⟩
def dPick (kt : Nat) : FDef := ⟨"_law_pick", ["box", "some"], ["box", "some"], [], .keep,
  (.cons (.ret (.ix (.var 1) (.call kt (.cons (.var 0) (.cons (.bi .len (.cons (.var 1) .nil)) .nil)))))
  .nil)⟩
@[simp] theorem b_int (i : Int) (st : Sto) : biT .int [.int i] st = .ok (.int i) st := rfl
@[simp] theorem b_abs (i : Int) (st : Sto) : biT .abs [.int i] st = .ok (.int (if i < 0 then -i else i)) st := rfl
@[simp] theorem o_add (i j : Int) (st : Sto) : op2 .add (.int i) (.int j) st = .ok (.int (i + j)) st := rfl
@[simp] theorem o_sub (i j : Int) (st : Sto) : op2 .sub (.int i) (.int j) st = .ok (.int (i - j)) st := rfl
theorem o_mulr (i j : Int) (st : Sto) (h : small64 j = true) : op2 .mul (.int i) (.int j) st = .ok (.int (i * j)) st := by
  show (if (small64 i || small64 j) = true then _ else _) = _
  rw [h, Bool.or_true, if_pos rfl]
theorem o_mull (i j : Int) (st : Sto) (h : small64 i = true) : op2 .mul (.int i) (.int j) st = .ok (.int (i * j)) st := by
  show (if (small64 i || small64 j) = true then _ else _) = _
  rw [h, Bool.true_or, if_pos rfl]
theorem o_mod (i j : Int) (st : Sto) (h : j ≠ 0) : op2 .mod (.int i) (.int j) st = .ok (.int (i.fmod j)) st := by
  show (if j ≠ 0 then _ else _) = _
  rw [if_pos h]
theorem o_fdiv (i j : Int) (st : Sto) (h : j ≠ 0) (h2 : j.natAbs < 1073741824) : op2 .fdiv (.int i) (.int j) st = .ok (.int (i.fdiv j)) st := by
  show (if j ≠ 0 ∧ j.natAbs < 1073741824 then _ else _) = _
  rw [if_pos ⟨h, h2⟩]
theorem getL_set {st : Sto} {l : Nat} {xs : List T} (h : l < st.length) : getL (st.set l (.lst xs)) l = some xs := by
  unfold getL
  rw [List.getElem?_set_self h]
theorem ix_loc {st : Sto} {l : Nat} {xs : List T} {i : Int} (h : getL st l = some xs) : ixT st (.loc l) (.int i) = atIx xs i := by
  show (match getL st l with | some xs => atIx xs i | none => none) = _
  rw [h]
theorem setIx_loc {lo l : Nat} {st : Sto} {xs : List T} {i : Int} {j : Nat} {v : T} (hl : lo ≤ l) (h : getL st l = some xs) (hi : ixOf xs.length i = some j) : setIx lo (.loc l) (.int i) v st = some (putL st l (xs.set j v)) := by
  show (if lo ≤ l then (match getL st l with | some xs => (match ixOf xs.length i with | some j => some (putL st l (xs.set j v)) | none => none) | none => none) else none) = _
  rw [if_pos hl, h]
  simp only [hi]
theorem fmod_rng (i : Int) {j : Int} (h : 1 ≤ j) : 0 ≤ i.fmod j ∧ i.fmod j < j := ⟨Int.fmod_nonneg_of_pos i (by omega), Int.fmod_lt_of_pos i (by omega)⟩
theorem take_ev {tb : List FDef} {kt : Nat} (hk : tb[kt]? = some dTake) {m lo l : Nat} {many : Int} {st : Sto} {o : O} (hl : lo ≤ l) (hlt : l < st.length) (ho : Bx o) (hm : 1 ≤ many) (hm2 : many ≤ 1000000) :
    ∃ (d : Int) (o' : O), 0 ≤ d ∧ d < many ∧ Bx o' ∧ evC tb (m + 1) kt lo [.loc l, .int many] (st.set l o) = .ok (.int d) (st.set l o') := by
  obtain ⟨g, x, rfl⟩ := ho
  have h0 : getL (st.set l (.lst [.int g, .int x])) l = some [.int g, .int x] := getL_set hlt
  have hn : many ≠ 0 := by omega
  have hna : many.natAbs < 1073741824 := by omega
  by_cases hg : 0 < g
  · refine ⟨g.fmod many, .lst [.int (g.fdiv many), .int x], (fmod_rng g hm).1, (fmod_rng g hm).2, ⟨_, _, rfl⟩, ?_⟩
    rw [evC_full' hk rfl]
    simp only [callD, dTake, startE]
    simp [ix_loc h0, hg, o_mod _ _ _ hn, o_fdiv _ _ _ hn hna, setIx_loc hl h0 (i := 0) (j := 0) rfl, asgT, endF]
  · have h2 : ∀ y : Int, getL (st.set l (.lst [.int g, .int y])) l = some [.int g, .int y] := fun y => getL_set hlt
    refine ⟨_, .lst [.int g, .int ((((x * 39373 + 227).fmod 2147483647) * 40692 + 101).fmod 2147483563 + 1)], (fmod_rng (((((x * 39373 + 227).fmod 2147483647) * 2147483629 + ((((x * 39373 + 227).fmod 2147483647) * 40692 + 101).fmod 2147483563 + 1)).fdiv 8269)) hm).1, (fmod_rng _ hm).2, ⟨_, _, rfl⟩, ?_⟩
    rw [evC_full' hk rfl]
    simp only [callD, dTake, startE]
    simp [ix_loc h0, hg, o_mulr _ _ _ (show small64 39373 = true by decide), o_mulr _ _ _ (show small64 40692 = true by decide), o_mulr _ _ _ (show small64 2147483629 = true by decide), o_mod _ _ _ (show (2147483647 : Int) ≠ 0 by decide), o_mod _ _ _ (show (2147483563 : Int) ≠ 0 by decide), o_mod _ _ _ hn, o_fdiv _ _ _ (show (8269 : Int) ≠ 0 by decide) (by decide), setIx_loc hl h0 (i := 1) (j := 1) rfl, asgT, endF, ix_loc (h2 _)]
theorem pick_ev {tb : List FDef} {kt kp : Nat} (hk : tb[kt]? = some dTake) (hp : tb[kp]? = some (dPick kt)) {m lo l : Nat} {ts : List T} {st : Sto} {o : O} (hl : lo ≤ l) (hlt : l < st.length) (ho : Bx o) (hn : ts ≠ []) (hm2 : ts.length ≤ 1000000) :
    ∃ (t : T) (o' : O), t ∈ ts ∧ Bx o' ∧ evC tb (m + 2) kp lo [.loc l, .kl ts] (st.set l o) = .ok t (st.set l o') := by
  have h1 : 1 ≤ ts.length := List.length_pos_iff.mpr hn
  obtain ⟨d, o', d0, d1, bo, e⟩ := take_ev hk (m := m) (lo := lo) (many := (ts.length : Int)) hl hlt ho (by omega) (by omega)
  obtain ⟨j, rfl⟩ : ∃ j : Nat, d = (j : Int) := ⟨d.toNat, by omega⟩
  have hj : j < ts.length := by omega
  refine ⟨ts[j], o', List.getElem_mem hj, bo, ?_⟩
  rw [evC_full' hp rfl]
  simp only [callD, dPick, startE]
  simp [e, atIx_nat, endF, List.getElem?_eq_getElem hj]
theorem box_rest {tb : List FDef} {n lo : Nat} {s : T} {k cell : Int} {st : Sto} : ∃ o, Bx o ∧ endF (evSs (evC tb n) lo
  (.cons (.asg (.nm 3) (.ife (.cmp .ge (.var 2) (.bin .pow (.cst (.int 10)) (.cst (.int 18)))) (.var 2) (.cst (.int 0))))
  (.cons (.ret (.lst (.cons (.var 3) (.cons (.bin .add (.bin .mod (.bi .int (.cons (.bin .add (.bin .mul (.bin .mod (.bi .int (.cons (.var 2) .nil)) (.cst (.int 2147483563))) (.cst (.int 54250013))) (.bin .mul (.cst (.int 7919)) (.var 1))) .nil)) (.cst (.int 2147483563))) (.cst (.int 1))) .nil))))
  .nil)) [some s, some (.int k), some (.int cell), none] st) = .ok (.loc st.length) (st ++ [o]) := by
  have hpow : ∀ st : Sto, op2 .pow (.int 10) (.int 18) st = .ok (.int 1000000000000000000) st := fun st => rfl
  by_cases h : (1000000000000000000 : Int) ≤ cell
  · refine ⟨_, ⟨cell, ((cell.fmod 2147483563) * 54250013 + 7919 * k).fmod 2147483563 + 1, rfl⟩, ?_⟩
    simp [hpow, h, asgT, o_mulr _ _ _ (show small64 54250013 = true by decide), o_mull _ _ _ (show small64 7919 = true by decide), o_mod _ _ _ (show (2147483563 : Int) ≠ 0 by decide), endF]
  · refine ⟨_, ⟨0, ((cell.fmod 2147483563) * 54250013 + 7919 * k).fmod 2147483563 + 1, rfl⟩, ?_⟩
    simp [hpow, h, asgT, o_mulr _ _ _ (show small64 54250013 = true by decide), o_mull _ _ _ (show small64 7919 = true by decide), o_mod _ _ _ (show (2147483563 : Int) ≠ 0 by decide), endF]
theorem at_ints {ns : List Int} {i : Int} (h0 : 0 ≤ i) (h1 : i < ns.length) : ∃ n : Int, atIx (ns.map T.int) i = some (.int n) := by
  obtain ⟨j, rfl⟩ : ∃ j : Nat, i = (j : Int) := ⟨i.toNat, by omega⟩
  have hj : j < ns.length := by omega
  exact ⟨ns[j], by rw [atIx_nat, List.getElem?_map, List.getElem?_eq_getElem hj]; rfl⟩
theorem box_ev {tb : List FDef} {kb : Nat} (hk : tb[kb]? = some dBox) {m lo : Nat} {ns : List Int} {k : Int} {st : Sto} (h0 : 0 ≤ k) : ∃ o, Bx o ∧ evC tb (m + 1) kb lo [.kl (ns.map T.int), .int k] st = .ok (.loc st.length) (st ++ [o]) := by
  rw [evC_full' hk rfl]
  simp only [callD, dBox, startE]
  by_cases h : k < ns.length
  · obtain ⟨n, e⟩ := at_ints h0 h
    obtain ⟨o, bo, hr⟩ := box_rest (tb := tb) (n := m) (lo := lo) (s := .kl (ns.map T.int)) (k := k) (cell := if n < 0 then -n else n) (st := st)
    refine ⟨o, bo, ?_⟩
    rw [← hr]
    rw [x_sscons, x_sscons]
    simp [h, e, asgT, o_mull _ _ _ (show small64 31013 = true by decide)]
  · by_cases hz : 0 < (ns.length : Int)
    · obtain ⟨n, e⟩ := at_ints (ns := ns) (i := k.fmod (ns.length : Int)) (fmod_rng k (by omega)).1 (fmod_rng k (by omega)).2
      have hne : (ns.length : Int) ≠ 0 := by omega
      obtain ⟨o, bo, hr⟩ := box_rest (tb := tb) (n := m) (lo := lo) (s := .kl (ns.map T.int)) (k := k) (cell := 31013 * k + 7919 + ((if n < 0 then -n else n).fmod 2147483563) * 94121) (st := st)
      refine ⟨o, bo, ?_⟩
      rw [← hr]
      rw [x_sscons, x_sscons]
      have hz' : 0 < ns.length := by omega
      simp [h, hz', hz, e, asgT, o_mull _ _ _ (show small64 31013 = true by decide), o_mulr _ _ _ (show small64 94121 = true by decide), o_mod _ _ _ (show (2147483563 : Int) ≠ 0 by decide), o_mod _ _ _ hne]
    · obtain ⟨o, bo, hr⟩ := box_rest (tb := tb) (n := m) (lo := lo) (s := .kl (ns.map T.int)) (k := k) (cell := 31013 * k + 7919) (st := st)
      refine ⟨o, bo, ?_⟩
      rw [← hr]
      rw [x_sscons, x_sscons]
      have hz' : ¬ 0 < ns.length := by omega
      simp [h, hz', hz, asgT, o_mull _ _ _ (show small64 31013 = true by decide)]
end Ev

/-! Lx: loops by invariants. -/
namespace Ev
theorem loopF_inv {body : T → En → Sto → Rs Fl} {ts : List T} (I : Nat → En → Sto → Prop) (h : ∀ i x env st, ts[i]? = some x → I i env st → ∃ env' st', body x env st = .ok (.nx env') st' ∧ I (i + 1) env' st') :
    ∀ (n i : Nat) (env : En) (st : Sto), I i env st → i ≤ ts.length → ts.length < n + i → ∃ env' st', loopF body (.snap ts) n i env st = .ok (.nx env') st' ∧ I ts.length env' st' := by
  intro n
  induction n with
  | zero => intro i env st _ h1 h2; omega
  | succ n ih =>
    intro i env st hi h1 h2
    by_cases hl : i < ts.length
    · have e : ts[i]? = some ts[i] := List.getElem?_eq_getElem hl
      obtain ⟨env', st', hb, hi'⟩ := h i ts[i] env st e hi
      obtain ⟨env2, st2, hr, hi2⟩ := ih (i + 1) env' st' hi' (by omega) (by omega)
      refine ⟨env2, st2, ?_, hi2⟩
      unfold loopF
      show (match some ts[i]? with | none => _ | some none => _ | some (some x) => _) = _
      rw [e]
      simp only [hb]
      exact hr
    · have : i = ts.length := by omega
      subst this
      refine ⟨env, st, ?_, hi⟩
      unfold loopF
      show (match some ts[ts.length]? with | none => _ | some none => _ | some (some x) => _) = _
      rw [List.getElem?_eq_none (Nat.le_refl _)]
/-- for x in a row, as a statement -/
theorem x_for_inv {cl : Nat → Nat → List T → Sto → Rs T} {lo : Nat} {env : En} {st st1 : Sto} {g : Tg} {it : I} {b : Ss} {ts : List T} (I : Nat → En → Sto → Prop) (hit : evI cl lo env it st = .ok (.snap ts) st1) (hl : ts.length ≤ 100000000) (h0 : I 0 env st1)
    (h : ∀ i x env st, ts[i]? = some x → I i env st → ∃ env1 env' st', asgT g x env = some env1 ∧ evSs cl lo b env1 st = .ok (.nx env') st' ∧ I (i + 1) env' st') : ∃ env' st', evS cl lo (.for_ g it b) env st = .ok (.nx env') st' ∧ I ts.length env' st' := by
  have key := loopF_inv (body := bodyF g fun env st => evSs cl lo b env st) (ts := ts) I (fun i x env st e hi => by
    obtain ⟨env1, env', st', h1, h2, h3⟩ := h i x env st e hi
    exact ⟨env', st', by unfold bodyF; rw [h1]; exact h2, h3⟩) turns 0 env st1 h0 (Nat.zero_le _) (by show _ < 1000000000 + 0; omega)
  obtain ⟨env', st', h1, h2⟩ := key
  refine ⟨env', st', ?_, h2⟩
  rw [x_for, hit]
  exact h1
end Ev

namespace Ev.K55
open PySem Ev
/-! ### the tables (printed by gen.py from the law and the program) -/
abbrev fl : List (Str × Nat) := [(("is_int" : Str), 0), (("is_number" : Str), 1), (("is_tuple" : Str), 2), (("is_numbers" : Str), 3), (("counted" : Str), 4), (("packed" : Str), 5), (("is_choice" : Str), 6), (("is_seen" : Str), 7), (("is_body" : Str), 8), (("is_course_body" : Str), 9), (("asked_by" : Str), 10), (("is_changing_body" : Str), 11), (("is_mark" : Str), 12), (("is_desks_letter" : Str), 13), (("is_agreeing" : Str), 14), (("is_letter" : Str), 15), (("whose_letter" : Str), 16), (("hidden_choice" : Str), 17), (("chained" : Str), 18), (("sum_of" : Str), 19), (("mark_of" : Str), 20), (("_law_box" : Str), 21), (("_law_take" : Str), 22), (("_law_pick" : Str), 23), (("_law_same" : Str), 24), (("_law_chain" : Str), 25), (("_law_is_changing" : Str), 26), (("_law_is_number" : Str), 27), (("_law_are_numbers" : Str), 28), (("_law_starts" : Str), 29), (("_law_is_choice" : Str), 30), (("_law_is_body" : Str), 31), (("_law_is_letter" : Str), 32), (("_law_some_body" : Str), 33), (("_law_some_letter" : Str), 34), (("_law_turned" : Str), 35), (("law" : Str), 36)]
abbrev cl : List (Str × T) := [(("NONE" : Str), .int 0),
  (("NO" : Str), .int 1),
  (("YES" : Str), .int 2),
  (("UP" : Str), .int 3),
  (("DOWN" : Str), .int 4),
  (("TEXT" : Str), .int 5),
  (("ROW" : Str), .int 6),
  (("SIGNS" : Str), .str [32, 33, 34, 35, 36, 38, 39, 40, 41, 42, 43, 44, 45, 46, 47, 48, 49, 50, 51, 52, 53, 54, 55, 56, 57, 58, 59, 60, 61, 62, 63, 64, 65, 66, 67, 68, 69, 70, 71, 72, 73, 74, 75, 76, 77, 78, 79, 80, 81, 82, 83, 84, 85, 86, 87, 88, 89, 90, 91, 92, 93, 94, 95, 96, 97, 98, 99, 100, 101, 102, 103, 104, 105, 106, 107, 108, 109, 110, 111, 112, 113, 114, 115, 116, 117, 118, 119, 120, 121, 122, 123, 124, 125, 126]),
  (("HOUSE" : Str), .int (-1)),
  (("WORDS" : Str), .tup [.str [100, 111, 110, 101], .str [118, 111, 105, 100]]),
  (("PRIME" : Str), .int 2305843009213693951),
  (("BASE" : Str), .int 1000003)]
abbrev kw : List KwE := [⟨15, 1, (["value"] : List Str), [0, 1], []⟩]
abbrev mu : List (Nat × Nat) := [(20, 12), (136, 11), (26, 19), (26, 23), (246, 23)]
def d_is_int : FDef := ⟨"is_int", ["value"], ["value"], [], .iso,
  (.cons (.ret (.and_ (.isi .int (.var 0)) (.not_ (.isi .bool (.var 0)))))
  .nil)⟩

def d_is_number : FDef := ⟨"is_number", ["value", "least", "most"], ["value", "least", "most"], [.int 0, .non], .iso,
  (.cons (.ret (.and_ (.call 0 (.cons (.var 0) .nil)) (.and_ (.cmp .ge (.var 0) (.var 1)) (.or_ (.cmp .is (.var 2) (.cst .non)) (.cmp .le (.var 0) (.var 2))))))
  .nil)⟩

def d_is_tuple : FDef := ⟨"is_tuple", ["value", "many"], ["value", "many"], [.non], .iso,
  (.cons (.ret (.and_ (.isi .tuple (.var 0)) (.or_ (.cmp .is (.var 1) (.cst .non)) (.cmp .eq (.bi .len (.cons (.var 0) .nil)) (.var 1)))))
  .nil)⟩

def d_is_numbers : FDef := ⟨"is_numbers", ["value", "many", "least", "most"], ["value", "many", "least", "most", "one"], [.int 0, .non], .iso,
  (.cons (.ret (.and_ (.call 2 (.cons (.var 0) (.cons (.var 1) .nil))) (.cmp .eq (.bi .len (.cons (.frz (.lc (.var 4) (.nm 4) (.seq (.var 0)) (.som (.not_ (.call 1 (.cons (.var 4) (.cons (.var 2) (.cons (.var 3) .nil)))))) [4])) .nil)) (.cst (.int 0)))))
  .nil)⟩

def d_counted : FDef := ⟨"counted", ["number"], ["number", "found"], [], .pure,
  (.cons (.asg (.nm 1) (.lst .nil))
  (.cons (.whl (.cmp .gt (.var 0) (.cst (.int 127))) (.cons (.ex (.mt .append (.var 1) (.cons (.bin .add (.bin .mod (.var 0) (.cst (.int 128))) (.cst (.int 128))) .nil)))
    (.cons (.asg (.nm 0) (.bin .fdiv (.var 0) (.cst (.int 128))))
    .nil)))
  (.cons (.ret (.bin .add (.var 1) (.klst (.cons (.var 0) .nil))))
  .nil)))⟩

def d_packed : FDef := ⟨"packed", ["value"], ["value", "found", "left", "one", "sign"], [], .iso,
  (.cons (.asg (.tp [(.nm 1), (.nm 2)]) (.tup (.cons (.lst .nil) (.cons (.lst (.cons (.var 0) .nil)) .nil))))
  (.cons (.whl (.cmp .gt (.bi .len (.cons (.var 2) .nil)) (.cst (.int 0))) (.cons (.asg (.nm 3) (.mt .pop (.var 2) .nil))
    (.cons (.ifs (.cmp .is (.var 3) (.cst .non)) (.cons (.ex (.mt .append (.var 1) (.cons (.cst (.int 0)) .nil)))
      .nil) (.cons (.ifs (.or_ (.cmp .is (.var 3) (.cst (.bl true))) (.cmp .is (.var 3) (.cst (.bl false)))) (.cons (.ex (.mt .append (.var 1) (.cons (.ife (.var 3) (.cst (.int 2)) (.cst (.int 1))) .nil)))
        .nil) (.cons (.ifs (.call 0 (.cons (.var 3) .nil)) (.cons (.ex (.mt .extend (.var 1) (.cons (.bin .add (.klst (.cons (.ife (.cmp .ge (.var 3) (.cst (.int 0))) (.cst (.int 3)) (.cst (.int 4))) .nil)) (.call 4 (.cons (.bi .abs (.cons (.var 3) .nil)) .nil))) .nil)))
          .nil) (.cons (.ifs (.isi .str (.var 3)) (.cons (.ex (.mt .extend (.var 1) (.cons (.bin .add (.klst (.cons (.cst (.int 5)) .nil)) (.call 4 (.cons (.bi .len (.cons (.var 3) .nil)) .nil))) .nil)))
            (.cons (.for_ (.nm 4) (.seq (.var 3)) (.cons (.ex (.mt .append (.var 1) (.cons (.mt .index (.cst (.str [32, 33, 34, 35, 36, 38, 39, 40, 41, 42, 43, 44, 45, 46, 47, 48, 49, 50, 51, 52, 53, 54, 55, 56, 57, 58, 59, 60, 61, 62, 63, 64, 65, 66, 67, 68, 69, 70, 71, 72, 73, 74, 75, 76, 77, 78, 79, 80, 81, 82, 83, 84, 85, 86, 87, 88, 89, 90, 91, 92, 93, 94, 95, 96, 97, 98, 99, 100, 101, 102, 103, 104, 105, 106, 107, 108, 109, 110, 111, 112, 113, 114, 115, 116, 117, 118, 119, 120, 121, 122, 123, 124, 125, 126])) (.cons (.var 4) .nil)) .nil)))
              .nil))
            .nil)) (.cons (.ex (.mt .extend (.var 1) (.cons (.bin .add (.klst (.cons (.cst (.int 6)) .nil)) (.call 4 (.cons (.bi .len (.cons (.var 3) .nil)) .nil))) .nil)))
            (.cons (.ex (.mt .extend (.var 2) (.cons (.rev (.bi .listK (.cons (.var 3) .nil))) .nil)))
            .nil)))
          .nil))
        .nil))
      .nil))
    .nil)))
  (.cons (.ret (.bi .tuple (.cons (.var 1) .nil)))
  .nil)))⟩

def d_is_choice : FDef := ⟨"is_choice", ["value"], ["value"], [], .iso,
  (.cons (.ifs (.or_ (.not_ (.call 2 (.cons (.var 0) .nil))) (.or_ (.cmp .eq (.bi .len (.cons (.var 0) .nil)) (.cst (.int 0))) (.not_ (.isi .str (.ix (.var 0) (.cst (.int 0))))))) (.cons (.ret (.cst (.bl false)))
    .nil) .nil)
  (.cons (.ifs (.cmp .eq (.ix (.var 0) (.cst (.int 0))) (.cst (.str [100, 111]))) (.cons (.ret (.and_ (.cmp .eq (.bi .len (.cons (.var 0) .nil)) (.cst (.int 3))) (.and_ (.call 1 (.cons (.ix (.var 0) (.cst (.int 1))) .nil)) (.or_ (.cmp .is (.ix (.var 0) (.cst (.int 2))) (.cst .non)) (.call 1 (.cons (.ix (.var 0) (.cst (.int 2))) .nil))))))
    .nil) .nil)
  (.cons (.ifs (.cmp .inn (.ix (.var 0) (.cst (.int 0))) (.tup (.cons (.cst (.str [99, 97, 108, 108])) (.cons (.cst (.str [112, 97, 115, 115])) .nil)))) (.cons (.ret (.and_ (.cmp .eq (.bi .len (.cons (.var 0) .nil)) (.cst (.int 2))) (.call 1 (.cons (.ix (.var 0) (.cst (.int 1))) .nil))))
    .nil) .nil)
  (.cons (.ifs (.cmp .eq (.ix (.var 0) (.cst (.int 0))) (.cst (.str [98, 97, 99, 107]))) (.cons (.ret (.and_ (.cmp .eq (.bi .len (.cons (.var 0) .nil)) (.cst (.int 3))) (.and_ (.call 1 (.cons (.ix (.var 0) (.cst (.int 1))) .nil)) (.call 2 (.cons (.ix (.var 0) (.cst (.int 2))) .nil)))))
    .nil) .nil)
  (.cons (.ret (.and_ (.cmp .eq (.ix (.var 0) (.cst (.int 0))) (.cst (.str [99, 104, 97, 110, 103, 101]))) (.and_ (.cmp .eq (.bi .len (.cons (.var 0) .nil)) (.cst (.int 3))) (.call 2 (.cons (.ix (.var 0) (.cst (.int 2))) .nil)))))
  .nil)))))⟩

def d_is_seen : FDef := ⟨"is_seen", ["value"], ["value"], [], .iso,
  (.cons (.ifs (.or_ (.not_ (.call 2 (.cons (.var 0) .nil))) (.or_ (.cmp .eq (.bi .len (.cons (.var 0) .nil)) (.cst (.int 0))) (.not_ (.isi .str (.ix (.var 0) (.cst (.int 0))))))) (.cons (.ret (.cst (.bl false)))
    .nil) .nil)
  (.cons (.ifs (.cmp .eq (.ix (.var 0) (.cst (.int 0))) (.cst (.str [100, 111]))) (.cons (.ret (.and_ (.cmp .eq (.bi .len (.cons (.var 0) .nil)) (.cst (.int 4))) (.and_ (.call 6 (.cons (.sl (.var 0) .non (.som (.cst (.int 3)))) .nil)) (.and_ (.call 2 (.cons (.ix (.var 0) (.cst (.int 3))) .nil)) (.call 3 (.cons (.ix (.var 0) (.cst (.int 3))) (.cons (.bi .len (.cons (.ix (.var 0) (.cst (.int 3))) .nil)) .nil)))))))
    .nil) .nil)
  (.cons (.ret (.and_ (.cmp .inn (.ix (.var 0) (.cst (.int 0))) (.tup (.cons (.cst (.str [99, 97, 108, 108])) (.cons (.cst (.str [112, 97, 115, 115])) .nil)))) (.call 6 (.cons (.var 0) .nil))))
  .nil)))⟩

def d_is_body : FDef := ⟨"is_body", ["many", "value"], ["many", "value"], [], .iso,
  (.cons (.ifs (.or_ (.not_ (.call 2 (.cons (.var 1) .nil))) (.or_ (.cmp .eq (.bi .len (.cons (.var 1) .nil)) (.cst (.int 0))) (.not_ (.isi .str (.ix (.var 1) (.cst (.int 0))))))) (.cons (.ret (.cst (.bl false)))
    .nil) .nil)
  (.cons (.ifs (.cmp .eq (.ix (.var 1) (.cst (.int 0))) (.cst (.str [100, 111, 110, 101]))) (.cons (.ret (.and_ (.cmp .eq (.bi .len (.cons (.var 1) .nil)) (.cst (.int 4))) (.and_ (.call 1 (.cons (.ix (.var 1) (.cst (.int 1))) (.cons (.cst (.int 0)) (.cons (.bin .sub (.var 0) (.cst (.int 1))) .nil)))) (.and_ (.call 1 (.cons (.ix (.var 1) (.cst (.int 2))) .nil)) (.call 7 (.cons (.ix (.var 1) (.cst (.int 3))) .nil))))))
    .nil) .nil)
  (.cons (.ifs (.cmp .eq (.ix (.var 1) (.cst (.int 0))) (.cst (.str [118, 111, 105, 100]))) (.cons (.ret (.and_ (.cmp .eq (.bi .len (.cons (.var 1) .nil)) (.cst (.int 3))) (.and_ (.call 1 (.cons (.ix (.var 1) (.cst (.int 1))) (.cons (.cst (.int 0)) (.cons (.bin .sub (.var 0) (.cst (.int 1))) .nil)))) (.call 1 (.cons (.ix (.var 1) (.cst (.int 2))) .nil)))))
    .nil) .nil)
  (.cons (.ifs (.cmp .eq (.ix (.var 1) (.cst (.int 0))) (.cst (.str [115, 105, 108, 101, 110, 116]))) (.cons (.ret (.and_ (.cmp .eq (.bi .len (.cons (.var 1) .nil)) (.cst (.int 2))) (.and_ (.call 6 (.cons (.ix (.var 1) (.cst (.int 1))) .nil)) (.cmp .eq (.ix (.ix (.var 1) (.cst (.int 1))) (.cst (.int 0))) (.cst (.str [112, 97, 115, 115]))))))
    .nil) .nil)
  (.cons (.ifs (.cmp .inn (.ix (.var 1) (.cst (.int 0))) (.tup (.cons (.cst (.str [99, 104, 97, 110, 103, 101])) (.cons (.cst (.str [98, 97, 99, 107])) .nil)))) (.cons (.ret (.call 9 (.cons (.var 0) (.cons (.var 1) .nil))))
    .nil) .nil)
  (.cons (.ret (.cmp .eq (.var 1) (.tup (.cons (.cst (.str [100, 97, 119, 110])) .nil))))
  .nil))))))⟩

def d_is_course_body : FDef := ⟨"is_course_body", ["many", "value"], ["many", "value"], [], .iso,
  (.cons (.ifs (.or_ (.cmp .lt (.bi .len (.cons (.var 1) .nil)) (.cst (.int 5))) (.or_ (.not_ (.call 1 (.cons (.ix (.var 1) (.cst (.int 1))) (.cons (.cst (.int 0)) (.cons (.bin .sub (.var 0) (.cst (.int 1))) .nil))))) (.not_ (.call 1 (.cons (.ix (.var 1) (.cst (.int 2))) .nil))))) (.cons (.ret (.cst (.bl false)))
    .nil) .nil)
  (.cons (.ifs (.or_ (.not_ (.isi .str (.ix (.var 1) (.cst (.int 4))))) (.cmp .notIn (.ix (.var 1) (.cst (.int 4))) (.cst (.tup [(.str [100, 111, 110, 101]), (.str [118, 111, 105, 100])])))) (.cons (.ret (.cst (.bl false)))
    .nil) .nil)
  (.cons (.ifs (.cmp .eq (.ix (.var 1) (.cst (.int 0))) (.cst (.str [99, 104, 97, 110, 103, 101]))) (.cons (.ret (.cmp .eq (.bi .len (.cons (.var 1) .nil)) (.cst (.int 5))))
    .nil) .nil)
  (.cons (.ret (.and_ (.cmp .eq (.bi .len (.cons (.var 1) .nil)) (.cst (.int 6))) (.and_ (.call 1 (.cons (.ix (.var 1) (.cst (.int 3))) .nil)) (.and_ (.call 2 (.cons (.ix (.var 1) (.cst (.int 5))) .nil)) (.call 3 (.cons (.ix (.var 1) (.cst (.int 5))) (.cons (.bi .len (.cons (.ix (.var 1) (.cst (.int 5))) .nil)) .nil)))))))
  .nil))))⟩

def d_asked_by : FDef := ⟨"asked_by", ["body"], ["body"], [], .iso,
  (.cons (.ret (.ife (.cmp .inn (.ix (.var 0) (.cst (.int 0))) (.tup (.cons (.cst (.str [100, 111, 110, 101])) (.cons (.cst (.str [118, 111, 105, 100])) (.cons (.cst (.str [99, 104, 97, 110, 103, 101])) (.cons (.cst (.str [98, 97, 99, 107])) .nil)))))) (.sl (.var 0) (.som (.cst (.int 1))) (.som (.cst (.int 3)))) (.cst .non)))
  .nil)⟩

def d_is_changing_body : FDef := ⟨"is_changing_body", ["body"], ["body"], [], .iso,
  (.cons (.ifs (.cmp .eq (.ix (.var 0) (.cst (.int 0))) (.cst (.str [100, 111, 110, 101]))) (.cons (.ret (.cmp .ne (.ix (.ix (.var 0) (.cst (.int 3))) (.cst (.int 0))) (.cst (.str [112, 97, 115, 115]))))
    .nil) .nil)
  (.cons (.ret (.or_ (.cmp .eq (.ix (.var 0) (.cst (.int 0))) (.cst (.str [100, 97, 119, 110]))) (.and_ (.cmp .inn (.ix (.var 0) (.cst (.int 0))) (.tup (.cons (.cst (.str [99, 104, 97, 110, 103, 101])) (.cons (.cst (.str [98, 97, 99, 107])) .nil)))) (.cmp .eq (.ix (.var 0) (.cst (.int 4))) (.cst (.str [100, 111, 110, 101]))))))
  .nil))⟩

def d_is_mark : FDef := ⟨"is_mark", ["value"], ["value"], [], .iso,
  (.cons (.ret (.call 3 (.cons (.var 0) (.cons (.cst (.int 2)) .nil))))
  .nil)⟩

def d_is_desks_letter : FDef := ⟨"is_desks_letter", ["many", "value"], ["many", "value"], [], .iso,
  (.cons (.ifs (.or_ (.not_ (.call 2 (.cons (.var 1) .nil))) (.or_ (.cmp .lt (.bi .len (.cons (.var 1) .nil)) (.cst (.int 4))) (.or_ (.not_ (.call 1 (.cons (.ix (.var 1) (.cst (.int 1))) (.cons (.cst (.int 0)) (.cons (.bin .sub (.var 0) (.cst (.int 1))) .nil))))) (.not_ (.call 1 (.cons (.ix (.var 1) (.cst (.int 2))) .nil)))))) (.cons (.ret (.cst (.bl false)))
    .nil) .nil)
  (.cons (.ifs (.cmp .eq (.ix (.var 1) (.cst (.int 0))) (.cst (.str [97, 115, 107]))) (.cons (.ret (.and_ (.cmp .eq (.bi .len (.cons (.var 1) .nil)) (.cst (.int 6))) (.and_ (.call 6 (.cons (.ix (.var 1) (.cst (.int 3))) .nil)) (.and_ (.call 1 (.cons (.ix (.var 1) (.cst (.int 4))) .nil)) (.call 12 (.cons (.ix (.var 1) (.cst (.int 5))) .nil))))))
    .nil) .nil)
  (.cons (.ifs (.cmp .eq (.ix (.var 1) (.cst (.int 0))) (.cst (.str [115, 101, 101, 110]))) (.cons (.ret (.and_ (.cmp .eq (.bi .len (.cons (.var 1) .nil)) (.cst (.int 4))) (.call 6 (.cons (.ix (.var 1) (.cst (.int 3))) .nil))))
    .nil) .nil)
  (.cons (.ret (.and_ (.cmp .eq (.ix (.var 1) (.cst (.int 0))) (.cst (.str [104, 101, 97, 114, 100]))) (.and_ (.cmp .eq (.bi .len (.cons (.var 1) .nil)) (.cst (.int 4))) (.call 1 (.cons (.ix (.var 1) (.cst (.int 3))) .nil)))))
  .nil))))⟩

def d_is_agreeing : FDef := ⟨"is_agreeing", ["many", "value"], ["many", "value"], [], .iso,
  (.cons (.ret (.and_ (.call 2 (.cons (.var 1) (.cons (.cst (.int 3)) .nil))) (.and_ (.cmp .eq (.ix (.var 1) (.cst (.int 0))) (.cst (.str [97, 103, 114, 101, 101]))) (.call 1 (.cons (.ix (.var 1) (.cst (.int 1))) (.cons (.cst (.int 0)) (.cons (.bin .sub (.var 0) (.cst (.int 1))) .nil)))))))
  .nil)⟩

def d_is_letter : FDef := ⟨"is_letter", ["many", "value"], ["many", "value"], [], .iso,
  (.cons (.ifs (.or_ (.not_ (.call 2 (.cons (.var 1) .nil))) (.or_ (.cmp .notIn (.bi .len (.cons (.var 1) .nil)) (.tup (.cons (.cst (.int 3)) (.cons (.cst (.int 4)) (.cons (.cst (.int 6)) .nil))))) (.not_ (.isi .str (.ix (.var 1) (.cst (.int 0))))))) (.cons (.ret (.cst (.bl false)))
    .nil) .nil)
  (.cons (.ifs (.cmp .eq (.bi .len (.cons (.var 1) .nil)) (.cst (.int 3))) (.cons (.ret (.call 14 (.cons (.var 0) (.cons (.var 1) .nil))))
    .nil) .nil)
  (.cons (.ifs (.cmp .eq (.ix (.var 1) (.cst (.int 0))) (.cst (.str [114, 111, 119]))) (.cons (.ret (.and_ (.cmp .eq (.bi .len (.cons (.var 1) .nil)) (.cst (.int 4))) (.and_ (.call 1 (.cons (.ix (.var 1) (.cst (.int 1))) .nil)) (.and_ (.call 8 (.cons (.var 0) (.cons (.ix (.var 1) (.cst (.int 2))) .nil))) (.call 1 (.cons (.ix (.var 1) (.cst (.int 3))) .nil))))))
    .nil) .nil)
  (.cons (.ifs (.cmp .eq (.ix (.var 1) (.cst (.int 0))) (.cst (.str [116, 111, 111, 107]))) (.cons (.ret (.and_ (.cmp .eq (.bi .len (.cons (.var 1) .nil)) (.cst (.int 4))) (.and_ (.call 1 (.cons (.ix (.var 1) (.cst (.int 1))) (.cons (.cst (.int 0)) (.cons (.bin .sub (.var 0) (.cst (.int 1))) .nil)))) (.call 3 (.cons (.sl (.var 1) (.som (.cst (.int 2))) .non) (.cons (.cst (.int 2)) .nil))))))
    .nil) .nil)
  (.cons (.ret (.call 13 (.cons (.var 0) (.cons (.var 1) .nil))))
  .nil)))))⟩

def d_whose_letter : FDef := ⟨"whose_letter", ["letter"], ["letter"], [], .iso,
  (.cons (.ret (.ife (.cmp .inn (.ix (.var 0) (.cst (.int 0))) (.tup (.cons (.cst (.str [114, 111, 119])) (.cons (.cst (.str [116, 111, 111, 107])) .nil)))) (.cst (.int (-1))) (.ix (.var 0) (.cst (.int 1)))))
  .nil)⟩

def d_hidden_choice : FDef := ⟨"hidden_choice", ["choice"], ["choice"], [], .iso,
  (.cons (.ret (.ife (.cmp .eq (.ix (.var 0) (.cst (.int 0))) (.cst (.str [100, 111]))) (.bin .add (.sl (.var 0) .non (.som (.cst (.int 2)))) (.tup (.cons (.cst .non) .nil))) (.var 0)))
  .nil)⟩

def d_chained : FDef := ⟨"chained", ["ahead", "body"], ["ahead", "body", "octet"], [], .iso,
  (.cons (.for_ (.nm 2) (.seq (.call 5 (.cons (.var 1) .nil))) (.cons (.asg (.nm 0) (.bin .mod (.bin .add (.bin .add (.bin .mul (.var 0) (.cst (.int 1000003))) (.var 2)) (.cst (.int 1))) (.cst (.int 2305843009213693951))))
    .nil))
  (.cons (.ret (.var 0))
  .nil))⟩

def d_sum_of : FDef := ⟨"sum_of", ["bodies"], ["bodies", "told", "body"], [], .iso,
  (.cons (.asg (.nm 1) (.cst (.int 0)))
  (.cons (.for_ (.nm 2) (.seq (.var 0)) (.cons (.asg (.nm 1) (.call 18 (.cons (.var 1) (.cons (.var 2) .nil))))
    .nil))
  (.cons (.ret (.var 1))
  .nil)))⟩

def d_mark_of : FDef := ⟨"mark_of", ["bodies"], ["bodies"], [], .iso,
  (.cons (.ret (.tup (.cons (.bi .len (.cons (.var 0) .nil)) (.cons (.call 19 (.cons (.var 0) .nil)) .nil))))
  .nil)⟩

def d__law_box : FDef := ⟨"_law_box", ["script", "k"], ["script", "k", "cell", "great"], [], .keep,
  (.cons (.asg (.nm 2) (.bin .add (.bin .mul (.cst (.int 31013)) (.var 1)) (.cst (.int 7919))))
  (.cons (.ifs (.cmp .lt (.var 1) (.bi .len (.cons (.var 0) .nil))) (.cons (.asg (.nm 2) (.bi .abs (.cons (.bi .int (.cons (.ix (.var 0) (.var 1)) .nil)) .nil)))
    .nil) (.cons (.ifs (.cmp .gt (.bi .len (.cons (.var 0) .nil)) (.cst (.int 0))) (.cons (.asg (.nm 2) (.bin .add (.var 2) (.bin .mul (.bin .mod (.bi .int (.cons (.bi .abs (.cons (.bi .int (.cons (.ix (.var 0) (.bin .mod (.bi .int (.cons (.var 1) .nil)) (.bi .len (.cons (.var 0) .nil)))) .nil)) .nil)) .nil)) (.cst (.int 2147483563))) (.cst (.int 94121)))))
      .nil) .nil)
    .nil))
  (.cons (.asg (.nm 3) (.ife (.cmp .ge (.var 2) (.bin .pow (.cst (.int 10)) (.cst (.int 18)))) (.var 2) (.cst (.int 0))))
  (.cons (.ret (.lst (.cons (.var 3) (.cons (.bin .add (.bin .mod (.bi .int (.cons (.bin .add (.bin .mul (.bin .mod (.bi .int (.cons (.var 2) .nil)) (.cst (.int 2147483563))) (.cst (.int 54250013))) (.bin .mul (.cst (.int 7919)) (.var 1))) .nil)) (.cst (.int 2147483563))) (.cst (.int 1))) .nil))))
  .nil))))⟩

def d__law_take : FDef := ⟨"_law_take", ["box", "many"], ["box", "many", "digit", "raw"], [], .keep,
  (.cons (.ifs (.cmp .gt (.ix (.var 0) (.cst (.int 0))) (.cst (.int 0))) (.cons (.asg (.nm 2) (.bin .mod (.bi .int (.cons (.ix (.var 0) (.cst (.int 0))) .nil)) (.var 1)))
    (.cons (.setix (.var 0) (.cst (.int 0)) (.bin .fdiv (.ix (.var 0) (.cst (.int 0))) (.var 1)))
    (.cons (.ret (.var 2))
    .nil))) .nil)
  (.cons (.asg (.nm 3) (.bin .mod (.bi .int (.cons (.bin .add (.bin .mul (.ix (.var 0) (.cst (.int 1))) (.cst (.int 39373))) (.cst (.int 227))) .nil)) (.cst (.int 2147483647))))
  (.cons (.setix (.var 0) (.cst (.int 1)) (.bin .add (.bin .mod (.bi .int (.cons (.bin .add (.bin .mul (.var 3) (.cst (.int 40692))) (.cst (.int 101))) .nil)) (.cst (.int 2147483563))) (.cst (.int 1))))
  (.cons (.ret (.bin .mod (.bi .int (.cons (.bin .fdiv (.bin .add (.bin .mul (.var 3) (.cst (.int 2147483629))) (.ix (.var 0) (.cst (.int 1)))) (.cst (.int 8269))) .nil)) (.var 1)))
  .nil))))⟩

def d__law_pick : FDef := ⟨"_law_pick", ["box", "some"], ["box", "some"], [], .keep,
  (.cons (.ret (.ix (.var 1) (.call 22 (.cons (.var 0) (.cons (.bi .len (.cons (.var 1) .nil)) .nil)))))
  .nil)⟩

def d__law_same : FDef := ⟨"_law_same", ["told", "due"], ["told", "due", "one", "other"], [], .iso,
  (.cons (.ifs (.isi .tuple (.var 1)) (.cons (.ifs (.or_ (.not_ (.isi .tuple (.var 0))) (.cmp .ne (.bi .len (.cons (.var 0) .nil)) (.bi .len (.cons (.var 1) .nil)))) (.cons (.ret (.cst (.bl false)))
      .nil) .nil)
    (.cons (.for_ (.tp [(.nm 2), (.nm 3)]) (.zip (.var 0) (.var 1)) (.cons (.ifs (.not_ (.call 24 (.cons (.var 2) (.cons (.var 3) .nil)))) (.cons (.ret (.cst (.bl false)))
        .nil) .nil)
      .nil))
    (.cons (.ret (.cst (.bl true)))
    .nil))) .nil)
  (.cons (.ifs (.cmp .is (.var 1) (.cst .non)) (.cons (.ret (.cmp .is (.var 0) (.cst .non)))
    .nil) .nil)
  (.cons (.ifs (.or_ (.cmp .is (.var 1) (.cst (.bl true))) (.cmp .is (.var 1) (.cst (.bl false)))) (.cons (.ret (.and_ (.isi .bool (.var 0)) (.cmp .eq (.var 0) (.var 1))))
    .nil) .nil)
  (.cons (.ifs (.isi .int (.var 1)) (.cons (.ret (.and_ (.isi .int (.var 0)) (.and_ (.not_ (.isi .bool (.var 0))) (.cmp .eq (.var 0) (.var 1)))))
    .nil) .nil)
  (.cons (.ret (.and_ (.isi .str (.var 0)) (.and_ (.isi .str (.var 1)) (.cmp .eq (.var 0) (.var 1)))))
  .nil)))))⟩

def d__law_chain : FDef := ⟨"_law_chain", ["bodies", "octets_of"], ["bodies", "octets_of", "told", "body", "octet"], [], .iso,
  (.cons (.asg (.nm 2) (.cst (.int 0)))
  (.cons (.for_ (.nm 3) (.seq (.var 0)) (.cons (.for_ (.nm 4) (.seq (.cvar 1 (.cons (.var 3) .nil))) (.cons (.asg (.nm 2) (.bin .mod (.bi .int (.cons (.bin .add (.bin .add (.bin .mul (.var 2) (.cst (.int 1000003))) (.var 4)) (.cst (.int 1))) .nil)) (.cst (.int 2305843009213693951))))
      .nil))
    .nil))
  (.cons (.ret (.var 2))
  .nil)))⟩

def d__law_is_changing : FDef := ⟨"_law_is_changing", ["body"], ["body"], [], .iso,
  (.cons (.ret (.or_ (.cmp .eq (.ix (.var 0) (.cst (.int 0))) (.cst (.str [100, 97, 119, 110]))) (.and_ (.cmp .eq (.ix (.var 0) (.cst (.int 0))) (.cst (.str [100, 111, 110, 101]))) (.cmp .ne (.ix (.ix (.var 0) (.cst (.int 3))) (.cst (.int 0))) (.cst (.str [112, 97, 115, 115]))))))
  .nil)⟩

def d__law_is_number : FDef := ⟨"_law_is_number", ["value", "least", "most"], ["value", "least", "most"], [], .iso,
  (.cons (.ret (.and_ (.isi .int (.var 0)) (.and_ (.not_ (.isi .bool (.var 0))) (.and_ (.cmp .le (.var 1) (.var 0)) (.or_ (.cmp .is (.var 2) (.cst .non)) (.cmp .le (.var 0) (.var 2)))))))
  .nil)⟩

def d__law_are_numbers : FDef := ⟨"_law_are_numbers", ["value", "many"], ["value", "many", "one"], [], .iso,
  (.cons (.ret (.and_ (.isi .tuple (.var 0)) (.and_ (.or_ (.cmp .is (.var 1) (.cst .non)) (.cmp .eq (.bi .len (.cons (.var 0) .nil)) (.var 1))) (.cmp .eq (.frz (.lc (.cst (.int 1)) (.nm 2) (.seq (.var 0)) (.som (.not_ (.call 27 (.cons (.var 2) (.cons (.cst (.int 0)) (.cons (.cst .non) .nil)))))) [2])) (.klst .nil)))))
  .nil)⟩

def d__law_starts : FDef := ⟨"_law_starts", ["value", "many", "word"], ["value", "many", "word"], [], .iso,
  (.cons (.ret (.and_ (.isi .tuple (.var 0)) (.and_ (.cmp .eq (.bi .len (.cons (.var 0) .nil)) (.var 1)) (.and_ (.isi .str (.ix (.var 0) (.cst (.int 0)))) (.cmp .eq (.ix (.var 0) (.cst (.int 0))) (.var 2))))))
  .nil)⟩

def d__law_is_choice : FDef := ⟨"_law_is_choice", ["value"], ["value"], [], .iso,
  (.cons (.ifs (.call 29 (.cons (.var 0) (.cons (.cst (.int 3)) (.cons (.cst (.str [100, 111])) .nil)))) (.cons (.ret (.and_ (.call 27 (.cons (.ix (.var 0) (.cst (.int 1))) (.cons (.cst (.int 0)) (.cons (.cst .non) .nil)))) (.or_ (.cmp .is (.ix (.var 0) (.cst (.int 2))) (.cst .non)) (.call 27 (.cons (.ix (.var 0) (.cst (.int 2))) (.cons (.cst (.int 0)) (.cons (.cst .non) .nil)))))))
    .nil) .nil)
  (.cons (.ifs (.or_ (.call 29 (.cons (.var 0) (.cons (.cst (.int 2)) (.cons (.cst (.str [99, 97, 108, 108])) .nil)))) (.call 29 (.cons (.var 0) (.cons (.cst (.int 2)) (.cons (.cst (.str [112, 97, 115, 115])) .nil))))) (.cons (.ret (.call 27 (.cons (.ix (.var 0) (.cst (.int 1))) (.cons (.cst (.int 0)) (.cons (.cst .non) .nil)))))
    .nil) .nil)
  (.cons (.ifs (.call 29 (.cons (.var 0) (.cons (.cst (.int 3)) (.cons (.cst (.str [99, 104, 97, 110, 103, 101])) .nil)))) (.cons (.ret (.isi .tuple (.ix (.var 0) (.cst (.int 2)))))
    .nil) .nil)
  (.cons (.ret (.and_ (.call 29 (.cons (.var 0) (.cons (.cst (.int 3)) (.cons (.cst (.str [98, 97, 99, 107])) .nil)))) (.and_ (.call 27 (.cons (.ix (.var 0) (.cst (.int 1))) (.cons (.cst (.int 0)) (.cons (.cst .non) .nil)))) (.isi .tuple (.ix (.var 0) (.cst (.int 2)))))))
  .nil))))⟩

def d__law_is_body : FDef := ⟨"_law_is_body", ["many", "value"], ["many", "value", "row"], [], .iso,
  (.cons (.ifs (.call 29 (.cons (.var 1) (.cons (.cst (.int 1)) (.cons (.cst (.str [100, 97, 119, 110])) .nil)))) (.cons (.ret (.cst (.bl true)))
    .nil) .nil)
  (.cons (.ifs (.call 29 (.cons (.var 1) (.cons (.cst (.int 2)) (.cons (.cst (.str [115, 105, 108, 101, 110, 116])) .nil)))) (.cons (.ret (.and_ (.call 29 (.cons (.ix (.var 1) (.cst (.int 1))) (.cons (.cst (.int 2)) (.cons (.cst (.str [112, 97, 115, 115])) .nil)))) (.call 27 (.cons (.ix (.ix (.var 1) (.cst (.int 1))) (.cst (.int 1))) (.cons (.cst (.int 0)) (.cons (.cst .non) .nil))))))
    .nil) .nil)
  (.cons (.ifs (.or_ (.not_ (.isi .tuple (.var 1))) (.or_ (.cmp .lt (.bi .len (.cons (.var 1) .nil)) (.cst (.int 3))) (.or_ (.not_ (.call 27 (.cons (.ix (.var 1) (.cst (.int 1))) (.cons (.cst (.int 0)) (.cons (.bin .sub (.var 0) (.cst (.int 1))) .nil))))) (.not_ (.call 27 (.cons (.ix (.var 1) (.cst (.int 2))) (.cons (.cst (.int 0)) (.cons (.cst .non) .nil)))))))) (.cons (.ret (.cst (.bl false)))
    .nil) .nil)
  (.cons (.ifs (.call 29 (.cons (.var 1) (.cons (.cst (.int 3)) (.cons (.cst (.str [118, 111, 105, 100])) .nil)))) (.cons (.ret (.cst (.bl true)))
    .nil) .nil)
  (.cons (.ifs (.call 29 (.cons (.var 1) (.cons (.cst (.int 4)) (.cons (.cst (.str [100, 111, 110, 101])) .nil)))) (.cons (.asg (.nm 2) (.ix (.var 1) (.cst (.int 3))))
    (.cons (.ifs (.call 29 (.cons (.var 2) (.cons (.cst (.int 4)) (.cons (.cst (.str [100, 111])) .nil)))) (.cons (.ret (.and_ (.call 30 (.cons (.sl (.var 2) .non (.som (.cst (.int 3)))) .nil)) (.call 28 (.cons (.ix (.var 2) (.cst (.int 3))) (.cons (.cst .non) .nil)))))
      .nil) .nil)
    (.cons (.ret (.and_ (.or_ (.call 29 (.cons (.var 2) (.cons (.cst (.int 2)) (.cons (.cst (.str [99, 97, 108, 108])) .nil)))) (.call 29 (.cons (.var 2) (.cons (.cst (.int 2)) (.cons (.cst (.str [112, 97, 115, 115])) .nil))))) (.call 27 (.cons (.ix (.var 2) (.cst (.int 1))) (.cons (.cst (.int 0)) (.cons (.cst .non) .nil))))))
    .nil))) .nil)
  (.cons (.ifs (.or_ (.cmp .lt (.bi .len (.cons (.var 1) .nil)) (.cst (.int 5))) (.or_ (.not_ (.isi .str (.ix (.var 1) (.cst (.int 4))))) (.cmp .notIn (.ix (.var 1) (.cst (.int 4))) (.tup (.cons (.cst (.str [100, 111, 110, 101])) (.cons (.cst (.str [118, 111, 105, 100])) .nil)))))) (.cons (.ret (.cst (.bl false)))
    .nil) .nil)
  (.cons (.ret (.or_ (.call 29 (.cons (.var 1) (.cons (.cst (.int 5)) (.cons (.cst (.str [99, 104, 97, 110, 103, 101])) .nil)))) (.and_ (.call 29 (.cons (.var 1) (.cons (.cst (.int 6)) (.cons (.cst (.str [98, 97, 99, 107])) .nil)))) (.and_ (.call 27 (.cons (.ix (.var 1) (.cst (.int 3))) (.cons (.cst (.int 0)) (.cons (.cst .non) .nil)))) (.call 28 (.cons (.ix (.var 1) (.cst (.int 5))) (.cons (.cst .non) .nil)))))))
  .nil)))))))⟩

def d__law_is_letter : FDef := ⟨"_law_is_letter", ["many", "value"], ["many", "value"], [], .iso,
  (.cons (.ifs (.call 29 (.cons (.var 1) (.cons (.cst (.int 4)) (.cons (.cst (.str [114, 111, 119])) .nil)))) (.cons (.ret (.and_ (.call 27 (.cons (.ix (.var 1) (.cst (.int 1))) (.cons (.cst (.int 0)) (.cons (.cst .non) .nil)))) (.and_ (.call 31 (.cons (.var 0) (.cons (.ix (.var 1) (.cst (.int 2))) .nil))) (.call 27 (.cons (.ix (.var 1) (.cst (.int 3))) (.cons (.cst (.int 0)) (.cons (.cst .non) .nil)))))))
    .nil) .nil)
  (.cons (.ifs (.or_ (.not_ (.isi .tuple (.var 1))) (.or_ (.cmp .lt (.bi .len (.cons (.var 1) .nil)) (.cst (.int 3))) (.not_ (.call 27 (.cons (.ix (.var 1) (.cst (.int 1))) (.cons (.cst (.int 0)) (.cons (.bin .sub (.var 0) (.cst (.int 1))) .nil))))))) (.cons (.ret (.cst (.bl false)))
    .nil) .nil)
  (.cons (.ifs (.call 29 (.cons (.var 1) (.cons (.cst (.int 3)) (.cons (.cst (.str [97, 103, 114, 101, 101])) .nil)))) (.cons (.ret (.cst (.bl true)))
    .nil) .nil)
  (.cons (.ifs (.not_ (.call 27 (.cons (.ix (.var 1) (.cst (.int 2))) (.cons (.cst (.int 0)) (.cons (.cst .non) .nil))))) (.cons (.ret (.cst (.bl false)))
    .nil) .nil)
  (.cons (.ifs (.call 29 (.cons (.var 1) (.cons (.cst (.int 6)) (.cons (.cst (.str [97, 115, 107])) .nil)))) (.cons (.ret (.and_ (.call 30 (.cons (.ix (.var 1) (.cst (.int 3))) .nil)) (.and_ (.call 27 (.cons (.ix (.var 1) (.cst (.int 4))) (.cons (.cst (.int 0)) (.cons (.cst .non) .nil)))) (.call 28 (.cons (.ix (.var 1) (.cst (.int 5))) (.cons (.cst (.int 2)) .nil))))))
    .nil) .nil)
  (.cons (.ifs (.call 29 (.cons (.var 1) (.cons (.cst (.int 4)) (.cons (.cst (.str [115, 101, 101, 110])) .nil)))) (.cons (.ret (.call 30 (.cons (.ix (.var 1) (.cst (.int 3))) .nil)))
    .nil) .nil)
  (.cons (.ret (.and_ (.or_ (.call 29 (.cons (.var 1) (.cons (.cst (.int 4)) (.cons (.cst (.str [116, 111, 111, 107])) .nil)))) (.call 29 (.cons (.var 1) (.cons (.cst (.int 4)) (.cons (.cst (.str [104, 101, 97, 114, 100])) .nil))))) (.call 27 (.cons (.ix (.var 1) (.cst (.int 3))) (.cons (.cst (.int 0)) (.cons (.cst .non) .nil))))))
  .nil)))))))⟩

def d__law_some_body : FDef := ⟨"_law_some_body", ["box", "many"], ["box", "many", "party", "number", "rows", "some"], [], .keep,
  (.cons (.asg (.tp [(.nm 2), (.nm 3)]) (.tup (.cons (.call 22 (.cons (.var 0) (.cons (.var 1) .nil))) (.cons (.call 22 (.cons (.var 0) (.cons (.cst (.int 5)) .nil))) .nil))))
  (.cons (.asg (.nm 4) (.klst (.cons (.tup (.cons (.cst (.str [100, 111])) (.cons (.cst (.int 0)) (.cons (.cst .non) (.cons (.tup (.cons (.cst (.int 1)) (.cons (.cst (.int 0)) .nil))) .nil))))) (.cons (.tup (.cons (.cst (.str [100, 111])) (.cons (.cst (.int 2)) (.cons (.cst (.int 1)) (.cons (.tup .nil) .nil))))) (.cons (.tup (.cons (.cst (.str [99, 97, 108, 108])) (.cons (.cst (.int 0)) .nil))) (.cons (.tup (.cons (.cst (.str [112, 97, 115, 115])) (.cons (.cst (.int 1)) .nil))) .nil))))))
  (.cons (.asg (.nm 5) (.klst (.cons (.tup (.cons (.cst (.str [100, 111, 110, 101])) (.cons (.var 2) (.cons (.var 3) (.cons (.call 23 (.cons (.var 0) (.cons (.var 4) .nil))) .nil))))) (.cons (.tup (.cons (.cst (.str [100, 111, 110, 101])) (.cons (.var 2) (.cons (.var 3) (.cons (.call 23 (.cons (.var 0) (.cons (.var 4) .nil))) .nil))))) (.cons (.tup (.cons (.cst (.str [118, 111, 105, 100])) (.cons (.var 2) (.cons (.var 3) .nil)))) (.cons (.tup (.cons (.cst (.str [115, 105, 108, 101, 110, 116])) (.cons (.tup (.cons (.cst (.str [112, 97, 115, 115])) (.cons (.call 22 (.cons (.var 0) (.cons (.cst (.int 3)) .nil))) .nil))) .nil))) (.cons (.tup (.cons (.cst (.str [100, 97, 119, 110])) .nil)) .nil)))))))
  (.cons (.ret (.call 23 (.cons (.var 0) (.cons (.bin .add (.var 5) (.klst (.cons (.tup (.cons (.cst (.str [99, 104, 97, 110, 103, 101])) (.cons (.var 2) (.cons (.var 3) (.cons (.tup (.cons (.cst (.str [97, 110, 121])) .nil)) (.cons (.call 23 (.cons (.var 0) (.cons (.klst (.cons (.cst (.str [100, 111, 110, 101])) (.cons (.cst (.str [118, 111, 105, 100])) .nil))) .nil))) .nil)))))) (.cons (.tup (.cons (.cst (.str [98, 97, 99, 107])) (.cons (.var 2) (.cons (.var 3) (.cons (.cst (.int 3)) (.cons (.cst (.str [100, 111, 110, 101])) (.cons (.tup (.cons (.cst (.int 0)) (.cons (.cst (.int 1)) .nil))) .nil))))))) (.cons (.tup (.cons (.cst (.str [98, 97, 99, 107])) (.cons (.var 2) (.cons (.var 3) (.cons (.cst (.int 3)) (.cons (.cst (.str [118, 111, 105, 100])) (.cons (.tup .nil) .nil))))))) .nil))))) .nil))))
  .nil))))⟩

def d__law_some_letter : FDef := ⟨"_law_some_letter", ["box", "many"], ["box", "many", "party", "number", "choices", "some"], [], .keep,
  (.cons (.asg (.tp [(.nm 2), (.nm 3)]) (.tup (.cons (.call 22 (.cons (.var 0) (.cons (.var 1) .nil))) (.cons (.call 22 (.cons (.var 0) (.cons (.cst (.int 5)) .nil))) .nil))))
  (.cons (.asg (.nm 4) (.klst (.cons (.tup (.cons (.cst (.str [100, 111])) (.cons (.cst (.int 0)) (.cons (.cst .non) .nil)))) (.cons (.tup (.cons (.cst (.str [100, 111])) (.cons (.cst (.int 1)) (.cons (.cst (.int 2)) .nil)))) (.cons (.tup (.cons (.cst (.str [99, 97, 108, 108])) (.cons (.cst (.int 1)) .nil))) (.cons (.tup (.cons (.cst (.str [112, 97, 115, 115])) (.cons (.cst (.int 0)) .nil))) (.cons (.tup (.cons (.cst (.str [99, 104, 97, 110, 103, 101])) (.cons (.tup .nil) (.cons (.tup .nil) .nil)))) (.cons (.tup (.cons (.cst (.str [98, 97, 99, 107])) (.cons (.cst (.int 2)) (.cons (.tup (.cons (.tup (.cons (.cst (.str [97, 103, 114, 101, 101])) (.cons (.cst (.int 0)) (.cons (.tup .nil) .nil)))) .nil)) .nil)))) .nil))))))))
  (.cons (.asg (.nm 5) (.klst (.cons (.tup (.cons (.cst (.str [97, 115, 107])) (.cons (.var 2) (.cons (.var 3) (.cons (.call 23 (.cons (.var 0) (.cons (.var 4) .nil))) (.cons (.cst (.int 3)) (.cons (.tup (.cons (.cst (.int 2)) (.cons (.cst (.int 77)) .nil))) .nil))))))) (.cons (.tup (.cons (.cst (.str [115, 101, 101, 110])) (.cons (.var 2) (.cons (.var 3) (.cons (.call 23 (.cons (.var 0) (.cons (.var 4) .nil))) .nil))))) (.cons (.tup (.cons (.cst (.str [104, 101, 97, 114, 100])) (.cons (.var 2) (.cons (.cst (.int 4)) (.cons (.bin .pow (.cst (.int 10)) (.cst (.int 17))) .nil))))) (.cons (.tup (.cons (.cst (.str [97, 103, 114, 101, 101])) (.cons (.var 2) (.cons (.cst .non) .nil)))) .nil))))))
  (.cons (.ret (.call 23 (.cons (.var 0) (.cons (.bin .add (.var 5) (.klst (.cons (.tup (.cons (.cst (.str [114, 111, 119])) (.cons (.var 3) (.cons (.call 33 (.cons (.var 0) (.cons (.var 1) .nil))) (.cons (.cst (.int 5)) .nil))))) (.cons (.tup (.cons (.cst (.str [114, 111, 119])) (.cons (.var 3) (.cons (.call 33 (.cons (.var 0) (.cons (.var 1) .nil))) (.cons (.cst (.int 0)) .nil))))) (.cons (.tup (.cons (.cst (.str [116, 111, 111, 107])) (.cons (.var 2) (.cons (.var 3) (.cons (.cst (.int 9)) .nil))))) .nil))))) .nil))))
  .nil))))⟩

def d__law_turned : FDef := ⟨"_law_turned", ["box", "value"], ["box", "value", "odd", "spot", "way"], [], .keep,
  (.cons (.asg (.nm 2) (.call 23 (.cons (.var 0) (.cons (.klst (.cons (.cst .non) (.cons (.cst (.bl true)) (.cons (.bin .sub (.cst (.int 0)) (.cst (.int 1))) (.cons (.cst (.str [120])) (.cons (.tup .nil) (.cons (.cst (.str [97, 115, 107])) (.cons (.cst (.int 99)) (.cons (.tup (.cons (.cst (.str [112, 97, 115, 115])) (.cons (.bin .sub (.cst (.int 0)) (.cst (.int 1))) .nil))) (.cons (.klst (.cons (.cst (.int 1)) (.cons (.cst (.int 2)) .nil))) (.cons (.tup (.cons (.cst (.str [100, 111])) (.cons (.cst (.int 0)) .nil))) (.cons (.tup (.cons (.cst (.str [100, 97, 119, 110])) .nil)) .nil)))))))))))) .nil))))
  (.cons (.ifs (.or_ (.not_ (.isi .tuple (.var 1))) (.or_ (.cmp .eq (.var 1) (.tup .nil)) (.cmp .eq (.call 22 (.cons (.var 0) (.cons (.cst (.int 4)) .nil))) (.cst (.int 0))))) (.cons (.ret (.var 2))
    .nil) .nil)
  (.cons (.asg (.tp [(.nm 3), (.nm 4)]) (.tup (.cons (.call 22 (.cons (.var 0) (.cons (.bi .len (.cons (.var 1) .nil)) .nil))) (.cons (.call 22 (.cons (.var 0) (.cons (.cst (.int 5)) .nil))) .nil))))
  (.cons (.ifs (.cmp .eq (.var 4) (.cst (.int 0))) (.cons (.ret (.bin .add (.sl (.var 1) .non (.som (.var 3))) (.sl (.var 1) (.som (.bin .add (.var 3) (.cst (.int 1)))) .non)))
    .nil) .nil)
  (.cons (.ifs (.cmp .eq (.var 4) (.cst (.int 1))) (.cons (.ret (.bin .add (.bin .add (.sl (.var 1) .non (.som (.var 3))) (.tup (.cons (.var 2) .nil))) (.sl (.var 1) (.som (.var 3)) .non)))
    .nil) .nil)
  (.cons (.ret (.bin .add (.bin .add (.sl (.var 1) .non (.som (.var 3))) (.tup (.cons (.call 35 (.cons (.var 0) (.cons (.ix (.var 1) (.var 3)) .nil))) .nil))) (.sl (.var 1) (.som (.bin .add (.var 3) (.cst (.int 1)))) .non)))
  .nil))))))⟩

def d_law : FDef := ⟨"law", ["script"], ["script", "k", "box", "many", "turn", "letter", "value", "bodies", "body", "is_own_now", "changing", "due"], [], .keep,
  (.cons (.for_ (.nm 1) (.rng (.cons (.bi .max (.cons (.cst (.int 3)) (.cons (.bi .min (.cons (.bi .len (.cons (.var 0) .nil)) (.cons (.cst (.int 6)) .nil))) .nil))) .nil)) (.cons (.asg (.nm 2) (.call 21 (.cons (.var 0) (.cons (.var 1) .nil))))
    (.cons (.asg (.nm 3) (.bin .add (.cst (.int 2)) (.call 22 (.cons (.var 2) (.cons (.cst (.int 3)) .nil)))))
    (.cons (.for_ (.nm 4) (.rng (.cons (.cst (.int 10)) .nil)) (.cons (.asg (.nm 5) (.call 34 (.cons (.var 2) (.cons (.var 3) .nil))))
      (.cons (.for_ (.nm 6) (.seq (.klst (.cons (.var 5) (.cons (.call 35 (.cons (.var 2) (.cons (.var 5) .nil))) (.cons (.call 35 (.cons (.var 2) (.cons (.var 5) .nil))) (.cons (.bi .listK (.cons (.var 5) .nil)) .nil)))))) (.cons (.ifs (.not_ (.call 24 (.cons (.callk 15 (.cons (.var 3) .nil) (.cons (.var 6) .nil) [0, 1] []) (.cons (.call 32 (.cons (.var 3) (.cons (.var 6) .nil))) .nil)))) (.cons (.ret (.cst (.bl false)))
          .nil) .nil)
        .nil))
      (.cons (.ifs (.not_ (.call 24 (.cons (.call 16 (.cons (.var 5) .nil)) (.cons (.ife (.cmp .inn (.ix (.var 5) (.cst (.int 0))) (.tup (.cons (.cst (.str [114, 111, 119])) (.cons (.cst (.str [116, 111, 111, 107])) .nil)))) (.bin .sub (.cst (.int 0)) (.cst (.int 1))) (.ix (.var 5) (.cst (.int 1)))) .nil)))) (.cons (.ret (.cst (.bl false)))
        .nil) .nil)
      .nil))))
    (.cons (.asg (.nm 7) (.bi .tuple (.cons (.lc (.call 33 (.cons (.var 2) (.cons (.var 3) .nil))) (.nm 4) (.rng (.cons (.call 22 (.cons (.var 2) (.cons (.cst (.int 8)) .nil))) .nil)) .non [4]) .nil)))
    (.cons (.for_ (.nm 8) (.seq (.var 7)) (.cons (.asg (.nm 9) (.cmp .inn (.ix (.var 8) (.cst (.int 0))) (.tup (.cons (.cst (.str [100, 111, 110, 101])) (.cons (.cst (.str [118, 111, 105, 100])) (.cons (.cst (.str [99, 104, 97, 110, 103, 101])) (.cons (.cst (.str [98, 97, 99, 107])) .nil)))))))
      (.cons (.asg (.nm 10) (.or_ (.call 26 (.cons (.var 8) .nil)) (.and_ (.cmp .inn (.ix (.var 8) (.cst (.int 0))) (.tup (.cons (.cst (.str [99, 104, 97, 110, 103, 101])) (.cons (.cst (.str [98, 97, 99, 107])) .nil)))) (.cmp .eq (.ix (.var 8) (.cst (.int 4))) (.cst (.str [100, 111, 110, 101]))))))
      (.cons (.ifs (.not_ (.call 24 (.cons (.tup (.cons (.call 10 (.cons (.var 8) .nil)) (.cons (.call 11 (.cons (.var 8) .nil)) .nil))) (.cons (.tup (.cons (.ife (.var 9) (.sl (.var 8) (.som (.cst (.int 1))) (.som (.cst (.int 3)))) (.cst .non)) (.cons (.var 10) .nil))) .nil)))) (.cons (.ret (.cst (.bl false)))
        .nil) .nil)
      .nil))))
    (.cons (.asg (.nm 11) (.call 25 (.cons (.var 7) (.cons (.cst (.fn 5)) .nil))))
    (.cons (.ifs (.not_ (.call 24 (.cons (.tup (.cons (.call 19 (.cons (.var 7) .nil)) (.cons (.call 20 (.cons (.var 7) .nil)) .nil))) (.cons (.tup (.cons (.var 11) (.cons (.tup (.cons (.bi .len (.cons (.var 7) .nil)) (.cons (.var 11) .nil))) .nil))) .nil)))) (.cons (.ret (.cst (.bl false)))
      .nil) .nil)
    (.cons (.ifs (.and_ (.cmp .ne (.var 7) (.tup .nil)) (.not_ (.call 24 (.cons (.call 18 (.cons (.call 25 (.cons (.sl (.var 7) .non (.som (.bin .sub (.bi .len (.cons (.var 7) .nil)) (.cst (.int 1))))) (.cons (.cst (.fn 5)) .nil))) (.cons (.ix (.var 7) (.bin .sub (.bi .len (.cons (.var 7) .nil)) (.cst (.int 1)))) .nil))) (.cons (.var 11) .nil))))) (.cons (.ret (.cst (.bl false)))
      .nil) .nil)
    .nil)))))))))
  (.cons (.ret (.call 24 (.cons (.tup (.cons (.call 18 (.cons (.cst (.int 0)) (.cons (.cst .non) .nil))) (.cons (.call 17 (.cons (.tup (.cons (.cst (.str [100, 111])) (.cons (.cst (.int 1)) (.cons (.cst (.int 2)) .nil)))) .nil)) (.cons (.call 17 (.cons (.tup (.cons (.cst (.str [112, 97, 115, 115])) (.cons (.cst (.int 0)) .nil))) .nil)) .nil)))) (.cons (.tup (.cons (.cst (.int 1)) (.cons (.tup (.cons (.cst (.str [100, 111])) (.cons (.cst (.int 1)) (.cons (.cst .non) .nil)))) (.cons (.tup (.cons (.cst (.str [112, 97, 115, 115])) (.cons (.cst (.int 0)) .nil))) .nil)))) .nil))))
  .nil))⟩

abbrev tb : List FDef := [d_is_int, d_is_number, d_is_tuple, d_is_numbers, d_counted, d_packed, d_is_choice, d_is_seen, d_is_body, d_is_course_body, d_asked_by, d_is_changing_body, d_is_mark, d_is_desks_letter, d_is_agreeing, d_is_letter, d_whose_letter, d_hidden_choice, d_chained, d_sum_of, d_mark_of, d__law_box, d__law_take, d__law_pick, d__law_same, d__law_chain, d__law_is_changing, d__law_is_number, d__law_are_numbers, d__law_starts, d__law_is_choice, d__law_is_body, d__law_is_letter, d__law_some_body, d__law_some_letter, d__law_turned, d_law]
end Ev.K55

namespace Ev.K55
open Ev
def isI : T → Bool | .int _ => true | _ => false
theorem is_int_ev {m lo : Nat} {v : T} {st : Sto} (hg : Gd v) : evC tb (m + 1) 0 lo [v] st = .ok (.bl (isI v)) st := by
  refine evC_iso' (d := d_is_int) (st' := []) rfl rfl rfl (by simp [hg]) ?_ rfl
  cases v <;> first | rfl | cases hg
def moT : Option Int → T | none => .non | some b => .int b
def numB (v : T) (a : Int) (mo : Option Int) : Bool := match v with
  | .int i => decide (a ≤ i) && (match mo with | none => true | some b => decide (i ≤ b))
  | _ => false
abbrev nb (v : T) : Bool := numB v 0 none
theorem is_number_ev {m lo : Nat} {v : T} {a : Int} {mo : Option Int} {st : Sto} (hg : Gd v) : evC tb (m + 2) 1 lo [v, .int a, moT mo] st = .ok (.bl (numB v a mo)) st := by
  refine evC_iso' (d := d_is_number) (st' := []) rfl rfl rfl (by cases mo <;> simp [hg, moT]) ?_ rfl
  simp only [d_is_number, startE]
  cases v with
  | int i => cases mo <;> by_cases h : a ≤ i <;> simp [is_int_ev, isI, numB, moT, endF, h]
  | loc _ => cases hg
  | fn _ => cases hg
  | _ => simp [is_int_ev, hg, isI, numB, endF] <;> simp_all
theorem is_number_m {m lo : Nat} {v : T} {a b : Int} {st : Sto} (hg : Gd v) : evC tb (m + 2) 1 lo [v, .int a, .int b] st = .ok (.bl (numB v a (some b))) st := is_number_ev (mo := some b) hg
theorem is_number_n {m lo : Nat} {v : T} {a : Int} {st : Sto} (hg : Gd v) : evC tb (m + 2) 1 lo [v, .int a, .non] st = .ok (.bl (numB v a none)) st := is_number_ev (mo := none) hg
theorem is_number_1 {m lo : Nat} {v : T} {st : Sto} (hg : Gd v) : evC tb (m + 2) 1 lo [v] st = .ok (.bl (nb v)) st := by
  rw [evC_dfl (d := d_is_number) (us := [v, .int 0, .non]) rfl rfl rfl rfl]
  exact is_number_ev (mo := none) hg
def tupB (v : T) (mo : Option Int) : Bool := match v with
  | .tup ts => (match mo with | none => true | some k => decide ((ts.length : Int) = k))
  | _ => false
theorem is_tuple_ev {m lo : Nat} {v : T} {mo : Option Int} {st : Sto} (hg : Gd v) : evC tb (m + 1) 2 lo [v, moT mo] st = .ok (.bl (tupB v mo)) st := by
  refine evC_iso' (d := d_is_tuple) (st' := []) rfl rfl rfl (by cases mo <;> simp [hg, moT]) ?_ rfl
  simp only [d_is_tuple, startE]
  cases v with
  | tup ts => cases mo <;> simp [isi_T hg, moT, tupB, endF]
  | loc _ => cases hg
  | fn _ => cases hg
  | _ => simp [isi_T hg, isT, tupB, endF]
theorem is_tuple_m {m lo : Nat} {v : T} {k : Int} {st : Sto} (hg : Gd v) : evC tb (m + 1) 2 lo [v, .int k] st = .ok (.bl (tupB v (some k))) st := is_tuple_ev (mo := some k) hg
theorem is_tuple_1 {m lo : Nat} {v : T} {st : Sto} (hg : Gd v) : evC tb (m + 1) 2 lo [v] st = .ok (.bl (isT v)) st := by
  rw [evC_dfl (d := d_is_tuple) (us := [v, .non]) rfl rfl rfl rfl]
  refine (is_tuple_ev (mo := none) hg).trans ?_
  cases v <;> rfl
def nsB (v : T) (mo : Option Int) : Bool := tupB v mo && (match v with | .tup ts => ts.all nb | _ => false)
theorem filt {ts : List T} {f : T → Bool} : (ts.filter fun x => !f x) = [] ↔ ts.all f = true := by
  rw [List.filter_eq_nil_iff, List.all_eq_true]
  simp
theorem len0 (ts : List T) (f : T → Bool) : decide (((ts.filter fun x => !f x).length : Int) = 0) = ts.all f := by
  have h := filt (ts := ts) (f := f)
  cases ha : ts.all f with
  | true => rw [h.mpr ha]; rfl
  | false =>
    rw [decide_eq_false_iff_not]
    intro q
    have : (ts.filter fun x => !f x) = [] := List.length_eq_zero_iff.mp (by omega)
    rw [h.mp this] at ha; cases ha
theorem gds_filt {f : T → Bool} : ∀ {us : List T}, Gds us → Gds ((us.filter f).map id)
  | [], _ => rfl
  | u :: us, h => by
    rw [gds_cons] at h
    by_cases hu : f u = true
    · rw [List.filter_cons_of_pos hu, List.map_cons, gds_cons]; exact ⟨h.1, gds_filt h.2⟩
    · rw [List.filter_cons_of_neg hu]; exact gds_filt h.2
theorem is_numbers_ev {m lo : Nat} {v : T} {k : Int} {st : Sto} (hg : Gd v) : evC tb (m + 3) 3 lo [v, .int k] st = .ok (.bl (nsB v (some k))) st := by
  rw [evC_dfl (d := d_is_numbers) (us := [v, .int k, .int 0, .non]) rfl rfl rfl rfl]
  refine evC_iso' (d := d_is_numbers) (st' := []) rfl rfl rfl (by simp [hg]) ?_ rfl
  simp only [d_is_numbers, startE]
  cases v with
  | tup ts =>
    have hl : ts.length ≤ 1000 := ((gd_tup ts).mp hg).1
    have hs : Gds ts := ((gd_tup ts).mp hg).2
    have key := x_frzlc (cl := evC tb (m + 2)) (lo := 0) (env := [some (.tup ts), some (.int k), some (.int 0), some .non, none]) (st := []) (elt := .var 4) (t := .not_ (.call 1 (.cons (.var 4) (.cons (.var 2) (.cons (.var 3) .nil))))) (e := .var 0) (j := 4) (own := [4]) (ts := ts) (f := fun x => !nb x) (g := id) rfl
      (fun x hx acc => by
        have hx' := gds_mem hs hx
        simp [wipeE, is_number_n, hx']) (fun x hx acc => by simp [wipeE]) hl (gds_bel _ (gds_filt hs))
    by_cases hk : (ts.length : Int) = k
    · simp [is_tuple_m hg, tupB, hk, nsB, key, endF]
      rw [Bool.eq_iff_iff]; simp
    · simp [is_tuple_m hg, tupB, hk, nsB, endF]
  | loc _ => cases hg
  | fn _ => cases hg
  | _ => simp [is_tuple_m hg, tupB, nsB, endF]

abbrev wDo : List Nat := [100, 111]
abbrev wCall : List Nat := [99, 97, 108, 108]
abbrev wPass : List Nat := [112, 97, 115, 115]
abbrev wBack : List Nat := [98, 97, 99, 107]
abbrev wChange : List Nat := [99, 104, 97, 110, 103, 101]
def choB (v : T) : Bool := match v with
  | .tup [.str w, a] => (decide (w = wCall) || decide (w = wPass)) && nb a
  | .tup [.str w, a, b] => (decide (w = wDo) && (nb a && (b.isNon || nb b))) || ((decide (w = wBack) && (nb a && isT b)) || (decide (w = wChange) && isT b))
  | _ => false
/-- a tuple whose first is a text -/
def hdB (v : T) : Bool := match v with
  | .tup (.str _ :: _) => true
  | _ => false
def E0 (i : Nat) : E := .or_ (.not_ (.call 2 (.cons (.var i) .nil))) (.or_ (.cmp .eq (.bi .len (.cons (.var i) .nil)) (.cst (.int 0))) (.not_ (.isi .str (.ix (.var i) (.cst (.int 0))))))
theorem pre_ev {m lo i : Nat} {v : T} {env : En} {st : Sto} (he : env[i]? = some (some v)) (hg : Gd v) : evE (evC tb (m + 1)) lo env (E0 i) st = .ok (.bl (!hdB v)) st := by
  cases v with
  | tup ts =>
    cases ts with
    | nil => simp [E0, he, is_tuple_1, hg, hdB]
    | cons x xs =>
      have hx := ((gds_cons x xs).mp ((gd_tup (x :: xs)).mp hg).2).1
      have e0 : ((x :: xs).length : Int) ≠ 0 := by simp only [List.length_cons]; omega
      have e1 := is_tuple_1 (m := m) (lo := lo) (st := st) hg
      have e2 : decide (((x :: xs).length : Int) = 0) = false := decide_eq_false e0
      simp only [E0, x_or, x_not, x_call, x_cons, x_nil, x_var, he, Rs.bind, e1, isT_tup, truth_bl, notB_s, Bool.not_true, orK_f, x_cmp, x_bi, b_lenT, x_cst, c_eq, eqS_int, e2, optB_s, x_isi, x_ix, ix_tup, at0, List.getElem?_cons_zero, Rs.of, isi_S hx]
      cases x <;> rfl
  | loc _ => cases hg
  | fn _ => cases hg
  | _ => simp [E0, he, is_tuple_1, hg, isT, hdB]
theorem hd_shape {v : T} (h : hdB v = true) : ∃ w xs, v = .tup (.str w :: xs) := by
  unfold hdB at h
  split at h
  · exact ⟨_, _, rfl⟩
  · cases h
theorem cho_hd {v : T} (h : hdB v = false) : choB v = false := by
  unfold choB
  split
  · cases h
  · cases h
  · rfl
def tlS : Ss → Ss | .cons _ r => r | .nil => .nil
theorem is_choice_ev {m lo : Nat} {v : T} {st : Sto} (hg : Gd v) : evC tb (m + 4) 6 lo [v] st = .ok (.bl (choB v)) st := by
  refine evC_iso' (d := d_is_choice) (st' := []) rfl rfl rfl (by simp [hg]) ?_ rfl
  have h0 := pre_ev (m := m + 2) (lo := 0) (i := 0) (st := []) (env := [some v]) rfl hg
  rw [show d_is_choice.body = .cons (.ifs (E0 0) (.cons (.ret (.cst (.bl false))) .nil) .nil) (tlS d_is_choice.body) from rfl, show startE d_is_choice [v] = [some v] from rfl, g_ret h0 (fun _ => rfl)]
  cases hh : hdB v with
  | false => simp [cho_hd hh, endF]
  | true =>
    obtain ⟨w, xs, rfl⟩ := hd_shape hh
    have hs := (gds_cons _ xs).mp ((gd_tup (_ :: xs)).mp hg).2
    simp only [Bool.not_true, Bool.false_eq_true, if_false, tlS, d_is_choice]
    match xs, hs.2 with
    | [], hs =>
      by_cases e1 : w = [100, 111] <;> by_cases e2 : w = [99, 97, 108, 108] <;> by_cases e3 : w = [112, 97, 115, 115] <;> by_cases e4 : w = [98, 97, 99, 107] <;> by_cases e5 : w = [99, 104, 97, 110, 103, 101] <;> simp [e1, e2, e3, e4, e5, endF, choB]
    | [a], hs =>
      simp at hs
      by_cases e1 : w = [100, 111] <;> by_cases e2 : w = [99, 97, 108, 108] <;> by_cases e3 : w = [112, 97, 115, 115] <;> by_cases e4 : w = [98, 97, 99, 107] <;> by_cases e5 : w = [99, 104, 97, 110, 103, 101] <;> simp [e1, e2, e3, e4, e5, endF, choB, is_number_1, hs] <;> simp_all
    | [a, b], hs =>
      simp at hs
      by_cases e1 : w = [100, 111] <;> by_cases e2 : w = [99, 97, 108, 108] <;> by_cases e3 : w = [112, 97, 115, 115] <;> by_cases e4 : w = [98, 97, 99, 107] <;> by_cases e5 : w = [99, 104, 97, 110, 103, 101] <;> simp [e1, e2, e3, e4, e5, endF, choB, is_number_1, is_tuple_1, hs] <;> simp_all
    | a :: b :: c :: r, hs =>
      have l1 : ¬ ((r.length : Int) + 1 + 1 + 1 + 1 = 3) := by omega
      have l2 : ¬ ((r.length : Int) + 1 + 1 + 1 + 1 = 2) := by omega
      by_cases e1 : w = [100, 111] <;> by_cases e2 : w = [99, 97, 108, 108] <;> by_cases e3 : w = [112, 97, 115, 115] <;> by_cases e4 : w = [98, 97, 99, 107] <;> by_cases e5 : w = [99, 104, 97, 110, 103, 101] <;> simp [e1, e2, e3, e4, e5, endF, choB, l1, l2] <;> simp_all
end Ev.K55

namespace Ev.K55
open Ev
theorem hd_not {v : T} (h : hdB v = false) : (∃ ts, v = .tup ts ∧ ∀ w xs, ts ≠ .str w :: xs) ∨ isT v = false := by
  cases v with
  | tup ts =>
    refine .inl ⟨ts, rfl, fun w xs e => ?_⟩
    subst e
    cases h
  | _ => exact .inr rfl
abbrev pb (many : Int) (v : T) : Bool := numB v 0 (some (many - 1))
def silB (v : T) : Bool := match v with | .tup [.str w, a] => decide (w = wPass) && nb a | _ => false
def seenB (v : T) : Bool := match v with
  | .tup [.str w, a] => (decide (w = wCall) || decide (w = wPass)) && nb a
  | .tup [.str w, a, b, c] => decide (w = wDo) && ((nb a && (b.isNon || nb b)) && nsB c none)
  | _ => false
abbrev wDone : List Nat := [100, 111, 110, 101]
abbrev wVoid : List Nat := [118, 111, 105, 100]
abbrev wSilent : List Nat := [115, 105, 108, 101, 110, 116]
abbrev wDawn : List Nat := [100, 97, 119, 110]
def dwB (v : T) : Bool := match v with | .str z => decide (z = wDone) || decide (z = wVoid) | _ => false
def bodyB (many : Int) (v : T) : Bool := match v with
  | .tup [.str w] => decide (w = wDawn)
  | .tup [.str w, a] => decide (w = wSilent) && silB a
  | .tup [.str w, a, b] => decide (w = wVoid) && (pb many a && nb b)
  | .tup [.str w, a, b, c] => decide (w = wDone) && (pb many a && (nb b && seenB c))
  | .tup [.str w, a, b, c, d] => decide (w = wChange) && (pb many a && (nb b && dwB d))
  | .tup [.str w, a, b, c, d, e] => decide (w = wBack) && (pb many a && (nb b && (dwB d && (nb c && nsB e none))))
  | _ => false
theorem seen_hd {v : T} (h : hdB v = false) : seenB v = false := by
  unfold seenB; split <;> first | rfl | cases h
theorem body_hd {many : Int} {v : T} (h : hdB v = false) : bodyB many v = false := by
  unfold bodyB; split <;> first | rfl | cases h
theorem numbers_len {m lo : Nat} {v : T} {st : Sto} (ts : List T) (e : v = .tup ts) (hg : Gd v) : evC tb (m + 3) 3 lo [v, .int ts.length] st = .ok (.bl (nsB v none)) st := by
  rw [is_numbers_ev hg]
  subst e
  simp [nsB, tupB]
/-- is_tuple(e) and is_numbers(e, len(e)) -/
def Enl (a : E) : E := .and_ (.call 2 (.cons a .nil)) (.call 3 (.cons a (.cons (.bi .len (.cons a .nil)) .nil)))
theorem enl_ev {m lo : Nat} {a : E} {v : T} {env : En} {st : Sto} (he : evE (evC tb (m + 3)) lo env a st = .ok v st) (hg : Gd v) : evE (evC tb (m + 3)) lo env (Enl a) st = .ok (.bl (nsB v none)) st := by
  have h1 := is_tuple_1 (m := m + 2) (lo := lo) (st := st) hg
  cases v with
  | tup ts =>
    have h2 := numbers_len (m := m) (lo := lo) (st := st) ts rfl hg
    simp only [Enl, x_and, x_call, x_cons, x_nil, he, Rs.bind, h1, isT_tup, truth_bl, andK_t, x_bi, b_lenT, h2]
  | loc _ => cases hg
  | fn _ => cases hg
  | _ => simp only [Enl, x_and, x_call, x_cons, x_nil, he, Rs.bind, h1, isT, truth_bl, andK_f] <;> simp [nsB, tupB]
theorem is_seen_ev {m lo : Nat} {v : T} {st : Sto} (hg : Gd v) : evC tb (m + 5) 7 lo [v] st = .ok (.bl (seenB v)) st := by
  refine evC_iso' (d := d_is_seen) (st' := []) rfl rfl rfl (by simp [hg]) ?_ rfl
  have h0 := pre_ev (m := m + 3) (lo := 0) (i := 0) (st := []) (env := [some v]) rfl hg
  rw [show d_is_seen.body = .cons (.ifs (E0 0) (.cons (.ret (.cst (.bl false))) .nil) .nil) (.cons (.ifs (.cmp .eq (.ix (.var 0) (.cst (.int 0))) (.cst (.str [100, 111]))) (.cons (.ret (.and_ (.cmp .eq (.bi .len (.cons (.var 0) .nil)) (.cst (.int 4))) (.and_ (.call 6 (.cons (.sl (.var 0) .non (.som (.cst (.int 3)))) .nil)) (Enl (.ix (.var 0) (.cst (.int 3))))))) .nil) .nil) (tlS (tlS d_is_seen.body))) from rfl, show startE d_is_seen [v] = [some v] from rfl, g_ret h0 (fun _ => rfl)]
  cases hh : hdB v with
  | false => simp [seen_hd hh, endF]
  | true =>
    obtain ⟨w, xs, rfl⟩ := hd_shape hh
    have hs := (gds_cons _ xs).mp ((gd_tup (_ :: xs)).mp hg).2
    have hch := is_choice_ev (m := m) (lo := 0) (st := []) hg
    simp only [Bool.not_true, Bool.false_eq_true, if_false, tlS, d_is_seen]
    match xs, hs.2 with
    | [], hs =>
      by_cases e1 : w = [100, 111] <;> by_cases e2 : w = [99, 97, 108, 108] <;> by_cases e3 : w = [112, 97, 115, 115] <;> simp [e1, e2, e3, endF, seenB, is_choice_ev, choB]
    | [a], hs =>
      simp at hs
      by_cases e1 : w = [100, 111] <;> by_cases e2 : w = [99, 97, 108, 108] <;> by_cases e3 : w = [112, 97, 115, 115] <;> simp [e1, e2, e3, endF, seenB, is_choice_ev, choB, hs] <;> simp_all
    | [a, b], hs =>
      simp at hs
      by_cases e1 : w = [100, 111] <;> by_cases e2 : w = [99, 97, 108, 108] <;> by_cases e3 : w = [112, 97, 115, 115] <;> simp [e1, e2, e3, endF, seenB, is_choice_ev, choB, hs] <;> simp_all
    | [a, b, c], hs =>
      simp at hs
      have h3 := enl_ev (m := m + 1) (lo := 0) (env := [some (.tup [.str w, a, b, c])]) (st := []) (a := .ix (.var 0) (.cst (.int 3))) (v := c) (by simp) hs.2.2
      by_cases e1 : w = [100, 111] <;> by_cases e2 : w = [99, 97, 108, 108] <;> by_cases e3 : w = [112, 97, 115, 115] <;> simp [e1, e2, e3, endF, seenB, is_choice_ev, choB, hs] <;> simp_all
    | a :: b :: c :: d :: r, hs =>
      have l1 : ¬ ((r.length : Int) + 1 + 1 + 1 + 1 + 1 = 4) := by omega
      by_cases e1 : w = [100, 111] <;> by_cases e2 : w = [99, 97, 108, 108] <;> by_cases e3 : w = [112, 97, 115, 115] <;> simp [e1, e2, e3, endF, seenB, l1] <;> simp_all [choB]
end Ev.K55

namespace Ev.K55
open Ev
def courB (many : Int) (v : T) : Bool := match v with
  | .tup [.str w, a, b, c, d] => decide (w = wChange) && (pb many a && (nb b && dwB d))
  | .tup [.str w, a, b, c, d, e] => !decide (w = wChange) && (pb many a && (nb b && (dwB d && (nb c && nsB e none))))
  | _ => false
/-- a text of the two words -/
theorem dw_ev {cl : Nat → Nat → List T → Sto → Rs T} {lo : Nat} {env : En} {st : Sto} {a : E} {v : T} (he : evE cl lo env a st = .ok v st) (hg : Gd v) : evE cl lo env (.or_ (.not_ (.isi .str a)) (.cmp .notIn a (.cst (.tup [(.str [100, 111, 110, 101]), (.str [118, 111, 105, 100])])))) st = .ok (.bl (!dwB v)) st := by
  cases v with
  | str z => simp [he, isi_S, dwB]
  | loc _ => cases hg
  | fn _ => cases hg
  | _ => simp [he, isi_S hg, isSt, dwB]
theorem dw_ev2 {cl : Nat → Nat → List T → Sto → Rs T} {lo : Nat} {env : En} {st : Sto} {a : E} {v : T} (he : evE cl lo env a st = .ok v st) (hg : Gd v) : evE cl lo env (.or_ (.not_ (.isi .str a)) (.cmp .notIn a (.tup (.cons (.cst (.str [100, 111, 110, 101])) (.cons (.cst (.str [118, 111, 105, 100])) .nil))))) st = .ok (.bl (!dwB v)) st := by
  cases v with
  | str z => simp [he, isi_S, dwB]
  | loc _ => cases hg
  | fn _ => cases hg
  | _ => simp [he, isi_S hg, isSt, dwB]
def Edw (a : E) : E := .or_ (.not_ (.isi .str a)) (.cmp .notIn a (.cst (.tup [(.str [100, 111, 110, 101]), (.str [118, 111, 105, 100])])))
theorem edw_ev {cl : Nat → Nat → List T → Sto → Rs T} {lo : Nat} {env : En} {st : Sto} {a : E} {v : T} (he : evE cl lo env a st = .ok v st) (hg : Gd v) : evE cl lo env (Edw a) st = .ok (.bl (!dwB v)) st := dw_ev he hg
def bodyC : Ss := .cons (.ifs (.or_ (.cmp .lt (.bi .len (.cons (.var 1) .nil)) (.cst (.int 5))) (.or_ (.not_ (.call 1 (.cons (.ix (.var 1) (.cst (.int 1))) (.cons (.cst (.int 0)) (.cons (.bin .sub (.var 0) (.cst (.int 1))) .nil))))) (.not_ (.call 1 (.cons (.ix (.var 1) (.cst (.int 2))) .nil))))) (.cons (.ret (.cst (.bl false))) .nil) .nil)
  (.cons (.ifs (Edw (.ix (.var 1) (.cst (.int 4)))) (.cons (.ret (.cst (.bl false))) .nil) .nil)
  (.cons (.ifs (.cmp .eq (.ix (.var 1) (.cst (.int 0))) (.cst (.str [99, 104, 97, 110, 103, 101]))) (.cons (.ret (.cmp .eq (.bi .len (.cons (.var 1) .nil)) (.cst (.int 5)))) .nil) .nil)
  (.cons (.ret (.and_ (.cmp .eq (.bi .len (.cons (.var 1) .nil)) (.cst (.int 6))) (.and_ (.call 1 (.cons (.ix (.var 1) (.cst (.int 3))) .nil)) (Enl (.ix (.var 1) (.cst (.int 5))))))) .nil)))
theorem is_course_ev {m lo : Nat} {many : Int} {w : List Nat} {xs : List T} {st : Sto} (hg : Gd (.tup (.str w :: xs))) : evC tb (m + 4) 9 lo [.int many, .tup (.str w :: xs)] st = .ok (.bl (courB many (.tup (.str w :: xs)))) st := by
  refine evC_iso' (d := d_is_course_body) (st' := []) rfl rfl rfl (by simp only [gds_cons, gd_int, true_and, gds_nil, and_true]; exact hg) ?_ rfl
  have hs := (gds_cons _ xs).mp ((gd_tup (_ :: xs)).mp hg).2
  rw [show d_is_course_body.body = bodyC from rfl, show startE d_is_course_body [.int many, .tup (.str w :: xs)] = [some (.int many), some (.tup (.str w :: xs))] from rfl]
  unfold bodyC
  match xs, hs.2 with
  | [], hs =>
    by_cases e1 : w = [99, 104, 97, 110, 103, 101] <;> simp [e1, endF, courB, is_number_m, is_number_1, op2] <;> simp_all
  | [a], hs =>
    simp at hs
    by_cases e1 : w = [99, 104, 97, 110, 103, 101] <;> simp [e1, endF, courB, is_number_m, is_number_1, op2, hs] <;> simp_all
  | [a, b], hs =>
    simp at hs
    by_cases e1 : w = [99, 104, 97, 110, 103, 101] <;> simp [e1, endF, courB, is_number_m, is_number_1, op2, hs] <;> simp_all
  | [a, b, c], hs =>
    simp at hs
    by_cases e1 : w = [99, 104, 97, 110, 103, 101] <;> simp [e1, endF, courB, is_number_m, is_number_1, op2, hs] <;> simp_all
  | [a, b, c, d], hs =>
    simp at hs
    have hd := edw_ev (cl := evC tb (m + 3)) (lo := 0) (env := [some (.int many), some (.tup [.str w, a, b, c, d])]) (st := []) (a := .ix (.var 1) (.cst (.int 4))) (v := d) (by simp) hs.2.2.2
    cases hp : numB a 0 (some (many - 1)) <;> cases hq : numB b 0 none <;> cases hw : dwB d <;> by_cases e1 : w = [99, 104, 97, 110, 103, 101] <;> simp [e1, endF, courB, is_number_m, is_number_1, op2, hs, hp, hq, hw, hd] <;> simp_all
  | [a, b, c, d, e], hs =>
    simp at hs
    have hd := edw_ev (cl := evC tb (m + 3)) (lo := 0) (env := [some (.int many), some (.tup [.str w, a, b, c, d, e])]) (st := []) (a := .ix (.var 1) (.cst (.int 4))) (v := d) (by simp) hs.2.2.2.1
    have h3 := enl_ev (m := m) (lo := 0) (env := [some (.int many), some (.tup [.str w, a, b, c, d, e])]) (st := []) (a := .ix (.var 1) (.cst (.int 5))) (v := e) (by simp) hs.2.2.2.2
    cases hp : numB a 0 (some (many - 1)) <;> cases hq : numB b 0 none <;> cases hw : dwB d <;> by_cases e1 : w = [99, 104, 97, 110, 103, 101] <;> simp [e1, endF, courB, is_number_m, is_number_1, op2, hs, hp, hq, hw, hd, h3] <;> simp_all
  | a :: b :: c :: d :: e :: f :: r, hs =>
    have l5 : ¬ ((r.length : Int) + 1 + 1 + 1 + 1 + 1 + 1 + 1 = 5) := by omega
    have l6 : ¬ ((r.length : Int) + 1 + 1 + 1 + 1 + 1 + 1 + 1 = 6) := by omega
    have m5 : ¬ ((r.length : Int) + 1 + 1 + 1 + 1 + 1 + 1 + 1 < 5) := by omega
    simp at hs
    have hd := edw_ev (cl := evC tb (m + 3)) (lo := 0) (env := [some (.int many), some (.tup (.str w :: a :: b :: c :: d :: e :: f :: r))]) (st := []) (a := .ix (.var 1) (.cst (.int 4))) (v := d) (by simp) hs.2.2.2.1
    cases hp : numB a 0 (some (many - 1)) <;> cases hq : numB b 0 none <;> cases hw : dwB d <;> by_cases e1 : w = [99, 104, 97, 110, 103, 101] <;> simp [e1, endF, courB, is_number_m, is_number_1, op2, l5, l6, m5, hs, hp, hq, hw, hd] <;> simp_all
end Ev.K55

namespace Ev.K55
open Ev
/-- is_choice(e) and e[0] == 'pass' -/
def Esil (a : E) : E := .and_ (.call 6 (.cons a .nil)) (.cmp .eq (.ix a (.cst (.int 0))) (.cst (.str [112, 97, 115, 115])))
theorem esil_ev {m lo : Nat} {a : E} {v : T} {env : En} {st : Sto} (he : evE (evC tb (m + 4)) lo env a st = .ok v st) (hg : Gd v) : evE (evC tb (m + 4)) lo env (Esil a) st = .ok (.bl (silB v)) st := by
  have h1 := is_choice_ev (m := m) (lo := lo) (st := st) hg
  cases hc : choB v with
  | false =>
    rw [hc] at h1
    simp only [Esil, x_and, x_call, x_cons, x_nil, he, Rs.bind, h1, truth_bl, andK_f]
    have : silB v = false := by
      cases hs : silB v with
      | false => rfl
      | true =>
        exfalso
        unfold silB at hs
        split at hs
        · next w a =>
          simp at hs
          simp [choB, hs] at hc
        · cases hs
    rw [this]
  | true =>
    rw [hc] at h1
    simp only [Esil, x_and, x_call, x_cons, x_nil, he, Rs.bind, h1, truth_bl, andK_t]
    unfold choB at hc
    split at hc
    · next w a =>
      simp at hc
      simp [he, silB, hc.2]
    · next w a b =>
      simp at hc
      simp [he, silB]
      rcases hc with hc | hc | hc <;> simp [hc.1]
    · cases hc
def bodyD : Ss := .cons (.ifs (E0 1) (.cons (.ret (.cst (.bl false))) .nil) .nil)
  (.cons (.ifs (.cmp .eq (.ix (.var 1) (.cst (.int 0))) (.cst (.str [100, 111, 110, 101]))) (.cons (.ret (.and_ (.cmp .eq (.bi .len (.cons (.var 1) .nil)) (.cst (.int 4))) (.and_ (.call 1 (.cons (.ix (.var 1) (.cst (.int 1))) (.cons (.cst (.int 0)) (.cons (.bin .sub (.var 0) (.cst (.int 1))) .nil)))) (.and_ (.call 1 (.cons (.ix (.var 1) (.cst (.int 2))) .nil)) (.call 7 (.cons (.ix (.var 1) (.cst (.int 3))) .nil)))))) .nil) .nil)
  (.cons (.ifs (.cmp .eq (.ix (.var 1) (.cst (.int 0))) (.cst (.str [118, 111, 105, 100]))) (.cons (.ret (.and_ (.cmp .eq (.bi .len (.cons (.var 1) .nil)) (.cst (.int 3))) (.and_ (.call 1 (.cons (.ix (.var 1) (.cst (.int 1))) (.cons (.cst (.int 0)) (.cons (.bin .sub (.var 0) (.cst (.int 1))) .nil)))) (.call 1 (.cons (.ix (.var 1) (.cst (.int 2))) .nil))))) .nil) .nil)
  (.cons (.ifs (.cmp .eq (.ix (.var 1) (.cst (.int 0))) (.cst (.str [115, 105, 108, 101, 110, 116]))) (.cons (.ret (.and_ (.cmp .eq (.bi .len (.cons (.var 1) .nil)) (.cst (.int 2))) (Esil (.ix (.var 1) (.cst (.int 1)))))) .nil) .nil)
  (.cons (.ifs (.cmp .inn (.ix (.var 1) (.cst (.int 0))) (.tup (.cons (.cst (.str [99, 104, 97, 110, 103, 101])) (.cons (.cst (.str [98, 97, 99, 107])) .nil)))) (.cons (.ret (.call 9 (.cons (.var 0) (.cons (.var 1) .nil)))) .nil) .nil)
  (.cons (.ret (.cmp .eq (.var 1) (.tup (.cons (.cst (.str [100, 97, 119, 110])) .nil)))) .nil)))))
theorem is_body_ev {m lo : Nat} {many : Int} {v : T} {st : Sto} (hg : Gd v) (hd : v.ldp ≤ 18) : evC tb (m + 6) 8 lo [.int many, v] st = .ok (.bl (bodyB many v)) st := by
  refine evC_iso' (d := d_is_body) (st' := []) rfl rfl rfl (by simp [hg]) ?_ rfl
  have h0 := pre_ev (m := m + 4) (lo := 0) (i := 1) (st := []) (env := [some (.int many), some v]) rfl hg
  rw [show d_is_body.body = bodyD from rfl, show startE d_is_body [.int many, v] = [some (.int many), some v] from rfl]
  unfold bodyD
  rw [g_ret h0 (fun _ => rfl)]
  cases hh : hdB v with
  | false => simp [body_hd hh, endF]
  | true =>
    obtain ⟨w, xs, rfl⟩ := hd_shape hh
    have hs := (gds_cons _ xs).mp ((gd_tup (_ :: xs)).mp hg).2
    have hq := eq_one (z := [100, 97, 119, 110]) (st := []) hg hd
    have hco := is_course_ev (m := m + 1) (lo := 0) (many := many) (st := []) hg
    simp only [Bool.not_true, Bool.false_eq_true, if_false]
    match xs, hs.2 with
    | [], hs =>
      by_cases e1 : w = [100, 111, 110, 101] <;> by_cases e2 : w = [118, 111, 105, 100] <;> by_cases e3 : w = [115, 105, 108, 101, 110, 116] <;> by_cases e4 : w = [99, 104, 97, 110, 103, 101] <;> by_cases e5 : w = [98, 97, 99, 107] <;> by_cases e6 : w = [100, 97, 119, 110] <;> simp [e1, e2, e3, e4, e5, e6, endF, bodyB, courB, is_number_m, is_number_1, is_seen_ev, op2, hq, hco] <;> simp_all [courB]
    | [a], hs =>
      simp at hs
      have h3 := esil_ev (m := m + 1) (lo := 0) (env := [some (.int many), some (.tup [.str w, a])]) (st := []) (a := .ix (.var 1) (.cst (.int 1))) (v := a) (by simp) hs
      by_cases e1 : w = [100, 111, 110, 101] <;> by_cases e2 : w = [118, 111, 105, 100] <;> by_cases e3 : w = [115, 105, 108, 101, 110, 116] <;> by_cases e4 : w = [99, 104, 97, 110, 103, 101] <;> by_cases e5 : w = [98, 97, 99, 107] <;> by_cases e6 : w = [100, 97, 119, 110] <;> simp [e1, e2, e3, e4, e5, e6, endF, bodyB, courB, is_number_m, is_number_1, is_seen_ev, op2, hs, hq, hco, h3] <;> simp_all [courB]
    | [a, b], hs =>
      simp at hs
      by_cases e1 : w = [100, 111, 110, 101] <;> by_cases e2 : w = [118, 111, 105, 100] <;> by_cases e3 : w = [115, 105, 108, 101, 110, 116] <;> by_cases e4 : w = [99, 104, 97, 110, 103, 101] <;> by_cases e5 : w = [98, 97, 99, 107] <;> by_cases e6 : w = [100, 97, 119, 110] <;> simp [e1, e2, e3, e4, e5, e6, endF, bodyB, courB, is_number_m, is_number_1, is_seen_ev, op2, hs, hq, hco] <;> simp_all [courB]
    | [a, b, c], hs =>
      simp at hs
      by_cases e1 : w = [100, 111, 110, 101] <;> by_cases e2 : w = [118, 111, 105, 100] <;> by_cases e3 : w = [115, 105, 108, 101, 110, 116] <;> by_cases e4 : w = [99, 104, 97, 110, 103, 101] <;> by_cases e5 : w = [98, 97, 99, 107] <;> by_cases e6 : w = [100, 97, 119, 110] <;> simp [e1, e2, e3, e4, e5, e6, endF, bodyB, courB, is_number_m, is_number_1, is_seen_ev, op2, hs, hq, hco] <;> simp_all [courB]
    | [a, b, c, d], hs =>
      simp at hs
      by_cases e1 : w = [100, 111, 110, 101] <;> by_cases e2 : w = [118, 111, 105, 100] <;> by_cases e3 : w = [115, 105, 108, 101, 110, 116] <;> by_cases e4 : w = [99, 104, 97, 110, 103, 101] <;> by_cases e5 : w = [98, 97, 99, 107] <;> by_cases e6 : w = [100, 97, 119, 110] <;> simp [e1, e2, e3, e4, e5, e6, endF, bodyB, courB, is_number_m, is_number_1, is_seen_ev, op2, hs, hq, hco] <;> simp_all [courB]
    | [a, b, c, d, e], hs =>
      simp at hs
      by_cases e1 : w = [100, 111, 110, 101] <;> by_cases e2 : w = [118, 111, 105, 100] <;> by_cases e3 : w = [115, 105, 108, 101, 110, 116] <;> by_cases e4 : w = [99, 104, 97, 110, 103, 101] <;> by_cases e5 : w = [98, 97, 99, 107] <;> by_cases e6 : w = [100, 97, 119, 110] <;> simp [e1, e2, e3, e4, e5, e6, endF, bodyB, courB, is_number_m, is_number_1, is_seen_ev, op2, hs, hq, hco] <;> simp_all [courB]
    | a :: b :: c :: d :: e :: f :: r, hs =>
      have l2 : ¬ ((r.length : Int) + 1 + 1 + 1 + 1 + 1 + 1 + 1 = 2) := by omega
      have l3 : ¬ ((r.length : Int) + 1 + 1 + 1 + 1 + 1 + 1 + 1 = 3) := by omega
      have l4 : ¬ ((r.length : Int) + 1 + 1 + 1 + 1 + 1 + 1 + 1 = 4) := by omega
      simp at hs
      by_cases e1 : w = [100, 111, 110, 101] <;> by_cases e2 : w = [118, 111, 105, 100] <;> by_cases e3 : w = [115, 105, 108, 101, 110, 116] <;> by_cases e4 : w = [99, 104, 97, 110, 103, 101] <;> by_cases e5 : w = [98, 97, 99, 107] <;> by_cases e6 : w = [100, 97, 119, 110] <;> simp [e1, e2, e3, e4, e5, e6, endF, bodyB, courB, is_number_m, is_number_1, is_seen_ev, op2, l2, l3, l4, hs, hq, hco] <;> simp_all [courB]
end Ev.K55

namespace Ev.K55
open Ev
theorem is_mark_ev {m lo : Nat} {v : T} {st : Sto} (hg : Gd v) : evC tb (m + 4) 12 lo [v] st = .ok (.bl (nsB v (some 2))) st := by
  refine evC_iso' (d := d_is_mark) (st' := []) rfl rfl rfl (by simp [hg]) ?_ rfl
  simp [d_is_mark, startE, is_numbers_ev, hg, endF]
abbrev wAsk : List Nat := [97, 115, 107]
abbrev wSeen : List Nat := [115, 101, 101, 110]
abbrev wHeard : List Nat := [104, 101, 97, 114, 100]
abbrev wRow : List Nat := [114, 111, 119]
abbrev wTook : List Nat := [116, 111, 111, 107]
abbrev wAgree : List Nat := [97, 103, 114, 101, 101]
def desk4 (many : Int) (w : List Nat) (a b c : T) : Bool := pb many a && (nb b && ((decide (w = wSeen) && choB c) || (decide (w = wHeard) && nb c)))
def desk6 (many : Int) (w : List Nat) (a b c d e : T) : Bool := pb many a && (nb b && (decide (w = wAsk) && (choB c && (nb d && nsB e (some 2)))))
theorem desk4_ev {m lo : Nat} {many : Int} {w : List Nat} {a b c : T} {st : Sto} (hg : Gd (.tup [.str w, a, b, c])) : evC tb (m + 5) 13 lo [.int many, .tup [.str w, a, b, c]] st = .ok (.bl (desk4 many w a b c)) st := by
  refine evC_iso' (d := d_is_desks_letter) (st' := []) rfl rfl rfl (by simp only [gds_cons, gd_int, true_and, gds_nil, and_true]; exact hg) ?_ rfl
  have hs := hg
  simp at hs
  have ht := is_tuple_1 (m := m + 3) (lo := 0) (st := []) hg
  have hcc := is_choice_ev (m := m) (lo := 0) (st := []) hs.2.2
  simp only [d_is_desks_letter, startE]
  cases hp : numB a 0 (some (many - 1)) <;> cases hq : numB b 0 none <;> by_cases e1 : w = [97, 115, 107] <;> by_cases e2 : w = [115, 101, 101, 110] <;> by_cases e3 : w = [104, 101, 97, 114, 100] <;> simp [ht, hs, hp, hq, e1, e2, e3, endF, desk4, is_number_m, is_number_1, op2, hcc, is_mark_ev] <;> simp_all [endF, is_number_1, is_mark_ev]
theorem desk6_ev {m lo : Nat} {many : Int} {w : List Nat} {a b c d e : T} {st : Sto} (hg : Gd (.tup [.str w, a, b, c, d, e])) : evC tb (m + 5) 13 lo [.int many, .tup [.str w, a, b, c, d, e]] st = .ok (.bl (desk6 many w a b c d e)) st := by
  refine evC_iso' (d := d_is_desks_letter) (st' := []) rfl rfl rfl (by simp only [gds_cons, gd_int, true_and, gds_nil, and_true]; exact hg) ?_ rfl
  have hs := hg
  simp at hs
  have ht := is_tuple_1 (m := m + 3) (lo := 0) (st := []) hg
  have hcc := is_choice_ev (m := m) (lo := 0) (st := []) hs.2.2.1
  simp only [d_is_desks_letter, startE]
  cases hp : numB a 0 (some (many - 1)) <;> cases hq : numB b 0 none <;> by_cases e1 : w = [97, 115, 107] <;> by_cases e2 : w = [115, 101, 101, 110] <;> by_cases e3 : w = [104, 101, 97, 114, 100] <;> simp [ht, hs, hp, hq, e1, e2, e3, endF, desk6, is_number_m, is_number_1, op2, hcc, is_mark_ev] <;> simp_all [endF, is_number_1, is_mark_ev]
theorem agree_ev {m lo : Nat} {many : Int} {w : List Nat} {a b : T} {st : Sto} (hg : Gd (.tup [.str w, a, b])) : evC tb (m + 3) 14 lo [.int many, .tup [.str w, a, b]] st = .ok (.bl (decide (w = wAgree) && pb many a)) st := by
  refine evC_iso' (d := d_is_agreeing) (st' := []) rfl rfl rfl (by simp only [gds_cons, gd_int, true_and, gds_nil, and_true]; exact hg) ?_ rfl
  have hs := hg
  simp at hs
  have ht := is_tuple_m (m := m + 1) (lo := 0) (k := 3) (st := []) hg
  simp only [d_is_agreeing, startE]
  by_cases e1 : w = [97, 103, 114, 101, 101] <;> simp [ht, hs, e1, endF, tupB, is_number_m, op2] <;> simp_all [tupB]
def letB (many : Int) (v : T) : Bool := match v with
  | .tup [.str w, a, b] => decide (w = wAgree) && pb many a
  | .tup [.str w, a, b, c] => (decide (w = wRow) && (nb a && (bodyB many b && nb c))) || ((decide (w = wTook) && (pb many a && (nb b && nb c))) || desk4 many w a b c)
  | .tup [.str w, a, b, c, d, e] => desk6 many w a b c d e
  | _ => false
theorem inS_int3 (st : Sto) (n a b c : Int) : inS st (.int n) [.int a, .int b, .int c] = some (decide (n = a) || (decide (n = b) || decide (n = c))) := by
  show some ((a == n) || ((b == n) || ((c == n) || false))) = _
  have h : ∀ x : Int, (x == n) = decide (n = x) := fun x => by
    by_cases q : n = x
    · subst q; simp
    · rw [decide_eq_false q]
      exact beq_eq_false_iff_ne.mpr fun z => q z.symm
  rw [h, h, h, Bool.or_false]
def ltB (v : T) : Bool := match v with
  | .tup [.str _, _, _] => true
  | .tup [.str _, _, _, _] => true
  | .tup [.str _, _, _, _, _, _] => true
  | _ => false
def E1 : E := .or_ (.not_ (.call 2 (.cons (.var 1) .nil))) (.or_ (.cmp .notIn (.bi .len (.cons (.var 1) .nil)) (.tup (.cons (.cst (.int 3)) (.cons (.cst (.int 4)) (.cons (.cst (.int 6)) .nil))))) (.not_ (.isi .str (.ix (.var 1) (.cst (.int 0))))))
theorem lt_ev {m lo : Nat} {u v : T} {st : Sto} (hg : Gd v) : evE (evC tb (m + 1)) lo [some u, some v] E1 st = .ok (.bl (!ltB v)) st := by
  have e1 := is_tuple_1 (m := m) (lo := lo) (st := st) hg
  cases v with
  | tup ts =>
    have hs := ((gd_tup ts).mp hg).2
    match ts, hs with
    | [], hs => simp [E1, e1, isT, ltB, inS_int3]
    | x :: xs, hs =>
      rw [gds_cons] at hs
      have hx := isi_S (st := st) hs.1
      match xs, hs.2 with
      | [], _ => simp [E1, e1, isT, ltB, inS_int3]
      | [a], _ => simp [E1, e1, isT, ltB, inS_int3]
      | [a, b], _ => cases x <;> simp [E1, e1, isT, ltB, inS_int3, hx] <;> rfl
      | [a, b, c], _ => cases x <;> simp [E1, e1, isT, ltB, inS_int3, hx] <;> rfl
      | [a, b, c, d], _ => simp [E1, e1, isT, ltB, inS_int3]
      | [a, b, c, d, e], _ => cases x <;> simp [E1, e1, isT, ltB, inS_int3, hx] <;> rfl
      | a :: b :: c :: d :: e :: f :: r, _ =>
        have l3 : ¬ ((r.length : Int) + 1 + 1 + 1 + 1 + 1 + 1 + 1 = 3) := by omega
        have l4 : ¬ ((r.length : Int) + 1 + 1 + 1 + 1 + 1 + 1 + 1 = 4) := by omega
        have l6 : ¬ ((r.length : Int) + 1 + 1 + 1 + 1 + 1 + 1 + 1 = 6) := by omega
        simp [E1, e1, isT, ltB, inS_int3, l3, l4, l6]
  | loc _ => cases hg
  | fn _ => cases hg
  | _ => simp [E1, e1, isT, ltB]
theorem let_lt {many : Int} {v : T} (h : ltB v = false) : letB many v = false := by
  unfold letB; split <;> first | rfl | cases h
theorem lt_shape {v : T} (h : ltB v = true) : (∃ w a b, v = .tup [.str w, a, b]) ∨ (∃ w a b c, v = .tup [.str w, a, b, c]) ∨ ∃ w a b c d e, v = .tup [.str w, a, b, c, d, e] := by
  unfold ltB at h
  split at h
  · exact .inl ⟨_, _, _, rfl⟩
  · exact .inr (.inl ⟨_, _, _, _, rfl⟩)
  · exact .inr (.inr ⟨_, _, _, _, _, _, rfl⟩)
  · cases h
theorem is_letter_ev {m lo : Nat} {many : Int} {v : T} {st : Sto} (hg : Gd v) (hd : v.ldp ≤ 18) : evC tb (m + 8) 15 lo [.int many, v] st = .ok (.bl (letB many v)) st := by
  refine evC_iso' (d := d_is_letter) (st' := []) rfl rfl rfl (by simp [hg]) ?_ rfl
  have h0 := lt_ev (m := m + 6) (lo := 0) (u := .int many) (st := []) hg
  rw [show d_is_letter.body = .cons (.ifs E1 (.cons (.ret (.cst (.bl false))) .nil) .nil) (tlS d_is_letter.body) from rfl, show startE d_is_letter [.int many, v] = [some (.int many), some v] from rfl, g_ret h0 (fun _ => rfl)]
  cases hh : ltB v with
  | false => simp [let_lt hh, endF]
  | true =>
    simp only [Bool.not_true, Bool.false_eq_true, if_false, tlS, d_is_letter]
    rcases lt_shape hh with ⟨w, a, b, rfl⟩ | ⟨w, a, b, c, rfl⟩ | ⟨w, a, b, c, d, e, rfl⟩
    · have h1 := agree_ev (m := m + 4) (lo := 0) (many := many) (st := []) hg
      simp [h1, endF, letB]
    · have h1 := desk4_ev (m := m + 2) (lo := 0) (many := many) (st := []) hg
      have hs := hg
      simp at hs
      have hb : b.ldp ≤ 18 := by
        have : max 0 (max a.ldp (max b.ldp (max c.ldp 0))) + 1 ≤ 18 := hd
        omega
      have h2 := is_body_ev (m := m + 1) (lo := 0) (many := many) (st := []) hs.2.1 hb
      have h3 := is_numbers_ev (m := m + 4) (lo := 0) (k := 2) (v := .tup [b, c]) (st := []) (by simp [hs])
      by_cases e1 : w = [114, 111, 119] <;> by_cases e2 : w = [116, 111, 111, 107] <;> simp [h1, h2, h3, hs, e1, e2, endF, letB, is_number_m, is_number_1, op2, nsB, tupB] <;> simp_all [desk4]
    · have h1 := desk6_ev (m := m + 2) (lo := 0) (many := many) (st := []) hg
      by_cases e1 : w = [114, 111, 119] <;> by_cases e2 : w = [116, 111, 111, 107] <;> simp [h1, e1, e2, endF, letB] <;> simp_all [desk6]
end Ev.K55

namespace Ev.K55
open PySem Ev
theorem l_number_ev {m lo : Nat} {v : T} {a : Int} {mo : Option Int} {st : Sto} (hg : Gd v) : evC tb (m + 1) 27 lo [v, .int a, moT mo] st = .ok (.bl (numB v a mo)) st := by
  refine evC_iso' (d := d__law_is_number) (st' := []) rfl rfl rfl (by cases mo <;> simp [hg, moT]) ?_ rfl
  simp only [d__law_is_number, startE]
  cases v with
  | int i => cases mo <;> by_cases h : a ≤ i <;> simp [isiT, numB, moT, endF, h]
  | loc _ => cases hg
  | fn _ => cases hg
  | _ => simp [isiT, numB, endF]
theorem l_number_n {m lo : Nat} {v : T} {a : Int} {st : Sto} (hg : Gd v) : evC tb (m + 1) 27 lo [v, .int a, .non] st = .ok (.bl (numB v a none)) st := l_number_ev (mo := none) hg
theorem l_number_m {m lo : Nat} {v : T} {a b : Int} {st : Sto} (hg : Gd v) : evC tb (m + 1) 27 lo [v, .int a, .int b] st = .ok (.bl (numB v a (some b))) st := l_number_ev (mo := some b) hg
theorem eqS_klnil (st : Sto) (ts : List T) (h : ∃ us, ts = List.replicate us (.int 1)) (hl : ts.length ≤ 1000) : eqS st (.kl ts) (.kl []) = some ts.isEmpty := by
  obtain ⟨n, rfl⟩ := h
  have e : ∀ n, (List.replicate n (T.int 1)).mapM (toD st 19) = some (List.replicate n (.int 1)) := fun n => by
    induction n with
    | zero => rfl
    | succ n ih => rw [List.replicate_succ, List.mapM_cons, ih]; rfl
  unfold eqS
  rw [show (T.kl (List.replicate n (.int 1))).pure = false from rfl]
  simp only [Bool.false_and, Bool.false_eq_true, if_false]
  have e1 : toD st 20 (.kl (List.replicate n (.int 1))) = some (.list (List.replicate n (.int 1))) := by
    show ((List.replicate n (T.int 1)).mapM (toD st 19)).map PyData.list = _
    rw [e]; rfl
  rw [e1, show toD st 20 (.kl []) = some (.list []) from rfl]
  simp only []
  rw [if_pos (by show min _ 1 ≤ 64; omega)]
  cases n <;> rfl
theorem l_numbers_ev {m lo : Nat} {v : T} {mo : Option Int} {st : Sto} (hg : Gd v) : evC tb (m + 2) 28 lo [v, moT mo] st = .ok (.bl (nsB v mo)) st := by
  refine evC_iso' (d := d__law_are_numbers) (st' := []) rfl rfl rfl (by cases mo <;> simp [hg, moT]) ?_ rfl
  simp only [d__law_are_numbers, startE]
  cases v with
  | tup ts =>
    have hl : ts.length ≤ 1000 := ((gd_tup ts).mp hg).1
    have hs : Gds ts := ((gd_tup ts).mp hg).2
    have hrep : ∀ us : List T, us.map (fun _ => T.int 1) = List.replicate us.length (.int 1) := fun us => by
      induction us with
      | nil => rfl
      | cons u us ih => rw [List.map_cons, ih, List.length_cons, List.replicate_succ]
    have key := x_frzlc (cl := evC tb (m + 1)) (lo := 0) (env := [some (.tup ts), some (moT mo), none]) (st := []) (elt := .cst (.int 1)) (t := .not_ (.call 27 (.cons (.var 2) (.cons (.cst (.int 0)) (.cons (.cst .non) .nil))))) (e := .var 0) (j := 2) (own := [2]) (ts := ts) (f := fun x => !nb x) (g := fun _ => .int 1) rfl
      (fun x hx acc => by
        have hx' := gds_mem hs hx
        simp [wipeE, l_number_n, hx']) (fun x hx acc => by simp [wipeE]) hl (gds_bel _ (by
          rw [hrep]
          generalize (List.filter (fun x => !nb x) ts).length = n
          show Gds _
          induction n with
          | zero => rfl
          | succ n ih => rw [List.replicate_succ, gds_cons]; exact ⟨rfl, ih⟩))
    have hlf : ((ts.filter fun x => !nb x).map fun _ => T.int 1).length ≤ 1000 := by
      rw [List.length_map]
      exact Nat.le_trans (List.length_filter_le _ _) hl
    have he := eqS_klnil [] _ ⟨_, hrep (ts.filter fun x => !nb x)⟩ hlf
    have hem : ((ts.filter fun x => !nb x).map fun _ => T.int 1).isEmpty = ts.all nb := by
      rw [List.isEmpty_map]
      have h := filt (ts := ts) (f := nb)
      cases ha : ts.all nb with
      | true => rw [h.mpr ha]; rfl
      | false =>
        cases hc : ts.filter fun x => !nb x with
        | nil => rw [h.mp hc] at ha; cases ha
        | cons _ _ => rfl
    rw [hem] at he
    cases mo with
    | none =>
      simp only [moT] at key ⊢
      simp only [nsB, tupB]
      simp only [x_sscons, x_ret, x_and, x_isi, x_var, List.map_cons, List.map_nil, List.cons_append, List.nil_append, List.length_cons, List.length_nil, List.replicate_succ, List.replicate_zero, Nat.reduceAdd, Nat.reduceSub, List.getElem?_cons_zero, List.getElem?_cons_succ, Rs.bind, isi_T hg, isT_tup, optB_s, truth_bl, andK_t, x_or, x_cmp, x_cst, c_isN, T.isNon, orK_t, key, x_klst, x_nil, sz0, if_true, c_eq, he, Rs.atS, endF]
      simp
    | some k =>
      simp only [moT] at key ⊢
      by_cases hk : (ts.length : Int) = k
      · simp only [x_sscons, x_ret, x_and, x_isi, x_var, List.map_cons, List.map_nil, List.cons_append, List.nil_append, List.length_cons, List.length_nil, List.replicate_succ, List.replicate_zero, Nat.reduceAdd, Nat.reduceSub, List.getElem?_cons_zero, List.getElem?_cons_succ, Rs.bind, isi_T hg, isT_tup, optB_s, truth_bl, andK_t, x_or, x_cmp, x_cst, c_isN, T.isNon, orK_f, x_bi, x_cons, b_lenT, eqS_int, hk, decide_true, key, x_klst, x_nil, sz0, if_true, c_eq, he, Rs.atS, endF, nsB, tupB]
        simp
      · simp [isi_T hg, nsB, tupB, hk, endF]
  | loc _ => cases hg
  | fn _ => cases hg
  | _ => cases mo <;> simp [isi_T hg, isT, nsB, tupB, endF]
theorem l_numbers_n {m lo : Nat} {v : T} {st : Sto} (hg : Gd v) : evC tb (m + 2) 28 lo [v, .non] st = .ok (.bl (nsB v none)) st := l_numbers_ev (mo := none) hg
theorem l_numbers_m {m lo : Nat} {v : T} {k : Int} {st : Sto} (hg : Gd v) : evC tb (m + 2) 28 lo [v, .int k] st = .ok (.bl (nsB v (some k))) st := l_numbers_ev (mo := some k) hg
def stB (v : T) (n : Nat) (z : List Nat) : Bool := match v with
  | .tup (.str w :: xs) => decide (xs.length + 1 = n) && decide (w = z)
  | _ => false
theorem l_starts_ev {m lo : Nat} {v : T} {n : Nat} {z : List Nat} {st : Sto} (hg : Gd v) : evC tb (m + 1) 29 lo [v, .int ((n + 1 : Nat) : Int), .str z] st = .ok (.bl (stB v (n + 1) z)) st := by
  refine evC_iso' (d := d__law_starts) (st' := []) rfl rfl rfl (by simp [hg]) ?_ rfl
  simp only [d__law_starts, startE]
  cases v with
  | tup ts =>
    have hs : Gds ts := ((gd_tup ts).mp hg).2
    cases ts with
    | nil =>
      have h0 : ¬ ((0 : Int) = (n : Int) + 1) := by omega
      simp [isi_T hg, stB, endF, h0]
    | cons x xs =>
      have hx := isi_S (st := []) ((gds_cons _ _).mp hs).1
      by_cases hn : xs.length = n
      · have h1 : ((xs.length : Int) + 1 = (n : Int) + 1) := by omega
        cases x <;> simp [isi_T hg, stB, endF, h1, hn, hx, isSt] <;> simp_all [isSt]
      · have h1 : ¬ ((xs.length : Int) + 1 = (n : Int) + 1) := by omega
        have h2 : ¬ ((xs.length : Int) = (n : Int)) := by omega
        cases x <;> simp [isi_T hg, stB, endF, h1, h2, hn]
  | loc _ => cases hg
  | fn _ => cases hg
  | _ => simp [isi_T hg, isT, stB, endF]

theorem l_starts_1 {m lo : Nat} {v : T} {z : List Nat} {st : Sto} (hg : Gd v) : evC tb (m + 1) 29 lo [v, .int 1, .str z] st = .ok (.bl (stB v 1 z)) st := l_starts_ev (n := 0) hg
theorem l_starts_2 {m lo : Nat} {v : T} {z : List Nat} {st : Sto} (hg : Gd v) : evC tb (m + 1) 29 lo [v, .int 2, .str z] st = .ok (.bl (stB v 2 z)) st := l_starts_ev (n := 1) hg
theorem l_starts_3 {m lo : Nat} {v : T} {z : List Nat} {st : Sto} (hg : Gd v) : evC tb (m + 1) 29 lo [v, .int 3, .str z] st = .ok (.bl (stB v 3 z)) st := l_starts_ev (n := 2) hg
theorem l_starts_4 {m lo : Nat} {v : T} {z : List Nat} {st : Sto} (hg : Gd v) : evC tb (m + 1) 29 lo [v, .int 4, .str z] st = .ok (.bl (stB v 4 z)) st := l_starts_ev (n := 3) hg
theorem l_starts_5 {m lo : Nat} {v : T} {z : List Nat} {st : Sto} (hg : Gd v) : evC tb (m + 1) 29 lo [v, .int 5, .str z] st = .ok (.bl (stB v 5 z)) st := l_starts_ev (n := 4) hg
theorem l_starts_6 {m lo : Nat} {v : T} {z : List Nat} {st : Sto} (hg : Gd v) : evC tb (m + 1) 29 lo [v, .int 6, .str z] st = .ok (.bl (stB v 6 z)) st := l_starts_ev (n := 5) hg
theorem st_not {v : T} {n : Nat} {z : List Nat} (h : hdB v = false) : stB v n z = false := by
  unfold stB; split <;> first | rfl | cases h
theorem l_choice_ev {m lo : Nat} {v : T} {st : Sto} (hg : Gd v) : evC tb (m + 2) 30 lo [v] st = .ok (.bl (choB v)) st := by
  refine evC_iso' (d := d__law_is_choice) (st' := []) rfl rfl rfl (by simp [hg]) ?_ rfl
  simp only [d__law_is_choice, startE]
  cases hh : hdB v with
  | false => simp [l_starts_1, l_starts_2, l_starts_3, hg, st_not hh, cho_hd hh, endF]
  | true =>
    obtain ⟨w, xs, rfl⟩ := hd_shape hh
    have hs := (gds_cons _ xs).mp ((gd_tup (_ :: xs)).mp hg).2
    have s2 := fun z => l_starts_2 (m := m) (lo := 0) (st := []) (z := z) hg
    have s3 := fun z => l_starts_3 (m := m) (lo := 0) (st := []) (z := z) hg
    match xs, hs.2 with
    | [], hs =>
      by_cases e1 : w = [100, 111] <;> by_cases e2 : w = [99, 97, 108, 108] <;> by_cases e3 : w = [112, 97, 115, 115] <;> by_cases e4 : w = [99, 104, 97, 110, 103, 101] <;> by_cases e5 : w = [98, 97, 99, 107] <;> simp [e1, e2, e3, e4, e5, endF, choB, l_number_n, s2, s3, stB] <;> simp_all [choB, stB, l_number_n, endF]
    | [a], hs =>
      simp at hs
      by_cases e1 : w = [100, 111] <;> by_cases e2 : w = [99, 97, 108, 108] <;> by_cases e3 : w = [112, 97, 115, 115] <;> by_cases e4 : w = [99, 104, 97, 110, 103, 101] <;> by_cases e5 : w = [98, 97, 99, 107] <;> simp [e1, e2, e3, e4, e5, endF, choB, l_number_n, hs, s2, s3, stB] <;> simp_all [choB, stB, l_number_n, endF]
    | [a, b], hs =>
      simp at hs
      have t2 := isi_T (st := []) hs.2
      by_cases e1 : w = [100, 111] <;> by_cases e2 : w = [99, 97, 108, 108] <;> by_cases e3 : w = [112, 97, 115, 115] <;> by_cases e4 : w = [99, 104, 97, 110, 103, 101] <;> by_cases e5 : w = [98, 97, 99, 107] <;> simp [e1, e2, e3, e4, e5, endF, choB, l_number_n, hs, s2, s3, stB, t2] <;> simp_all [choB, stB, l_number_n, endF]
    | a :: b :: c :: r, hs =>
      have l2 : ¬ ((r.length : Int) + 1 + 1 + 1 + 1 = 2) := by omega
      have l3 : ¬ ((r.length : Int) + 1 + 1 + 1 + 1 = 3) := by omega
      simp at hs
      by_cases e1 : w = [100, 111] <;> by_cases e2 : w = [99, 97, 108, 108] <;> by_cases e3 : w = [112, 97, 115, 115] <;> by_cases e4 : w = [99, 104, 97, 110, 103, 101] <;> by_cases e5 : w = [98, 97, 99, 107] <;> simp [e1, e2, e3, e4, e5, endF, choB, l_number_n, l2, l3, hs, s2, s3, stB] <;> simp_all [choB, stB, l_number_n, endF]
end Ev.K55

namespace Ev.K55
open PySem Ev
def Esil2 (a : E) : E := .and_ (.call 29 (.cons a (.cons (.cst (.int 2)) (.cons (.cst (.str [112, 97, 115, 115])) .nil)))) (.call 27 (.cons (.ix a (.cst (.int 1))) (.cons (.cst (.int 0)) (.cons (.cst .non) .nil))))
theorem esil2_ev {m lo : Nat} {a : E} {v : T} {env : En} {st : Sto} (he : evE (evC tb (m + 1)) lo env a st = .ok v st) (hg : Gd v) : evE (evC tb (m + 1)) lo env (Esil2 a) st = .ok (.bl (silB v)) st := by
  have h1 := l_starts_2 (m := m) (lo := lo) (z := [112, 97, 115, 115]) (st := st) hg
  cases hh : hdB v with
  | false =>
    rw [st_not hh] at h1
    have : silB v = false := by unfold silB; split <;> first | rfl | cases hh
    simp [Esil2, he, h1, this]
  | true =>
    obtain ⟨w, xs, rfl⟩ := hd_shape hh
    have hs := (gds_cons _ xs).mp ((gd_tup (_ :: xs)).mp hg).2
    match xs, hs.2 with
    | [], hs => simp [Esil2, he, h1, stB, silB]
    | [a], hs =>
      simp at hs
      have hn := l_number_n (m := m) (lo := lo) (a := 0) (st := st) hs
      by_cases e1 : w = [112, 97, 115, 115] <;> simp [Esil2, he, h1, stB, silB, e1] <;> simp_all [stB]
    | a :: b :: r, hs => simp [Esil2, he, h1, stB, silB]
def rowS : Ss := .cons (.asg (.nm 2) (.ix (.var 1) (.cst (.int 3))))
    (.cons (.ifs (.call 29 (.cons (.var 2) (.cons (.cst (.int 4)) (.cons (.cst (.str [100, 111])) .nil)))) (.cons (.ret (.and_ (.call 30 (.cons (.sl (.var 2) .non (.som (.cst (.int 3)))) .nil)) (.call 28 (.cons (.ix (.var 2) (.cst (.int 3))) (.cons (.cst .non) .nil))))) .nil) .nil)
    (.cons (.ret (.and_ (.or_ (.call 29 (.cons (.var 2) (.cons (.cst (.int 2)) (.cons (.cst (.str [99, 97, 108, 108])) .nil)))) (.call 29 (.cons (.var 2) (.cons (.cst (.int 2)) (.cons (.cst (.str [112, 97, 115, 115])) .nil))))) (.call 27 (.cons (.ix (.var 2) (.cst (.int 1))) (.cons (.cst (.int 0)) (.cons (.cst .non) .nil)))))) .nil))
theorem rowS_ev {m : Nat} {u x a b v : T} {xs : List T} {st : Sto} (hg : Gd v) : evSs (evC tb (m + 2)) 0 rowS [some u, some (.tup (x :: a :: b :: v :: xs)), none] [] = .ok (.ret (.bl (seenB v))) [] := by
  have h2 := fun z => l_starts_2 (m := m + 1) (lo := 0) (z := z) (st := []) hg
  have h4 := fun z => l_starts_4 (m := m + 1) (lo := 0) (z := z) (st := []) hg
  cases hh : hdB v with
  | false => simp [rowS, h2, h4, st_not hh, seen_hd hh, asgT]
  | true =>
    obtain ⟨w, ys, rfl⟩ := hd_shape hh
    have hs := (gds_cons _ ys).mp ((gd_tup (_ :: ys)).mp hg).2
    match ys, hs.2 with
    | [], hs =>
      by_cases e1 : w = [100, 111] <;> by_cases e2 : w = [99, 97, 108, 108] <;> by_cases e3 : w = [112, 97, 115, 115] <;> simp [e1, e2, e3, endF, rowS, seenB, asgT, h2, h4, stB] <;> simp_all [choB, stB]
    | [a], hs =>
      simp at hs
      have hn := l_number_n (m := m + 1) (lo := 0) (a := 0) (st := []) hs
      by_cases e1 : w = [100, 111] <;> by_cases e2 : w = [99, 97, 108, 108] <;> by_cases e3 : w = [112, 97, 115, 115] <;> simp [e1, e2, e3, endF, rowS, seenB, asgT, hs, h2, h4, stB, hn] <;> simp_all [choB, stB]
    | [a, b], hs =>
      simp at hs
      by_cases e1 : w = [100, 111] <;> by_cases e2 : w = [99, 97, 108, 108] <;> by_cases e3 : w = [112, 97, 115, 115] <;> simp [e1, e2, e3, endF, rowS, seenB, asgT, hs, h2, h4, stB] <;> simp_all [choB, stB]
    | [a, b, c], hs =>
      simp at hs
      have hn := l_numbers_n (m := m) (lo := 0) (st := []) hs.2.2
      have hcc := l_choice_ev (m := m) (lo := 0) (v := .tup [.str w, a, b]) (st := []) (by simp [hs])
      by_cases e1 : w = [100, 111] <;> by_cases e2 : w = [99, 97, 108, 108] <;> by_cases e3 : w = [112, 97, 115, 115] <;> simp [e1, e2, e3, endF, rowS, seenB, asgT, hs, h2, h4, stB, hn, hcc] <;> simp_all [choB, stB]
    | a :: b :: c :: d :: r, hs =>
      have l2 : ¬ ((r.length : Int) + 1 + 1 + 1 + 1 + 1 = 2) := by omega
      have l4 : ¬ ((r.length : Int) + 1 + 1 + 1 + 1 + 1 = 4) := by omega
      simp at hs
      by_cases e1 : w = [100, 111] <;> by_cases e2 : w = [99, 97, 108, 108] <;> by_cases e3 : w = [112, 97, 115, 115] <;> simp [e1, e2, e3, endF, rowS, seenB, asgT, l2, l4, hs, h2, h4, stB] <;> simp_all [choB, stB]
def Edw2 (a : E) : E := .or_ (.not_ (.isi .str a)) (.cmp .notIn a (.tup (.cons (.cst (.str [100, 111, 110, 101])) (.cons (.cst (.str [118, 111, 105, 100])) .nil))))
theorem edw2_ev {cl : Nat → Nat → List T → Sto → Rs T} {lo : Nat} {env : En} {st : Sto} {a : E} {v : T} (he : evE cl lo env a st = .ok v st) (hg : Gd v) : evE cl lo env (Edw2 a) st = .ok (.bl (!dwB v)) st := dw_ev2 he hg
def bodyL : Ss := .cons (.ifs (.call 29 (.cons (.var 1) (.cons (.cst (.int 1)) (.cons (.cst (.str [100, 97, 119, 110])) .nil)))) (.cons (.ret (.cst (.bl true))) .nil) .nil)
  (.cons (.ifs (.call 29 (.cons (.var 1) (.cons (.cst (.int 2)) (.cons (.cst (.str [115, 105, 108, 101, 110, 116])) .nil)))) (.cons (.ret (Esil2 (.ix (.var 1) (.cst (.int 1))))) .nil) .nil)
  (.cons (.ifs (.or_ (.not_ (.isi .tuple (.var 1))) (.or_ (.cmp .lt (.bi .len (.cons (.var 1) .nil)) (.cst (.int 3))) (.or_ (.not_ (.call 27 (.cons (.ix (.var 1) (.cst (.int 1))) (.cons (.cst (.int 0)) (.cons (.bin .sub (.var 0) (.cst (.int 1))) .nil))))) (.not_ (.call 27 (.cons (.ix (.var 1) (.cst (.int 2))) (.cons (.cst (.int 0)) (.cons (.cst .non) .nil)))))))) (.cons (.ret (.cst (.bl false))) .nil) .nil)
  (.cons (.ifs (.call 29 (.cons (.var 1) (.cons (.cst (.int 3)) (.cons (.cst (.str [118, 111, 105, 100])) .nil)))) (.cons (.ret (.cst (.bl true))) .nil) .nil)
  (.cons (.ifs (.call 29 (.cons (.var 1) (.cons (.cst (.int 4)) (.cons (.cst (.str [100, 111, 110, 101])) .nil)))) rowS .nil)
  (.cons (.ifs (.or_ (.cmp .lt (.bi .len (.cons (.var 1) .nil)) (.cst (.int 5))) (Edw2 (.ix (.var 1) (.cst (.int 4))))) (.cons (.ret (.cst (.bl false))) .nil) .nil)
  (.cons (.ret (.or_ (.call 29 (.cons (.var 1) (.cons (.cst (.int 5)) (.cons (.cst (.str [99, 104, 97, 110, 103, 101])) .nil)))) (.and_ (.call 29 (.cons (.var 1) (.cons (.cst (.int 6)) (.cons (.cst (.str [98, 97, 99, 107])) .nil)))) (.and_ (.call 27 (.cons (.ix (.var 1) (.cst (.int 3))) (.cons (.cst (.int 0)) (.cons (.cst .non) .nil)))) (.call 28 (.cons (.ix (.var 1) (.cst (.int 5))) (.cons (.cst .non) .nil))))))) .nil))))))
theorem l_body_no {m : Nat} {many : Int} {v : T} (hg : Gd v) (hh : hdB v = false) : endF (evSs (evC tb (m + 4)) 0 bodyL [some (.int many), some v, none] []) = .ok (.bl false) [] := by
  have h1 := fun z => l_starts_1 (m := m + 3) (lo := 0) (z := z) (st := []) hg
  have h2 := fun z => l_starts_2 (m := m + 3) (lo := 0) (z := z) (st := []) hg
  have h3 := fun z => l_starts_3 (m := m + 3) (lo := 0) (z := z) (st := []) hg
  have h4 := fun z => l_starts_4 (m := m + 3) (lo := 0) (z := z) (st := []) hg
  have h5 := fun z => l_starts_5 (m := m + 3) (lo := 0) (z := z) (st := []) hg
  have h6 := fun z => l_starts_6 (m := m + 3) (lo := 0) (z := z) (st := []) hg
  simp only [st_not hh] at h1 h2 h3 h4 h5 h6
  have ht := isi_T (st := []) hg
  cases v with
  | tup ts =>
    have hs : Gds ts := ((gd_tup ts).mp hg).2
    match ts, hs with
    | [], hs => simp [bodyL, h1, h2, h3, h4, h5, h6, ht, endF]
    | [x], hs => simp [bodyL, h1, h2, h3, h4, h5, h6, ht, endF]
    | [x, a], hs => simp [bodyL, h1, h2, h3, h4, h5, h6, ht, endF]
    | [x, a, b], hs =>
      simp at hs
      cases hp : numB a 0 (some (many - 1)) <;> cases hq : numB b 0 none <;> simp [bodyL, h1, h2, h3, h4, h5, h6, ht, endF, hs, l_number_m, l_number_n, hp, hq, op2]
    | [x, a, b, c], hs =>
      simp at hs
      cases hp : numB a 0 (some (many - 1)) <;> cases hq : numB b 0 none <;> simp [bodyL, h1, h2, h3, h4, h5, h6, ht, endF, hs, l_number_m, l_number_n, hp, hq, op2]
    | x :: a :: b :: c :: d :: r, hs =>
      simp at hs
      have l3 : ¬ ((r.length : Int) + 1 + 1 + 1 + 1 + 1 < 3) := by omega
      have l5 : ¬ ((r.length : Int) + 1 + 1 + 1 + 1 + 1 < 5) := by omega
      have hd := edw2_ev (cl := evC tb (m + 4)) (lo := 0) (env := [some (.int many), some (.tup (x :: a :: b :: c :: d :: r)), none]) (st := []) (a := .ix (.var 1) (.cst (.int 4))) (v := d) (by simp) hs.2.2.2.2.1
      cases hp : numB a 0 (some (many - 1)) <;> cases hq : numB b 0 none <;> cases hw : dwB d <;> simp [bodyL, h1, h2, h3, h4, h5, h6, ht, endF, hs, l_number_m, l_number_n, hp, hq, op2, l3, l5, hd, hw]
  | loc _ => cases hg
  | fn _ => cases hg
  | _ => simp [bodyL, h1, h2, h3, h4, h5, h6, ht, isT, endF]
theorem l_body_ev {m lo : Nat} {many : Int} {v : T} {st : Sto} (hg : Gd v) : evC tb (m + 5) 31 lo [.int many, v] st = .ok (.bl (bodyB many v)) st := by
  refine evC_iso' (d := d__law_is_body) (st' := []) rfl rfl rfl (by simp [hg]) ?_ rfl
  rw [show d__law_is_body.body = bodyL from rfl, show startE d__law_is_body [.int many, v] = [some (.int many), some v, none] from rfl]
  cases hh : hdB v with
  | false => rw [l_body_no hg hh, body_hd hh]
  | true =>
    obtain ⟨w, xs, rfl⟩ := hd_shape hh
    have hs := (gds_cons _ xs).mp ((gd_tup (_ :: xs)).mp hg).2
    have h1 := fun z => l_starts_1 (m := m + 3) (lo := 0) (z := z) (st := []) hg
    have h2 := fun z => l_starts_2 (m := m + 3) (lo := 0) (z := z) (st := []) hg
    have h3 := fun z => l_starts_3 (m := m + 3) (lo := 0) (z := z) (st := []) hg
    have h4 := fun z => l_starts_4 (m := m + 3) (lo := 0) (z := z) (st := []) hg
    have h5 := fun z => l_starts_5 (m := m + 3) (lo := 0) (z := z) (st := []) hg
    have h6 := fun z => l_starts_6 (m := m + 3) (lo := 0) (z := z) (st := []) hg
    have ht := isi_T (st := []) hg
    match xs, hs.2 with
    | [], hs =>
      by_cases e1 : w = [100, 97, 119, 110] <;> simp [e1, endF, bodyL, bodyB, l_number_m, l_number_n, op2, h1, h2, h3, h4, h5, h6, ht, stB] <;> simp_all [bodyL, bodyB, stB, endF, l_number_m, l_number_n]
    | [a], hs =>
      simp at hs
      have hx := esil2_ev (m := m + 3) (lo := 0) (env := [some (.int many), some (.tup [.str w, a]), none]) (st := []) (a := .ix (.var 1) (.cst (.int 1))) (v := a) (by simp) hs
      by_cases e1 : w = [115, 105, 108, 101, 110, 116] <;> simp [e1, endF, bodyL, bodyB, l_number_m, l_number_n, op2, hs, h1, h2, h3, h4, h5, h6, ht, stB, hx] <;> simp_all [bodyL, bodyB, stB, endF, l_number_m, l_number_n]
    | [a, b], hs =>
      simp at hs
      cases hp : numB a 0 (some (many - 1)) <;> cases hq : numB b 0 none <;> by_cases e1 : w = [118, 111, 105, 100] <;> simp [e1, endF, bodyL, bodyB, l_number_m, l_number_n, op2, hs, h1, h2, h3, h4, h5, h6, ht, stB, hp, hq] <;> simp_all [bodyL, bodyB, stB, endF, l_number_m, l_number_n]
    | [a, b, c], hs =>
      simp at hs
      have hx := rowS_ev (m := m + 2) (u := .int many) (x := .str w) (a := a) (b := b) (xs := []) (st := []) hs.2.2
      cases hp : numB a 0 (some (many - 1)) <;> cases hq : numB b 0 none <;> by_cases e1 : w = [100, 111, 110, 101] <;> simp [e1, endF, bodyL, bodyB, l_number_m, l_number_n, op2, hs, h1, h2, h3, h4, h5, h6, ht, stB, hp, hq, hx] <;> simp_all [bodyL, bodyB, stB, endF, l_number_m, l_number_n]
    | [a, b, c, d], hs =>
      simp at hs
      have hx := edw2_ev (cl := evC tb (m + 4)) (lo := 0) (env := [some (.int many), some (.tup [.str w, a, b, c, d]), none]) (st := []) (a := .ix (.var 1) (.cst (.int 4))) (v := d) (by simp) hs.2.2.2
      cases hp : numB a 0 (some (many - 1)) <;> cases hq : numB b 0 none <;> cases hw : dwB d <;> by_cases e1 : w = [99, 104, 97, 110, 103, 101] <;> simp [e1, endF, bodyL, bodyB, l_number_m, l_number_n, op2, hs, h1, h2, h3, h4, h5, h6, ht, stB, hp, hq, hw, hx] <;> simp_all [bodyL, bodyB, stB, endF, l_number_m, l_number_n]
    | [a, b, c, d, e], hs =>
      simp at hs
      have hx := edw2_ev (cl := evC tb (m + 4)) (lo := 0) (env := [some (.int many), some (.tup [.str w, a, b, c, d, e]), none]) (st := []) (a := .ix (.var 1) (.cst (.int 4))) (v := d) (by simp) hs.2.2.2.1
      have hy := l_numbers_n (m := m + 2) (lo := 0) (st := []) hs.2.2.2.2
      cases hp : numB a 0 (some (many - 1)) <;> cases hq : numB b 0 none <;> cases hw : dwB d <;> by_cases e1 : w = [98, 97, 99, 107] <;> simp [e1, endF, bodyL, bodyB, l_number_m, l_number_n, op2, hs, h1, h2, h3, h4, h5, h6, ht, stB, hp, hq, hw, hx, hy] <;> simp_all [bodyL, bodyB, stB, endF, l_number_m, l_number_n]
    | a :: b :: c :: d :: e :: f :: r, hs =>
      have m3 : ¬ ((r.length : Int) + 1 + 1 + 1 + 1 + 1 + 1 + 1 < 3) := by omega
      have m5 : ¬ ((r.length : Int) + 1 + 1 + 1 + 1 + 1 + 1 + 1 < 5) := by omega
      simp at hs
      have hx := edw2_ev (cl := evC tb (m + 4)) (lo := 0) (env := [some (.int many), some (.tup (.str w :: a :: b :: c :: d :: e :: f :: r)), none]) (st := []) (a := .ix (.var 1) (.cst (.int 4))) (v := d) (by simp) hs.2.2.2.1
      cases hp : numB a 0 (some (many - 1)) <;> cases hq : numB b 0 none <;> cases hw : dwB d <;> simp [endF, bodyL, bodyB, l_number_m, l_number_n, op2, m3, m5, hs, h1, h2, h3, h4, h5, h6, ht, stB, hp, hq, hw, hx] <;> simp_all [bodyL, bodyB, stB, endF, l_number_m, l_number_n]
end Ev.K55

namespace Ev.K55
open PySem Ev
theorem let_hd {many : Int} {v : T} (h : hdB v = false) : letB many v = false := by
  unfold letB; split <;> first | rfl | cases h
theorem l_letter_ev {m lo : Nat} {many : Int} {v : T} {st : Sto} (hg : Gd v) : evC tb (m + 6) 32 lo [.int many, v] st = .ok (.bl (letB many v)) st := by
  refine evC_iso' (d := d__law_is_letter) (st' := []) rfl rfl rfl (by simp [hg]) ?_ rfl
  simp only [d__law_is_letter, startE]
  have h3 := fun z => l_starts_3 (m := m + 4) (lo := 0) (z := z) (st := []) hg
  have h4 := fun z => l_starts_4 (m := m + 4) (lo := 0) (z := z) (st := []) hg
  have h6 := fun z => l_starts_6 (m := m + 4) (lo := 0) (z := z) (st := []) hg
  have ht := isi_T (st := []) hg
  cases hh : hdB v with
  | false =>
    simp only [st_not hh] at h3 h4 h6
    rw [let_hd hh]
    cases v with
    | tup ts =>
      have hs : Gds ts := ((gd_tup ts).mp hg).2
      match ts, hs with
      | [], hs => simp [h3, h4, h6, ht, endF]
      | [x], hs => simp [h3, h4, h6, ht, endF]
      | [x, a], hs => simp [h3, h4, h6, ht, endF]
      | x :: a :: b :: r, hs =>
        simp at hs
        have l3 : ¬ ((r.length : Int) + 1 + 1 + 1 < 3) := by omega
        cases hp : numB a 0 (some (many - 1)) <;> cases hq : numB b 0 none <;> simp [h3, h4, h6, ht, endF, hs, l_number_m, l_number_n, hp, hq, op2, l3]
    | loc _ => cases hg
    | fn _ => cases hg
    | _ => simp [h3, h4, h6, ht, isT, endF]
  | true =>
    obtain ⟨w, xs, rfl⟩ := hd_shape hh
    have hs := (gds_cons _ xs).mp ((gd_tup (_ :: xs)).mp hg).2
    match xs, hs.2 with
    | [], hs =>
      simp [endF, letB, desk4, desk6, l_number_m, l_number_n, op2, h3, h4, h6, ht, stB] <;> simp_all [letB, desk4, desk6, stB, endF, l_number_m, l_number_n]
    | [a], hs =>
      simp at hs
      simp [endF, letB, desk4, desk6, l_number_m, l_number_n, op2, hs, h3, h4, h6, ht, stB] <;> simp_all [letB, desk4, desk6, stB, endF, l_number_m, l_number_n]
    | [a, b], hs =>
      simp at hs
      cases hp : numB a 0 (some (many - 1)) <;> cases hq : numB b 0 none <;> by_cases e1 : w = [97, 103, 114, 101, 101] <;> simp [e1, endF, letB, desk4, desk6, l_number_m, l_number_n, op2, hs, h3, h4, h6, ht, stB, hp, hq] <;> simp_all [letB, desk4, desk6, stB, endF, l_number_m, l_number_n]
    | [a, b, c], hs =>
      simp at hs
      have hb := l_body_ev (m := m) (lo := 0) (many := many) (st := []) hs.2.1
      have hc := l_choice_ev (m := m + 3) (lo := 0) (st := []) hs.2.2
      cases hp : numB a 0 (some (many - 1)) <;> cases hq : numB b 0 none <;> by_cases e1 : w = [114, 111, 119] <;> by_cases e2 : w = [116, 111, 111, 107] <;> by_cases e3 : w = [115, 101, 101, 110] <;> by_cases e4 : w = [104, 101, 97, 114, 100] <;> simp [e1, e2, e3, e4, endF, letB, desk4, desk6, l_number_m, l_number_n, op2, hs, h3, h4, h6, ht, stB, hp, hq, hb, hc] <;> simp_all [letB, desk4, desk6, stB, endF, l_number_m, l_number_n]
    | [a, b, c, d], hs =>
      simp at hs
      cases hp : numB a 0 (some (many - 1)) <;> cases hq : numB b 0 none <;> simp [endF, letB, desk4, desk6, l_number_m, l_number_n, op2, hs, h3, h4, h6, ht, stB, hp, hq] <;> simp_all [letB, desk4, desk6, stB, endF, l_number_m, l_number_n]
    | [a, b, c, d, e], hs =>
      simp at hs
      have hb := l_numbers_m (m := m + 3) (lo := 0) (k := 2) (st := []) hs.2.2.2.2
      have hc := l_choice_ev (m := m + 3) (lo := 0) (st := []) hs.2.2.1
      cases hp : numB a 0 (some (many - 1)) <;> cases hq : numB b 0 none <;> by_cases e1 : w = [97, 115, 107] <;> simp [e1, endF, letB, desk4, desk6, l_number_m, l_number_n, op2, hs, h3, h4, h6, ht, stB, hp, hq, hb, hc] <;> simp_all [letB, desk4, desk6, stB, endF, l_number_m, l_number_n]
    | a :: b :: c :: d :: e :: f :: r, hs =>
      have m3 : ¬ ((r.length : Int) + 1 + 1 + 1 + 1 + 1 + 1 + 1 < 3) := by omega
      simp at hs
      cases hp : numB a 0 (some (many - 1)) <;> cases hq : numB b 0 none <;> simp [endF, letB, desk4, desk6, l_number_m, l_number_n, op2, m3, hs, h3, h4, h6, ht, stB, hp, hq] <;> simp_all [letB, desk4, desk6, stB, endF, l_number_m, l_number_n]
/-- the two say the same -/
theorem same_letter {m m' lo lo' : Nat} {many : Int} {v : T} {st st' : Sto} (hg : Gd v) (hd : v.ldp ≤ 18) : evC tb (m + 8) 15 lo [.int many, v] st = .ok (.bl (letB many v)) st ∧ evC tb (m' + 6) 32 lo' [.int many, v] st' = .ok (.bl (letB many v)) st' :=
  ⟨is_letter_ev hg hd, l_letter_ev hg⟩
end Ev.K55

namespace Ev.K55
open PySem Ev
theorem tk {m lo l : Nat} {many : Int} {st : Sto} {o : O} (hl : lo ≤ l) (hlt : l < st.length) (ho : Bx o) (hm : 1 ≤ many) (hm2 : many ≤ 1000000) :
    ∃ (d : Int) (o' : O), 0 ≤ d ∧ d < many ∧ Bx o' ∧ evC tb (m + 1) 22 lo [.loc l, .int many] (st.set l o) = .ok (.int d) (st.set l o') := take_ev (kt := 22) rfl hl hlt ho hm hm2
theorem pk {m lo l : Nat} {ts : List T} {st : Sto} {o : O} (hl : lo ≤ l) (hlt : l < st.length) (ho : Bx o) (hn : ts ≠ []) (hm2 : ts.length ≤ 1000000) :
    ∃ (t : T) (o' : O), t ∈ ts ∧ Bx o' ∧ evC tb (m + 2) 23 lo [.loc l, .kl ts] (st.set l o) = .ok t (st.set l o') := pick_ev (kt := 22) (kp := 23) rfl rfl hl hlt ho hn hm2
def rowsT : List T := [.tup [.str [100, 111], .int 0, .non, .tup [.int 1, .int 0]], .tup [.str [100, 111], .int 2, .int 1, .tup []], .tup [.str [99, 97, 108, 108], .int 0], .tup [.str [112, 97, 115, 115], .int 1]]
def BodyP (many : Int) (t : T) : Prop := ∃ p n : Int, 0 ≤ p ∧ p < many ∧ 0 ≤ n ∧ n < 5 ∧ ((∃ r ∈ rowsT, t = .tup [.str [100, 111, 110, 101], .int p, .int n, r]) ∨ t = .tup [.str [118, 111, 105, 100], .int p, .int n] ∨
  (∃ j : Int, 0 ≤ j ∧ j < 3 ∧ t = .tup [.str [115, 105, 108, 101, 110, 116], .tup [.str [112, 97, 115, 115], .int j]]) ∨ t = .tup [.str [100, 97, 119, 110]] ∨
  (∃ z ∈ ([.str [100, 111, 110, 101], .str [118, 111, 105, 100]] : List T), t = .tup [.str [99, 104, 97, 110, 103, 101], .int p, .int n, .tup [.str [97, 110, 121]], z]) ∨
  t = .tup [.str [98, 97, 99, 107], .int p, .int n, .int 3, .str [100, 111, 110, 101], .tup [.int 0, .int 1]] ∨ t = .tup [.str [98, 97, 99, 107], .int p, .int n, .int 3, .str [118, 111, 105, 100], .tup []])
theorem set_self {st : Sto} {l : Nat} {o : O} (h : st[l]? = some o) : st.set l o = st := by
  obtain ⟨hl, e⟩ := List.getElem?_eq_some_iff.mp h
  rw [← e]; exact List.set_getElem_self hl
theorem some_body_ev {m lo l : Nat} {many : Int} {st : Sto} {o : O} (hl : lo ≤ l) (hlt : l < st.length) (ho : Bx o) (hm : 1 ≤ many) (hm2 : many ≤ 4) :
    ∃ (t : T) (o' : O), BodyP many t ∧ Bx o' ∧ evC tb (m + 4) 33 lo [.loc l, .int many] (st.set l o) = .ok t (st.set l o') := by
  obtain ⟨p, o1, p0, p1, b1, e1⟩ := tk (m := m + 2) (lo := lo) (many := many) hl hlt ho hm (by omega)
  obtain ⟨n, o2, n0, n1, b2, e2⟩ := tk (m := m + 2) (lo := lo) (many := 5) hl hlt b1 (by omega) (by omega)
  obtain ⟨r1, o3, hr1, b3, e3⟩ := pk (m := m + 1) (lo := lo) (ts := rowsT) hl hlt b2 (by simp [rowsT]) (by simp [rowsT])
  obtain ⟨r2, o4, hr2, b4, e4⟩ := pk (m := m + 1) (lo := lo) (ts := rowsT) hl hlt b3 (by simp [rowsT]) (by simp [rowsT])
  obtain ⟨j, o5, j0, j1, b5, e5⟩ := tk (m := m + 2) (lo := lo) (many := 3) hl hlt b4 (by omega) (by omega)
  obtain ⟨z, o6, hz, b6, e6⟩ := pk (m := m + 1) (lo := lo) (ts := [.str [100, 111, 110, 101], .str [118, 111, 105, 100]]) hl hlt b5 (by simp) (by simp)
  obtain ⟨t, o7, ht, b7, e7⟩ := pk (m := m + 1) (lo := lo) (ts := [.tup [.str [100, 111, 110, 101], .int p, .int n, r1], .tup [.str [100, 111, 110, 101], .int p, .int n, r2], .tup [.str [118, 111, 105, 100], .int p, .int n], .tup [.str [115, 105, 108, 101, 110, 116], .tup [.str [112, 97, 115, 115], .int j]], .tup [.str [100, 97, 119, 110]],
    .tup [.str [99, 104, 97, 110, 103, 101], .int p, .int n, .tup [.str [97, 110, 121]], z], .tup [.str [98, 97, 99, 107], .int p, .int n, .int 3, .str [100, 111, 110, 101], .tup [.int 0, .int 1]], .tup [.str [98, 97, 99, 107], .int p, .int n, .int 3, .str [118, 111, 105, 100], .tup []]]) hl hlt b6 (by simp) (by simp)
  refine ⟨t, o7, ⟨p, n, p0, p1, n0, n1, ?_⟩, b7, ?_⟩
  · simp only [List.mem_cons, List.not_mem_nil, or_false] at ht
    rcases ht with h | h | h | h | h | h | h | h
    · exact .inl ⟨r1, hr1, h⟩
    · exact .inl ⟨r2, hr2, h⟩
    · exact .inr (.inl h)
    · exact .inr (.inr (.inl ⟨j, j0, j1, h⟩))
    · exact .inr (.inr (.inr (.inl h)))
    · exact .inr (.inr (.inr (.inr (.inl ⟨z, hz, h⟩))))
    · exact .inr (.inr (.inr (.inr (.inr (.inl h)))))
    · exact .inr (.inr (.inr (.inr (.inr (.inr h)))))
  · rw [evC_full' (d := d__law_some_body) rfl rfl]
    simp only [rowsT] at e3 e4
    simp only [callD, d__law_some_body, startE]
    simp [e1, e2, e3, e4, e5, e6, e7, asgT, asgTs, op2, endF]
mutual
/-- rows of at most n -/
def T.gdn (n : Nat) : T → Bool
  | .non => true
  | .bl _ => true
  | .int _ => true
  | .str _ => true
  | .tup ts => Nat.ble ts.length n && T.gdns n ts
  | .kl ts => Nat.ble ts.length n && T.gdns n ts
  | .loc _ => false
  | .fn _ => false
def T.gdns (n : Nat) : List T → Bool
  | [] => true
  | t :: ts => T.gdn n t && T.gdns n ts
end
mutual
theorem gdn_gd {n : Nat} (hn : n ≤ 1000) : ∀ {t : T}, T.gdn n t = true → Gd t
  | .non, _ => rfl
  | .bl _, _ => rfl
  | .int _, _ => rfl
  | .str _, _ => rfl
  | .tup ts, h => by
    have h := Bool.and_eq_true_iff.mp (show (Nat.ble ts.length n && T.gdns n ts) = true from h)
    exact (gd_tup ts).mpr ⟨Nat.le_trans (Nat.le_of_ble_eq_true h.1) hn, gdns_gds hn h.2⟩
  | .kl ts, h => by
    have h := Bool.and_eq_true_iff.mp (show (Nat.ble ts.length n && T.gdns n ts) = true from h)
    exact (gd_kl ts).mpr ⟨Nat.le_trans (Nat.le_of_ble_eq_true h.1) hn, gdns_gds hn h.2⟩
  | .loc _, h => Bool.noConfusion h
  | .fn _, h => Bool.noConfusion h
theorem gdns_gds {n : Nat} (hn : n ≤ 1000) : ∀ {ts : List T}, T.gdns n ts = true → Gds ts
  | [], _ => rfl
  | t :: ts, h => by
    have h := Bool.and_eq_true_iff.mp (show (T.gdn n t && T.gdns n ts) = true from h)
    exact (gds_cons t ts).mpr ⟨gdn_gd hn h.1, gdns_gds hn h.2⟩
end
/-- a letter as the law makes it -/
def LetP (t : T) : Prop := (∃ w a r, t = .tup (.str w :: .int a :: r)) ∧ T.gdn 6 t = true ∧ t.ldp ≤ 5
theorem body_gd {many : Int} {t : T} (h : BodyP many t) : T.gdn 6 t = true ∧ t.ldp ≤ 3 := by
  obtain ⟨p, n, _, _, _, _, h⟩ := h
  rcases h with ⟨r, hr, rfl⟩ | rfl | ⟨j, _, _, rfl⟩ | rfl | ⟨z, hz, rfl⟩ | rfl | rfl
  · simp only [rowsT, List.mem_cons, List.not_mem_nil, or_false] at hr
    rcases hr with rfl | rfl | rfl | rfl <;> exact ⟨rfl, Nat.le_of_ble_eq_true rfl⟩
  · exact ⟨rfl, Nat.le_of_ble_eq_true rfl⟩
  · exact ⟨rfl, Nat.le_of_ble_eq_true rfl⟩
  · exact ⟨rfl, Nat.le_of_ble_eq_true rfl⟩
  · simp only [List.mem_cons, List.not_mem_nil, or_false] at hz
    rcases hz with rfl | rfl <;> exact ⟨rfl, Nat.le_of_ble_eq_true rfl⟩
  · exact ⟨rfl, Nat.le_of_ble_eq_true rfl⟩
  · exact ⟨rfl, Nat.le_of_ble_eq_true rfl⟩
def chsT : List T := [.tup [.str [100, 111], .int 0, .non], .tup [.str [100, 111], .int 1, .int 2], .tup [.str [99, 97, 108, 108], .int 1], .tup [.str [112, 97, 115, 115], .int 0], .tup [.str [99, 104, 97, 110, 103, 101], .tup [], .tup []], .tup [.str [98, 97, 99, 107], .int 2, .tup [.tup [.str [97, 103, 114, 101, 101], .int 0, .tup []]]]]
theorem chs_gd {c : T} (h : c ∈ chsT) : T.gdn 6 c = true ∧ c.ldp ≤ 4 := by
  simp only [chsT, List.mem_cons, List.not_mem_nil, or_false] at h
  rcases h with rfl | rfl | rfl | rfl | rfl | rfl <;> exact ⟨rfl, by decide⟩
theorem gdn_t {n : Nat} {ts : List T} (h : ts.length ≤ n) (hs : T.gdns n ts = true) : T.gdn n (.tup ts) = true := by
  show (Nat.ble ts.length n && T.gdns n ts) = true
  rw [hs, Bool.and_true]; exact Nat.ble_eq_true_of_le h
theorem gdns_c {n : Nat} {t : T} {ts : List T} (h : T.gdn n t = true) (hs : T.gdns n ts = true) : T.gdns n (t :: ts) = true := by
  show (T.gdn n t && T.gdns n ts) = true
  rw [h, hs]; rfl
theorem some_letter_ev {m lo l : Nat} {many : Int} {st : Sto} {o : O} (hl : lo ≤ l) (hlt : l < st.length) (ho : Bx o) (hm : 1 ≤ many) (hm2 : many ≤ 4) :
    ∃ (t : T) (o' : O), LetP t ∧ Bx o' ∧ evC tb (m + 5) 34 lo [.loc l, .int many] (st.set l o) = .ok t (st.set l o') := by
  obtain ⟨p, o1, p0, p1, b1, e1⟩ := tk (m := m + 3) (lo := lo) (many := many) hl hlt ho hm (by omega)
  obtain ⟨n, o2, n0, n1, b2, e2⟩ := tk (m := m + 3) (lo := lo) (many := 5) hl hlt b1 (by omega) (by omega)
  obtain ⟨r1, o3, hr1, b3, e3⟩ := pk (m := m + 2) (lo := lo) (ts := chsT) hl hlt b2 (by simp [chsT]) (by simp [chsT])
  obtain ⟨r2, o4, hr2, b4, e4⟩ := pk (m := m + 2) (lo := lo) (ts := chsT) hl hlt b3 (by simp [chsT]) (by simp [chsT])
  obtain ⟨y1, o5, hy1, b5, e5⟩ := some_body_ev (m := m) (lo := lo) (many := many) hl hlt b4 hm hm2
  obtain ⟨y2, o6, hy2, b6, e6⟩ := some_body_ev (m := m) (lo := lo) (many := many) hl hlt b5 hm hm2
  obtain ⟨t, o7, ht, b7, e7⟩ := pk (m := m + 2) (lo := lo) (ts := [.tup [.str [97, 115, 107], .int p, .int n, r1, .int 3, .tup [.int 2, .int 77]], .tup [.str [115, 101, 101, 110], .int p, .int n, r2], .tup [.str [104, 101, 97, 114, 100], .int p, .int 4, .int 100000000000000000], .tup [.str [97, 103, 114, 101, 101], .int p, .non],
    .tup [.str [114, 111, 119], .int n, y1, .int 5], .tup [.str [114, 111, 119], .int n, y2, .int 0], .tup [.str [116, 111, 111, 107], .int p, .int n, .int 9]]) hl hlt b6 (by simp) (by simp)
  have hpow : ∀ st : Sto, op2 .pow (.int 10) (.int 17) st = .ok (.int 100000000000000000) st := fun st => rfl
  have c1 := chs_gd hr1
  have c2 := chs_gd hr2
  have g1 := body_gd hy1
  have g2 := body_gd hy2
  refine ⟨t, o7, ?_, b7, ?_⟩
  · simp only [List.mem_cons, List.not_mem_nil, or_false] at ht
    rcases ht with rfl | rfl | rfl | rfl | rfl | rfl | rfl
    · refine ⟨⟨_, _, _, rfl⟩, gdn_t (Nat.le_of_ble_eq_true rfl) (gdns_c rfl (gdns_c rfl (gdns_c rfl (gdns_c c1.1 rfl)))), ?_⟩
      show max 0 (max 0 (max 0 (max r1.ldp _))) + 1 ≤ 5
      have : (T.ldps [.int 3, .tup [.int 2, .int 77]]) = 1 := rfl
      omega
    · refine ⟨⟨_, _, _, rfl⟩, gdn_t (Nat.le_of_ble_eq_true rfl) (gdns_c rfl (gdns_c rfl (gdns_c rfl (gdns_c c2.1 rfl)))), ?_⟩
      show max 0 (max 0 (max 0 (max r2.ldp 0))) + 1 ≤ 5
      omega
    · exact ⟨⟨_, _, _, rfl⟩, rfl, Nat.le_of_ble_eq_true rfl⟩
    · exact ⟨⟨_, _, _, rfl⟩, rfl, Nat.le_of_ble_eq_true rfl⟩
    · refine ⟨⟨_, _, _, rfl⟩, gdn_t (Nat.le_of_ble_eq_true rfl) (gdns_c rfl (gdns_c rfl (gdns_c g1.1 rfl))), ?_⟩
      show max 0 (max 0 (max y1.ldp 0)) + 1 ≤ 5
      omega
    · refine ⟨⟨_, _, _, rfl⟩, gdn_t (Nat.le_of_ble_eq_true rfl) (gdns_c rfl (gdns_c rfl (gdns_c g2.1 rfl))), ?_⟩
      show max 0 (max 0 (max y2.ldp 0)) + 1 ≤ 5
      omega
    · exact ⟨⟨_, _, _, rfl⟩, rfl, Nat.le_of_ble_eq_true rfl⟩
  · rw [evC_full' (d := d__law_some_letter) rfl rfl]
    simp only [chsT] at e3 e4
    simp only [callD, d__law_some_letter, startE]
    simp [e1, e2, e3, e4, e5, e6, e7, hpow, asgT, asgTs, op2, endF]
end Ev.K55

namespace Ev.K55
open PySem Ev
def oddT : List T := [.non, .bl true, .int (-1), .str [120], .tup [], .str [97, 115, 107], .int 99, .tup [.str [112, 97, 115, 115], .int (-1)], .kl [.int 1, .int 2], .tup [.str [100, 111], .int 0], .tup [.str [100, 97, 119, 110]]]
theorem odd_gd {c : T} (h : c ∈ oddT) : T.gdn 6 c = true ∧ c.ldp ≤ 1 := by
  simp only [oddT, List.mem_cons, List.not_mem_nil, or_false] at h
  rcases h with rfl | rfl | rfl | rfl | rfl | rfl | rfl | rfl | rfl | rfl | rfl <;> exact ⟨rfl, by decide⟩
theorem gdn_up {n : Nat} {t : T} : T.gdn n t = true → T.gdn (n + 1) t = true := by
  have key : ∀ d (t : T), t.ldp ≤ d → T.gdn n t = true → T.gdn (n + 1) t = true := by
    intro d
    induction d with
    | zero =>
      intro t hd h
      cases t with
      | tup ts => exact absurd (show T.ldps ts + 1 ≤ 0 from hd) (by omega)
      | kl ts => exact absurd (show T.ldps ts + 1 ≤ 0 from hd) (by omega)
      | _ => exact h
    | succ d ih =>
      intro t hd h
      have all : ∀ ts : List T, T.ldps ts ≤ d → T.gdns n ts = true → T.gdns (n + 1) ts = true := by
        intro ts
        induction ts with
        | nil => intro _ _; rfl
        | cons x xs ihx =>
          intro h1 h2
          have h1 : max x.ldp (T.ldps xs) ≤ d := h1
          have h2 := Bool.and_eq_true_iff.mp (show (T.gdn n x && T.gdns n xs) = true from h2)
          show (T.gdn (n + 1) x && T.gdns (n + 1) xs) = true
          rw [ih x (by omega) h2.1, ihx (by omega) h2.2]; rfl
      cases t with
      | tup ts =>
        have h := Bool.and_eq_true_iff.mp (show (Nat.ble ts.length n && T.gdns n ts) = true from h)
        have hd : T.ldps ts + 1 ≤ d + 1 := hd
        show (Nat.ble ts.length (n + 1) && T.gdns (n + 1) ts) = true
        rw [all ts (by omega) h.2, Nat.ble_eq_true_of_le (Nat.le_succ_of_le (Nat.le_of_ble_eq_true h.1))]; rfl
      | kl ts =>
        have h := Bool.and_eq_true_iff.mp (show (Nat.ble ts.length n && T.gdns n ts) = true from h)
        have hd : T.ldps ts + 1 ≤ d + 1 := hd
        show (Nat.ble ts.length (n + 1) && T.gdns (n + 1) ts) = true
        rw [all ts (by omega) h.2, Nat.ble_eq_true_of_le (Nat.le_succ_of_le (Nat.le_of_ble_eq_true h.1))]; rfl
      | _ => exact h
  exact key t.ldp t (Nat.le_refl _)
theorem gdns_iff {n : Nat} {ts : List T} : T.gdns n ts = true ↔ ∀ x ∈ ts, T.gdn n x = true := by
  induction ts with
  | nil => exact ⟨fun _ x h => (by cases h), fun _ => rfl⟩
  | cons t ts ih =>
    show (T.gdn n t && T.gdns n ts) = true ↔ _
    rw [Bool.and_eq_true, ih]
    simp
theorem ldps_le {d : Nat} {ts : List T} : T.ldps ts ≤ d ↔ ∀ x ∈ ts, x.ldp ≤ d := by
  induction ts with
  | nil => exact ⟨fun _ x h => (by cases h), fun _ => Nat.zero_le _⟩
  | cons t ts ih =>
    show max t.ldp (T.ldps ts) ≤ d ↔ _
    rw [Nat.max_le, ih]
    simp
/-- t == () -/
theorem eq_nil {ts : List T} {st : Sto} (hg : Gd (.tup ts)) (hd : (T.tup ts).ldp ≤ 18) : eqS st (.tup ts) (.tup []) = some ts.isEmpty := by
  unfold eqS
  split
  · rw [if_pos (by show min _ 1 ≤ 64; omega)]
    cases ts <;> rfl
  · have hs := ((gd_tup ts).mp hg).2
    have hd' : T.ldps ts + 1 ≤ 18 := hd
    obtain ⟨ys, e, l⟩ := mapM_some (f := toD st 19) (xs := ts) fun x hx => toD_some st 19 x (gds_mem hs hx) (by have := ldps_mem hx; omega)
    have e1 : toD st 20 (.tup ts) = some (.tuple ys) := by
      show (ts.mapM (toD st 19)).map PyData.tuple = _
      rw [e]; rfl
    rw [e1, show toD st 20 (.tup []) = some (.tuple []) from rfl]
    simp only []
    rw [if_pos (by show min _ 1 ≤ 64; omega)]
    cases ts with
    | nil => cases ys with
      | nil => rfl
      | cons _ _ => cases l
    | cons x xs => cases ys with
      | nil => cases l
      | cons _ _ => rfl
/-- a changed value: rows of at most 7, two deeper at most -/
def TurP (d : Nat) (t : T) : Prop := T.gdn 7 t = true ∧ t.ldp ≤ d + 2
theorem slh (ts : List T) (n : Nat) (st : Sto) : slT st (.tup ts) none (some (n : Int)) = .ok (.tup (ts.take n)) st := by
  show Rs.ok (T.tup (cut ts none (some (n : Int)))) st = _
  rw [cut_hi]
theorem sll (ts : List T) (n : Nat) (st : Sto) : slT st (.tup ts) (some (n : Int)) none = .ok (.tup (ts.drop n)) st := by
  show Rs.ok (T.tup (cut ts (some (n : Int)) none)) st = _
  rw [cut_lo]
theorem sll1 (ts : List T) (n : Nat) (st : Sto) : slT st (.tup ts) (some ((n : Int) + 1)) none = .ok (.tup (ts.drop (n + 1))) st := sll ts (n + 1) st
theorem add_tup (a b : List T) (st : Sto) (h : a.length + b.length ≤ 1000) : op2 .add (.tup a) (.tup b) st = .ok (.tup (a ++ b)) st := by
  show (if a.length + b.length ≤ sizeL then _ else _) = _
  rw [if_pos (by show _ ≤ 16777216; omega)]
theorem turned_ev : ∀ (d : Nat) {m lo l : Nat} {v : T} {st : Sto} {o : O}, lo ≤ l → l < st.length → Bx o → T.gdn 6 v = true → v.ldp ≤ d → d ≤ 10 →
    ∃ (t : T) (o' : O), TurP d t ∧ Bx o' ∧ evC tb (m + d + 3) 35 lo [.loc l, v] (st.set l o) = .ok t (st.set l o') := by
  intro d
  induction d with
  | zero =>
    intro m lo l v st o hl hlt ho hg hd _
    obtain ⟨t, o1, ht, b1, e1⟩ := pk (m := m) (lo := lo) (ts := oddT) hl hlt ho (by simp [oddT]) (by simp [oddT])
    have hgd : Gd v := gdn_gd (by omega) hg
    have hn : isT v = false := by
      cases v with
      | tup ts => exact absurd (show T.ldps ts + 1 ≤ 0 from hd) (by omega)
      | _ => rfl
    refine ⟨t, o1, ⟨gdn_up (odd_gd ht).1, by have := (odd_gd ht).2; omega⟩, b1, ?_⟩
    rw [evC_full' (d := d__law_turned) rfl rfl]
    simp only [oddT] at e1
    simp only [callD, d__law_turned, startE]
    simp [e1, isi_T hgd, hn, asgT, endF]
  | succ d ih =>
    intro m lo l v st o hl hlt ho hg hd hd10
    have hgd : Gd v := gdn_gd (by omega) hg
    obtain ⟨t, o1, ht, b1, e1⟩ := pk (m := m + (d + 1)) (lo := lo) (ts := oddT) hl hlt ho (by simp [oddT]) (by simp [oddT])
    have hodd := odd_gd ht
    simp only [oddT] at e1
    cases hv : isT v with
    | false =>
      refine ⟨t, o1, ⟨gdn_up hodd.1, by have := hodd.2; omega⟩, b1, ?_⟩
      rw [evC_full' (d := d__law_turned) rfl rfl]
      simp only [callD, d__law_turned, startE]
      simp [e1, isi_T hgd, hv, asgT, endF]
    | true =>
      cases v with
      | tup ts =>
        have hl6 : ts.length ≤ 6 := Nat.le_of_ble_eq_true (Bool.and_eq_true_iff.mp (show (Nat.ble ts.length 6 && T.gdns 6 ts) = true from hg)).1
        have hgs : ∀ x ∈ ts, T.gdn 6 x = true := gdns_iff.mp (Bool.and_eq_true_iff.mp (show (Nat.ble ts.length 6 && T.gdns 6 ts) = true from hg)).2
        have hds : ∀ x ∈ ts, x.ldp ≤ d := ldps_le.mp (by have : T.ldps ts + 1 ≤ d + 1 := hd; omega)
        have hen : ∀ st : Sto, eqS st (.tup ts) (.tup []) = some ts.isEmpty := fun st => eq_nil hgd (by omega)
        by_cases hts : ts = []
        · subst hts
          refine ⟨t, o1, ⟨gdn_up hodd.1, by have := hodd.2; omega⟩, b1, ?_⟩
          rw [evC_full' (d := d__law_turned) rfl rfl]
          simp only [callD, d__law_turned, startE]
          simp [e1, isi_T hgd, hen, asgT, endF]
        · have hne : ts.isEmpty = false := by cases ts <;> first | rfl | exact absurd rfl hts
          have hpos : 1 ≤ ts.length := List.length_pos_iff.mpr hts
          obtain ⟨d4, o2, _, _, b2, e2⟩ := tk (m := m + (d + 1) + 1) (lo := lo) (many := 4) hl hlt b1 (by omega) (by omega)
          by_cases h4 : d4 = 0
          · refine ⟨t, o2, ⟨gdn_up hodd.1, by have := hodd.2; omega⟩, b2, ?_⟩
            rw [evC_full' (d := d__law_turned) rfl rfl]
            simp only [callD, d__law_turned, startE]
            simp [e1, e2, h4, isi_T hgd, hen, hne, asgT, endF]
          · obtain ⟨sp, o3, s0, s1, b3, e3⟩ := tk (m := m + (d + 1) + 1) (lo := lo) (many := (ts.length : Int)) hl hlt b2 (by omega) (by omega)
            obtain ⟨w, o4, w0, w1, b4, e4⟩ := tk (m := m + (d + 1) + 1) (lo := lo) (many := 5) hl hlt b3 (by omega) (by omega)
            obtain ⟨j, rfl⟩ : ∃ j : Nat, sp = (j : Int) := ⟨sp.toNat, by omega⟩
            have hj : j < ts.length := by omega
            have ltk : (ts.take j).length = j := by rw [List.length_take]; omega
            by_cases hw0 : w = 0
            · refine ⟨.tup (ts.take j ++ ts.drop (j + 1)), o4, ⟨gdn_up (gdn_t (by rw [List.length_append, List.length_take, List.length_drop]; omega) (gdns_iff.mpr fun x hx => ?_)), ?_⟩, b4, ?_⟩
              · rcases List.mem_append.mp hx with hx | hx
                · exact hgs x (List.mem_of_mem_take hx)
                · exact hgs x (List.mem_of_mem_drop hx)
              · show T.ldps _ + 1 ≤ _
                have : T.ldps (ts.take j ++ ts.drop (j + 1)) ≤ d := ldps_le.mpr fun x hx => by
                  rcases List.mem_append.mp hx with hx | hx
                  · exact hds x (List.mem_of_mem_take hx)
                  · exact hds x (List.mem_of_mem_drop hx)
                omega
              · rw [evC_full' (d := d__law_turned) rfl rfl]
                simp only [callD, d__law_turned, startE]
                have ha := add_tup (ts.take j) (ts.drop (j + 1)) (st.set l o4) (by rw [List.length_take, List.length_drop]; omega)
                simp [e1, e2, e3, e4, h4, hw0, isi_T hgd, hen, hne, asgT, asgTs, slh, sll1, ha, endF]
            · by_cases hw1 : w = 1
              · refine ⟨.tup (ts.take j ++ [t] ++ ts.drop j), o4, ⟨gdn_t (by rw [List.length_append, List.length_append, List.length_take, List.length_drop, List.length_singleton]; omega) (gdns_iff.mpr fun x hx => ?_), ?_⟩, b4, ?_⟩
                · simp only [List.mem_append, List.mem_singleton] at hx
                  rcases hx with (hx | rfl) | hx
                  · exact gdn_up (hgs x (List.mem_of_mem_take hx))
                  · exact gdn_up hodd.1
                  · exact gdn_up (hgs x (List.mem_of_mem_drop hx))
                · show T.ldps _ + 1 ≤ _
                  have : T.ldps (ts.take j ++ [t] ++ ts.drop j) ≤ d + 1 := ldps_le.mpr fun x hx => by
                    simp only [List.mem_append, List.mem_singleton] at hx
                    rcases hx with (hx | rfl) | hx
                    · have := hds x (List.mem_of_mem_take hx); omega
                    · have := hodd.2; omega
                    · have := hds x (List.mem_of_mem_drop hx); omega
                  omega
                · rw [evC_full' (d := d__law_turned) rfl rfl]
                  simp only [callD, d__law_turned, startE]
                  have ha := add_tup (ts.take j) [t] (st.set l o4) (by rw [List.length_take, List.length_singleton]; omega)
                  have ha2 := add_tup (ts.take j ++ [t]) (ts.drop j) (st.set l o4) (by rw [List.length_append, List.length_take, List.length_drop, List.length_singleton]; omega)
                  simp only [List.append_assoc, List.cons_append, List.nil_append] at ha ha2 ⊢
                  simp [e1, e2, e3, e4, h4, hw0, hw1, isi_T hgd, hen, hne, asgT, asgTs, slh, sll, ha, ha2, endF]
              · obtain ⟨u, o5, hu, b5, e5⟩ := ih (m := m) (lo := lo) (v := ts[j]) hl hlt b4 (hgs _ (List.getElem_mem hj)) (hds _ (List.getElem_mem hj)) (by omega)
                refine ⟨.tup (ts.take j ++ [u] ++ ts.drop (j + 1)), o5, ⟨gdn_t (by rw [List.length_append, List.length_append, List.length_take, List.length_drop, List.length_singleton]; omega) (gdns_iff.mpr fun x hx => ?_), ?_⟩, b5, ?_⟩
                · simp only [List.mem_append, List.mem_singleton] at hx
                  rcases hx with (hx | rfl) | hx
                  · exact gdn_up (hgs x (List.mem_of_mem_take hx))
                  · exact hu.1
                  · exact gdn_up (hgs x (List.mem_of_mem_drop hx))
                · show T.ldps _ + 1 ≤ _
                  have : T.ldps (ts.take j ++ [u] ++ ts.drop (j + 1)) ≤ d + 2 := ldps_le.mpr fun x hx => by
                    simp only [List.mem_append, List.mem_singleton] at hx
                    rcases hx with (hx | rfl) | hx
                    · have := hds x (List.mem_of_mem_take hx); omega
                    · exact hu.2
                    · have := hds x (List.mem_of_mem_drop hx); omega
                  omega
                · rw [evC_full' (d := d__law_turned) rfl rfl]
                  simp only [callD, d__law_turned, startE]
                  have hix : atIx ts (j : Int) = some ts[j] := by rw [atIx_nat, List.getElem?_eq_getElem hj]
                  have ha := add_tup (ts.take j) [u] (st.set l o5) (by rw [List.length_take, List.length_singleton]; omega)
                  have ha2 := add_tup (ts.take j ++ [u]) (ts.drop (j + 1)) (st.set l o5) (by rw [List.length_append, List.length_take, List.length_drop, List.length_singleton]; omega)
                  have e5' : evC tb (m + (d + 1) + 2) 35 lo [.loc l, ts[j]] (st.set l o4) = .ok u (st.set l o5) := by
                    rw [show m + (d + 1) + 2 = m + d + 3 by omega]; exact e5
                  simp only [List.append_assoc, List.cons_append, List.nil_append] at ha ha2 ⊢
                  simp [e1, e2, e3, e4, e5', h4, hw0, hw1, isi_T hgd, hen, hne, asgT, asgTs, slh, sll1, ha, ha2, hix, endF]
      | _ => cases hv
end Ev.K55

namespace Ev.K55
open PySem Ev
mutual
/-- no lists, no objects -/
def T.pn : T → Bool
  | .non => true
  | .bl _ => true
  | .int _ => true
  | .str _ => true
  | .tup ts => T.pns ts
  | .kl _ => false
  | .loc _ => false
  | .fn _ => false
def T.pns : List T → Bool
  | [] => true
  | t :: ts => T.pn t && T.pns ts
end
theorem pns_mem {ts : List T} (h : T.pns ts = true) {x : T} (hx : x ∈ ts) : T.pn x = true := by
  induction ts with
  | nil => cases hx
  | cons t ts ih =>
    have h := Bool.and_eq_true_iff.mp (show (T.pn t && T.pns ts) = true from h)
    rcases List.mem_cons.mp hx with rfl | hx
    · exact h.1
    · exact ih h.2 hx
theorem same_ev : ∀ (n : Nat) {m lo : Nat} {v : T} {st : Sto}, Gd v → T.pn v = true → v.ldp ≤ n → evC tb (m + n + 1) 24 lo [v, v] st = .ok (.bl true) st := by
  intro n
  induction n with
  | zero =>
    intro m lo v st hg hp hd
    refine evC_iso' (d := d__law_same) (st' := []) rfl rfl rfl (by simp [hg]) ?_ rfl
    simp only [d__law_same, startE]
    cases v with
    | tup ts => exact absurd (show T.ldps ts + 1 ≤ 0 from hd) (by omega)
    | kl ts => cases hp
    | loc _ => cases hp
    | fn _ => cases hp
    | bl b => cases b <;> rfl
    | non => rfl
    | int i => simp [isiT, endF]
    | str s => simp [isiT, endF]
  | succ n ih =>
    intro m lo v st hg hp hd
    refine evC_iso' (d := d__law_same) (st' := []) rfl rfl rfl (by simp [hg]) ?_ rfl
    simp only [d__law_same, startE]
    cases v with
    | tup ts =>
      have hs : Gds ts := ((gd_tup ts).mp hg).2
      have hl : ts.length ≤ 1000 := ((gd_tup ts).mp hg).1
      have hds : ∀ x ∈ ts, x.ldp ≤ n := ldps_le.mp (by have : T.ldps ts + 1 ≤ n + 1 := hd; omega)
      have ht := isi_T (st := []) hg
      have hloop := x_for_inv (cl := evC tb (m + (n + 1))) (lo := 0) (env := [some (.tup ts), some (.tup ts), none, none]) (st := []) (st1 := []) (g := .tp [(.nm 2), (.nm 3)]) (it := .zip (.var 0) (.var 1))
        (b := .cons (.ifs (.not_ (.call 24 (.cons (.var 2) (.cons (.var 3) .nil)))) (.cons (.ret (.cst (.bl false))) .nil) .nil) .nil) (ts := (ts.zip ts).map fun p => .tup [p.1, p.2])
        (fun _ env st => (∃ a b, env = [some (.tup ts), some (.tup ts), a, b]) ∧ st = []) rfl (by rw [List.length_map, List.length_zip]; omega) ⟨⟨_, _, rfl⟩, rfl⟩
        (fun i x env st hx hI => by
          obtain ⟨⟨a, b, rfl⟩, rfl⟩ := hI
          rw [List.getElem?_map] at hx
          obtain ⟨p, hp1, rfl⟩ := Option.map_eq_some_iff.mp hx
          obtain ⟨y, z⟩ := p
          have hz : y = z ∧ y ∈ ts := by
            rw [List.getElem?_zip_eq_some] at hp1
            obtain ⟨h1, h2⟩ := hp1
            exact ⟨by rw [h1] at h2; exact Option.some.inj h2, List.mem_of_getElem? h1⟩
          obtain ⟨rfl, hy⟩ := hz
          have e := ih (m := m) (lo := 0) (v := y) (st := []) (gds_mem hs hy) (pns_mem hp hy) (hds y hy)
          rw [show m + n + 1 = m + (n + 1) by omega] at e
          exact ⟨[some (.tup ts), some (.tup ts), some y, some y], [some (.tup ts), some (.tup ts), some y, some y], [], rfl, by simp [e], ⟨_, _, rfl⟩, rfl⟩)
      obtain ⟨env', st', h1, ⟨a, b, rfl⟩, rfl⟩ := hloop
      have hne : cmp2 [] .ne (.int (ts.length : Int)) (.int (ts.length : Int)) = some false := by
        show Option.map (fun b => !b) (eqS [] (.int (ts.length : Int)) (.int (ts.length : Int))) = some false
        rw [eqS_int]; simp
      simp [ht, hne, h1, endF]
    | kl ts => cases hp
    | loc _ => cases hp
    | fn _ => cases hp
    | bl b => cases b <;> rfl
    | non => rfl
    | int i => simp [isiT, endF]
    | str s => simp [isiT, endF]
end Ev.K55

namespace Ev.K55
open PySem Ev
def pkRun (n : Nat) (t : T) : Rs T := endF (evSs (evC tb n) 0 d_packed.body (startE d_packed [t]) [])
def oct (t : T) : List Int := match pkRun 35 t with
  | .ok (.tup ts) _ => (intsOf ts).getD []
  | _ => []
def pkOk (t : T) : Bool := match pkRun 35 t, pkRun 36 t, pkRun 37 t with
  | .ok (.tup a) _, .ok (.tup b) _, .ok (.tup c) _ => (match intsOf a with
    | some ns => Nat.ble ns.length 1000 && (decide (intsOf b = some ns) && decide (intsOf c = some ns))
    | none => false)
  | _, _, _ => false
def bodies0 : List T := [.tup [.str [115, 105, 108, 101, 110, 116], .tup [.str [112, 97, 115, 115], .int 0]], .tup [.str [115, 105, 108, 101, 110, 116], .tup [.str [112, 97, 115, 115], .int 1]], .tup [.str [115, 105, 108, 101, 110, 116], .tup [.str [112, 97, 115, 115], .int 2]], .tup [.str [100, 97, 119, 110]]]
def bodiesOf (p n : Int) : List T := rowsT.map (fun r => .tup [.str [100, 111, 110, 101], .int p, .int n, r]) ++ [.tup [.str [118, 111, 105, 100], .int p, .int n],
  .tup [.str [99, 104, 97, 110, 103, 101], .int p, .int n, .tup [.str [97, 110, 121]], .str [100, 111, 110, 101]], .tup [.str [99, 104, 97, 110, 103, 101], .int p, .int n, .tup [.str [97, 110, 121]], .str [118, 111, 105, 100]],
  .tup [.str [98, 97, 99, 107], .int p, .int n, .int 3, .str [100, 111, 110, 101], .tup [.int 0, .int 1]], .tup [.str [98, 97, 99, 107], .int p, .int n, .int 3, .str [118, 111, 105, 100], .tup []]]
theorem pk_s : bodies0.all pkOk = true := by decide +kernel
theorem pk_0_0 : (bodiesOf 0 0).all pkOk = true := by decide +kernel
theorem pk_0_1 : (bodiesOf 0 1).all pkOk = true := by decide +kernel
theorem pk_0_2 : (bodiesOf 0 2).all pkOk = true := by decide +kernel
theorem pk_0_3 : (bodiesOf 0 3).all pkOk = true := by decide +kernel
theorem pk_0_4 : (bodiesOf 0 4).all pkOk = true := by decide +kernel
theorem pk_1_0 : (bodiesOf 1 0).all pkOk = true := by decide +kernel
theorem pk_1_1 : (bodiesOf 1 1).all pkOk = true := by decide +kernel
theorem pk_1_2 : (bodiesOf 1 2).all pkOk = true := by decide +kernel
theorem pk_1_3 : (bodiesOf 1 3).all pkOk = true := by decide +kernel
theorem pk_1_4 : (bodiesOf 1 4).all pkOk = true := by decide +kernel
theorem pk_2_0 : (bodiesOf 2 0).all pkOk = true := by decide +kernel
theorem pk_2_1 : (bodiesOf 2 1).all pkOk = true := by decide +kernel
theorem pk_2_2 : (bodiesOf 2 2).all pkOk = true := by decide +kernel
theorem pk_2_3 : (bodiesOf 2 3).all pkOk = true := by decide +kernel
theorem pk_2_4 : (bodiesOf 2 4).all pkOk = true := by decide +kernel
theorem pk_3_0 : (bodiesOf 3 0).all pkOk = true := by decide +kernel
theorem pk_3_1 : (bodiesOf 3 1).all pkOk = true := by decide +kernel
theorem pk_3_2 : (bodiesOf 3 2).all pkOk = true := by decide +kernel
theorem pk_3_3 : (bodiesOf 3 3).all pkOk = true := by decide +kernel
theorem pk_3_4 : (bodiesOf 3 4).all pkOk = true := by decide +kernel
theorem pk_all : (bodies0.all pkOk && ([0, 1, 2, 3] : List Int).all fun p => ([0, 1, 2, 3, 4] : List Int).all fun n => (bodiesOf p n).all pkOk) = true := by
  simp only [List.all_cons, List.all_nil, Bool.and_self, pk_s, pk_0_0, pk_0_1, pk_0_2, pk_0_3, pk_0_4, pk_1_0, pk_1_1, pk_1_2, pk_1_3, pk_1_4, pk_2_0, pk_2_1, pk_2_2, pk_2_3, pk_2_4, pk_3_0, pk_3_1, pk_3_2, pk_3_3, pk_3_4]
theorem pk_body {many : Int} {t : T} (hm : many ≤ 4) (h : BodyP many t) : pkOk t = true := by
  obtain ⟨p, n, p0, p1, n0, n1, h⟩ := h
  obtain ⟨k0, k1⟩ := Bool.and_eq_true_iff.mp pk_all
  have hp : p ∈ ([0, 1, 2, 3] : List Int) := by
    have : p = 0 ∨ p = 1 ∨ p = 2 ∨ p = 3 := by omega
    simpa using this
  have hn : n ∈ ([0, 1, 2, 3, 4] : List Int) := by
    have : n = 0 ∨ n = 1 ∨ n = 2 ∨ n = 3 ∨ n = 4 := by omega
    simpa using this
  have kA : ∀ t ∈ bodiesOf p n, pkOk t = true := List.all_eq_true.mp (List.all_eq_true.mp (List.all_eq_true.mp k1 p hp) n hn)
  have kB : ∀ t ∈ bodies0, pkOk t = true := List.all_eq_true.mp k0
  rcases h with ⟨r, hr, rfl⟩ | rfl | ⟨j, j0, j1, rfl⟩ | rfl | ⟨z, hz, rfl⟩ | rfl | rfl
  · exact kA _ (List.mem_append_left _ (List.mem_map.mpr ⟨r, hr, rfl⟩))
  · exact kA _ (List.mem_append_right _ (by simp))
  · have : j = 0 ∨ j = 1 ∨ j = 2 := by omega
    rcases this with rfl | rfl | rfl <;> exact kB _ (by simp [bodies0])
  · exact kB _ (by simp [bodies0])
  · simp only [List.mem_cons, List.not_mem_nil, or_false] at hz
    rcases hz with rfl | rfl <;> exact kA _ (List.mem_append_right _ (by simp))
  · exact kA _ (List.mem_append_right _ (by simp))
  · exact kA _ (List.mem_append_right _ (by simp))
theorem intsOf_eq : ∀ {ts : List T} {ns : List Int}, intsOf ts = some ns → ts = ns.map T.int
  | [], ns, h => by cases h; rfl
  | t :: ts, ns, h => by
    cases t with
    | int i =>
      have h : (intsOf ts).map (i :: ·) = some ns := h
      obtain ⟨ms, e, rfl⟩ := Option.map_eq_some_iff.mp h
      rw [intsOf_eq e]; rfl
    | _ => cases h
theorem pure_ints : ∀ ns : List Int, T.pures (ns.map T.int) = true
  | [] => rfl
  | n :: ns => by show (true && T.pures (ns.map T.int)) = true; rw [pure_ints ns]; rfl
def PkAt (n : Nat) (t : T) : Prop := ∀ lo st, evC tb n 5 lo [t] st = .ok (.tup ((oct t).map T.int)) st
theorem pk_at {t : T} (hg : Gd t) (h : pkOk t = true) : (oct t).length ≤ 1000 ∧ PkAt 36 t ∧ PkAt 37 t ∧ PkAt 38 t := by
  unfold pkOk at h
  split at h
  · next a s1 b s2 c s3 ea eb ec =>
    split at h
    · next ns en =>
      simp only [Bool.and_eq_true, decide_eq_true_iff] at h
      obtain ⟨hl, hb, hc⟩ := h
      have ho : oct t = ns := by unfold oct; rw [ea]; simp only [en]; rfl
      have key : ∀ n xs s, pkRun n t = .ok (.tup xs) s → intsOf xs = some ns → PkAt (n + 1) t := fun n xs s e ei lo st => by
        rw [ho, ← intsOf_eq ei]
        refine evC_iso' (d := d_packed) (st' := s) rfl rfl rfl (by simp [hg]) e ?_
        rw [intsOf_eq ei]; exact pure_ints ns
      refine ⟨by rw [ho]; exact Nat.le_of_ble_eq_true hl, key 35 a s1 ea en, key 36 b s2 eb hb, key 37 c s3 ec hc⟩
    · cases h
  · cases h
def foct (t o : Int) : Int := (t * 1000003 + o + 1).fmod 2305843009213693951
def Fo (a : Int) (ns : List Int) : Int := ns.foldl foct a
def So (a : Int) (bs : List T) : Int := bs.foldl (fun x t => Fo x (oct t)) a
@[simp] theorem x_cvar (cl : Nat → Nat → List T → Sto → Rs T) (lo : Nat) (env : En) (i : Nat) (es : Es) (st : Sto) : evE cl lo env (.cvar i es) st = (match env[i]? with
    | some (some (.fn k)) => (match evEs cl lo env es st with
      | .ok ts st => (match cl k lo ts st with | .ok t st => .ok t st | _ => .no)
      | _ => .no)
    | _ => .no) := rfl
theorem take_succ {α : Type} {xs : List α} {i : Nat} {x : α} (h : xs[i]? = some x) : xs.take (i + 1) = xs.take i ++ [x] := by
  rw [List.take_add_one, h]; rfl
theorem fo_step (a : Int) (ns : List Int) (x : Int) : Fo a (ns ++ [x]) = foct (Fo a ns) x := by
  unfold Fo; rw [List.foldl_append]; rfl
theorem so_step (a : Int) (bs : List T) (t : T) : So a (bs ++ [t]) = Fo (So a bs) (oct t) := by
  unfold So; rw [List.foldl_append]; rfl
theorem chained_ev {n lo : Nat} {a : Int} {t : T} {st : Sto} (hg : Gd t) (h : PkAt n t) (hl : (oct t).length ≤ 1000) : evC tb (n + 1) 18 lo [.int a, t] st = .ok (.int (Fo a (oct t))) st := by
  refine evC_iso' (d := d_chained) (st' := []) rfl rfl rfl (by simp [hg]) ?_ rfl
  have hloop := x_for_inv (cl := evC tb n) (lo := 0) (env := [some (.int a), some t, none]) (st := []) (st1 := []) (g := .nm 2) (it := .seq (.call 5 (.cons (.var 1) .nil)))
    (b := .cons (.asg (.nm 0) (.bin .mod (.bin .add (.bin .add (.bin .mul (.var 0) (.cst (.int 1000003))) (.var 2)) (.cst (.int 1))) (.cst (.int 2305843009213693951)))) .nil) (ts := (oct t).map T.int)
    (fun i env st => (∃ b, env = [some (.int (Fo a ((oct t).take i))), some t, b]) ∧ st = []) (by simp [h 0 []]) (by rw [List.length_map]; omega) ⟨⟨_, rfl⟩, rfl⟩
    (fun i x env st hx hI => by
      obtain ⟨⟨b, rfl⟩, rfl⟩ := hI
      rw [List.getElem?_map] at hx
      obtain ⟨o, ho, rfl⟩ := Option.map_eq_some_iff.mp hx
      refine ⟨_, [some (.int (foct (Fo a ((oct t).take i)) o)), some t, some (.int o)], [], rfl, ?_, ⟨_, by rw [take_succ ho, fo_step]⟩, rfl⟩
      simp [asgT, foct, o_mulr _ _ _ (show small64 1000003 = true by decide), o_mod _ _ _ (show (2305843009213693951 : Int) ≠ 0 by decide)])
  obtain ⟨env', st', h1, ⟨b, rfl⟩, rfl⟩ := hloop
  rw [List.length_map, List.take_length] at h1
  simp only [d_chained, startE]
  simp [h1, endF]
theorem sum_of_ev {n lo : Nat} {bs : List T} {st : Sto} (hg : Gd (.tup bs)) (h : ∀ t ∈ bs, PkAt n t ∧ (oct t).length ≤ 1000) : evC tb (n + 2) 19 lo [.tup bs] st = .ok (.int (So 0 bs)) st := by
  refine evC_iso' (d := d_sum_of) (st' := []) rfl rfl rfl (by rw [gds_cons]; exact ⟨hg, rfl⟩) ?_ rfl
  have hs : Gds bs := ((gd_tup bs).mp hg).2
  have hl : bs.length ≤ 1000 := ((gd_tup bs).mp hg).1
  have hloop := x_for_inv (cl := evC tb (n + 1)) (lo := 0) (env := [some (.tup bs), some (.int 0), none]) (st := []) (st1 := []) (g := .nm 2) (it := .seq (.var 0))
    (b := .cons (.asg (.nm 1) (.call 18 (.cons (.var 1) (.cons (.var 2) .nil)))) .nil) (ts := bs)
    (fun i env st => (∃ b, env = [some (.tup bs), some (.int (So 0 (bs.take i))), b]) ∧ st = []) rfl (by omega) ⟨⟨_, rfl⟩, rfl⟩
    (fun i x env st hx hI => by
      obtain ⟨⟨b, rfl⟩, rfl⟩ := hI
      have hm := List.mem_of_getElem? hx
      have e := chained_ev (lo := 0) (a := So 0 (bs.take i)) (st := []) (gds_mem hs hm) (h x hm).1 (h x hm).2
      refine ⟨_, [some (.tup bs), some (.int (Fo (So 0 (bs.take i)) (oct x))), some x], [], rfl, ?_, ⟨_, by rw [take_succ hx, so_step]⟩, rfl⟩
      simp [e, asgT])
  obtain ⟨env', st', h1, ⟨b, rfl⟩, rfl⟩ := hloop
  rw [List.take_length] at h1
  simp only [d_sum_of, startE]
  simp [h1, asgT, endF]
theorem mark_of_ev {n lo : Nat} {bs : List T} {st : Sto} (hg : Gd (.tup bs)) (h : ∀ t ∈ bs, PkAt n t ∧ (oct t).length ≤ 1000) : evC tb (n + 3) 20 lo [.tup bs] st = .ok (.tup [.int bs.length, .int (So 0 bs)]) st := by
  refine evC_iso' (d := d_mark_of) (st' := []) rfl rfl rfl (by rw [gds_cons]; exact ⟨hg, rfl⟩) ?_ rfl
  have e := sum_of_ev (lo := 0) (st := []) hg h
  simp only [d_mark_of, startE]
  simp [e, endF]
theorem l_chain_ev {n lo : Nat} {bs : List T} {st : Sto} (hg : Gd (.tup bs)) (h : ∀ t ∈ bs, PkAt n t ∧ (oct t).length ≤ 1000) : evC tb (n + 1) 25 lo [.tup bs, .fn 5] st = .ok (.int (So 0 bs)) st := by
  have hs : Gds bs := ((gd_tup bs).mp hg).2
  have hl : bs.length ≤ 1000 := ((gd_tup bs).mp hg).1
  rw [evC_full' (d := d__law_chain) rfl rfl]
  have hb : T.bels 0 [T.tup bs, T.fn 5] = true := by
    show (T.bel 0 (.tup bs) && (true && true)) = true
    rw [show T.bel 0 (.tup bs) = true from gd_bel 0 hg]; rfl
  have inner : ∀ (a : Int) (x : T) (o : Option T), Gd x → PkAt n x → (oct x).length ≤ 1000 → ∃ o', evSs (evC tb n) 0 (.cons (.for_ (.nm 4) (.seq (.cvar 1 (.cons (.var 3) .nil))) (.cons (.asg (.nm 2) (.bin .mod (.bi .int (.cons (.bin .add (.bin .add (.bin .mul (.var 2) (.cst (.int 1000003))) (.var 4)) (.cst (.int 1))) .nil)) (.cst (.int 2305843009213693951)))) .nil)) .nil)
      [some (.tup bs), some (.fn 5), some (.int a), some x, o] [] = .ok (.nx [some (.tup bs), some (.fn 5), some (.int (Fo a (oct x))), some x, o']) [] := fun a x o hx hp hlx => by
    have hloop := x_for_inv (cl := evC tb n) (lo := 0) (env := [some (.tup bs), some (.fn 5), some (.int a), some x, o]) (st := []) (st1 := []) (g := .nm 4) (it := .seq (.cvar 1 (.cons (.var 3) .nil)))
      (b := .cons (.asg (.nm 2) (.bin .mod (.bi .int (.cons (.bin .add (.bin .add (.bin .mul (.var 2) (.cst (.int 1000003))) (.var 4)) (.cst (.int 1))) .nil)) (.cst (.int 2305843009213693951)))) .nil) (ts := (oct x).map T.int)
      (fun i env st => (∃ b, env = [some (.tup bs), some (.fn 5), some (.int (Fo a ((oct x).take i))), some x, b]) ∧ st = []) (by simp [hp 0 []]) (by rw [List.length_map]; omega) ⟨⟨_, rfl⟩, rfl⟩
      (fun i y env st hy hI => by
        obtain ⟨⟨b, rfl⟩, rfl⟩ := hI
        rw [List.getElem?_map] at hy
        obtain ⟨v, hv, rfl⟩ := Option.map_eq_some_iff.mp hy
        refine ⟨_, [some (.tup bs), some (.fn 5), some (.int (foct (Fo a ((oct x).take i)) v)), some x, some (.int v)], [], rfl, ?_, ⟨_, by rw [take_succ hv, fo_step]⟩, rfl⟩
        simp [asgT, foct, o_mulr _ _ _ (show small64 1000003 = true by decide), o_mod _ _ _ (show (2305843009213693951 : Int) ≠ 0 by decide)])
    obtain ⟨env', st', h1, ⟨b, rfl⟩, rfl⟩ := hloop
    rw [List.length_map, List.take_length] at h1
    exact ⟨b, by rw [x_sscons, h1]; rfl⟩
  have hloop := x_for_inv (cl := evC tb n) (lo := 0) (env := [some (.tup bs), some (.fn 5), some (.int 0), none, none]) (st := []) (st1 := []) (g := .nm 3) (it := .seq (.var 0))
    (b := .cons (.for_ (.nm 4) (.seq (.cvar 1 (.cons (.var 3) .nil))) (.cons (.asg (.nm 2) (.bin .mod (.bi .int (.cons (.bin .add (.bin .add (.bin .mul (.var 2) (.cst (.int 1000003))) (.var 4)) (.cst (.int 1))) .nil)) (.cst (.int 2305843009213693951)))) .nil)) .nil) (ts := bs)
    (fun i env st => (∃ b c, env = [some (.tup bs), some (.fn 5), some (.int (So 0 (bs.take i))), b, c]) ∧ st = []) rfl (by omega) ⟨⟨_, _, rfl⟩, rfl⟩
    (fun i x env st hx hI => by
      obtain ⟨⟨b, c, rfl⟩, rfl⟩ := hI
      have hm := List.mem_of_getElem? hx
      obtain ⟨o', e⟩ := inner (So 0 (bs.take i)) x c (gds_mem hs hm) (h x hm).1 (h x hm).2
      exact ⟨_, _, [], rfl, e, ⟨_, _, by rw [take_succ hx, so_step]⟩, rfl⟩)
  obtain ⟨env', st', h1, ⟨b, c, rfl⟩, rfl⟩ := hloop
  rw [List.take_length] at h1
  have run : endF (evSs (evC tb n) 0 d__law_chain.body (startE d__law_chain [.tup bs, .fn 5]) []) = .ok (.int (So 0 bs)) [] := by
    simp only [d__law_chain, startE]
    simp [h1, asgT, endF]
  unfold callD
  rw [show d__law_chain.mode = .iso from rfl]
  simp only [hb, if_true, run, sealF, T.pure]
end Ev.K55

namespace Ev.K55
open PySem Ev
theorem whose_ev {n lo : Nat} {w : List Nat} {a : Int} {r : List T} {st : Sto} (hg : Gd (.tup (.str w :: .int a :: r))) : evC tb (n + 1) 16 lo [.tup (.str w :: .int a :: r)] st = .ok (.int (if w = [114, 111, 119] ∨ w = [116, 111, 111, 107] then -1 else a)) st := by
  refine evC_iso' (d := d_whose_letter) (st' := []) rfl rfl rfl (by rw [gds_cons]; exact ⟨hg, rfl⟩) ?_ rfl
  simp only [d_whose_letter, startE]
  by_cases e1 : w = [114, 111, 119] <;> by_cases e2 : w = [116, 111, 111, 107] <;> simp [e1, e2, endF]
/-- the law's own answer for it -/
theorem whose_l {cl : Nat → Nat → List T → Sto → Rs T} {lo : Nat} {env : En} {w : List Nat} {a : Int} {r : List T} {st : Sto} (he : env[5]? = some (some (.tup (.str w :: .int a :: r)))) :
    evE cl lo env (.ife (.cmp .inn (.ix (.var 5) (.cst (.int 0))) (.tup (.cons (.cst (.str [114, 111, 119])) (.cons (.cst (.str [116, 111, 111, 107])) .nil)))) (.bin .sub (.cst (.int 0)) (.cst (.int 1))) (.ix (.var 5) (.cst (.int 1)))) st = .ok (.int (if w = [114, 111, 119] ∨ w = [116, 111, 111, 107] then -1 else a)) st := by
  by_cases e1 : w = [114, 111, 119] <;> by_cases e2 : w = [116, 111, 111, 107] <;> simp [he, e1, e2]
/-- what is asked of a body, both ways -/
def Eown : E := .cmp .inn (.ix (.var 8) (.cst (.int 0))) (.tup (.cons (.cst (.str [100, 111, 110, 101])) (.cons (.cst (.str [118, 111, 105, 100])) (.cons (.cst (.str [99, 104, 97, 110, 103, 101])) (.cons (.cst (.str [98, 97, 99, 107])) .nil)))))
def Echg : E := .or_ (.call 26 (.cons (.var 8) .nil)) (.and_ (.cmp .inn (.ix (.var 8) (.cst (.int 0))) (.tup (.cons (.cst (.str [99, 104, 97, 110, 103, 101])) (.cons (.cst (.str [98, 97, 99, 107])) .nil)))) (.cmp .eq (.ix (.var 8) (.cst (.int 4))) (.cst (.str [100, 111, 110, 101]))))
def BodyFacts (t : T) : Prop := ∃ (own chg : Bool) (asked : T), T.pn asked = true ∧ Gd asked ∧ asked.ldp ≤ 1 ∧
    (∀ (n lo : Nat) (st : Sto), evC tb (n + 1) 10 lo [t] st = .ok asked st) ∧ (∀ (n lo : Nat) (st : Sto), evC tb (n + 1) 11 lo [t] st = .ok (.bl chg) st) ∧
    (∀ (cl : Nat → Nat → List T → Sto → Rs T) (lo : Nat) (env : En) (st : Sto), env[8]? = some (some t) → evE cl lo env Eown st = .ok (.bl own) st) ∧
    (∀ (n lo : Nat) (env : En) (st : Sto), env[8]? = some (some t) → evE (evC tb (n + 1)) lo env Echg st = .ok (.bl chg) st) ∧
    (∀ (cl : Nat → Nat → List T → Sto → Rs T) (lo : Nat) (env : En) (st : Sto), env[8]? = some (some t) → env[9]? = some (some (.bl own)) → evE cl lo env (.ife (.var 9) (.sl (.var 8) (.som (.cst (.int 1))) (.som (.cst (.int 3)))) (.cst .non)) st = .ok asked st)
theorem body_facts {many : Int} {t : T} (h : BodyP many t) : BodyFacts t := by
  have hgd : Gd t := gdn_gd (by omega) (body_gd h).1
  obtain ⟨p, q, _, _, _, _, h⟩ := h
  have iso10 : ∀ {r : T}, r.pure = true → (∀ n, endF (evSs (evC tb n) 0 d_asked_by.body (startE d_asked_by [t]) []) = .ok r []) → ∀ (n lo : Nat) (st : Sto), evC tb (n + 1) 10 lo [t] st = .ok r st := fun hr he n lo st => evC_iso' (d := d_asked_by) rfl rfl rfl (by rw [gds_cons]; exact ⟨hgd, rfl⟩) (he n) hr
  have iso11 : ∀ {r : T}, r.pure = true → (∀ n, endF (evSs (evC tb n) 0 d_is_changing_body.body (startE d_is_changing_body [t]) []) = .ok r []) → ∀ (n lo : Nat) (st : Sto), evC tb (n + 1) 11 lo [t] st = .ok r st := fun hr he n lo st => evC_iso' (d := d_is_changing_body) rfl rfl rfl (by rw [gds_cons]; exact ⟨hgd, rfl⟩) (he n) hr
  have iso26 : ∀ {r : T}, r.pure = true → (∀ n, endF (evSs (evC tb n) 0 d__law_is_changing.body (startE d__law_is_changing [t]) []) = .ok r []) → ∀ (n lo : Nat) (st : Sto), evC tb (n + 1) 26 lo [t] st = .ok r st := fun hr he n lo st => evC_iso' (d := d__law_is_changing) rfl rfl rfl (by rw [gds_cons]; exact ⟨hgd, rfl⟩) (he n) hr
  have fin : ∀ (own chg lc : Bool) (asked : T), T.pn asked = true → Gd asked → asked.ldp ≤ 1 → asked.pure = true → (∀ n, endF (evSs (evC tb n) 0 d_asked_by.body (startE d_asked_by [t]) []) = .ok asked []) → (∀ n, endF (evSs (evC tb n) 0 d_is_changing_body.body (startE d_is_changing_body [t]) []) = .ok (.bl chg) []) →
      (∀ n, endF (evSs (evC tb n) 0 d__law_is_changing.body (startE d__law_is_changing [t]) []) = .ok (.bl lc) []) → (∀ (cl : Nat → Nat → List T → Sto → Rs T) (lo : Nat) (env : En) (st : Sto), env[8]? = some (some t) → evE cl lo env Eown st = .ok (.bl own) st) →
      (∀ (cl : Nat → Nat → List T → Sto → Rs T) (lo : Nat) (env : En) (st : Sto), env[8]? = some (some t) → cl 26 lo [t] st = .ok (.bl lc) st → evE cl lo env Echg st = .ok (.bl chg) st) →
      (∀ (cl : Nat → Nat → List T → Sto → Rs T) (lo : Nat) (env : En) (st : Sto), env[8]? = some (some t) → env[9]? = some (some (.bl own)) → evE cl lo env (.ife (.var 9) (.sl (.var 8) (.som (.cst (.int 1))) (.som (.cst (.int 3)))) (.cst .non)) st = .ok asked st) → BodyFacts t := fun own chg lc asked a1 a2 a3 a4 a5 a6 a7 a8 a9 a10 =>
    ⟨own, chg, asked, a1, a2, a3, iso10 a4 a5, iso11 rfl a6, a8, fun n lo env st he => a9 _ lo env st he (iso26 rfl a7 n lo st), a10⟩
  rcases h with ⟨r, hr, rfl⟩ | rfl | ⟨j, _, _, rfl⟩ | rfl | ⟨z, hz, rfl⟩ | rfl | rfl
  · simp only [rowsT, List.mem_cons, List.not_mem_nil, or_false] at hr
    rcases hr with rfl | rfl | rfl | rfl
    · exact fin true true true (.tup [.int p, .int q]) rfl (by simp) (Nat.le_of_ble_eq_true rfl) rfl (fun _ => rfl) (fun _ => rfl) (fun _ => rfl) (fun cl lo env st he => by simp [Eown, he]) (fun cl lo env st he h26 => by simp [Echg, he, h26]) (fun cl lo env st he h9 => by simp [he, h9]; rfl)
    · exact fin true true true (.tup [.int p, .int q]) rfl (by simp) (Nat.le_of_ble_eq_true rfl) rfl (fun _ => rfl) (fun _ => rfl) (fun _ => rfl) (fun cl lo env st he => by simp [Eown, he]) (fun cl lo env st he h26 => by simp [Echg, he, h26]) (fun cl lo env st he h9 => by simp [he, h9]; rfl)
    · exact fin true true true (.tup [.int p, .int q]) rfl (by simp) (Nat.le_of_ble_eq_true rfl) rfl (fun _ => rfl) (fun _ => rfl) (fun _ => rfl) (fun cl lo env st he => by simp [Eown, he]) (fun cl lo env st he h26 => by simp [Echg, he, h26]) (fun cl lo env st he h9 => by simp [he, h9]; rfl)
    · exact fin true false false (.tup [.int p, .int q]) rfl (by simp) (Nat.le_of_ble_eq_true rfl) rfl (fun _ => rfl) (fun _ => rfl) (fun _ => rfl) (fun cl lo env st he => by simp [Eown, he]) (fun cl lo env st he h26 => by simp [Echg, he, h26]) (fun cl lo env st he h9 => by simp [he, h9]; rfl)
  · exact fin true false false (.tup [.int p, .int q]) rfl (by simp) (Nat.le_of_ble_eq_true rfl) rfl (fun _ => rfl) (fun _ => rfl) (fun _ => rfl) (fun cl lo env st he => by simp [Eown, he]) (fun cl lo env st he h26 => by simp [Echg, he, h26]) (fun cl lo env st he h9 => by simp [he, h9]; rfl)
  · exact fin false false false .non rfl (by simp) (Nat.le_of_ble_eq_true rfl) rfl (fun _ => rfl) (fun _ => rfl) (fun _ => rfl) (fun cl lo env st he => by simp [Eown, he]) (fun cl lo env st he h26 => by simp [Echg, he, h26]) (fun cl lo env st he h9 => by simp [he, h9])
  · exact fin false true true .non rfl (by simp) (Nat.le_of_ble_eq_true rfl) rfl (fun _ => rfl) (fun _ => rfl) (fun _ => rfl) (fun cl lo env st he => by simp [Eown, he]) (fun cl lo env st he h26 => by simp [Echg, he, h26]) (fun cl lo env st he h9 => by simp [he, h9])
  · simp only [List.mem_cons, List.not_mem_nil, or_false] at hz
    rcases hz with rfl | rfl
    · exact fin true true false (.tup [.int p, .int q]) rfl (by simp) (Nat.le_of_ble_eq_true rfl) rfl (fun _ => rfl) (fun _ => rfl) (fun _ => rfl) (fun cl lo env st he => by simp [Eown, he]) (fun cl lo env st he h26 => by simp [Echg, he, h26]) (fun cl lo env st he h9 => by simp [he, h9]; rfl)
    · exact fin true false false (.tup [.int p, .int q]) rfl (by simp) (Nat.le_of_ble_eq_true rfl) rfl (fun _ => rfl) (fun _ => rfl) (fun _ => rfl) (fun cl lo env st he => by simp [Eown, he]) (fun cl lo env st he h26 => by simp [Echg, he, h26]) (fun cl lo env st he h9 => by simp [he, h9]; rfl)
  · exact fin true true false (.tup [.int p, .int q]) rfl (by simp) (Nat.le_of_ble_eq_true rfl) rfl (fun _ => rfl) (fun _ => rfl) (fun _ => rfl) (fun cl lo env st he => by simp [Eown, he]) (fun cl lo env st he h26 => by simp [Echg, he, h26]) (fun cl lo env st he h9 => by simp [he, h9]; rfl)
  · exact fin true false false (.tup [.int p, .int q]) rfl (by simp) (Nat.le_of_ble_eq_true rfl) rfl (fun _ => rfl) (fun _ => rfl) (fun _ => rfl) (fun cl lo env st he => by simp [Eown, he]) (fun cl lo env st he h26 => by simp [Echg, he, h26]) (fun cl lo env st he h9 => by simp [he, h9]; rfl)
end Ev.K55

namespace Ev.K55
open PySem Ev
def valB : Ss := .cons (.ifs (.not_ (.call 24 (.cons (.callk 15 (.cons (.var 3) .nil) (.cons (.var 6) .nil) [0, 1] []) (.cons (.call 32 (.cons (.var 3) (.cons (.var 6) .nil))) .nil)))) (.cons (.ret (.cst (.bl false))) .nil) .nil) .nil
def valI : I := .seq (.klst (.cons (.var 5) (.cons (.call 35 (.cons (.var 2) (.cons (.var 5) .nil))) (.cons (.call 35 (.cons (.var 2) (.cons (.var 5) .nil))) (.cons (.bi .listK (.cons (.var 5) .nil)) .nil)))))
def turnB : Ss := .cons (.asg (.nm 5) (.call 34 (.cons (.var 2) (.cons (.var 3) .nil))))
  (.cons (.for_ (.nm 6) valI valB)
  (.cons (.ifs (.not_ (.call 24 (.cons (.call 16 (.cons (.var 5) .nil)) (.cons (.ife (.cmp .inn (.ix (.var 5) (.cst (.int 0))) (.tup (.cons (.cst (.str [114, 111, 119])) (.cons (.cst (.str [116, 111, 111, 107])) .nil)))) (.bin .sub (.cst (.int 0)) (.cst (.int 1))) (.ix (.var 5) (.cst (.int 1)))) .nil)))) (.cons (.ret (.cst (.bl false))) .nil) .nil)
  .nil))
theorem val_ev {s k a4 a5 a7 a8 a9 a10 a11 : Option T} {x2 v : T} {many : Int} {st : Sto} (hg : Gd v) (hd : v.ldp ≤ 18) :
    evSs (evC tb 39) 0 valB [s, k, some x2, some (.int many), a4, a5, some v, a7, a8, a9, a10, a11] st = .ok (.nx [s, k, some x2, some (.int many), a4, a5, some v, a7, a8, a9, a10, a11]) st := by
  have e1 : evC tb 39 15 0 [.int many, v] st = .ok (.bl (letB many v)) st := is_letter_ev (m := 31) hg hd
  have e2 : evC tb 39 32 0 [.int many, v] st = .ok (.bl (letB many v)) st := l_letter_ev (m := 33) hg
  have e3 : evC tb 39 24 0 [.bl (letB many v), .bl (letB many v)] st = .ok (.bl true) st := same_ev 0 (m := 38) (by simp) rfl (Nat.le_refl _)
  have hp : permT [0, 1] [.int many, v] = some [.int many, v] := rfl
  simp [valB, e1, e2, e3, hp]
theorem turn_ev {s k a4 a5 a6 a7 a8 a9 a10 a11 : Option T} {many : Int} {S : Sto} {l : Nat} {o : O} (hl : l < S.length) (ho : Bx o) (hm : 1 ≤ many) (hm2 : many ≤ 4) :
    ∃ b5 b6 o', Bx o' ∧ evSs (evC tb 39) 0 turnB [s, k, some (.loc l), some (.int many), a4, a5, a6, a7, a8, a9, a10, a11] (S.set l o) = .ok (.nx [s, k, some (.loc l), some (.int many), a4, b5, b6, a7, a8, a9, a10, a11]) (S.set l o') := by
  obtain ⟨t, o1, ⟨⟨w, a, r, rfl⟩, hg, hd⟩, b1, e1⟩ := some_letter_ev (m := 34) (lo := 0) (many := many) (Nat.zero_le l) hl ho hm hm2
  obtain ⟨t1, o2, h1, b2, e2⟩ := turned_ev 5 (m := 31) (lo := 0) (Nat.zero_le l) hl b1 hg hd (by omega)
  obtain ⟨t2, o3, h2, b3, e3⟩ := turned_ev 5 (m := 31) (lo := 0) (Nat.zero_le l) hl b2 hg hd (by omega)
  have e1 : evC tb 39 34 0 [.loc l, .int many] (S.set l o) = .ok (.tup (.str w :: .int a :: r)) (S.set l o1) := e1
  have e2 : evC tb 39 35 0 [.loc l, .tup (.str w :: .int a :: r)] (S.set l o1) = .ok t1 (S.set l o2) := e2
  have e3 : evC tb 39 35 0 [.loc l, .tup (.str w :: .int a :: r)] (S.set l o2) = .ok t2 (S.set l o3) := e3
  have hgd : Gd (.tup (.str w :: .int a :: r)) := gdn_gd (by omega) hg
  have hkl : Gd (.kl (.str w :: .int a :: r)) := (gd_kl _).mpr ((gd_tup _).mp hgd)
  have hdk : (T.kl (.str w :: .int a :: r)).ldp ≤ 5 := hd
  have bk : ∀ st : Sto, biT .listK [.tup (.str w :: .int a :: r)] st = .ok (.kl (.str w :: .int a :: r)) st := fun st => rfl
  have hall : ∀ x ∈ ([.tup (.str w :: .int a :: r), t1, t2, .kl (.str w :: .int a :: r)] : List T), Gd x ∧ x.ldp ≤ 18 := fun x hx => by
    simp only [List.mem_cons, List.not_mem_nil, or_false] at hx
    rcases hx with rfl | rfl | rfl | rfl
    · exact ⟨hgd, by omega⟩
    · exact ⟨gdn_gd (by omega) h1.1, by have := h1.2; omega⟩
    · exact ⟨gdn_gd (by omega) h2.1, by have := h2.2; omega⟩
    · exact ⟨hkl, by omega⟩
  have hloop := x_for_inv (cl := evC tb 39) (lo := 0) (env := [s, k, some (.loc l), some (.int many), a4, some (.tup (.str w :: .int a :: r)), a6, a7, a8, a9, a10, a11]) (st := S.set l o1) (st1 := S.set l o3) (g := .nm 6) (it := valI) (b := valB)
    (ts := [.tup (.str w :: .int a :: r), t1, t2, .kl (.str w :: .int a :: r)])
    (fun i env st => (∃ b6, env = [s, k, some (.loc l), some (.int many), a4, some (.tup (.str w :: .int a :: r)), b6, a7, a8, a9, a10, a11]) ∧ st = S.set l o3) (by simp [valI, e2, e3, bk]) (by show 4 ≤ 100000000; omega) ⟨⟨_, rfl⟩, rfl⟩
    (fun i x env st hx hI => by
      obtain ⟨⟨b6, rfl⟩, rfl⟩ := hI
      obtain ⟨hgx, hdx⟩ := hall x (List.mem_of_getElem? hx)
      exact ⟨_, _, _, rfl, val_ev hgx hdx, ⟨_, rfl⟩, rfl⟩)
  obtain ⟨env', st', h3, ⟨b6, rfl⟩, rfl⟩ := hloop
  have e4 : evC tb 39 16 0 [.tup (.str w :: .int a :: r)] (S.set l o3) = .ok (.int (if w = [114, 111, 119] ∨ w = [116, 111, 111, 107] then -1 else a)) (S.set l o3) := whose_ev (n := 38) hgd
  have e5 := whose_l (cl := evC tb 39) (lo := 0) (env := [s, k, some (.loc l), some (.int many), a4, some (.tup (.str w :: .int a :: r)), b6, a7, a8, a9, a10, a11]) (w := w) (a := a) (r := r) (st := S.set l o3) rfl
  have e6 : ∀ i : Int, evC tb 39 24 0 [.int i, .int i] (S.set l o3) = .ok (.bl true) (S.set l o3) := fun i => same_ev 0 (m := 38) (by simp) rfl (Nat.le_refl _)
  refine ⟨some (.tup (.str w :: .int a :: r)), b6, o3, b3, ?_⟩
  unfold turnB
  generalize hq : (E.ife (.cmp .inn (.ix (.var 5) (.cst (.int 0))) (.tup (.cons (.cst (.str [114, 111, 119])) (.cons (.cst (.str [116, 111, 111, 107])) .nil)))) (.bin .sub (.cst (.int 0)) (.cst (.int 1))) (.ix (.var 5) (.cst (.int 1)))) = q at e5 ⊢
  simp [e1, asgT, h3, e4, e5, e6]
end Ev.K55

namespace Ev.K55
open PySem Ev
def bodI : I := .rng (.cons (.call 22 (.cons (.var 2) (.cons (.cst (.int 8)) .nil))) .nil)
def bodE : E := .call 33 (.cons (.var 2) (.cons (.var 3) .nil))
theorem set_app {S : Sto} {l : Nat} {o x : O} (hl : l < S.length) : (S ++ [x]).set l o = S.set l o ++ [x] := List.set_append_left _ _ hl
theorem lc_loop {s k a4 a5 a6 a7 a8 a9 a10 a11 : Option T} {many : Int} {S : Sto} {l : Nat} {ts : List T} (hl : l < S.length) (hm : 1 ≤ many) (hm2 : many ≤ 4) :
    ∀ (n i : Nat) (acc : List T) (o : O), Bx o → i ≤ ts.length → ts.length < n + i → acc.length + (ts.length - i) ≤ 1000 → ∃ (new : List T) (o' : O), Bx o' ∧ (∀ t ∈ new, BodyP many t) ∧ new.length = ts.length - i ∧
      loopC (eltF none (fun env' st => evE (evC tb 39) 0 env' bodE st) [s, k, some (.loc l), some (.int many), a4, a5, a6, a7, a8, a9, a10, a11] (.nm 4) [4]) (.snap ts) S.length n i ((S ++ [O.lst acc]).set l o) = .ok () ((S ++ [O.lst (acc ++ new)]).set l o') := by
  intro n
  induction n with
  | zero => intro i acc o _ h1 h2; omega
  | succ n ih =>
    intro i acc o ho h1 h2 h3
    by_cases hi : i < ts.length
    · obtain ⟨t, o1, hb, b1, e1⟩ := some_body_ev (m := 35) (lo := 0) (l := l) (many := many) (st := S ++ [O.lst acc]) (Nat.zero_le l) (by rw [List.length_append]; simp only [List.length_singleton]; omega) ho hm hm2
      have e1 : evC tb 39 33 0 [.loc l, .int many] ((S ++ [O.lst acc]).set l o) = .ok t ((S ++ [O.lst acc]).set l o1) := e1
      obtain ⟨new, o2, b2, hn, hln, e2⟩ := ih (i + 1) (acc ++ [t]) o1 b1 (by omega) (by omega) (by rw [List.length_append, List.length_singleton]; omega)
      refine ⟨t :: new, o2, b2, fun x hx => ?_, by rw [List.length_cons, hln]; omega, ?_⟩
      · rcases List.mem_cons.mp hx with rfl | hx
        · exact hb
        · exact hn x hx
      · have e : ts[i]? = some ts[i] := List.getElem?_eq_getElem hi
        have eg : getL ((S ++ [O.lst acc]).set l o1) S.length = some acc := by
          rw [set_app hl]
          unfold getL
          rw [List.getElem?_append_right (by rw [List.length_set]; exact Nat.le_refl _), List.length_set, Nat.sub_self]; rfl
        have ep : putL ((S ++ [O.lst acc]).set l o1) S.length (acc ++ [t]) = (S ++ [O.lst (acc ++ [t])]).set l o1 := by
          rw [set_app hl, set_app hl]
          unfold putL
          rw [List.set_append_right _ _ (by rw [List.length_set]; exact Nat.le_refl _), List.length_set, Nat.sub_self]; rfl
        unfold loopC
        show (match some ts[i]? with | none => _ | some none => _ | some (some x) => _) = _
        rw [e]
        have ee : eltF none (fun env' st => evE (evC tb 39) 0 env' bodE st) [s, k, some (.loc l), some (.int many), a4, a5, a6, a7, a8, a9, a10, a11] (.nm 4) [4] ts[i] ((S ++ [O.lst acc]).set l o) = .ok (some t) ((S ++ [O.lst acc]).set l o1) := by
          simp [eltF, asgT, wipeE, bodE, e1]
        simp only [ee, eg, ep]
        rw [if_pos (by show acc.length < 16777216; omega)]
        rw [e2]
        simp
    · have : i = ts.length := by omega
      subst this
      refine ⟨[], o, ho, fun x hx => (by cases hx), by simp, ?_⟩
      unfold loopC
      show (match some ts[ts.length]? with | none => _ | some none => _ | some (some x) => _) = _
      rw [List.getElem?_eq_none (Nat.le_refl _)]
      simp
theorem bodies_ev {s k a4 a5 a6 a7 a8 a9 a10 a11 : Option T} {many : Int} {S : Sto} {l : Nat} {o : O} (hl : l < S.length) (ho : Bx o) (hm : 1 ≤ many) (hm2 : many ≤ 4) :
    ∃ (bs : List T) (st' : Sto), (∀ t ∈ bs, BodyP many t) ∧ bs.length ≤ 8 ∧ evE (evC tb 39) 0 [s, k, some (.loc l), some (.int many), a4, a5, a6, a7, a8, a9, a10, a11] (.bi .tuple (.cons (.lc bodE (.nm 4) bodI .non [4]) .nil)) (S.set l o) = .ok (.tup bs) st' := by
  obtain ⟨d, o1, d0, d1, b1, e1⟩ := tk (m := 38) (lo := 0) (l := l) (many := 8) (st := S) (Nat.zero_le l) hl ho (by omega) (by omega)
  have e1 : evC tb 39 22 0 [.loc l, .int 8] (S.set l o) = .ok (.int d) (S.set l o1) := e1
  have hrl : (rangeI 0 d).length = d.toNat := by unfold rangeI; rw [List.length_map, List.length_range]; omega
  obtain ⟨new, o2, b2, hn, hln, e2⟩ := lc_loop (s := s) (k := k) (a4 := a4) (a5 := a5) (a6 := a6) (a7 := a7) (a8 := a8) (a9 := a9) (a10 := a10) (a11 := a11) (many := many) (S := S) (l := l) (ts := rangeI 0 d) hl hm hm2 turns 0 [] o1 b1 (Nat.zero_le _) (by rw [hrl]; show _ < 1000000000 + 0; omega) (by rw [hrl]; simp only [List.length_nil]; omega)
  refine ⟨new, (S ++ [O.lst ([] ++ new)]).set l o2, hn, by rw [hln, hrl]; omega, ?_⟩
  have hb : -(2 ^ 62) ≤ d ∧ d < (2 ^ 62 : Int) := by constructor <;> omega
  have el : (S.set l o1).length = S.length := List.length_set
  rw [x_bi, x_cons, x_lc0]
  have ei : evI (evC tb 39) 0 [s, k, some (.loc l), some (.int many), a4, a5, a6, a7, a8, a9, a10, a11] bodI (S.set l o) = .ok (.snap (rangeI 0 d)) (S.set l o1) := by
    simp only [bodI, x_rng, x_cons, x_call, x_var, x_cst, x_nil, List.getElem?_cons_zero, List.getElem?_cons_succ, Rs.bind, e1]
    rw [if_pos hb]
  rw [ei]
  simp only [Rs.bind, el]
  rw [set_app hl] at e2
  rw [e2]
  simp only [x_nil]
  have eg : getL ((S ++ [O.lst ([] ++ new)]).set l o2) S.length = some new := by
    rw [set_app hl]
    unfold getL
    rw [List.getElem?_append_right (by rw [List.length_set]; exact Nat.le_refl _), List.length_set, Nat.sub_self]; rfl
  show (match getL ((S ++ [O.lst ([] ++ new)]).set l o2) S.length with | some xs => Rs.ok (T.tup xs) ((S ++ [O.lst ([] ++ new)]).set l o2) | none => .no) = _
  rw [eg]
def bodB : Ss := .cons (.asg (.nm 9) Eown) (.cons (.asg (.nm 10) Echg)
  (.cons (.ifs (.not_ (.call 24 (.cons (.tup (.cons (.call 10 (.cons (.var 8) .nil)) (.cons (.call 11 (.cons (.var 8) .nil)) .nil))) (.cons (.tup (.cons (.ife (.var 9) (.sl (.var 8) (.som (.cst (.int 1))) (.som (.cst (.int 3)))) (.cst .non)) (.cons (.var 10) .nil))) .nil)))) (.cons (.ret (.cst (.bl false))) .nil) .nil)
  .nil))
theorem bodB_ev {s k x2 x3 a4 a5 a6 a7 a9 a10 a11 : Option T} {many : Int} {t : T} {st : Sto} (h : BodyP many t) :
    ∃ b9 b10, evSs (evC tb 39) 0 bodB [s, k, x2, x3, a4, a5, a6, a7, some t, a9, a10, a11] st = .ok (.nx [s, k, x2, x3, a4, a5, a6, a7, some t, b9, b10, a11]) st := by
  obtain ⟨own, chg, asked, p1, p2, p3, f1, f2, f3, f4, f5⟩ := body_facts h
  have e1 := f3 (evC tb 39) 0 [s, k, x2, x3, a4, a5, a6, a7, some t, a9, a10, a11] st rfl
  have e2 := f4 38 0 [s, k, x2, x3, a4, a5, a6, a7, some t, some (.bl own), a10, a11] st rfl
  have e3 := f5 (evC tb 39) 0 [s, k, x2, x3, a4, a5, a6, a7, some t, some (.bl own), some (.bl chg), a11] st rfl rfl
  have e4 : evC tb 39 10 0 [t] st = .ok asked st := f1 38 0 st
  have e5 : evC tb 39 11 0 [t] st = .ok (.bl chg) st := f2 38 0 st
  have e6 : evC tb 39 24 0 [.tup [asked, .bl chg], .tup [asked, .bl chg]] st = .ok (.bl true) st := same_ev 2 (m := 36) (by simp [p2]) (by show (T.pn asked && (true && true)) = true; rw [p1]; rfl) (by show max asked.ldp (max 0 0) + 1 ≤ 2; omega)
  refine ⟨some (.bl own), some (.bl chg), ?_⟩
  unfold bodB
  generalize hq : (E.ife (.var 9) (.sl (.var 8) (.som (.cst (.int 1))) (.som (.cst (.int 3)))) (.cst .non)) = q at e3 ⊢
  have e2' : evE (evC tb 39) 0 [s, k, x2, x3, a4, a5, a6, a7, some t, some (.bl own), a10, a11] Echg st = .ok (.bl chg) st := e2
  simp [e1, e2', e3, e4, e5, e6, asgT]
end Ev.K55

namespace Ev.K55
open PySem Ev
def chkB : Ss := .cons (.asg (.nm 11) (.call 25 (.cons (.var 7) (.cons (.cst (.fn 5)) .nil))))
  (.cons (.ifs (.not_ (.call 24 (.cons (.tup (.cons (.call 19 (.cons (.var 7) .nil)) (.cons (.call 20 (.cons (.var 7) .nil)) .nil))) (.cons (.tup (.cons (.var 11) (.cons (.tup (.cons (.bi .len (.cons (.var 7) .nil)) (.cons (.var 11) .nil))) .nil))) .nil)))) (.cons (.ret (.cst (.bl false))) .nil) .nil)
  (.cons (.ifs (.and_ (.cmp .ne (.var 7) (.tup .nil)) (.not_ (.call 24 (.cons (.call 18 (.cons (.call 25 (.cons (.sl (.var 7) .non (.som (.bin .sub (.bi .len (.cons (.var 7) .nil)) (.cst (.int 1))))) (.cons (.cst (.fn 5)) .nil))) (.cons (.ix (.var 7) (.bin .sub (.bi .len (.cons (.var 7) .nil)) (.cst (.int 1)))) .nil))) (.cons (.var 11) .nil))))) (.cons (.ret (.cst (.bl false))) .nil) .nil)
  .nil))
theorem bods_gd {many : Int} {bs : List T} (h : ∀ t ∈ bs, BodyP many t) (hl : bs.length ≤ 8) : Gd (.tup bs) ∧ (T.tup bs).ldp ≤ 18 := by
  have h1 : T.gdn 8 (.tup bs) = true := gdn_t hl (gdns_iff.mpr fun x hx => gdn_up (gdn_up (body_gd (h x hx)).1))
  refine ⟨gdn_gd (by omega) h1, ?_⟩
  show T.ldps bs + 1 ≤ 18
  have : T.ldps bs ≤ 3 := ldps_le.mpr fun x hx => (body_gd (h x hx)).2
  omega
theorem chkB_ev {s k x2 x3 a4 a5 a6 a8 a9 a10 a11 : Option T} {many : Int} {bs : List T} {st : Sto} (hm2 : many ≤ 4) (h : ∀ t ∈ bs, BodyP many t) (hl : bs.length ≤ 8) :
    ∃ b11, evSs (evC tb 39) 0 chkB [s, k, x2, x3, a4, a5, a6, some (.tup bs), a8, a9, a10, a11] st = .ok (.nx [s, k, x2, x3, a4, a5, a6, some (.tup bs), a8, a9, a10, b11]) st := by
  obtain ⟨hg, hd⟩ := bods_gd h hl
  have hpk := fun t (ht : t ∈ bs) => pk_at (gdn_gd (n := 6) (by omega) (body_gd (h t ht)).1) (pk_body hm2 (h t ht))
  have e1 : evC tb 39 25 0 [.tup bs, .fn 5] st = .ok (.int (So 0 bs)) st := l_chain_ev (n := 38) hg fun t ht => ⟨(hpk t ht).2.2.2, (hpk t ht).1⟩
  have e2 : evC tb 39 19 0 [.tup bs] st = .ok (.int (So 0 bs)) st := sum_of_ev (n := 37) hg fun t ht => ⟨(hpk t ht).2.2.1, (hpk t ht).1⟩
  have e3 : evC tb 39 20 0 [.tup bs] st = .ok (.tup [.int bs.length, .int (So 0 bs)]) st := mark_of_ev (n := 36) hg fun t ht => ⟨(hpk t ht).2.1, (hpk t ht).1⟩
  have e4 : evC tb 39 24 0 [.tup [.int (So 0 bs), .tup [.int bs.length, .int (So 0 bs)]], .tup [.int (So 0 bs), .tup [.int bs.length, .int (So 0 bs)]]] st = .ok (.bl true) st := same_ev 2 (m := 36) (by simp) rfl (Nat.le_of_ble_eq_true rfl)
  have e5 : evC tb 39 24 0 [.int (So 0 bs), .int (So 0 bs)] st = .ok (.bl true) st := same_ev 0 (m := 38) (by simp) rfl (Nat.le_refl _)
  have hne : cmp2 st .ne (.tup bs) (.tup []) = some (!bs.isEmpty) := by
    show Option.map (fun b => !b) (eqS st (.tup bs) (.tup [])) = _
    rw [eq_nil hg hd]; rfl
  refine ⟨some (.int (So 0 bs)), ?_⟩
  unfold chkB
  by_cases hb : bs = []
  · subst hb
    simp at hne e3 e4
    simp [e1, e2, e3, e4, hne, asgT]
  · have hie : bs.isEmpty = false := by cases bs <;> first | rfl | exact absurd rfl hb
    have hpos : 1 ≤ bs.length := List.length_pos_iff.mpr hb
    have hc : ((bs.length : Int) - 1) = ((bs.length - 1 : Nat) : Int) := by omega
    have hlt : bs.length - 1 < bs.length := by omega
    have hsub : ∀ t ∈ bs.take (bs.length - 1), t ∈ bs := fun t ht => List.mem_of_mem_take ht
    have hg2 : Gd (.tup (bs.take (bs.length - 1))) := (bods_gd (fun t ht => h t (hsub t ht)) (by rw [List.length_take]; omega)).1
    have e6 : evC tb 39 25 0 [.tup (bs.take (bs.length - 1)), .fn 5] st = .ok (.int (So 0 (bs.take (bs.length - 1)))) st := l_chain_ev (n := 38) hg2 fun t ht => ⟨(hpk t (hsub t ht)).2.2.2, (hpk t (hsub t ht)).1⟩
    have hmem : bs[bs.length - 1] ∈ bs := List.getElem_mem hlt
    have e7 : evC tb 39 18 0 [.int (So 0 (bs.take (bs.length - 1))), bs[bs.length - 1]] st = .ok (.int (So 0 bs)) st := by
      have := chained_ev (n := 38) (lo := 0) (a := So 0 (bs.take (bs.length - 1))) (st := st) (gdn_gd (n := 6) (by omega) (body_gd (h _ hmem)).1) (hpk _ hmem).2.2.2 (hpk _ hmem).1
      rw [← so_step] at this
      rw [show bs.take (bs.length - 1) ++ [bs[bs.length - 1]] = bs by
        rw [← take_succ (List.getElem?_eq_getElem hlt), Nat.sub_add_cancel hpos, List.take_length]] at this
      exact this
    have hix : atIx bs ((bs.length - 1 : Nat) : Int) = some bs[bs.length - 1] := by rw [atIx_nat, List.getElem?_eq_getElem hlt]
    simp [e1, e2, e3, e4, hne, hie, asgT, hc, slh, e6, hix, e7, e5]
def outB : Ss := .cons (.asg (.nm 2) (.call 21 (.cons (.var 0) (.cons (.var 1) .nil))))
    (.cons (.asg (.nm 3) (.bin .add (.cst (.int 2)) (.call 22 (.cons (.var 2) (.cons (.cst (.int 3)) .nil)))))
    (.cons (.for_ (.nm 4) (.rng (.cons (.cst (.int 10)) .nil)) turnB)
    (.cons (.asg (.nm 7) (.bi .tuple (.cons (.lc bodE (.nm 4) bodI .non [4]) .nil)))
    (.cons (.for_ (.nm 8) (.seq (.var 7)) bodB)
    chkB))))
theorem outB_ev {ns : List Int} {kk : Int} {x1 x2 x3 a4 a5 a6 a7 a8 a9 a10 a11 : Option T} {st : Sto} (h0 : 0 ≤ kk) (hx : x1 = some (.int kk)) :
    ∃ b2 b3 b4 b5 b6 b7 b8 b9 b10 b11 st', evSs (evC tb 39) 0 outB [some (.kl (ns.map T.int)), x1, x2, x3, a4, a5, a6, a7, a8, a9, a10, a11] st = .ok (.nx [some (.kl (ns.map T.int)), x1, b2, b3, b4, b5, b6, b7, b8, b9, b10, b11]) st' := by
  subst hx
  obtain ⟨o, bo, e1⟩ := box_ev (tb := tb) (kb := 21) rfl (m := 38) (lo := 0) (ns := ns) (k := kk) (st := st) h0
  have e1 : evC tb 39 21 0 [.kl (ns.map T.int), .int kk] st = .ok (.loc st.length) (st ++ [o]) := e1
  have hlt : st.length < (st ++ [o]).length := by simp
  have hself : (st ++ [o]).set st.length o = st ++ [o] := set_self (by rw [List.getElem?_append_right (Nat.le_refl _), Nat.sub_self]; rfl)
  obtain ⟨d, o1, d0, d1, b1, e2⟩ := tk (m := 38) (lo := 0) (l := st.length) (many := 3) (st := st ++ [o]) (Nat.zero_le _) hlt bo (by omega) (by omega)
  rw [hself] at e2
  have e2 : evC tb 39 22 0 [.loc st.length, .int 3] (st ++ [o]) = .ok (.int d) ((st ++ [o]).set st.length o1) := e2
  have hloop := x_for_inv (cl := evC tb 39) (lo := 0) (env := [some (.kl (ns.map T.int)), some (.int kk), some (.loc st.length), some (.int (2 + d)), a4, a5, a6, a7, a8, a9, a10, a11]) (st := (st ++ [o]).set st.length o1) (st1 := (st ++ [o]).set st.length o1) (g := .nm 4) (it := .rng (.cons (.cst (.int 10)) .nil)) (b := turnB) (ts := rangeI 0 10)
    (fun i env s2 => (∃ b4 b5 b6, env = [some (.kl (ns.map T.int)), some (.int kk), some (.loc st.length), some (.int (2 + d)), b4, b5, b6, a7, a8, a9, a10, a11]) ∧ ∃ o', Bx o' ∧ s2 = (st ++ [o]).set st.length o') rfl (by decide) ⟨⟨_, _, _, rfl⟩, _, b1, rfl⟩
    (fun i x env s2 hx hI => by
      obtain ⟨⟨b4, b5, b6, rfl⟩, o', bo', rfl⟩ := hI
      obtain ⟨c5, c6, o2, b2, e⟩ := turn_ev (s := some (.kl (ns.map T.int))) (k := some (.int kk)) (a4 := some x) (a5 := b5) (a6 := b6) (a7 := a7) (a8 := a8) (a9 := a9) (a10 := a10) (a11 := a11) (many := 2 + d) hlt bo' (by omega) (by omega)
      exact ⟨_, _, _, rfl, e, ⟨_, _, _, rfl⟩, _, b2, rfl⟩)
  obtain ⟨env1, s3, e3, ⟨b4, b5, b6, rfl⟩, o2, b2, rfl⟩ := hloop
  obtain ⟨bs, s4, hbs, hbl, e4⟩ := bodies_ev (s := some (.kl (ns.map T.int))) (k := some (.int kk)) (a4 := b4) (a5 := b5) (a6 := b6) (a7 := a7) (a8 := a8) (a9 := a9) (a10 := a10) (a11 := a11) (many := 2 + d) (S := st ++ [o]) (l := st.length) (o := o2) hlt b2 (by omega) (by omega)
  have hloop2 := x_for_inv (cl := evC tb 39) (lo := 0) (env := [some (.kl (ns.map T.int)), some (.int kk), some (.loc st.length), some (.int (2 + d)), b4, b5, b6, some (.tup bs), a8, a9, a10, a11]) (st := s4) (st1 := s4) (g := .nm 8) (it := .seq (.var 7)) (b := bodB) (ts := bs)
    (fun i env s2 => (∃ b8 b9 b10, env = [some (.kl (ns.map T.int)), some (.int kk), some (.loc st.length), some (.int (2 + d)), b4, b5, b6, some (.tup bs), b8, b9, b10, a11]) ∧ s2 = s4) rfl (by omega) ⟨⟨_, _, _, rfl⟩, rfl⟩
    (fun i x env s2 hx hI => by
      obtain ⟨⟨b8, b9, b10, rfl⟩, rfl⟩ := hI
      obtain ⟨c9, c10, e⟩ := bodB_ev (s := some (.kl (ns.map T.int))) (k := some (.int kk)) (x2 := some (.loc st.length)) (x3 := some (.int (2 + d))) (a4 := b4) (a5 := b5) (a6 := b6) (a7 := some (.tup bs)) (a9 := b9) (a10 := b10) (a11 := a11) (st := s2) (hbs x (List.mem_of_getElem? hx))
      exact ⟨_, _, _, rfl, e, ⟨_, _, _, rfl⟩, rfl⟩)
  obtain ⟨env2, s5, e5, ⟨b8, b9, b10, rfl⟩, rfl⟩ := hloop2
  obtain ⟨b11, e6⟩ := chkB_ev (s := some (.kl (ns.map T.int))) (k := some (.int kk)) (x2 := some (.loc st.length)) (x3 := some (.int (2 + d))) (a4 := b4) (a5 := b5) (a6 := b6) (a8 := b8) (a9 := b9) (a10 := b10) (a11 := a11) (st := s5) (by omega) hbs hbl
  refine ⟨some (.loc st.length), some (.int (2 + d)), b4, b5, b6, some (.tup bs), b8, b9, b10, b11, s5, ?_⟩
  unfold outB
  rw [x_sscons, x_asg]
  simp only [x_call, x_cons, x_nil, x_var, List.getElem?_cons_zero, List.getElem?_cons_succ, Rs.bind, e1, Rs.atS, asgT, List.set_cons_succ, List.set_cons_zero]
  rw [x_sscons, x_asg]
  simp only [x_bin, x_cst, x_call, x_cons, x_nil, x_var, List.getElem?_cons_zero, List.getElem?_cons_succ, Rs.bind, e2, Rs.atS, asgT, o_add, List.set_cons_succ, List.set_cons_zero]
  rw [x_sscons, e3]
  simp only []
  rw [x_sscons, x_asg, e4]
  simp only [Rs.atS, asgT, List.set_cons_succ, List.set_cons_zero]
  rw [x_sscons, e5]
  simp only []
  exact e6
theorem fin_ev {st : Sto} {env : En} : evE (evC tb 39) 0 env (.call 24 (.cons (.tup (.cons (.call 18 (.cons (.cst (.int 0)) (.cons (.cst .non) .nil))) (.cons (.call 17 (.cons (.tup (.cons (.cst (.str [100, 111])) (.cons (.cst (.int 1)) (.cons (.cst (.int 2)) .nil)))) .nil)) (.cons (.call 17 (.cons (.tup (.cons (.cst (.str [112, 97, 115, 115])) (.cons (.cst (.int 0)) .nil))) .nil)) .nil)))) (.cons (.tup (.cons (.cst (.int 1)) (.cons (.tup (.cons (.cst (.str [100, 111])) (.cons (.cst (.int 1)) (.cons (.cst .non) .nil)))) (.cons (.tup (.cons (.cst (.str [112, 97, 115, 115])) (.cons (.cst (.int 0)) .nil))) .nil)))) .nil))) st = .ok (.bl true) st := by
  have e1 : evC tb 39 18 0 [.int 0, .non] st = .ok (.int 1) st := evC_iso' (d := d_chained) (st' := []) rfl rfl rfl (by simp) (by kernel_rfl) rfl
  have e2 : evC tb 39 17 0 [.tup [.str [100, 111], .int 1, .int 2]] st = .ok (.tup [.str [100, 111], .int 1, .non]) st := evC_iso' (d := d_hidden_choice) (st' := []) rfl rfl rfl (by simp) (by kernel_rfl) rfl
  have e3 : evC tb 39 17 0 [.tup [.str [112, 97, 115, 115], .int 0]] st = .ok (.tup [.str [112, 97, 115, 115], .int 0]) st := evC_iso' (d := d_hidden_choice) (st' := []) rfl rfl rfl (by simp) (by kernel_rfl) rfl
  have e4 : evC tb 39 24 0 [.tup [.int 1, .tup [.str [100, 111], .int 1, .non], .tup [.str [112, 97, 115, 115], .int 0]], .tup [.int 1, .tup [.str [100, 111], .int 1, .non], .tup [.str [112, 97, 115, 115], .int 0]]] st = .ok (.bl true) st := same_ev 2 (m := 36) (by simp) rfl (Nat.le_of_ble_eq_true rfl)
  simp [e1, e2, e3, e4]
theorem plain : ∀ ns : List Int, ns.length ≤ 63 → ∃ st, evC tb 40 36 0 [.kl (ns.map T.int)] [] = .ok (.bl true) st := by
  intro ns hns
  rw [evC_full' (d := d_law) rfl rfl]
  unfold callD
  rw [show d_law.mode = .keep from rfl]
  simp only []
  obtain ⟨mx, hmx, hlo, hhi⟩ : ∃ mx : Int, evI (evC tb 39) 0 (startE d_law [.kl (ns.map T.int)]) (.rng (.cons (.bi .max (.cons (.cst (.int 3)) (.cons (.bi .min (.cons (.bi .len (.cons (.var 0) .nil)) (.cons (.cst (.int 6)) .nil))) .nil))) .nil)) [] = .ok (.snap (rangeI 0 mx)) [] ∧ 0 ≤ mx ∧ mx ≤ 6 := by
    refine ⟨if (if (6 : Int) < ns.length then 6 else (ns.length : Int)) > 3 then (if (6 : Int) < ns.length then 6 else (ns.length : Int)) else 3, ?_, by split <;> omega, by split <;> (try split) <;> omega⟩
    have hb : ∀ i j : Int, ∀ st : Sto, biT .max [.int i, .int j] st = .ok (.int (if j > i then j else i)) st := fun _ _ _ => rfl
    have hc : ∀ i j : Int, ∀ st : Sto, biT .min [.int i, .int j] st = .ok (.int (if j < i then j else i)) st := fun _ _ _ => rfl
    rw [x_rng]
    simp only [startE, d_law, x_cons, x_nil, x_bi, x_cst, x_var, List.map_cons, List.map_nil, List.cons_append, List.nil_append, List.getElem?_cons_zero, Rs.bind, b_lenK, List.length_map, hb, hc]
    rw [if_pos (by constructor <;> (split <;> (try split) <;> omega))]
  have hloop := x_for_inv (cl := evC tb 39) (lo := 0) (env := startE d_law [.kl (ns.map T.int)]) (st := []) (st1 := []) (g := .nm 1) (b := outB) (ts := rangeI 0 mx)
    (fun i env s2 => ∃ b1 b2 b3 b4 b5 b6 b7 b8 b9 b10 b11, env = [some (.kl (ns.map T.int)), b1, b2, b3, b4, b5, b6, b7, b8, b9, b10, b11]) hmx (by unfold rangeI; rw [List.length_map, List.length_range]; omega) ⟨_, _, _, _, _, _, _, _, _, _, _, rfl⟩
    (fun i x env s2 hx hI => by
      obtain ⟨b1, b2, b3, b4, b5, b6, b7, b8, b9, b10, b11, rfl⟩ := hI
      unfold rangeI at hx
      rw [List.getElem?_map] at hx
      obtain ⟨j, _, rfl⟩ := Option.map_eq_some_iff.mp hx
      obtain ⟨c2, c3, c4, c5, c6, c7, c8, c9, c10, c11, s3, e⟩ := outB_ev (ns := ns) (kk := 0 + (j : Int)) (x1 := some (.int (0 + (j : Int)))) (x2 := b2) (x3 := b3) (a4 := b4) (a5 := b5) (a6 := b6) (a7 := b7) (a8 := b8) (a9 := b9) (a10 := b10) (a11 := b11) (st := s2) (by omega) rfl
      exact ⟨_, _, _, rfl, e, _, _, _, _, _, _, _, _, _, _, _, rfl⟩)
  obtain ⟨env', s3, e1, _⟩ := hloop
  refine ⟨s3, ?_⟩
  rw [show d_law.body = .cons (.for_ (.nm 1) (.rng (.cons (.bi .max (.cons (.cst (.int 3)) (.cons (.bi .min (.cons (.bi .len (.cons (.var 0) .nil)) (.cons (.cst (.int 6)) .nil))) .nil))) .nil)) outB) (tlS d_law.body) from rfl, x_sscons, e1]
  simp only [tlS, d_law]
  rw [x_sscons, x_ret, fin_ev]
  rfl
end Ev.K55

namespace Ev.K55
open PySem L2 PySem.Spec PyProof.Rows Ev
def top (i : Nat) : Stmt := PySem.Challenge.pw_evenifothers_k55_letters_and_sums.main.body.getD i (.Pass ⟨0, 0, 0, 0⟩)
def D_is_int : He.DefD := defD "is_int" (top 1) []
def D_is_number : He.DefD := defD "is_number" (top 2) [.int 0, .non]
def D_is_tuple : He.DefD := defD "is_tuple" (top 3) [.non]
def D_is_numbers : He.DefD := defD "is_numbers" (top 4) [.int 0, .non]
def D_counted : He.DefD := defD "counted" (top 14) []
def D_packed : He.DefD := defD "packed" (top 15) []
def D_is_choice : He.DefD := defD "is_choice" (top 19) []
def D_is_seen : He.DefD := defD "is_seen" (top 20) []
def D_is_body : He.DefD := defD "is_body" (top 21) []
def D_is_course_body : He.DefD := defD "is_course_body" (top 22) []
def D_asked_by : He.DefD := defD "asked_by" (top 23) []
def D_is_changing_body : He.DefD := defD "is_changing_body" (top 24) []
def D_is_mark : He.DefD := defD "is_mark" (top 25) []
def D_is_desks_letter : He.DefD := defD "is_desks_letter" (top 26) []
def D_is_agreeing : He.DefD := defD "is_agreeing" (top 27) []
def D_is_letter : He.DefD := defD "is_letter" (top 28) []
def D_whose_letter : He.DefD := defD "whose_letter" (top 29) []
def D_hidden_choice : He.DefD := defD "hidden_choice" (top 30) []
def D_chained : He.DefD := defD "chained" (top 34) []
def D_sum_of : He.DefD := defD "sum_of" (top 35) []
def D_mark_of : He.DefD := defD "mark_of" (top 36) []
def D__law_box : He.DefD := defD "_law_box" (top 38) []
def D__law_take : He.DefD := defD "_law_take" (top 39) []
def D__law_pick : He.DefD := defD "_law_pick" (top 40) []
def D__law_same : He.DefD := defD "_law_same" (top 41) []
def D__law_chain : He.DefD := defD "_law_chain" (top 42) []
def D__law_is_changing : He.DefD := defD "_law_is_changing" (top 43) []
def D__law_is_number : He.DefD := defD "_law_is_number" (top 44) []
def D__law_are_numbers : He.DefD := defD "_law_are_numbers" (top 45) []
def D__law_starts : He.DefD := defD "_law_starts" (top 46) []
def D__law_is_choice : He.DefD := defD "_law_is_choice" (top 47) []
def D__law_is_body : He.DefD := defD "_law_is_body" (top 48) []
def D__law_is_letter : He.DefD := defD "_law_is_letter" (top 49) []
def D__law_some_body : He.DefD := defD "_law_some_body" (top 50) []
def D__law_some_letter : He.DefD := defD "_law_some_letter" (top 51) []
def D__law_turned : He.DefD := defD "_law_turned" (top 52) []
def D_law : He.DefD := defD "law" (top 53) []
def fn : List He.DefD := [D_is_int, D_is_number, D_is_tuple, D_is_numbers, D_counted, D_packed, D_is_choice, D_is_seen, D_is_body, D_is_course_body, D_asked_by, D_is_changing_body, D_is_mark, D_is_desks_letter, D_is_agreeing, D_is_letter, D_whose_letter, D_hidden_choice, D_chained, D_sum_of, D_mark_of, D__law_box, D__law_take, D__law_pick, D__law_same, D__law_chain, D__law_is_changing, D__law_is_number, D__law_are_numbers, D__law_starts, D__law_is_choice, D__law_is_body, D__law_is_letter, D__law_some_body, D__law_some_letter, D__law_turned, D_law]
theorem k_is_int : DefOk fl cl kw mu 0 d_is_int D_is_int where
  at_ := rfl
  nm := rfl
  qual := rfl
  kwd := rfl
  sc := scB_ok (by decide +kernel)
  comp := ⟨60, 60, by kernel_rfl⟩
  look := by kernel_rfl
  binds := fun K f fd F => ⟨b_none (F.bindsN fun _ _ _ _ _ _ us hl => match us, hl with | [_], _ => rfl), no_kw rfl⟩
  cst := fun t ht => List.all_eq_true.mp (show (d_is_int.dvs.all constT) = true from rfl) t ht
theorem k_is_number : DefOk fl cl kw mu 1 d_is_number D_is_number where
  at_ := rfl
  nm := rfl
  qual := rfl
  kwd := rfl
  sc := scB_ok (by decide +kernel)
  comp := ⟨60, 60, by kernel_rfl⟩
  look := by kernel_rfl
  binds := fun K f fd F => ⟨(fun j hj => match j, hj with
      | 0, _ => F.binds1 1 0 (by intro h; cases h) rfl fun _ _ _ _ _ _ _ us its hl hi => match us, hl, its, hi with | [_], _, [_, _], _ => ⟨_, rfl, rfl⟩
      | 1, _ => F.binds1 2 1 (by intro h; cases h) rfl fun _ _ _ _ _ _ _ us its hl hi => match us, hl, its, hi with | [_, _], _, [_, _], _ => ⟨_, rfl, rfl⟩
      | 2, _ => F.binds1 3 2 (by intro h; cases h) rfl fun _ _ _ _ _ _ _ us its hl hi => match us, hl, its, hi with | [_, _, _], _, [_, _], _ => ⟨_, rfl, rfl⟩
      | j + 3, hj => absurd hj (by simp [d_is_number])), no_kw rfl⟩
  cst := fun t ht => List.all_eq_true.mp (show (d_is_number.dvs.all constT) = true from rfl) t ht
theorem k_is_tuple : DefOk fl cl kw mu 2 d_is_tuple D_is_tuple where
  at_ := rfl
  nm := rfl
  qual := rfl
  kwd := rfl
  sc := scB_ok (by decide +kernel)
  comp := ⟨60, 60, by kernel_rfl⟩
  look := by kernel_rfl
  binds := fun K f fd F => ⟨(fun j hj => match j, hj with
      | 0, _ => F.binds1 1 0 (by intro h; cases h) rfl fun _ _ _ _ _ _ _ us its hl hi => match us, hl, its, hi with | [_], _, [_], _ => ⟨_, rfl, rfl⟩
      | 1, _ => F.binds1 2 1 (by intro h; cases h) rfl fun _ _ _ _ _ _ _ us its hl hi => match us, hl, its, hi with | [_, _], _, [_], _ => ⟨_, rfl, rfl⟩
      | j + 2, hj => absurd hj (by simp [d_is_tuple])), no_kw rfl⟩
  cst := fun t ht => List.all_eq_true.mp (show (d_is_tuple.dvs.all constT) = true from rfl) t ht
theorem k_is_numbers : DefOk fl cl kw mu 3 d_is_numbers D_is_numbers where
  at_ := rfl
  nm := rfl
  qual := rfl
  kwd := rfl
  sc := scB_ok (by decide +kernel)
  comp := ⟨60, 60, by kernel_rfl⟩
  look := by kernel_rfl
  binds := fun K f fd F => ⟨(fun j hj => match j, hj with
      | 0, _ => F.binds1 2 0 (by intro h; cases h) rfl fun _ _ _ _ _ _ _ us its hl hi => match us, hl, its, hi with | [_, _], _, [_, _], _ => ⟨_, rfl, rfl⟩
      | 1, _ => F.binds1 3 1 (by intro h; cases h) rfl fun _ _ _ _ _ _ _ us its hl hi => match us, hl, its, hi with | [_, _, _], _, [_, _], _ => ⟨_, rfl, rfl⟩
      | 2, _ => F.binds1 4 2 (by intro h; cases h) rfl fun _ _ _ _ _ _ _ us its hl hi => match us, hl, its, hi with | [_, _, _, _], _, [_, _], _ => ⟨_, rfl, rfl⟩
      | j + 3, hj => absurd hj (by simp [d_is_numbers])), no_kw rfl⟩
  cst := fun t ht => List.all_eq_true.mp (show (d_is_numbers.dvs.all constT) = true from rfl) t ht
theorem k_counted : DefOk fl cl kw mu 4 d_counted D_counted where
  at_ := rfl
  nm := rfl
  qual := rfl
  kwd := rfl
  sc := scB_ok (by decide +kernel)
  comp := ⟨60, 60, by kernel_rfl⟩
  look := by kernel_rfl
  binds := fun K f fd F => ⟨b_none (F.bindsN fun _ _ _ _ _ _ us hl => match us, hl with | [_], _ => rfl), no_kw rfl⟩
  cst := fun t ht => List.all_eq_true.mp (show (d_counted.dvs.all constT) = true from rfl) t ht
theorem k_packed : DefOk fl cl kw mu 5 d_packed D_packed where
  at_ := rfl
  nm := rfl
  qual := rfl
  kwd := rfl
  sc := scB_ok (by decide +kernel)
  comp := ⟨60, 60, by kernel_rfl⟩
  look := by kernel_rfl
  binds := fun K f fd F => ⟨b_none (F.bindsN fun _ _ _ _ _ _ us hl => match us, hl with | [_], _ => rfl), no_kw rfl⟩
  cst := fun t ht => List.all_eq_true.mp (show (d_packed.dvs.all constT) = true from rfl) t ht
theorem k_is_choice : DefOk fl cl kw mu 6 d_is_choice D_is_choice where
  at_ := rfl
  nm := rfl
  qual := rfl
  kwd := rfl
  sc := scB_ok (by decide +kernel)
  comp := ⟨60, 60, by kernel_rfl⟩
  look := by kernel_rfl
  binds := fun K f fd F => ⟨b_none (F.bindsN fun _ _ _ _ _ _ us hl => match us, hl with | [_], _ => rfl), no_kw rfl⟩
  cst := fun t ht => List.all_eq_true.mp (show (d_is_choice.dvs.all constT) = true from rfl) t ht
theorem k_is_seen : DefOk fl cl kw mu 7 d_is_seen D_is_seen where
  at_ := rfl
  nm := rfl
  qual := rfl
  kwd := rfl
  sc := scB_ok (by decide +kernel)
  comp := ⟨60, 60, by kernel_rfl⟩
  look := by kernel_rfl
  binds := fun K f fd F => ⟨b_none (F.bindsN fun _ _ _ _ _ _ us hl => match us, hl with | [_], _ => rfl), no_kw rfl⟩
  cst := fun t ht => List.all_eq_true.mp (show (d_is_seen.dvs.all constT) = true from rfl) t ht
theorem k_is_body : DefOk fl cl kw mu 8 d_is_body D_is_body where
  at_ := rfl
  nm := rfl
  qual := rfl
  kwd := rfl
  sc := scB_ok (by decide +kernel)
  comp := ⟨60, 60, by kernel_rfl⟩
  look := by kernel_rfl
  binds := fun K f fd F => ⟨b_none (F.bindsN fun _ _ _ _ _ _ us hl => match us, hl with | [_, _], _ => rfl), no_kw rfl⟩
  cst := fun t ht => List.all_eq_true.mp (show (d_is_body.dvs.all constT) = true from rfl) t ht
theorem k_is_course_body : DefOk fl cl kw mu 9 d_is_course_body D_is_course_body where
  at_ := rfl
  nm := rfl
  qual := rfl
  kwd := rfl
  sc := scB_ok (by decide +kernel)
  comp := ⟨60, 60, by kernel_rfl⟩
  look := by kernel_rfl
  binds := fun K f fd F => ⟨b_none (F.bindsN fun _ _ _ _ _ _ us hl => match us, hl with | [_, _], _ => rfl), no_kw rfl⟩
  cst := fun t ht => List.all_eq_true.mp (show (d_is_course_body.dvs.all constT) = true from rfl) t ht
theorem k_asked_by : DefOk fl cl kw mu 10 d_asked_by D_asked_by where
  at_ := rfl
  nm := rfl
  qual := rfl
  kwd := rfl
  sc := scB_ok (by decide +kernel)
  comp := ⟨60, 60, by kernel_rfl⟩
  look := by kernel_rfl
  binds := fun K f fd F => ⟨b_none (F.bindsN fun _ _ _ _ _ _ us hl => match us, hl with | [_], _ => rfl), no_kw rfl⟩
  cst := fun t ht => List.all_eq_true.mp (show (d_asked_by.dvs.all constT) = true from rfl) t ht
theorem k_is_changing_body : DefOk fl cl kw mu 11 d_is_changing_body D_is_changing_body where
  at_ := rfl
  nm := rfl
  qual := rfl
  kwd := rfl
  sc := scB_ok (by decide +kernel)
  comp := ⟨60, 60, by kernel_rfl⟩
  look := by kernel_rfl
  binds := fun K f fd F => ⟨b_none (F.bindsN fun _ _ _ _ _ _ us hl => match us, hl with | [_], _ => rfl), no_kw rfl⟩
  cst := fun t ht => List.all_eq_true.mp (show (d_is_changing_body.dvs.all constT) = true from rfl) t ht
theorem k_is_mark : DefOk fl cl kw mu 12 d_is_mark D_is_mark where
  at_ := rfl
  nm := rfl
  qual := rfl
  kwd := rfl
  sc := scB_ok (by decide +kernel)
  comp := ⟨60, 60, by kernel_rfl⟩
  look := by kernel_rfl
  binds := fun K f fd F => ⟨b_none (F.bindsN fun _ _ _ _ _ _ us hl => match us, hl with | [_], _ => rfl), no_kw rfl⟩
  cst := fun t ht => List.all_eq_true.mp (show (d_is_mark.dvs.all constT) = true from rfl) t ht
theorem k_is_desks_letter : DefOk fl cl kw mu 13 d_is_desks_letter D_is_desks_letter where
  at_ := rfl
  nm := rfl
  qual := rfl
  kwd := rfl
  sc := scB_ok (by decide +kernel)
  comp := ⟨60, 60, by kernel_rfl⟩
  look := by kernel_rfl
  binds := fun K f fd F => ⟨b_none (F.bindsN fun _ _ _ _ _ _ us hl => match us, hl with | [_, _], _ => rfl), no_kw rfl⟩
  cst := fun t ht => List.all_eq_true.mp (show (d_is_desks_letter.dvs.all constT) = true from rfl) t ht
theorem k_is_agreeing : DefOk fl cl kw mu 14 d_is_agreeing D_is_agreeing where
  at_ := rfl
  nm := rfl
  qual := rfl
  kwd := rfl
  sc := scB_ok (by decide +kernel)
  comp := ⟨60, 60, by kernel_rfl⟩
  look := by kernel_rfl
  binds := fun K f fd F => ⟨b_none (F.bindsN fun _ _ _ _ _ _ us hl => match us, hl with | [_, _], _ => rfl), no_kw rfl⟩
  cst := fun t ht => List.all_eq_true.mp (show (d_is_agreeing.dvs.all constT) = true from rfl) t ht
theorem k_is_letter : DefOk fl cl kw mu 15 d_is_letter D_is_letter where
  at_ := rfl
  nm := rfl
  qual := rfl
  kwd := rfl
  sc := scB_ok (by decide +kernel)
  comp := ⟨60, 60, by kernel_rfl⟩
  look := by kernel_rfl
  binds := fun K f fd F => ⟨b_none (F.bindsN fun _ _ _ _ _ _ us hl => match us, hl with | [_, _], _ => rfl), fun q hq _ => by
      have e := List.mem_singleton.mp hq
      subst e
      exact ⟨⟨fun t ht => (by cases ht), rfl⟩, kb_none F _ _ _ fun _ _ _ _ _ _ us ws hl hw => match us, hl, ws, hw with | [_], _, [_], _ => rfl⟩⟩
  cst := fun t ht => List.all_eq_true.mp (show (d_is_letter.dvs.all constT) = true from rfl) t ht
theorem k_whose_letter : DefOk fl cl kw mu 16 d_whose_letter D_whose_letter where
  at_ := rfl
  nm := rfl
  qual := rfl
  kwd := rfl
  sc := scB_ok (by decide +kernel)
  comp := ⟨60, 60, by kernel_rfl⟩
  look := by kernel_rfl
  binds := fun K f fd F => ⟨b_none (F.bindsN fun _ _ _ _ _ _ us hl => match us, hl with | [_], _ => rfl), no_kw rfl⟩
  cst := fun t ht => List.all_eq_true.mp (show (d_whose_letter.dvs.all constT) = true from rfl) t ht
theorem k_hidden_choice : DefOk fl cl kw mu 17 d_hidden_choice D_hidden_choice where
  at_ := rfl
  nm := rfl
  qual := rfl
  kwd := rfl
  sc := scB_ok (by decide +kernel)
  comp := ⟨60, 60, by kernel_rfl⟩
  look := by kernel_rfl
  binds := fun K f fd F => ⟨b_none (F.bindsN fun _ _ _ _ _ _ us hl => match us, hl with | [_], _ => rfl), no_kw rfl⟩
  cst := fun t ht => List.all_eq_true.mp (show (d_hidden_choice.dvs.all constT) = true from rfl) t ht
theorem k_chained : DefOk fl cl kw mu 18 d_chained D_chained where
  at_ := rfl
  nm := rfl
  qual := rfl
  kwd := rfl
  sc := scB_ok (by decide +kernel)
  comp := ⟨60, 60, by kernel_rfl⟩
  look := by kernel_rfl
  binds := fun K f fd F => ⟨b_none (F.bindsN fun _ _ _ _ _ _ us hl => match us, hl with | [_, _], _ => rfl), no_kw rfl⟩
  cst := fun t ht => List.all_eq_true.mp (show (d_chained.dvs.all constT) = true from rfl) t ht
theorem k_sum_of : DefOk fl cl kw mu 19 d_sum_of D_sum_of where
  at_ := rfl
  nm := rfl
  qual := rfl
  kwd := rfl
  sc := scB_ok (by decide +kernel)
  comp := ⟨60, 60, by kernel_rfl⟩
  look := by kernel_rfl
  binds := fun K f fd F => ⟨b_none (F.bindsN fun _ _ _ _ _ _ us hl => match us, hl with | [_], _ => rfl), no_kw rfl⟩
  cst := fun t ht => List.all_eq_true.mp (show (d_sum_of.dvs.all constT) = true from rfl) t ht
theorem k_mark_of : DefOk fl cl kw mu 20 d_mark_of D_mark_of where
  at_ := rfl
  nm := rfl
  qual := rfl
  kwd := rfl
  sc := scB_ok (by decide +kernel)
  comp := ⟨60, 60, by kernel_rfl⟩
  look := by kernel_rfl
  binds := fun K f fd F => ⟨b_none (F.bindsN fun _ _ _ _ _ _ us hl => match us, hl with | [_], _ => rfl), no_kw rfl⟩
  cst := fun t ht => List.all_eq_true.mp (show (d_mark_of.dvs.all constT) = true from rfl) t ht
theorem k__law_box : DefOk fl cl kw mu 21 d__law_box D__law_box where
  at_ := rfl
  nm := rfl
  qual := rfl
  kwd := rfl
  sc := scB_ok (by decide +kernel)
  comp := ⟨60, 60, by kernel_rfl⟩
  look := by kernel_rfl
  binds := fun K f fd F => ⟨b_none (F.bindsN fun _ _ _ _ _ _ us hl => match us, hl with | [_, _], _ => rfl), no_kw rfl⟩
  cst := fun t ht => List.all_eq_true.mp (show (d__law_box.dvs.all constT) = true from rfl) t ht
theorem k__law_take : DefOk fl cl kw mu 22 d__law_take D__law_take where
  at_ := rfl
  nm := rfl
  qual := rfl
  kwd := rfl
  sc := scB_ok (by decide +kernel)
  comp := ⟨60, 60, by kernel_rfl⟩
  look := by kernel_rfl
  binds := fun K f fd F => ⟨b_none (F.bindsN fun _ _ _ _ _ _ us hl => match us, hl with | [_, _], _ => rfl), no_kw rfl⟩
  cst := fun t ht => List.all_eq_true.mp (show (d__law_take.dvs.all constT) = true from rfl) t ht
theorem k__law_pick : DefOk fl cl kw mu 23 d__law_pick D__law_pick where
  at_ := rfl
  nm := rfl
  qual := rfl
  kwd := rfl
  sc := scB_ok (by decide +kernel)
  comp := ⟨60, 60, by kernel_rfl⟩
  look := by kernel_rfl
  binds := fun K f fd F => ⟨b_none (F.bindsN fun _ _ _ _ _ _ us hl => match us, hl with | [_, _], _ => rfl), no_kw rfl⟩
  cst := fun t ht => List.all_eq_true.mp (show (d__law_pick.dvs.all constT) = true from rfl) t ht
theorem k__law_same : DefOk fl cl kw mu 24 d__law_same D__law_same where
  at_ := rfl
  nm := rfl
  qual := rfl
  kwd := rfl
  sc := scB_ok (by decide +kernel)
  comp := ⟨60, 60, by kernel_rfl⟩
  look := by kernel_rfl
  binds := fun K f fd F => ⟨b_none (F.bindsN fun _ _ _ _ _ _ us hl => match us, hl with | [_, _], _ => rfl), no_kw rfl⟩
  cst := fun t ht => List.all_eq_true.mp (show (d__law_same.dvs.all constT) = true from rfl) t ht
theorem k__law_chain : DefOk fl cl kw mu 25 d__law_chain D__law_chain where
  at_ := rfl
  nm := rfl
  qual := rfl
  kwd := rfl
  sc := scB_ok (by decide +kernel)
  comp := ⟨60, 60, by kernel_rfl⟩
  look := by kernel_rfl
  binds := fun K f fd F => ⟨b_none (F.bindsN fun _ _ _ _ _ _ us hl => match us, hl with | [_, _], _ => rfl), no_kw rfl⟩
  cst := fun t ht => List.all_eq_true.mp (show (d__law_chain.dvs.all constT) = true from rfl) t ht
theorem k__law_is_changing : DefOk fl cl kw mu 26 d__law_is_changing D__law_is_changing where
  at_ := rfl
  nm := rfl
  qual := rfl
  kwd := rfl
  sc := scB_ok (by decide +kernel)
  comp := ⟨60, 60, by kernel_rfl⟩
  look := by kernel_rfl
  binds := fun K f fd F => ⟨b_none (F.bindsN fun _ _ _ _ _ _ us hl => match us, hl with | [_], _ => rfl), no_kw rfl⟩
  cst := fun t ht => List.all_eq_true.mp (show (d__law_is_changing.dvs.all constT) = true from rfl) t ht
theorem k__law_is_number : DefOk fl cl kw mu 27 d__law_is_number D__law_is_number where
  at_ := rfl
  nm := rfl
  qual := rfl
  kwd := rfl
  sc := scB_ok (by decide +kernel)
  comp := ⟨60, 60, by kernel_rfl⟩
  look := by kernel_rfl
  binds := fun K f fd F => ⟨b_none (F.bindsN fun _ _ _ _ _ _ us hl => match us, hl with | [_, _, _], _ => rfl), no_kw rfl⟩
  cst := fun t ht => List.all_eq_true.mp (show (d__law_is_number.dvs.all constT) = true from rfl) t ht
theorem k__law_are_numbers : DefOk fl cl kw mu 28 d__law_are_numbers D__law_are_numbers where
  at_ := rfl
  nm := rfl
  qual := rfl
  kwd := rfl
  sc := scB_ok (by decide +kernel)
  comp := ⟨60, 60, by kernel_rfl⟩
  look := by kernel_rfl
  binds := fun K f fd F => ⟨b_none (F.bindsN fun _ _ _ _ _ _ us hl => match us, hl with | [_, _], _ => rfl), no_kw rfl⟩
  cst := fun t ht => List.all_eq_true.mp (show (d__law_are_numbers.dvs.all constT) = true from rfl) t ht
theorem k__law_starts : DefOk fl cl kw mu 29 d__law_starts D__law_starts where
  at_ := rfl
  nm := rfl
  qual := rfl
  kwd := rfl
  sc := scB_ok (by decide +kernel)
  comp := ⟨60, 60, by kernel_rfl⟩
  look := by kernel_rfl
  binds := fun K f fd F => ⟨b_none (F.bindsN fun _ _ _ _ _ _ us hl => match us, hl with | [_, _, _], _ => rfl), no_kw rfl⟩
  cst := fun t ht => List.all_eq_true.mp (show (d__law_starts.dvs.all constT) = true from rfl) t ht
theorem k__law_is_choice : DefOk fl cl kw mu 30 d__law_is_choice D__law_is_choice where
  at_ := rfl
  nm := rfl
  qual := rfl
  kwd := rfl
  sc := scB_ok (by decide +kernel)
  comp := ⟨60, 60, by kernel_rfl⟩
  look := by kernel_rfl
  binds := fun K f fd F => ⟨b_none (F.bindsN fun _ _ _ _ _ _ us hl => match us, hl with | [_], _ => rfl), no_kw rfl⟩
  cst := fun t ht => List.all_eq_true.mp (show (d__law_is_choice.dvs.all constT) = true from rfl) t ht
theorem k__law_is_body : DefOk fl cl kw mu 31 d__law_is_body D__law_is_body where
  at_ := rfl
  nm := rfl
  qual := rfl
  kwd := rfl
  sc := scB_ok (by decide +kernel)
  comp := ⟨60, 60, by kernel_rfl⟩
  look := by kernel_rfl
  binds := fun K f fd F => ⟨b_none (F.bindsN fun _ _ _ _ _ _ us hl => match us, hl with | [_, _], _ => rfl), no_kw rfl⟩
  cst := fun t ht => List.all_eq_true.mp (show (d__law_is_body.dvs.all constT) = true from rfl) t ht
theorem k__law_is_letter : DefOk fl cl kw mu 32 d__law_is_letter D__law_is_letter where
  at_ := rfl
  nm := rfl
  qual := rfl
  kwd := rfl
  sc := scB_ok (by decide +kernel)
  comp := ⟨60, 60, by kernel_rfl⟩
  look := by kernel_rfl
  binds := fun K f fd F => ⟨b_none (F.bindsN fun _ _ _ _ _ _ us hl => match us, hl with | [_, _], _ => rfl), no_kw rfl⟩
  cst := fun t ht => List.all_eq_true.mp (show (d__law_is_letter.dvs.all constT) = true from rfl) t ht
theorem k__law_some_body : DefOk fl cl kw mu 33 d__law_some_body D__law_some_body where
  at_ := rfl
  nm := rfl
  qual := rfl
  kwd := rfl
  sc := scB_ok (by decide +kernel)
  comp := ⟨60, 60, by kernel_rfl⟩
  look := by kernel_rfl
  binds := fun K f fd F => ⟨b_none (F.bindsN fun _ _ _ _ _ _ us hl => match us, hl with | [_, _], _ => rfl), no_kw rfl⟩
  cst := fun t ht => List.all_eq_true.mp (show (d__law_some_body.dvs.all constT) = true from rfl) t ht
theorem k__law_some_letter : DefOk fl cl kw mu 34 d__law_some_letter D__law_some_letter where
  at_ := rfl
  nm := rfl
  qual := rfl
  kwd := rfl
  sc := scB_ok (by decide +kernel)
  comp := ⟨60, 60, by kernel_rfl⟩
  look := by kernel_rfl
  binds := fun K f fd F => ⟨b_none (F.bindsN fun _ _ _ _ _ _ us hl => match us, hl with | [_, _], _ => rfl), no_kw rfl⟩
  cst := fun t ht => List.all_eq_true.mp (show (d__law_some_letter.dvs.all constT) = true from rfl) t ht
theorem k__law_turned : DefOk fl cl kw mu 35 d__law_turned D__law_turned where
  at_ := rfl
  nm := rfl
  qual := rfl
  kwd := rfl
  sc := scB_ok (by decide +kernel)
  comp := ⟨60, 60, by kernel_rfl⟩
  look := by kernel_rfl
  binds := fun K f fd F => ⟨b_none (F.bindsN fun _ _ _ _ _ _ us hl => match us, hl with | [_, _], _ => rfl), no_kw rfl⟩
  cst := fun t ht => List.all_eq_true.mp (show (d__law_turned.dvs.all constT) = true from rfl) t ht
theorem k_law : DefOk fl cl kw mu 36 d_law D_law where
  at_ := rfl
  nm := rfl
  qual := rfl
  kwd := rfl
  sc := scB_ok (by decide +kernel)
  comp := ⟨60, 60, by kernel_rfl⟩
  look := by kernel_rfl
  binds := fun K f fd F => ⟨b_none (F.bindsN fun _ _ _ _ _ _ us hl => match us, hl with | [_], _ => rfl), no_kw rfl⟩
  cst := fun t ht => List.all_eq_true.mp (show (d_law.dvs.all constT) = true from rfl) t ht
theorem k_all : ∀ (k : Nat) (d : FDef), tb[k]? = some d → ∃ D, fn[k]? = some D ∧ DefOk fl cl kw mu k d D
  | 0, d, h => by
    have e : some d_is_int = some d := h
    cases e
    exact ⟨_, rfl, k_is_int⟩
  | 1, d, h => by
    have e : some d_is_number = some d := h
    cases e
    exact ⟨_, rfl, k_is_number⟩
  | 2, d, h => by
    have e : some d_is_tuple = some d := h
    cases e
    exact ⟨_, rfl, k_is_tuple⟩
  | 3, d, h => by
    have e : some d_is_numbers = some d := h
    cases e
    exact ⟨_, rfl, k_is_numbers⟩
  | 4, d, h => by
    have e : some d_counted = some d := h
    cases e
    exact ⟨_, rfl, k_counted⟩
  | 5, d, h => by
    have e : some d_packed = some d := h
    cases e
    exact ⟨_, rfl, k_packed⟩
  | 6, d, h => by
    have e : some d_is_choice = some d := h
    cases e
    exact ⟨_, rfl, k_is_choice⟩
  | 7, d, h => by
    have e : some d_is_seen = some d := h
    cases e
    exact ⟨_, rfl, k_is_seen⟩
  | 8, d, h => by
    have e : some d_is_body = some d := h
    cases e
    exact ⟨_, rfl, k_is_body⟩
  | 9, d, h => by
    have e : some d_is_course_body = some d := h
    cases e
    exact ⟨_, rfl, k_is_course_body⟩
  | 10, d, h => by
    have e : some d_asked_by = some d := h
    cases e
    exact ⟨_, rfl, k_asked_by⟩
  | 11, d, h => by
    have e : some d_is_changing_body = some d := h
    cases e
    exact ⟨_, rfl, k_is_changing_body⟩
  | 12, d, h => by
    have e : some d_is_mark = some d := h
    cases e
    exact ⟨_, rfl, k_is_mark⟩
  | 13, d, h => by
    have e : some d_is_desks_letter = some d := h
    cases e
    exact ⟨_, rfl, k_is_desks_letter⟩
  | 14, d, h => by
    have e : some d_is_agreeing = some d := h
    cases e
    exact ⟨_, rfl, k_is_agreeing⟩
  | 15, d, h => by
    have e : some d_is_letter = some d := h
    cases e
    exact ⟨_, rfl, k_is_letter⟩
  | 16, d, h => by
    have e : some d_whose_letter = some d := h
    cases e
    exact ⟨_, rfl, k_whose_letter⟩
  | 17, d, h => by
    have e : some d_hidden_choice = some d := h
    cases e
    exact ⟨_, rfl, k_hidden_choice⟩
  | 18, d, h => by
    have e : some d_chained = some d := h
    cases e
    exact ⟨_, rfl, k_chained⟩
  | 19, d, h => by
    have e : some d_sum_of = some d := h
    cases e
    exact ⟨_, rfl, k_sum_of⟩
  | 20, d, h => by
    have e : some d_mark_of = some d := h
    cases e
    exact ⟨_, rfl, k_mark_of⟩
  | 21, d, h => by
    have e : some d__law_box = some d := h
    cases e
    exact ⟨_, rfl, k__law_box⟩
  | 22, d, h => by
    have e : some d__law_take = some d := h
    cases e
    exact ⟨_, rfl, k__law_take⟩
  | 23, d, h => by
    have e : some d__law_pick = some d := h
    cases e
    exact ⟨_, rfl, k__law_pick⟩
  | 24, d, h => by
    have e : some d__law_same = some d := h
    cases e
    exact ⟨_, rfl, k__law_same⟩
  | 25, d, h => by
    have e : some d__law_chain = some d := h
    cases e
    exact ⟨_, rfl, k__law_chain⟩
  | 26, d, h => by
    have e : some d__law_is_changing = some d := h
    cases e
    exact ⟨_, rfl, k__law_is_changing⟩
  | 27, d, h => by
    have e : some d__law_is_number = some d := h
    cases e
    exact ⟨_, rfl, k__law_is_number⟩
  | 28, d, h => by
    have e : some d__law_are_numbers = some d := h
    cases e
    exact ⟨_, rfl, k__law_are_numbers⟩
  | 29, d, h => by
    have e : some d__law_starts = some d := h
    cases e
    exact ⟨_, rfl, k__law_starts⟩
  | 30, d, h => by
    have e : some d__law_is_choice = some d := h
    cases e
    exact ⟨_, rfl, k__law_is_choice⟩
  | 31, d, h => by
    have e : some d__law_is_body = some d := h
    cases e
    exact ⟨_, rfl, k__law_is_body⟩
  | 32, d, h => by
    have e : some d__law_is_letter = some d := h
    cases e
    exact ⟨_, rfl, k__law_is_letter⟩
  | 33, d, h => by
    have e : some d__law_some_body = some d := h
    cases e
    exact ⟨_, rfl, k__law_some_body⟩
  | 34, d, h => by
    have e : some d__law_some_letter = some d := h
    cases e
    exact ⟨_, rfl, k__law_some_letter⟩
  | 35, d, h => by
    have e : some d__law_turned = some d := h
    cases e
    exact ⟨_, rfl, k__law_turned⟩
  | 36, d, h => by
    have e : some d_law = some d := h
    cases e
    exact ⟨_, rfl, k_law⟩
  | n + 37, d, h => by cases h
abbrev R : PySem.W.OpenRow := PySem.W.OpenLaw.row PySem.Challenge.rw_evenifothers_k55_letters_and_sums
abbrev hk : PySem.W.Hook := He.hookX 4 [] fn [] [] (exB cl fl)
def ob (s : PySem.W.SharedT) : He.AlX := He.obsX 4 [] fn [] [] (exB cl fl) (HandSHeadRun.getT s)
theorem ob_eq (s : PySem.W.SharedT) : ob s = hk.obs s.abs := He.obsX_eq (HandSHeadRun.getT_eq s)
abbrev loose : List Str := (["is_int", "is_number", "is_tuple", "is_numbers", "counted", "packed", "is_choice", "is_seen", "is_body", "is_course_body", "asked_by", "is_changing_body", "is_mark", "is_desks_letter", "is_agreeing", "is_letter", "whose_letter", "hidden_choice", "chained", "sum_of", "mark_of", "_law_box", "_law_take", "_law_pick", "_law_same", "_law_chain", "_law_is_changing", "_law_is_number", "_law_are_numbers", "_law_starts"] : List Str) ++ (["_law_is_choice", "_law_is_body", "_law_is_letter", "_law_some_body", "_law_some_letter", "_law_turned", "NONE", "NO", "YES", "UP", "DOWN", "TEXT", "ROW", "SIGNS", "HOUSE", "WORDS", "PRIME", "BASE"] : List Str)
theorem run (w : World) : HandSHeadRun.RunEq R (PySem.W.view R.prog [53]) hk ob 1500 loose w := by
  intro os
  kernel_rfl
end Ev.K55

namespace Ev.K55
open PySem L2 PySem.Spec PyProof.Rows Ev
theorem hfl : ∀ p ∈ fl, ∃ d, tb[p.2]? = some d := fun p hp => by
  have h : (fl.all fun p => Nat.blt p.2 tb.length) = true := by kernel_rfl
  have := Nat.le_of_ble_eq_true (List.all_eq_true.mp h p hp)
  exact ⟨_, List.getElem?_eq_getElem this⟩
theorem hun : ∀ p ∈ fl, fl.find? (fun q => q.2 == p.2) = some p := fun p hp => by
  have h : (fl.all fun p => decide (fl.find? (fun q => q.2 == p.2) = some p)) = true := by kernel_rfl
  exact of_decide_eq_true (List.all_eq_true.mp h p hp)
theorem facts {w : World} {h : Heap} {mg : Str → Option Value} {fa : Addr} {K : PySem.W.Frag} (KX : K.In h) (G : h.Ns mainGlobals mg) (hmg : mg ("law" : Str) = some (.ref fa)) (c : He.SaysX [] fn [] [] (exB cl fl) w h K) :
    ∃ fd : FuncData, (∀ (s : Shared) (v : Value), BindsTo s fd ⟨[v], []⟩ [("script", v)]) ∧ ∀ base : Heap, FnOk PySem.Challenge.pw_evenifothers_k55_letters_and_sums w K mg base (L2.CX PySem.Challenge.pw_evenifothers_k55_letters_and_sums w) 40 fa fd ["script"] (spE (pmOf K fl) tb 40 36) := by
  have Pg := prog_of KX G c hfl hun k_all
  obtain ⟨fd, F⟩ := (He.SaysT.d c.t).def_ 36 (d := D_law) rfl
  have b := FunD.bindsA (ps := ["script"]) F fun _ _ _ _ _ _ us hl => match us, hl with | [_], _ => rfl
  have e1 := (Pg.fns "law" 36 (by kernel_rfl)).1
  have e := hmg.symm.trans e1
  cases e
  refine ⟨fd, fun s v => b s [v] rfl, fun base => ?_⟩
  have ef : (pmOf K fl).fa 36 = He.fAd K D_law.at_ := pm_fa k_law.look
  have F' : FunD (pmOf K fl).K D_law.name D_law.qual D_law.params D_law.body D_law.scope (D_law.dvs K) (D_law.kws K) ((pmOf K fl).fa 36) fd := by rw [ef]; exact F
  exact ok_base (k := 36) (d := d_law) Pg 39 rfl F' base
end Ev.K55
open PySem PySem.W PySem.Calls PyProof.Rows
theorem PySem.Challenge.cw_evenifothers_k55_letters_and_sums_holds : PySem.Challenge.rw_evenifothers_k55_letters_and_sums.Holds := by
  w_on; o_law
  refine HandSHeadRun.head_any (r := Ev.K55.R) (q := view Ev.K55.R.prog [53]) (H := Ev.K55.hk) (ob := Ev.K55.ob) (M := 1500) (loose := Ev.K55.loose) (d := HandSHeadRun.topDef Ev.K55.R.prog 53) (kwd := []) Ev.K55.ob_eq
    (by kernel_rfl) (fun s => by kernel_rfl) Ev.K55.run (by kernel_rfl) (by kernel_rfl) (by kernel_rfl) (by rfl) (by first | assumption | decide +kernel) (by decide +kernel) ⟨rfl, rfl, rfl, rfl, rfl, by decide +kernel⟩ ?hw ?hc
  case hw => w_witness2
  case hc =>
    refine Ev.walkE (l := PySem.Challenge.rw_evenifothers_k55_letters_and_sums) (n := 63) (k := 40) (x := "script") rfl (by decide) (by kernel_rfl) ⟨rfl, by decide, by decide⟩ ?F
    intro w mg fa h Y G hmg0
    obtain ⟨K, KX, c⟩ := Y
    have hmg : mg ("law" : PySem.Str) = some (.ref fa) := by
      have e : (HandSHeadRun.topDef Ev.K55.R.prog 53).name = ("law" : PySem.Str) := by kernel_rfl
      rw [← e]
      exact hmg0
    obtain ⟨fd, hb, hF⟩ := Ev.K55.facts KX G hmg c
    exact ⟨K, fd, Ev.spE (Ev.pmOf K Ev.K55.fl) Ev.K55.tb 40 36, KX, hb, fun H a ns hl hS => Ev.sp_law (d := Ev.K55.d_law) rfl rfl hS (Ev.K55.plain ns hl), fun base _ _ => hF base⟩

