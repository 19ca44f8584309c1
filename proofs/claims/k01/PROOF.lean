import PyProof.Rows.All
import Wide.All
import OpenK.AllK
import Wide.FinOn
import HandS.ForMost
import HandS.ForExc
import HandS.TupAny
import HandS.TupMul
import HandS.Wide
import HandS.Style
import HandS.Deep
import HandS.SortInts
import HandS.Conv
import HandS.Zip
import HandS.IsInst
import HandS.Sort
import HandS.SetFor
import HandS.Strs
import HandS.Flow
import HandS.ExcOwn
import KE.GoesEnum
import HandS.Walk
import HandS.Comp
import HandS.Ends
import HandS.More
import HandS.Words
import HandS.WordsExc
import HandS.Defaults
import HandS.Head0
import HandS.Head1
import HandS.Head2
import HandS.HeadEnd
import HandS.HeadHook1
import HandS.HeadHook2
import HandS.HeadHook4
import PySem.Challenge.RW_setbyothers_k01_whole_whom_members_hear
set_option Elab.async false
set_option linter.all false
set_option maxRecDepth 100000
/-! A small language of values, its evaluator, and how it is run. -/
namespace Ev
open PySem (Str)

/-- a value: refs name cells of the store, all else is plain data -/
inductive D where
  | non | bl (b : Bool) | int (i : Int) | str (s : Str) | tup (l : List D) | lst (l : List D) | ref (k : Nat) | rng (lo hi : Int) | scr (l : List Int)
  deriving Inhabited

inductive Cell where
  | lst (l : List D)
  | gone
abbrev Store := List Cell
inductive R (α : Type) where
  | ok (a : α) (st : Store)
  | exc (x : Str) (st : Store)
  | bad
@[inline] def R.bind {α β : Type} (r : R α) (f : α → Store → R β) : R β :=
  match r with
  | .ok a st => f a st
  | .exc x st => .exc x st
  | .bad => .bad
/-- an exception is not told of -/
def R.calm {α : Type} (r : R α) : R α := match r with
  | .exc _ _ => .bad
  | r => r
def R.of {α : Type} (o : Option α) (st : Store) : R α := match o with
  | some a => .ok a st
  | none => .bad

/-! ### built-in functions -/
inductive Bf where
  | len | all | any | sum | tuple | list | abs | int | str | sortedSet | sorted | max1 | min1 | max2 | min2 | range1 | range2 | zip | enumerate
  deriving DecidableEq, Inhabited

/-- methods of lists -/
inductive Mth where
  | append | pop | extend
  deriving DecidableEq, Inhabited
mutual
inductive E where
  | bad
  | con (d : D)
  | var (i : Nat)
  | glob (x : Str)
  | tup (l : List E) | lst (l : List E) | cel (l : List E)
  | bin (op : PySem.Operator) (a b : E)
  | neg (a : E) | not (a : E)
  | and (a b : E) | or (a b : E)
  | cmp (op : PySem.CmpOp) (a b : E)
  | cmp2 (op op2 : PySem.CmpOp) (a b c : E)
  | ite (c a b : E)
  | call (f : Str) (args : List E)
  | blt (f : Bf) (args : List E)
  | isin (a : E) (ty : String)
  | ix (a b : E)
  | sl (a : E) (lo hi : Option E)
  | rev (a : E)
  | lc (elt : E) (gens : List G) (own : List Nat)
  | meth (m : Mth) (o : E) (args : List E)
inductive G where
  | mk (t : T) (it : E) (ifs : List E)
inductive T where
  | name (i : Nat) | tup (l : List T)
end
instance : Inhabited E := ⟨.bad⟩
inductive S where
  | bad
  | set (t : T) (e : E)
  | sub (o i e : E)
  | ex (e : E)
  | ret (e : E) | retN
  | cond (c : E) (a b : List S)
  | for (t : T) (it : E) (body : List S)
  | while (c : E) (body : List S)
  | raise (x : Str)
  | pass | brk | cont
instance : Inhabited S := ⟨.bad⟩

abbrev Env := List (Option D)

/-! ### data -/
mutual
def eqv : D → D → Bool
  | .non, .non => true
  | .bl a, .bl b => a == b
  | .bl a, .int j => (if a then 1 else 0) == j
  | .int i, .bl b => i == (if b then 1 else 0)
  | .int i, .int j => i == j
  | .str x, .str y => x == y
  | .tup xs, .tup ys => eqvs xs ys
  | .lst xs, .lst ys => eqvs xs ys
  | _, _ => false
def eqvs : List D → List D → Bool
  | [], [] => true
  | x :: xs, y :: ys => eqv x y && eqvs xs ys
  | _, _ => false
end
/-- plain data: nothing but none, boolsOf, intsOf, texts, tuples and lists, at most so deep -/
def isData : Nat → D → Bool
  | _, .non => true
  | _, .bl _ => true
  | _, .int _ => true
  | _, .str s => s.cps.all (· < 0x110000)
  | n + 1, .tup l => l.all (isData n)
  | n + 1, .lst l => l.all (isData n)
  | _, _ => false
/-- no ref from n on -/
def below (n : Nat) : Nat → D → Bool
  | _, .non => true
  | _, .bl _ => true
  | _, .int _ => true
  | _, .str _ => true
  | _, .rng _ _ => true
  | _, .scr _ => true
  | _, .ref k => decide (k < n)
  | f + 1, .tup l => l.all (below n f)
  | f + 1, .lst l => l.all (below n f)
  | 0, _ => false
def cellBelow (n : Nat) : Cell → Bool
  | .lst l => l.all (below n 40)
  | .gone => true

/-- the items of a list, pure or a cell -/
def seqL (d : D) (st : Store) : Option (List D) := match d with
  | .lst l => some l
  | .ref k => match st[k]? with
    | some (.lst l) => some l
    | _ => none
  | _ => none
/-- a cell read as the list that it is now -/
def deref (d : D) (st : Store) : D := match d with
  | .ref k => match st[k]? with
    | some (.lst l) => .lst l
    | _ => d
  | _ => d
def seqLT (d : D) (st : Store) : Option (List D) := match d with
  | .tup l => some l
  | _ => seqL d st
def truth (d : D) (st : Store) : Option Bool := match d with
  | .non => some false
  | .bl b => some b
  | .int i => some (i != 0)
  | .str s => if s.length ≤ 1000000 then some ((s.length : Int) != 0) else none
  | .tup l => some (!l.isEmpty)
  | .lst l => some (!l.isEmpty)
  | .ref k => match st[k]? with
    | some (.lst l) => some (!l.isEmpty)
    | _ => none
  | _ => none
def intsOf : List D → Option (List Int)
  | [] => some []
  | .int i :: r => match intsOf r with
    | some l => some (i :: l)
    | none => none
  | _ :: _ => none
def boolsOf : List D → Option (List Bool)
  | [] => some []
  | .bl i :: r => match boolsOf r with
    | some l => some (i :: l)
    | none => none
  | _ :: _ => none
def seqMax : Nat := 1000000

/-! ### operators -/
def binop (op : PySem.Operator) (a b : D) (st : Store) : R D := match op, a, b with
  | .Add, .int i, .int j => .ok (.int (i + j)) st
  | .Add, .str x, .str y => if x.length + y.length ≤ seqMax then .ok (.str (x ++ y)) st else .bad
  | .Add, .tup xs, .tup ys => if xs.length + ys.length ≤ seqMax then .ok (.tup (xs ++ ys)) st else .bad
  | .Add, _, _ => match seqL a st, seqL b st with
    | some xs, some ys => if xs.length + ys.length ≤ seqMax then .ok (.lst (xs ++ ys)) st else .bad
    | _, _ => .bad
  | .Sub, .int i, .int j => .ok (.int (i - j)) st
  | .Mult, .int i, .int j => if (decide (-(2 ^ 64) < i) && decide (i < 2 ^ 64)) || (decide (-(2 ^ 64) < j) && decide (j < 2 ^ 64)) || decide (i.natAbs.log2 + j.natAbs.log2 < 1000000) then .ok (.int (i * j)) st else .bad
  | .Mult, .tup xs, .int k => if xs.length ≤ 1000 ∧ xs.isEmpty = false ∧ 2 ≤ k ∧ k ≤ 1000 then .ok (.tup (List.replicate k.toNat xs).flatten) st else .bad
  | .Mult, .lst xs, .int k => if xs.length ≤ 1000 ∧ 0 ≤ k ∧ k ≤ 1000 then .ok (.lst (List.replicate k.toNat xs).flatten) st else .bad
  | .FloorDiv, .int i, .int j => if decide (0 < j) && decide (j.natAbs.log2 < 9000) then .ok (.int (i / j)) st else .bad
  | .Mod, .int i, .int j => if 0 < j then .ok (.int (i % j)) st else .bad
  | .Pow, .int i, .int j => if 0 ≤ j ∧ j ≤ 1000000 ∧ i.natAbs < 2 ^ 64 then .ok (.int (i ^ j.toNat)) st else .bad
  | _, _, _ => .bad
def lexLt : List Int → List Int → Bool := HT.lexLt
def isOp (a b : D) (st : Store) : Option Bool := match a, b with
  | .bl x, .bl y => some (decide (x = y))
  | .non, .non => some true
  | .bl _, .non => some false
  | .int _, .non => some false
  | .str _, .non => some false
  | .tup _, .non => some false
  | .lst _, .non => some false
  | .ref k, .non => match st[k]? with
    | some (.lst _) => some false
    | _ => none
  | _, _ => none
def cmpop (op : PySem.CmpOp) (a b : D) (st : Store) : R D := match op with
  | .Eq => let a := deref a st; let b := deref b st
    if isData 50 a && isData 50 b then .ok (.bl (eqv a b)) st else .bad
  | .NotEq => let a := deref a st; let b := deref b st
    if isData 50 a && isData 50 b then .ok (.bl (!eqv a b)) st else .bad
  | .Is => match isOp a b st with
    | some k => .ok (.bl k) st
    | none => .bad
  | .IsNot => match isOp a b st with
    | some k => .ok (.bl (!k)) st
    | none => .bad
  | .In => match seqLT b st with
    | some l => if isData 50 a && l.all (isData 50) then .ok (.bl (l.any fun z => eqv z a)) st else .bad
    | none => .bad
  | .NotIn => match seqLT b st with
    | some l => if isData 50 a && l.all (isData 50) then .ok (.bl (!l.any fun z => eqv z a)) st else .bad
    | none => .bad
  | .Lt => match a, b with
    | .int i, .int j => .ok (.bl (decide (i < j))) st
    | .tup xs, .tup ys => match intsOf xs, intsOf ys with
      | some ns, some ms => .ok (.bl (lexLt ns ms)) st
      | _, _ => .bad
    | _, _ => .bad
  | .LtE => match a, b with
    | .int i, .int j => .ok (.bl (decide (i ≤ j))) st
    | _, _ => .bad
  | .Gt => match a, b with
    | .int i, .int j => .ok (.bl (decide (j < i))) st
    | _, _ => .bad
  | .GtE => match a, b with
    | .int i, .int j => .ok (.bl (decide (j ≤ i))) st
    | _, _ => .bad
/-- insertion into a rising list without doubles -/
def insI (x : Int) : List Int → List Int
  | [] => [x]
  | y :: r => if x < y then x :: y :: r else if x = y then y :: r else y :: insI x r
def sortSet : List Int → List Int
  | [] => []
  | x :: r => insI x (sortSet r)
def insD (x : Int) : List Int → List Int
  | [] => [x]
  | y :: r => if x ≤ y then x :: y :: r else y :: insD x r
def sortI : List Int → List Int
  | [] => []
  | x :: r => insD x (sortI r)
def rangeL (lo : Int) : Nat → List D
  | 0 => []
  | n + 1 => .int lo :: rangeL (lo + 1) n
def enumL (i : Int) : List D → List D
  | [] => []
  | x :: r => .tup [.int i, x] :: enumL (i + 1) r
def zipL : List D → List D → List D
  | x :: r, y :: q => .tup [x, y] :: zipL r q
  | _, _ => []
/-- what a for walks -/
def itemsOf (d : D) (st : Store) : Option (List D) := match d with
  | .rng lo hi => if -1000000 ≤ lo ∧ lo ≤ 1000000 ∧ -1000000 ≤ hi ∧ hi ≤ 1000000 then some (rangeL lo (hi - lo).toNat) else none
  | .tup l => some l
  | .lst l => some l
  | _ => none
def int2 (g : Int → Int → D) (l : List D) (st : Store) : R D := match l with
  | [.int i, .int j] => .ok (g i j) st
  | _ => .bad
def maxI : List Int → Int
  | [] => 0
  | [x] => x
  | x :: y :: r => if x < maxI (y :: r) then maxI (y :: r) else x
def minI : List Int → Int
  | [] => 0
  | [x] => x
  | x :: y :: r => if minI (y :: r) < x then minI (y :: r) else x
def bltop (f : Bf) (args : List D) (st : Store) : R D := match f, args with
  | .len, [.str s] => if s.length ≤ seqMax then .ok (.int s.length) st else .bad
  | .len, [d] => match seqLT d st with
    | some l => .ok (.int l.length) st
    | none => .bad
  | .all, [d] => match seqL d st with
    | some l => match boolsOf l with
      | some bs => .ok (.bl (bs.all id)) st
      | none => .bad
    | none => .bad
  | .any, [d] => match seqL d st with
    | some l => match boolsOf l with
      | some bs => .ok (.bl (bs.any id)) st
      | none => .bad
    | none => .bad
  | .sum, [d] => match seqLT d st with
    | some l => match intsOf l with
      | some bs => .ok (.int bs.sum) st
      | none => .bad
    | none => .bad
  | .tuple, [.tup l] => .ok (.tup l) st
  | .tuple, [.rng lo hi] => if -1000000 ≤ lo ∧ lo ≤ 1000000 ∧ -1000000 ≤ hi ∧ hi ≤ 1000000 then .ok (.tup (rangeL lo (hi - lo).toNat)) st else .bad
  | .tuple, [d] => match seqL d st with
    | some l => .ok (.tup l) st
    | none => .bad
  | .list, [.scr l] => .ok (.lst (l.map D.int)) st
  | .list, [d] => match seqLT d st with
    | some l => .ok (.lst l) st
    | none => .bad
  | .abs, [.int i] => .ok (.int (if i < 0 then -i else i)) st
  | .int, [.int i] => .ok (.int i) st
  | .int, [.bl b] => .ok (.int (if b then 1 else 0)) st
  | .sortedSet, [d] => match seqLT d st with
    | some l => match intsOf l with
      | some ns => if ns.length < 1000 ∧ (sortSet ns).length < 64 then .ok (.lst ((sortSet ns).map D.int)) st else .bad
      | none => .bad
    | none => .bad
  | .sorted, [d] => match seqL d st with
    | some l => match intsOf l with
      | some ns => .ok (.lst ((sortI ns).map D.int)) st
      | none => .bad
    | none => .bad
  | .max1, [d] => match seqL d st with
    | some l => match intsOf l with
      | some ns => if ns.isEmpty then .bad else .ok (.int (maxI ns)) st
      | none => .bad
    | none => .bad
  | .min1, [d] => match seqL d st with
    | some l => match intsOf l with
      | some ns => if ns.isEmpty then .bad else .ok (.int (minI ns)) st
      | none => .bad
    | none => .bad
  | .max2, l => int2 (fun i j => .int (if j > i then j else i)) l st
  | .min2, l => int2 (fun i j => .int (if j < i then j else i)) l st
  | .range1, [.int n] => .ok (.rng 0 n) st
  | .range2, l => int2 (fun m n => .rng m n) l st
  | _, _ => .bad
/-- isinstance -/
def isinTy (t ty : String) : Bool := ty == t || (t == "bool" && ty == "int")
def isinop (d : D) (ty : String) (st : Store) : Option Bool := match d with
  | .non => some (isinTy "NoneType" ty)
  | .bl _ => some (isinTy "bool" ty)
  | .int _ => some (isinTy "int" ty)
  | .str _ => some (isinTy "str" ty)
  | .tup _ => some (isinTy "tuple" ty)
  | .lst _ => some (isinTy "list" ty)
  | .ref k => match st[k]? with
    | some (.lst _) => some (isinTy "list" ty)
    | _ => none
  | _ => none
def okTy (ty : String) : Bool := ty == "bool" || ty == "int" || ty == "str" || ty == "tuple" || ty == "list"
def ixN (n : Nat) (i : Int) : Option Nat := if 0 ≤ i then (if i < n then some i.toNat else none) else if -(n : Int) ≤ i then some (i + n).toNat else none
def atI (xs : List D) (i : Int) : Option D := (ixN xs.length i).bind fun j => xs[j]?
def ixop (a b : D) (st : Store) : R D := match b with
  | .int i => match seqLT a st with
    | some l => R.of (atI l i) st
    | none => .bad
  | _ => .bad
def sIx (n : Nat) (dflt : Nat) : Option Int → Nat := fun o => match o with
  | none => dflt
  | some i => if i < 0 then (i + n).toNat else min i.toNat n
def cut (xs : List D) (lo hi : Option Int) : List D := (xs.drop (sIx xs.length 0 lo)).take (sIx xs.length xs.length hi - sIx xs.length 0 lo)
def slop (a : D) (lo hi : Option Int) (st : Store) : R D := match a with
  | .tup l => .ok (.tup (cut l lo hi)) st
  | _ => match seqL a st with
    | some l => .ok (.lst (cut l lo hi)) st
    | none => .bad
def revop (a : D) (st : Store) : R D := match a with
  | .tup l => .ok (.tup l.reverse) st
  | _ => match seqL a st with
    | some l => .ok (.lst l.reverse) st
    | none => .bad

def liveC (o : D) (st : Store) : Bool := match o with
  | .ref k => match st[k]? with
    | some (.lst _) => true
    | _ => false
  | _ => false
/-- o.append(x), o.pop(), o.extend(x), o a cell -/
def methop (m : Mth) (o : D) (args : List D) (st : Store) : R D := match o with
  | .ref k => match st[k]? with
    | some (.lst l) => match m, args with
      | .append, [d] => if l.length < seqMax then .ok .non (st.set k (.lst (l ++ [d]))) else .bad
      | .pop, [] => match l[l.length - 1]? with
        | some d => .ok d (st.set k (.lst l.dropLast))
        | none => .bad
      | .extend, [.lst m] => if l.length + m.length ≤ seqMax then .ok .non (st.set k (.lst (l ++ m))) else .bad
      | _, _ => .bad
    | _ => .bad
  | _ => .bad

/-! ### the evaluator -/
abbrev Fns := Str → List D → Store → R D
abbrev Ex := E → Env → Store → R D
/-- the module's constants -/
abbrev Consts := List (Str × D)
def evs (rec : Ex) : List E → Env → Store → R (List D)
  | [], _, st => .ok [] st
  | e :: r, env, st => (rec e env st).bind fun d st1 => (evs rec r env st1).bind fun ds st2 => .ok (d :: ds) st2
def tests (rec : Ex) : List E → Env → Store → R Bool
  | [], _, st => .ok true st
  | [e], env, st => (rec e env st).bind fun d st1 => match truth d st1 with
    | some b => .ok b st1
    | none => .bad
  | _, _, _ => .bad
def wipeE (env : Env) : List Nat → Env
  | [] => env
  | v :: vs => (wipeE env vs).set v none
mutual
def bindT : T → D → Env → Option Env
  | .name i, d, env => if i < env.length then some (env.set i (some d)) else none
  | .tup ts, .tup ds, env => bindTs ts ds env
  | _, _, _ => none
def bindTs : List T → List D → Env → Option Env
  | [], [], env => some env
  | t :: ts, d :: ds, env => match bindT t d env with
    | some env1 => bindTs ts ds env1
    | none => none
  | _, _, _ => none
end
mutual
def slots : T → List Nat
  | .name i => [i]
  | .tup ts => slotss ts
def slotss : List T → List Nat
  | [] => []
  | t :: ts => slots t ++ slotss ts
end
/-- what is walked: the items -/
def evI (rec : Ex) (e : E) (env : Env) (st : Store) : R (List D) := match e with
  | .blt .zip [a, b] => (rec a env st).bind fun x st1 => (rec b env st1).bind fun y st2 => match x, y with
    | .tup xs, .tup ys => .ok (zipL xs ys) st2
    | .lst xs, .lst ys => .ok (zipL xs ys) st2
    | _, _ => .bad
  | .blt .enumerate [a] => (rec a env st).bind fun x st1 => match x with
    | .tup xs => .ok (enumL 0 xs) st1
    | .lst xs => .ok (enumL 0 xs) st1
    | _ => .bad
  | _ => (rec e env st).bind fun d st1 => R.of (itemsOf d st1) st1
def lcItems (one : D → Env → Store → R (List D)) : List D → Env → Store → R (List D)
  | [], _, st => .ok [] st
  | x :: r, env, st => (one x env st).bind fun ys st1 => (lcItems one r env st1).bind fun zs st2 => .ok (ys ++ zs) st2
/-- one turn of a comprehension's walk: what it adds -/
def lcOne (rec : Ex) (elt : E) : List G → T → List E → D → Env → Store → R (List D)
  | [], t, ifs, x, env, st => match bindT t x env with
    | none => .bad
    | some env1 => (tests rec ifs env1 st).bind fun b st1 =>
      if b = true then (rec elt env1 st1).bind fun y st2 => .ok [y] st2 else .ok [] st1
  | .mk t2 it2 ifs2 :: gs, t, ifs, x, env, st => match bindT t x env with
    | none => .bad
    | some env1 => (tests rec ifs env1 st).bind fun b st1 =>
      if b = true then (evI rec it2 env1 st1).bind fun xs st2 => lcItems (lcOne rec elt gs t2 ifs2) xs (wipeE env1 (slots t2)) st2 else .ok [] st1
def evStep (Φ : Fns) (cs : Consts) (rec : Ex) (e : E) (env : Env) (st : Store) : R D := match e with
  | .bad => .bad
  | .con d => .ok d st
  | .var i => match env[i]? with
    | some (some d) => .ok d st
    | _ => .bad
  | .glob x => R.of (cs.lookup x) st
  | .tup l => (evs rec l env st).bind fun ds st1 => .ok (.tup ds) st1
  | .lst l => (evs rec l env st).bind fun ds st1 => .ok (.lst ds) st1
  | .cel l => (evs rec l env st).bind fun ds st1 => .ok (.ref st1.length) (st1 ++ [.lst ds])
  | .bin op a b => (rec a env st).bind fun x st1 => (rec b env st1).bind fun y st2 => binop op x y st2
  | .neg a => (rec a env st).bind fun x st1 => match x with
    | .int i => .ok (.int (-i)) st1
    | _ => .bad
  | .not a => (rec a env st).bind fun x st1 => match truth x st1 with
    | some b => .ok (.bl (!b)) st1
    | none => .bad
  | .and a b => (rec a env st).bind fun x st1 => match truth x st1 with
    | some k => if k = true then rec b env st1 else .ok x st1
    | none => .bad
  | .or a b => (rec a env st).bind fun x st1 => match truth x st1 with
    | some k => if k = true then .ok x st1 else rec b env st1
    | none => .bad
  | .cmp op a b => (rec a env st).bind fun x st1 => (rec b env st1).bind fun y st2 => cmpop op x y st2
  | .cmp2 op op2 a b c => (rec a env st).bind fun x st1 => (rec b env st1).bind fun y st2 => (cmpop op x y st2).bind fun k st3 => match k with
    | .bl true => (rec c env st3).bind fun z st4 => cmpop op2 y z st4
    | .bl false => .ok (.bl false) st3
    | _ => .bad
  | .ite c a b => (rec c env st).bind fun x st1 => match truth x st1 with
    | some k => if k = true then rec a env st1 else rec b env st1
    | none => .bad
  | .call f args => (evs rec args env st).bind fun ds st1 => Φ f ds st1
  | .blt f args => (evs rec args env st).bind fun ds st1 => bltop f ds st1
  | .isin a ty => (rec a env st).bind fun x st1 => if okTy ty = true then R.of ((isinop x ty st1).map D.bl) st1 else .bad
  | .ix a b => (rec a env st).bind fun x st1 => (rec b env st1).bind fun y st2 => ixop x y st2
  | .sl a lo hi => (rec a env st).bind fun x st1 => (part rec lo env st1).bind fun l st2 => (part rec hi env st2).bind fun h st3 => slop x l h st3
  | .rev a => (rec a env st).bind fun x st1 => revop x st1
  | .lc elt (.mk t it ifs :: gs) own => (evI rec it env st).bind fun xs st1 => (lcItems (lcOne rec elt gs t ifs) xs (wipeE env own) st1).calm.bind fun ys st2 =>
      if ys.length ≤ seqMax then .ok (.lst ys) st2 else .bad
  | .lc _ [] _ => .bad
  | .meth m o args => (rec o env st).bind fun x st1 => if liveC x st1 = true then (evs rec args env st1).bind fun ds st2 => methop m x ds st2 else .bad
where
  part (rec : Ex) (o : Option E) (env : Env) (st : Store) : R (Option Int) := match o with
    | none => .ok none st
    | some e => (rec e env st).bind fun d st1 => match d with
      | .int i => .ok (some i) st1
      | _ => .bad
def ev (Φ : Fns) (cs : Consts) : Nat → Ex
  | 0 => fun _ _ _ => .bad
  | n + 1 => evStep Φ cs (ev Φ cs n)

/-! ### statements -/
inductive F where
  | next (env : Env) | ret (d : D) | brk (env : Env) | cont (env : Env)
abbrev Sx := S → Env → Store → R F
def exs (rec : Sx) : List S → Env → Store → R F
  | [], env, st => .ok (.next env) st
  | s :: r, env, st => (rec s env st).bind fun f st1 => match f with
    | .next env1 => exs rec r env1 st1
    | _ => .ok f st1
def forGo (body : Env → Store → R F) (t : T) : List D → Env → Store → R F
  | [], env, st => .ok (.next env) st
  | x :: r, env, st => match bindT t x env with
    | none => .bad
    | some env1 => (body env1 st).bind fun f st1 => match f with
      | .next env2 => forGo body t r env2 st1
      | .cont env2 => forGo body t r env2 st1
      | .brk env2 => .ok (.next env2) st1
      | .ret d => .ok (.ret d) st1
def whileGo (test : Env → Store → R D) (body : Env → Store → R F) : Nat → Env → Store → R F
  | 0, _, _ => .bad
  | n + 1, env, st => (test env st).bind fun d st1 => match truth d st1 with
    | none => .bad
    | some b => if b = true then (body env st1).bind fun f st2 => (match f with
        | .next env2 => whileGo test body n env2 st2
        | .cont env2 => whileGo test body n env2 st2
        | .brk env2 => .ok (.next env2) st2
        | .ret d => .ok (.ret d) st2) else .ok (.next env) st1
def setCell (st : Store) (k : Nat) (l : List D) : Store := st.set k (.lst l)
def subop (o i v : D) (st : Store) : Option Store := match o, i with
  | .ref k, .int i => match st[k]? with
    | some (.lst l) => match ixN l.length i with
      | some j => some (setCell st k (l.set j v))
      | none => none
    | _ => none
  | _, _ => none
def whileFuel : Nat := 1000000
def exStep (ee : Ex) (rec : Sx) (s : S) (env : Env) (st : Store) : R F := match s with
  | .bad => .bad
  | .set t e => (ee e env st).bind fun d st1 => match bindT t d env with
    | some env1 => .ok (.next env1) st1
    | none => .bad
  | .sub o i e => (ee e env st).bind fun d st1 => (ee o env st1).bind fun x st2 => (ee i env st2).bind fun y st3 => match subop x y d st3 with
    | some st4 => .ok (.next env) st4
    | none => .bad
  | .ex e => (ee e env st).bind fun _ st1 => .ok (.next env) st1
  | .ret e => (ee e env st).bind fun d st1 => .ok (.ret d) st1
  | .retN => .ok (.ret .non) st
  | .cond c a b => (ee c env st).bind fun x st1 => match truth x st1 with
    | some k => if k = true then exs rec a env st1 else exs rec b env st1
    | none => .bad
  | .for t it body => (evI ee it env st).bind fun xs st1 => forGo (exs rec body) t xs env st1
  | .while c body => whileGo (ee c) (exs rec body) whileFuel env st
  | .raise x => .exc x st
  | .pass => .ok (.next env) st
  | .brk => .ok (.brk env) st
  | .cont => .ok (.cont env) st
def ex (ee : Ex) : Nat → Sx
  | 0 => fun _ _ _ => .bad
  | n + 1 => exStep ee (ex ee n)

/-! ### defs -/
structure FD where
  ps : List Str
  N : List Str
  body : List S
  fuel : Nat := 40
def startE (d : FD) (args : List D) : Env := args.map some ++ List.replicate (d.N.length - args.length) none
def trunc (n : Nat) (v : D) (st : Store) : R D :=
  if st.length = n then .ok v st
  else if below n 40 v && (st.take n).all (cellBelow n) then .ok v (st.take n) else .ok v st
def endF (n : Nat) (r : R F) : R D := r.bind fun f st => match f with
  | .ret d => trunc n d st
  | .next _ => trunc n .non st
  | _ => .bad
def runF (Φ : Fns) (cs : Consts) (d : FD) (args : List D) (st : Store) : R D :=
  if args.length = d.ps.length then endF st.length (exs (ex (ev Φ cs d.fuel) d.fuel) d.body (startE d args) st) else .bad
abbrev Tab := List (Str × FD)
def lookF (tab : Tab) (f : Str) : Option FD := tab.lookup f
def phi (tab : Tab) (cs : Consts) : Nat → Fns
  | 0 => fun _ _ _ => .bad
  | n + 1 => fun f args st => match lookF tab f with
    | some d => runF (phi tab cs n) cs d args st
    | none => .bad
end Ev

set_option Elab.async false
set_option linter.all false
set_option maxRecDepth 100000
set_option maxHeartbeats 1000000
namespace Ev
open PySem PySem.Spec PyProof.Rows L2
/-- the cells' places, and the objects that a walk of the code at hand keeps for itself -/
structure Rho where
  cells : List (Option Addr)
  held : List Addr
variable {K : PySem.W.Frag}
def Rho.off (ρ : Rho) (a : Addr) : Prop := some a ∉ ρ.cells ∧ a ∉ ρ.held
def ScrR (K : PySem.W.Frag) (ρ : Rho) (H : Hp) (a : Addr) (l : List Int) : Prop :=
  (∃ o, H a = some (.frz o (.lst (l.map V.int))) ∧ ρ.off a) ∨ (∀ H, SqL K H a (l.map V.int))
mutual
def Rp (K : PySem.W.Frag) (ρ : Rho) (H : Hp) : D → V → Prop
  | .non, v => v = .non
  | .bl b, v => v = .bl b
  | .int i, v => v = .int i
  | .str s, v => v = .str s
  | .tup l, v => ∃ a vs, v = .ref a ∧ H a = some (.tup vs) ∧ ρ.off a ∧ Rps K ρ H l vs
  | .lst l, v => ∃ a vs, v = .ref a ∧ H a = some (.lst vs) ∧ ρ.off a ∧ Rps K ρ H l vs
  | .ref k, v => k < ρ.cells.length ∧ ∀ a, ρ.cells[k]? = some (some a) → v = .ref a
  | .rng lo hi, v => ∃ a, v = .ref a ∧ H a = some (.rng lo hi) ∧ ρ.off a
  | .scr l, v => ∃ a, v = .ref a ∧ ScrR K ρ H a l
def Rps (K : PySem.W.Frag) (ρ : Rho) (H : Hp) : List D → List V → Prop
  | [], vs => vs = []
  | d :: ds, vs => ∃ v r, vs = v :: r ∧ Rp K ρ H d v ∧ Rps K ρ H ds r
end
structure Ext (ρ : Rho) (H : Hp) (ρ' : Rho) (H' : Hp) : Prop where
  keep : ∀ a o, H a = some o → some a ∉ ρ.cells → H' a = some o
  there : ∀ a, H a ≠ none → H' a ≠ none
  len : ρ.cells.length ≤ ρ'.cells.length
  old : ∀ k : Nat, k < ρ.cells.length → ρ'.cells[k]? = ρ.cells[k]? ∨ ρ'.cells[k]? = some none
  new : ∀ (k : Nat) a, ρ.cells.length ≤ k → ρ'.cells[k]? = some (some a) → H a = none
  held : ρ'.held = ρ.held
theorem mem_ix {α : Type} {l : List α} {x : α} (h : x ∈ l) : ∃ k : Nat, l[k]? = some x := List.getElem?_of_mem h
theorem Ext.out {ρ ρ' : Rho} {H H' : Hp} (e : Ext ρ H ρ' H') {a : Addr} {o : HO} (h : H a = some o) (n : some a ∉ ρ.cells) : some a ∉ ρ'.cells := fun hm => by
  obtain ⟨k, hk⟩ := mem_ix hm
  by_cases hl : k < ρ.cells.length
  · rcases e.old k hl with q | q
    · rw [q] at hk; exact n (List.mem_of_getElem? hk)
    · rw [q] at hk; cases hk
  · have := e.new k a (Nat.le_of_not_lt hl) hk
    rw [h] at this; cases this
theorem Ext.notin {ρ ρ' : Rho} {H H' : Hp} (e : Ext ρ H ρ' H') {a : Addr} {o : HO} (h : H a = some o) (n : ρ.off a) : ρ'.off a :=
  ⟨e.out h n.1, by rw [e.held]; exact n.2⟩
theorem Ext.refl (ρ : Rho) (H : Hp) : Ext ρ H ρ H :=
  ⟨fun _ _ h _ => h, fun _ h => h, Nat.le_refl _, fun _ _ => .inl rfl, fun k a hk h => (by rw [List.getElem?_eq_none hk] at h; cases h), rfl⟩
theorem Ext.trans {ρ ρ1 ρ2 : Rho} {H H1 H2 : Hp} (a : Ext ρ H ρ1 H1) (b : Ext ρ1 H1 ρ2 H2) : Ext ρ H ρ2 H2 := by
  refine ⟨fun x o h n => b.keep x o (a.keep x o h n) (a.out h n), fun x h => b.there x (a.there x h), Nat.le_trans a.len b.len, fun k hk => ?_, fun k x hk h => ?_, b.held.trans a.held⟩
  · rcases b.old k (Nat.lt_of_lt_of_le hk a.len) with q | q
    · rcases a.old k hk with p | p
      · exact .inl (q.trans p)
      · exact .inr (q.trans p)
    · exact .inr q
  · by_cases hl : k < ρ1.cells.length
    · rcases b.old k hl with q | q
      · exact a.new k x hk (q.symm.trans h)
      · rw [q] at h; cases h
    · have z := b.new k x (Nat.le_of_not_lt hl) h
      cases q : H x with
      | none => rfl
      | some o => exact absurd z (a.there x (by rw [q]; simp))
/-- what a value's relation needs of two states -/
structure Move (ρ : Rho) (H : Hp) (ρ' : Rho) (H' : Hp) : Prop where
  keep : ∀ a o, H a = some o → ρ.off a → H' a = some o ∧ ρ'.off a
  len : ρ.cells.length ≤ ρ'.cells.length
  old : ∀ k : Nat, k < ρ.cells.length → ρ'.cells[k]? = ρ.cells[k]? ∨ ρ'.cells[k]? = some none
theorem Ext.move {ρ ρ' : Rho} {H H' : Hp} (e : Ext ρ H ρ' H') : Move ρ H ρ' H' := ⟨fun a o h n => ⟨e.keep a o h n.1, e.notin h n⟩, e.len, e.old⟩
mutual
theorem Rp.move {ρ ρ' : Rho} {H H' : Hp} (e : Move ρ H ρ' H') : ∀ (d : D) (v : V), Rp K ρ H d v → Rp K ρ' H' d v
  | .non, _, h => h
  | .bl _, _, h => h
  | .int _, _, h => h
  | .str _, _, h => h
  | .tup l, _, ⟨a, vs, h1, h2, h3, h4⟩ => ⟨a, vs, h1, (e.keep a _ h2 h3).1, (e.keep a _ h2 h3).2, Rps.move e l vs h4⟩
  | .lst l, _, ⟨a, vs, h1, h2, h3, h4⟩ => ⟨a, vs, h1, (e.keep a _ h2 h3).1, (e.keep a _ h2 h3).2, Rps.move e l vs h4⟩
  | .ref k, v, ⟨h1, h2⟩ => ⟨Nat.lt_of_lt_of_le h1 e.len, fun a ha => by
    rcases e.old k h1 with q | q
    · exact h2 a (q.symm.trans ha)
    · rw [q] at ha; cases ha⟩
  | .rng lo hi, _, ⟨a, h1, h2, h3⟩ => ⟨a, h1, (e.keep a _ h2 h3).1, (e.keep a _ h2 h3).2⟩
  | .scr l, _, ⟨a, h1, h2⟩ => ⟨a, h1, by
    rcases h2 with ⟨o, q, n⟩ | q
    · exact .inl ⟨o, (e.keep a _ q n).1, (e.keep a _ q n).2⟩
    · exact .inr q⟩
theorem Rps.move {ρ ρ' : Rho} {H H' : Hp} (e : Move ρ H ρ' H') : ∀ (l : List D) (vs : List V), Rps K ρ H l vs → Rps K ρ' H' l vs
  | [], _, h => h
  | d :: ds, _, ⟨v, r, h1, h2, h3⟩ => ⟨v, r, h1, Rp.move e d v h2, Rps.move e ds r h3⟩
end
theorem Rp.ext {ρ ρ' : Rho} {H H' : Hp} (e : Ext ρ H ρ' H') (d : D) (v : V) (h : Rp K ρ H d v) : Rp K ρ' H' d v := h.move e.move
theorem Rps.ext {ρ ρ' : Rho} {H H' : Hp} (e : Ext ρ H ρ' H') (l : List D) (vs : List V) (h : Rps K ρ H l vs) : Rps K ρ' H' l vs := h.move e.move

/-! ### lists of related values -/
theorem Rps.length {ρ : Rho} {H : Hp} : ∀ {l : List D} {vs : List V}, Rps K ρ H l vs → l.length = vs.length
  | [], _, h => by cases (show _ = [] from h); rfl
  | d :: ds, _, ⟨v, r, h1, _, h3⟩ => by subst h1; simp [Rps.length h3]
theorem Rps.get {ρ : Rho} {H : Hp} : ∀ {l : List D} {vs : List V} {i : Nat} {d : D}, Rps K ρ H l vs → l[i]? = some d → ∃ v, vs[i]? = some v ∧ Rp K ρ H d v
  | [], _, _, _, _, e => by simp at e
  | d :: ds, _, 0, x, ⟨v, r, h1, h2, _⟩, e => by
    simp at e; subst e; subst h1
    exact ⟨v, rfl, h2⟩
  | d :: ds, _, i + 1, x, ⟨v, r, h1, _, h3⟩, e => by
    subst h1
    obtain ⟨w, h4, h5⟩ := Rps.get (i := i) h3 (by simpa using e)
    exact ⟨w, by simpa using h4, h5⟩
theorem Rps.append {ρ : Rho} {H : Hp} : ∀ {l m : List D} {vs ws : List V}, Rps K ρ H l vs → Rps K ρ H m ws → Rps K ρ H (l ++ m) (vs ++ ws)
  | [], _, _, _, h, k => by cases (show _ = [] from h); exact k
  | d :: ds, _, _, _, ⟨v, r, h1, h2, h3⟩, k => by
    subst h1
    exact ⟨v, r ++ _, rfl, h2, Rps.append h3 k⟩
theorem Rps.nil {ρ : Rho} {H : Hp} : Rps K ρ H [] [] := rfl
theorem Rps.cons {ρ : Rho} {H : Hp} {d : D} {ds : List D} {v : V} {vs : List V} (h : Rp K ρ H d v) (k : Rps K ρ H ds vs) : Rps K ρ H (d :: ds) (v :: vs) := ⟨v, vs, rfl, h, k⟩
theorem Rps.take {ρ : Rho} {H : Hp} : ∀ (n : Nat) {l : List D} {vs : List V}, Rps K ρ H l vs → Rps K ρ H (l.take n) (vs.take n)
  | 0, _, _, _ => by simp [Rps]
  | n + 1, [], _, h => by cases (show _ = [] from h); rfl
  | n + 1, d :: ds, _, ⟨v, r, h1, h2, h3⟩ => by
    subst h1
    exact ⟨v, r.take n, rfl, h2, Rps.take n h3⟩
theorem Rps.drop {ρ : Rho} {H : Hp} : ∀ (n : Nat) {l : List D} {vs : List V}, Rps K ρ H l vs → Rps K ρ H (l.drop n) (vs.drop n)
  | 0, _, _, h => h
  | n + 1, [], _, h => by cases (show _ = [] from h); rfl
  | n + 1, d :: ds, _, ⟨v, r, h1, h2, h3⟩ => by
    subst h1
    exact Rps.drop n h3
theorem Rps.reverse {ρ : Rho} {H : Hp} : ∀ {l : List D} {vs : List V}, Rps K ρ H l vs → Rps K ρ H l.reverse vs.reverse
  | [], _, h => by cases (show _ = [] from h); rfl
  | d :: ds, _, ⟨v, r, h1, h2, h3⟩ => by
    subst h1
    rw [List.reverse_cons, List.reverse_cons]
    exact Rps.append (Rps.reverse h3) (.cons h2 .nil)
theorem Rps.rep {ρ : Rho} {H : Hp} {l : List D} {vs : List V} (h : Rps K ρ H l vs) : ∀ n : Nat, Rps K ρ H (List.replicate n l).flatten (List.replicate n vs).flatten
  | 0 => rfl
  | n + 1 => by
    rw [List.replicate_succ, List.replicate_succ, List.flatten_cons, List.flatten_cons]
    exact Rps.append h (Rps.rep h n)
theorem Rps.set {ρ : Rho} {H : Hp} {d : D} {v : V} (hd : Rp K ρ H d v) : ∀ (i : Nat) {l : List D} {vs : List V}, Rps K ρ H l vs → Rps K ρ H (l.set i d) (vs.set i v)
  | _, [], _, h => by cases (show _ = [] from h); rfl
  | 0, x :: ds, _, ⟨w, r, h1, h2, h3⟩ => by subst h1; exact ⟨v, r, rfl, hd, h3⟩
  | i + 1, x :: ds, _, ⟨w, r, h1, h2, h3⟩ => by subst h1; exact ⟨w, _, rfl, h2, Rps.set hd i h3⟩
theorem intsOf_ok {ρ : Rho} {H : Hp} : ∀ {l : List D} {vs : List V} {ns : List Int}, Rps K ρ H l vs → intsOf l = some ns → vs = ns.map V.int
  | [], _, _, h, e => by cases (show _ = [] from h); cases e; rfl
  | .int i :: ds, _, ns, ⟨v, r, h1, h2, h3⟩, e => by
    unfold intsOf at e
    cases q : intsOf ds with
    | none => rw [q] at e; cases e
    | some ms =>
      rw [q] at e; cases e
      subst h1
      cases (show v = .int i from h2)
      rw [intsOf_ok h3 q]; rfl
  | .non :: _, _, _, _, e => by cases e
  | .bl _ :: _, _, _, _, e => by cases e
  | .str _ :: _, _, _, _, e => by cases e
  | .tup _ :: _, _, _, _, e => by cases e
  | .lst _ :: _, _, _, _, e => by cases e
  | .ref _ :: _, _, _, _, e => by cases e
  | .rng _ _ :: _, _, _, _, e => by cases e
  | .scr _ :: _, _, _, _, e => by cases e
theorem boolsOf_ok {ρ : Rho} {H : Hp} : ∀ {l : List D} {vs : List V} {ns : List Bool}, Rps K ρ H l vs → boolsOf l = some ns → vs = ns.map V.bl
  | [], _, _, h, e => by cases (show _ = [] from h); cases e; rfl
  | .bl i :: ds, _, ns, ⟨v, r, h1, h2, h3⟩, e => by
    unfold boolsOf at e
    cases q : boolsOf ds with
    | none => rw [q] at e; cases e
    | some ms =>
      rw [q] at e; cases e
      subst h1
      cases (show v = .bl i from h2)
      rw [boolsOf_ok h3 q]; rfl
  | .non :: _, _, _, _, e => by cases e
  | .int _ :: _, _, _, _, e => by cases e
  | .str _ :: _, _, _, _, e => by cases e
  | .tup _ :: _, _, _, _, e => by cases e
  | .lst _ :: _, _, _, _, e => by cases e
  | .ref _ :: _, _, _, _, e => by cases e
  | .rng _ _ :: _, _, _, _, e => by cases e
  | .scr _ :: _, _, _, _, e => by cases e
theorem Rps.ints {ρ : Rho} {H : Hp} : ∀ ns : List Int, Rps K ρ H (ns.map D.int) (ns.map V.int)
  | [] => rfl
  | n :: ns => ⟨.int n, _, rfl, rfl, Rps.ints ns⟩

/-! ### the store -/
structure StR (K : PySem.W.Frag) (ρ : Rho) (H : Hp) (st : Store) : Prop where
  len : st.length = ρ.cells.length
  cell : ∀ (k : Nat) a, ρ.cells[k]? = some (some a) → ∃ l vs, st[k]? = some (.lst l) ∧ H a = some (.lst vs) ∧ Rps K ρ H l vs
  inj : ∀ (j k : Nat) a, ρ.cells[j]? = some (some a) → ρ.cells[k]? = some (some a) → j = k
  back : ∀ (k : Nat) l, st[k]? = some (.lst l) → ∃ a, ρ.cells[k]? = some (some a)
  hold : ∀ a ∈ ρ.held, H a ≠ none ∧ some a ∉ ρ.cells
structure EnvR (K : PySem.W.Frag) (ρ : Rho) (H : Hp) (env : Env) (σ : L2.St) : Prop where
  len : env.length = σ.length
  get : ∀ (i : Nat) d, env[i]? = some (some d) → ∃ v, σ[i]? = some (some v) ∧ Rp K ρ H d v
theorem EnvR.move {ρ ρ' : Rho} {H H' : Hp} {env : Env} {σ : L2.St} (r : EnvR K ρ H env σ) (e : Move ρ H ρ' H') : EnvR K ρ' H' env σ :=
  ⟨r.len, fun i d h => let ⟨v, h1, h2⟩ := r.get i d h; ⟨v, h1, h2.move e⟩⟩
theorem EnvR.ext {ρ ρ' : Rho} {H H' : Hp} {env : Env} {σ : L2.St} (r : EnvR K ρ H env σ) (e : Ext ρ H ρ' H') : EnvR K ρ' H' env σ := r.move e.move
theorem StR.live {ρ : Rho} {H : Hp} {st : Store} (r : StR K ρ H st) {a : Addr} (h : some a ∈ ρ.cells) : H a ≠ none := by
  obtain ⟨k, hk⟩ := mem_ix h
  obtain ⟨_, _, _, e, _⟩ := r.cell k a hk
  rw [e]; simp
theorem StR.free {ρ : Rho} {H : Hp} {st : Store} (r : StR K ρ H st) {p : Addr} (h : H p = none) : ρ.off p := ⟨fun hm => r.live hm h, fun hm => (r.hold p hm).1 h⟩
theorem upd_there {H : Hp} {p : Addr} {o : HO} {a : Addr} (h : H a ≠ none) : upd H p o a ≠ none := by
  unfold upd; split
  · simp
  · exact h
/-- a new object that is no cell -/
theorem StR.laid {ρ : Rho} {H : Hp} {st : Store} {p : Addr} {o : HO} (r : StR K ρ H st) (h : H p = none) : Ext ρ H ρ (upd H p o) ∧ StR K ρ (upd H p o) st ∧ ρ.off p := by
  have e : Ext ρ H ρ (upd H p o) := by
    refine ⟨fun a x hx _ => ?_, fun a ha => upd_there ha, Nat.le_refl _, fun _ _ => .inl rfl, fun k a hk hh => (by rw [List.getElem?_eq_none hk] at hh; cases hh), rfl⟩
    rw [upd_ne (ne_of_none hx h)]; exact hx
  refine ⟨e, ⟨r.len, fun k a hk => ?_, r.inj, r.back, fun a ha => ⟨upd_there (r.hold a ha).1, (r.hold a ha).2⟩⟩, r.free h⟩
  obtain ⟨l, vs, h1, h2, h3⟩ := r.cell k a hk
  refine ⟨l, vs, h1, ?_, h3.ext e l vs⟩
  rw [upd_ne (ne_of_none h2 h)]; exact h2
abbrev Rho.add (ρ : Rho) (p : Addr) : Rho := ⟨ρ.cells ++ [some p], ρ.held⟩
/-- a new cell -/
theorem StR.cellNew {ρ : Rho} {H : Hp} {st : Store} {p : Addr} {l : List D} {vs : List V} (r : StR K ρ H st) (h : H p = none) (hl : Rps K ρ H l vs) :
    Ext ρ H (ρ.add p) (upd H p (.lst vs)) ∧ StR K (ρ.add p) (upd H p (.lst vs)) (st ++ [.lst l]) := by
  have e : Ext ρ H (ρ.add p) (upd H p (.lst vs)) := by
    refine ⟨fun a x hx _ => ?_, fun a ha => upd_there ha, by simp, fun k hk => .inl (List.getElem?_append_left hk), fun k a hk hh => ?_, rfl⟩
    · rw [upd_ne (ne_of_none hx h)]; exact hx
    · rw [List.getElem?_append_right hk] at hh
      have : k - ρ.cells.length = 0 := by
        cases q : k - ρ.cells.length with
        | zero => rfl
        | succ n => rw [q] at hh; simp at hh
      rw [this] at hh; simp at hh; rw [← hh]; exact h
  refine ⟨e, ⟨by simp [r.len], fun k a hk => ?_, fun j k a hj hk => ?_, fun k m hk => ?_, fun a ha => ⟨upd_there (r.hold a ha).1, fun hm => ?_⟩⟩⟩
  · by_cases hl' : k < ρ.cells.length
    · rw [List.getElem?_append_left hl'] at hk
      obtain ⟨m, ws, h1, h2, h3⟩ := r.cell k a hk
      refine ⟨m, ws, ?_, ?_, h3.ext e m ws⟩
      · rw [List.getElem?_append_left (by rw [r.len]; exact hl')]; exact h1
      · rw [upd_ne (ne_of_none h2 h)]; exact h2
    · have hk' := hk
      rw [List.getElem?_append_right (Nat.le_of_not_lt hl')] at hk'
      have q : k = ρ.cells.length := by
        cases q : k - ρ.cells.length with
        | zero => omega
        | succ n => rw [q] at hk'; simp at hk'
      subst q
      simp at hk'
      subst hk'
      refine ⟨l, vs, ?_, upd_same, hl.ext e l vs⟩
      rw [← r.len]; simp
  · have key : ∀ (i : Nat), (ρ.cells ++ [some p])[i]? = some (some a) → (i < ρ.cells.length ∧ ρ.cells[i]? = some (some a)) ∨ (i = ρ.cells.length ∧ a = p) := fun i hi => by
      by_cases hl' : i < ρ.cells.length
      · rw [List.getElem?_append_left hl'] at hi; exact .inl ⟨hl', hi⟩
      · rw [List.getElem?_append_right (Nat.le_of_not_lt hl')] at hi
        have q : i = ρ.cells.length := by
          cases q : i - ρ.cells.length with
          | zero => omega
          | succ n => rw [q] at hi; simp at hi
        subst q
        simp at hi
        exact .inr ⟨rfl, hi.symm⟩
    rcases key j hj with ⟨h1, h2⟩ | ⟨h1, h2⟩ <;> rcases key k hk with ⟨h3, h4⟩ | ⟨h3, h4⟩
    · exact r.inj j k a h2 h4
    · subst h4; exact absurd (List.mem_of_getElem? h2) (r.free h).1
    · subst h2; exact absurd (List.mem_of_getElem? h4) (r.free h).1
    · rw [h1, h3]
  · by_cases hl' : k < st.length
    · rw [List.getElem?_append_left hl'] at hk
      obtain ⟨a, ha⟩ := r.back k m hk
      exact ⟨a, by rw [List.getElem?_append_left (by rw [← r.len]; exact hl')]; exact ha⟩
    · rw [List.getElem?_append_right (Nat.le_of_not_lt hl')] at hk
      have q : k = st.length := by
        cases q : k - st.length with
        | zero => omega
        | succ n => rw [q] at hk; simp at hk
      exact ⟨p, by rw [q, r.len]; simp⟩
  · rcases List.mem_append.mp hm with z | z
    · exact (r.hold a ha).2 z
    · have : a = p := by simpa using z
      exact (r.hold a ha).1 (by rw [this]; exact h)
/-- a cell written -/
theorem StR.write {ρ : Rho} {H : Hp} {st : Store} {k : Nat} {a : Addr} {l : List D} {vs : List V} (r : StR K ρ H st) (hk : ρ.cells[k]? = some (some a)) (hl : Rps K ρ H l vs) :
    Ext ρ H ρ (upd H a (.lst vs)) ∧ StR K ρ (upd H a (.lst vs)) (setCell st k l) := by
  have e : Ext ρ H ρ (upd H a (.lst vs)) := by
    refine ⟨fun b x hx hn => ?_, fun b hb => upd_there hb, Nat.le_refl _, fun _ _ => .inl rfl, fun j b hj hh => (by rw [List.getElem?_eq_none hj] at hh; cases hh), rfl⟩
    rw [upd_ne (fun z => hn (by rw [z]; exact List.mem_of_getElem? hk))]; exact hx
  refine ⟨e, ⟨by unfold setCell; simp [r.len], fun j b hj => ?_, r.inj, fun j m hj => ?_, fun b hb => ⟨upd_there (r.hold b hb).1, (r.hold b hb).2⟩⟩⟩
  · by_cases q : j = k
    · subst q
      rw [hk] at hj; cases hj
      refine ⟨l, vs, ?_, upd_same, hl.ext e l vs⟩
      unfold setCell
      obtain ⟨m, _, h1, _⟩ := r.cell j a hk
      rw [List.getElem?_set_self (List.getElem?_eq_some_iff.mp h1).1]
    · obtain ⟨m, ws, h1, h2, h3⟩ := r.cell j b hj
      refine ⟨m, ws, ?_, ?_, h3.ext e m ws⟩
      · unfold setCell; rw [List.getElem?_set_ne (fun z => q z.symm)]; exact h1
      · rw [upd_ne (fun z => q (r.inj j k b hj (by rw [z]; exact hk)))]; exact h2
  · by_cases q : j = k
    · exact ⟨a, by rw [q]; exact hk⟩
    · unfold setCell at hj
      rw [List.getElem?_set_ne (fun z => q z.symm)] at hj
      exact r.back j m hj
/-! ### an object held -/
abbrev Rho.take (ρ : Rho) (n : Nat) : Rho := ⟨ρ.cells.take n, ρ.held⟩
abbrev Rho.grip (ρ : Rho) (p : Addr) : Rho := ⟨ρ.cells, p :: ρ.held⟩
theorem Move.grip {ρ : Rho} {H : Hp} {p : Addr} {o : HO} (h : H p = none) : Move ρ H (ρ.grip p) (upd H p o) :=
  ⟨fun a x hx n => ⟨by rw [upd_ne (ne_of_none hx h)]; exact hx, n.1, fun hm => by
    rcases List.mem_cons.mp hm with z | z
    · rw [z] at hx; rw [h] at hx; cases hx
    · exact n.2 z⟩, Nat.le_refl _, fun _ _ => .inl rfl⟩
theorem Move.loose {ρ : Rho} {H : Hp} {p : Addr} : Move (ρ.grip p) H ρ H := ⟨fun a x hx n => ⟨hx, n.1, fun hm => n.2 (List.mem_cons_of_mem _ hm)⟩, Nat.le_refl _, fun _ _ => .inl rfl⟩
theorem Move.put {ρ : Rho} {H : Hp} {p : Addr} {o : HO} (hp : p ∈ ρ.held) : Move ρ H ρ (upd H p o) :=
  ⟨fun a x hx n => ⟨by rw [upd_ne (fun z => n.2 (by rw [z]; exact hp))]; exact hx, n⟩, Nat.le_refl _, fun _ _ => .inl rfl⟩
theorem StR.grip {ρ : Rho} {H : Hp} {st : Store} {p : Addr} {o : HO} (r : StR K ρ H st) (h : H p = none) : StR K (ρ.grip p) (upd H p o) st := by
  refine ⟨r.len, fun k a hk => ?_, r.inj, r.back, fun a ha => ?_⟩
  · obtain ⟨l, vs, h1, h2, h3⟩ := r.cell k a hk
    exact ⟨l, vs, h1, by rw [upd_ne (ne_of_none h2 h)]; exact h2, h3.move (.grip h)⟩
  · rcases List.mem_cons.mp ha with z | z
    · rw [z, upd_same]; exact ⟨by simp, (r.free h).1⟩
    · exact ⟨upd_there (r.hold a z).1, (r.hold a z).2⟩
theorem StR.loose {ρ : Rho} {H : Hp} {st : Store} {p : Addr} (r : StR K (ρ.grip p) H st) : StR K ρ H st :=
  ⟨r.len, fun k a hk => let ⟨l, vs, h1, h2, h3⟩ := r.cell k a hk; ⟨l, vs, h1, h2, h3.move .loose⟩, r.inj, r.back, fun a ha => r.hold a (List.mem_cons_of_mem _ ha)⟩
theorem StR.put {ρ : Rho} {H : Hp} {st : Store} {p : Addr} {o : HO} (r : StR K ρ H st) (hp : p ∈ ρ.held) : StR K ρ (upd H p o) st := by
  refine ⟨r.len, fun k a hk => ?_, r.inj, r.back, fun a ha => ⟨upd_there (r.hold a ha).1, (r.hold a ha).2⟩⟩
  obtain ⟨l, vs, h1, h2, h3⟩ := r.cell k a hk
  refine ⟨l, vs, h1, ?_, h3.move (.put hp)⟩
  rw [upd_ne (fun z => (r.hold p hp).2 (by rw [← z]; exact List.mem_of_getElem? hk))]; exact h2
/-- the held object out and in again: what stands at the walk's start holds at its end -/
theorem Ext.loose {ρ ρ' : Rho} {H H' : Hp} {p : Addr} {o : HO} (h : H p = none) (e : Ext (ρ.grip p) (upd H p o) (ρ'.grip p) H') : Ext ρ H ρ' H' :=
  ⟨fun a x hx n => e.keep a x (by rw [upd_ne (ne_of_none hx h)]; exact hx) n, fun a ha => e.there a (upd_there ha), e.len, e.old, fun k a hk hh => by
    have q := e.new k a hk hh
    by_cases z : a = p
    · rw [z, upd_same] at q; cases q
    · rw [upd_ne z] at q; exact q, (List.cons.inj e.held).2⟩
/-! ### the store cut back -/
mutual
theorem Rp.cut {ρ : Rho} {H : Hp} {n : Nat} : ∀ (f : Nat) (d : D) (v : V), below n f d = true → n ≤ ρ.cells.length → Rp K ρ H d v → Rp K (ρ.take n) H d v
  | _, .non, _, _, _, h => h
  | _, .bl _, _, _, _, h => h
  | _, .int _, _, _, _, h => h
  | _, .str _, _, _, _, h => h
  | f + 1, .tup l, _, b, hn, ⟨a, vs, h1, h2, h3, h4⟩ => ⟨a, vs, h1, h2, ⟨fun m => h3.1 (List.mem_of_mem_take m), h3.2⟩, Rps.cut f l vs (by simpa [below] using b) hn h4⟩
  | f + 1, .lst l, _, b, hn, ⟨a, vs, h1, h2, h3, h4⟩ => ⟨a, vs, h1, h2, ⟨fun m => h3.1 (List.mem_of_mem_take m), h3.2⟩, Rps.cut f l vs (by simpa [below] using b) hn h4⟩
  | 0, .tup l, _, b, _, _ => by simp [below] at b
  | 0, .lst l, _, b, _, _ => by simp [below] at b
  | _, .ref k, _, b, hn, ⟨h1, h2⟩ => by
    have hk : k < n := by simpa [below] using b
    exact ⟨by rw [List.length_take]; omega, fun a ha => h2 a (by rw [List.getElem?_take_of_lt hk] at ha; exact ha)⟩
  | _, .rng _ _, _, _, _, ⟨a, h1, h2, h3⟩ => ⟨a, h1, h2, ⟨fun m => h3.1 (List.mem_of_mem_take m), h3.2⟩⟩
  | _, .scr _, _, _, _, ⟨a, h1, h2⟩ => ⟨a, h1, by
    rcases h2 with ⟨o, q, m⟩ | q
    · exact .inl ⟨o, q, fun z => m.1 (List.mem_of_mem_take z), m.2⟩
    · exact .inr q⟩
theorem Rps.cut {ρ : Rho} {H : Hp} {n : Nat} : ∀ (f : Nat) (l : List D) (vs : List V), (∀ x ∈ l, below n f x = true) → n ≤ ρ.cells.length → Rps K ρ H l vs → Rps K (ρ.take n) H l vs
  | _, [], _, _, _, h => h
  | f, d :: ds, _, b, hn, ⟨v, r, h1, h2, h3⟩ => ⟨v, r, h1, Rp.cut f d v (b d List.mem_cons_self) hn h2, Rps.cut f ds r (fun x hx => b x (List.mem_cons_of_mem _ hx)) hn h3⟩
end
theorem StR.cut {ρ : Rho} {H : Hp} {st : Store} {n : Nat} (r : StR K ρ H st) (hn : n ≤ ρ.cells.length) (hb : (st.take n).all (cellBelow n) = true) : StR K (ρ.take n) H (st.take n) := by
  refine ⟨by rw [List.length_take, List.length_take, r.len], fun k a hk => ?_, fun j k a hj hk => ?_, fun k l hk => ?_, fun a ha => ⟨(r.hold a ha).1, fun m => (r.hold a ha).2 (List.mem_of_mem_take m)⟩⟩
  · have hl : k < n := by
      have := (List.getElem?_eq_some_iff.mp hk).1
      rw [List.length_take] at this; omega
    rw [List.getElem?_take_of_lt hl] at hk
    obtain ⟨l, vs, h1, h2, h3⟩ := r.cell k a hk
    have h4 : (st.take n)[k]? = some (.lst l) := by rw [List.getElem?_take_of_lt hl]; exact h1
    refine ⟨l, vs, h4, h2, Rps.cut 40 l vs ?_ hn h3⟩
    have := List.all_eq_true.mp hb _ (List.mem_of_getElem? h4)
    simpa [cellBelow] using this
  · have low : ∀ i : Nat, (ρ.cells.take n)[i]? = some (some a) → ρ.cells[i]? = some (some a) := fun i hi => by
      have := (List.getElem?_eq_some_iff.mp hi).1
      rw [List.length_take] at this
      rw [List.getElem?_take_of_lt (by omega)] at hi
      exact hi
    exact r.inj j k a (low j hj) (low k hk)
  · have hl : k < n := by
      have := (List.getElem?_eq_some_iff.mp hk).1
      rw [List.length_take] at this; omega
    rw [List.getElem?_take_of_lt hl] at hk
    obtain ⟨a, ha⟩ := r.back k l hk
    exact ⟨a, by rw [List.getElem?_take_of_lt hl]; exact ha⟩
theorem Ext.cut {ρ ρ' : Rho} {H H' : Hp} (e : Ext ρ H ρ' H') : Ext ρ H (ρ'.take ρ.cells.length) H' := by
  refine ⟨e.keep, e.there, by rw [List.length_take]; have := e.len; omega, fun k hk => ?_, fun k a hk h => ?_, e.held⟩
  · rw [List.getElem?_take_of_lt hk]; exact e.old k hk
  · rw [List.getElem?_eq_none (by rw [List.length_take]; omega)] at h; cases h

/-! ### reading a value -/
section
variable {ρ : Rho} {H : Hp} {st : Store} {d : D} {v : V} {l : List D}
theorem Rp.seqL (r : Rp K ρ H d v) (s : StR K ρ H st) (h : seqL d st = some l) : ∃ a vs, v = .ref a ∧ H a = some (.lst vs) ∧ Rps K ρ H l vs := by
  cases d with
  | lst m =>
    cases (show some m = some l from h)
    obtain ⟨a, vs, h1, h2, _, h4⟩ := r
    exact ⟨a, vs, h1, h2, h4⟩
  | ref k =>
    obtain ⟨h1, h2⟩ := r
    unfold Ev.seqL at h
    cases q : st[k]? with
    | none => simp [q] at h
    | some c =>
      cases c with
      | lst m =>
        simp [q] at h
        subst h
        obtain ⟨a, ha⟩ := s.back k m q
        obtain ⟨m', vs, e1, e2, e3⟩ := s.cell k a ha
        rw [q] at e1; cases e1
        exact ⟨a, vs, h2 a ha, e2, e3⟩
      | gone => simp [q] at h
  | _ => cases h
theorem Rp.seqLT (r : Rp K ρ H d v) (s : StR K ρ H st) (h : seqLT d st = some l) : ∃ a vs, v = .ref a ∧ (H a = some (.lst vs) ∨ H a = some (.tup vs)) ∧ Rps K ρ H l vs := by
  cases d with
  | tup m =>
    cases (show some m = some l from h)
    obtain ⟨a, vs, h1, h2, _, h4⟩ := r
    exact ⟨a, vs, h1, .inr h2, h4⟩
  | lst m =>
    obtain ⟨a, vs, h1, h2, h3⟩ := r.seqL s (show Ev.seqL (.lst m) st = some l from h)
    exact ⟨a, vs, h1, .inl h2, h3⟩
  | ref k =>
    obtain ⟨a, vs, h1, h2, h3⟩ := r.seqL s (show Ev.seqL (.ref k) st = some l from h)
    exact ⟨a, vs, h1, .inl h2, h3⟩
  | _ => cases h
end
end Ev

set_option Elab.async false
set_option linter.all false
set_option maxRecDepth 100000
set_option maxHeartbeats 1000000
namespace Ev
open PySem PySem.Spec PyProof.Rows L2
/-- what follows from a result -/
def PostE (K : PySem.W.Frag) (E : Str → Hp → Prop) (ρ : Rho) (H : Hp) (r : R D) (Q : VK) : Prop := match r with
  | .ok d st' => ∀ v ρ' H', Ext ρ H ρ' H' → StR K ρ' H' st' → Rp K ρ' H' d v → Q v H'
  | .exc x st' => ∀ ρ' H', Ext ρ H ρ' H' → StR K ρ' H' st' → E x H'
  | .bad => False
/-! ### data -/
mutual
def toPy : D → PyData
  | .non => .none
  | .bl b => .bool b
  | .int i => .int i
  | .str s => .str s
  | .tup l => .tuple (toPys l)
  | .lst l => .list (toPys l)
  | _ => .none
def toPys : List D → List PyData
  | [] => []
  | d :: r => toPy d :: toPys r
end
variable {K : PySem.W.Frag}
mutual
theorem dp_of {ρ : Rho} {H : Hp} : ∀ (n : Nat) (d : D) (v : V), isData n d = true → Rp K ρ H d v → Dp K H v (toPy d) ∧ (toPy d).canLay0 = true ∧ (toPy d).depth ≤ n
  | n, .non, _, _, h => by cases (show _ = _ from h); exact ⟨.non, by simp [toPy, PyData.canLay0], by simp [toPy, PyData.depth]⟩
  | n, .bl b, _, _, h => by cases (show _ = _ from h); exact ⟨.bl b, by simp [toPy, PyData.canLay0], by simp [toPy, PyData.depth]⟩
  | n, .int b, _, _, h => by cases (show _ = _ from h); exact ⟨.int b, by simp [toPy, PyData.canLay0], by simp [toPy, PyData.depth]⟩
  | n, .str b, _, e, h => by
    cases (show _ = _ from h)
    exact ⟨.str b, by simpa [toPy, PyData.canLay0, PyData.strOk, isData] using e, by simp [toPy, PyData.depth]⟩
  | n + 1, .tup l, _, e, ⟨a, vs, h1, h2, _, h4⟩ => by
    subst h1
    obtain ⟨q1, q2, q3⟩ := dps_of n l vs (by simpa [isData] using e) h4
    exact ⟨by rw [toPy]; exact .tup (.of h2) q1, by simpa [toPy, PyData.canLay0] using q2, by simp only [toPy, PyData.depth]; omega⟩
  | n + 1, .lst l, _, e, ⟨a, vs, h1, h2, _, h4⟩ => by
    subst h1
    obtain ⟨q1, q2, q3⟩ := dps_of n l vs (by simpa [isData] using e) h4
    exact ⟨by rw [toPy]; exact .lst (.of h2) q1, by simpa [toPy, PyData.canLay0] using q2, by simp only [toPy, PyData.depth]; omega⟩
  | 0, .tup l, _, e, _ => by simp [isData] at e
  | 0, .lst l, _, e, _ => by simp [isData] at e
  | n, .ref k, _, e, _ => by simp [isData] at e
  | n, .rng _ _, _, e, _ => by simp [isData] at e
  | n, .scr _, _, e, _ => by simp [isData] at e
theorem dps_of {ρ : Rho} {H : Hp} : ∀ (n : Nat) (l : List D) (vs : List V), (∀ x ∈ l, isData n x = true) → Rps K ρ H l vs → DpAll K H vs (toPys l) ∧ PyData.canLayAll0 (toPys l) = true ∧ PyData.depthAll (toPys l) ≤ n
  | n, [], _, _, h => by cases (show _ = [] from h); exact ⟨.nil, by simp [toPys, PyData.canLayAll0], by simp [toPys, PyData.depthAll]⟩
  | n, d :: ds, _, e, ⟨v, r, h1, h2, h3⟩ => by
    subst h1
    obtain ⟨p1, p2, p3⟩ := dp_of n d v (e d List.mem_cons_self) h2
    obtain ⟨q1, q2, q3⟩ := dps_of n ds r (fun x hx => e x (List.mem_cons_of_mem _ hx)) h3
    exact ⟨.cons p1 q1, by simp [toPys, PyData.canLayAll0, p2, q2], by simp only [toPys, PyData.depthAll]; omega⟩
end
theorem shaped_of {d : PyData} (h1 : d.canLay0 = true) (h2 : d.depth ≤ 50) : SeqAt.shaped d = true := by
  unfold SeqAt.shaped
  rw [h1, decide_eq_true (by omega)]; rfl
mutual
theorem eqv_py : ∀ (n : Nat) (a b : D), isData n a = true → isData n b = true → PyData.eqv (toPy a) (toPy b) = eqv a b
  | n, .non, b, _, hb => by cases b <;> simp_all [toPy, eqv, PyData.eqv, isData]
  | n, .bl x, b, _, hb => by cases b <;> simp_all [toPy, eqv, PyData.eqv, isData]
  | n, .int x, b, _, hb => by cases b <;> simp_all [toPy, eqv, PyData.eqv, isData]
  | n, .str x, b, _, hb => by cases b <;> simp_all [toPy, eqv, PyData.eqv, isData]
  | n, .tup l, b, ha, hb => by
    cases b with
    | tup m =>
      cases n with
      | zero => simp [isData] at ha
      | succ n =>
        rw [toPy, toPy, PyData.eqv, eqv]
        exact eqvs_py n l m (by simpa [isData] using ha) (by simpa [isData] using hb)
    | _ => simp_all [toPy, eqv, PyData.eqv, isData]
  | n, .lst l, b, ha, hb => by
    cases b with
    | lst m =>
      cases n with
      | zero => simp [isData] at ha
      | succ n =>
        rw [toPy, toPy, PyData.eqv, eqv]
        exact eqvs_py n l m (by simpa [isData] using ha) (by simpa [isData] using hb)
    | _ => simp_all [toPy, eqv, PyData.eqv, isData]
  | n, .ref k, _, e, _ => by simp [isData] at e
  | n, .rng _ _, _, e, _ => by simp [isData] at e
  | n, .scr _, _, e, _ => by simp [isData] at e
theorem eqvs_py : ∀ (n : Nat) (l m : List D), (∀ x ∈ l, isData n x = true) → (∀ x ∈ m, isData n x = true) → PyData.eqvAll (toPys l) (toPys m) = eqvs l m
  | n, [], [], _, _ => by simp [toPys, eqvs, PyData.eqvAll]
  | n, [], _ :: _, _, _ => by simp [toPys, eqvs, PyData.eqvAll]
  | n, _ :: _, [], _, _ => by simp [toPys, eqvs, PyData.eqvAll]
  | n, x :: xs, y :: ys, hx, hy => by
    rw [toPys, toPys, PyData.eqvAll, eqvs, eqv_py n x y (hx x List.mem_cons_self) (hy y List.mem_cons_self),
      eqvs_py n xs ys (fun z hz => hx z (List.mem_cons_of_mem _ hz)) (fun z hz => hy z (List.mem_cons_of_mem _ hz))]
end
theorem any_py {n : Nat} {a : D} (ha : isData n a = true) : ∀ {l : List D}, (∀ x ∈ l, isData n x = true) → ((toPys l).any fun z => PyData.eqv z (toPy a)) = l.any fun z => eqv z a
  | [], _ => rfl
  | x :: xs, h => by
    rw [toPys, List.any_cons, List.any_cons, eqv_py n x a (h x List.mem_cons_self) ha, any_py ha (fun z hz => h z (List.mem_cons_of_mem _ hz))]
/-- a cell read off -/
theorem deref_rp {ρ : Rho} {H : Hp} {st : Store} {d : D} {v : V} {n : Nat} (s : StR K ρ H st) (r : Rp K ρ H d v) (hd : isData (n + 1) (deref d st) = true) :
    Dp K H v (toPy (deref d st)) ∧ (toPy (deref d st)).canLay0 = true ∧ (toPy (deref d st)).depth ≤ n + 1 := by
  cases d with
  | ref k =>
    cases q : st[k]? with
    | none => simp [deref, q, isData] at hd
    | some c =>
      cases c with
      | gone => simp [deref, q, isData] at hd
      | lst l =>
        have e : deref (.ref k) st = .lst l := by simp [deref, q]
        rw [e] at hd ⊢
        obtain ⟨a, vs, h1, h2, h3⟩ := r.seqL s (show seqL (.ref k) st = some l by simp [seqL, q])
        subst h1
        obtain ⟨q1, q2, q3⟩ := dps_of n l vs (by simpa [isData] using hd) h3
        exact ⟨by rw [toPy]; exact .lst (.of h2) q1, by simpa [toPy, PyData.canLay0] using q2, by simp only [toPy, PyData.depth]; omega⟩
  | _ => exact dp_of (n + 1) _ v hd r

section
variable {X : Cx} {E : Str → Hp → Prop}
/-- the reading of a two-place operation on related values -/
def rOp (K : PySem.W.Frag) (E : Str → Hp → Prop) (f : D → D → Store → R D) : R2 := fun x y H Q =>
  ∃ ρ st a b, StR K ρ H st ∧ Rp K ρ H a x ∧ Rp K ρ H b y ∧ PostE K E ρ H (f a b st) Q
theorem PostE.here {ρ : Rho} {H : Hp} {d : D} {st : Store} {Q : VK} {v : V} (p : PostE K E ρ H (.ok d st) Q) (s : StR K ρ H st) (r : Rp K ρ H d v) : Q v H := p v ρ H (.refl ρ H) s r
/-- a new object holds the answer -/
theorem PostE.new {ρ : Rho} {H : Hp} {d : D} {st : Store} {Q : VK} {p : Addr} {o : HO} (q : PostE K E ρ H (.ok d st) Q) (s : StR K ρ H st) (h : H p = none)
    (r : Ext ρ H ρ (upd H p o) → ρ.off p → Rp K ρ (upd H p o) d (.ref p)) : Q (.ref p) (upd H p o) := by
  obtain ⟨e, s', n⟩ := s.laid (o := o) h
  exact q _ ρ _ e s' (r e n)
theorem line_ok : seqMax ≤ sizeLine := by rw [sizeLine_eq]; decide
theorem binop_ok (op : Operator) : OpR X (binaryOp op) (rOp X.K E (binop op)) := by
  intro pins s σ H x y v u Q I rx ry h
  obtain ⟨ρ, st, a, b, sr, ra, rb, p⟩ := h
  have hz := line_ok
  -- + of lists
  have addL : ∀ a b, Rp X.K ρ H a x → Rp X.K ρ H b y → PostE X.K E ρ H (match seqL a st, seqL b st with
      | some xs, some ys => if xs.length + ys.length ≤ seqMax then .ok (.lst (xs ++ ys)) st else .bad
      | _, _ => .bad) Q → wpAny (model X.prog X.w) X.A (binaryOp .Add v u) (EP X pins σ Q) X.xe s := by
    intro a b ra rb p
    cases e1 : seqL a st with
    | none => rw [e1] at p; exact p.elim
    | some xs =>
      cases e2 : seqL b st with
      | none => rw [e1, e2] at p; exact p.elim
      | some ys =>
        rw [e1, e2] at p
        by_cases hl : xs.length + ys.length ≤ seqMax
        · simp only [hl, if_true] at p
          obtain ⟨a1, vs, ex, hx, rvs⟩ := ra.seqL sr e1
          obtain ⟨b1, ws, ey, hy, rws⟩ := rb.seqL sr e2
          subst ex ey
          exact op_cat pins s σ H _ _ v u Q I rx ry ⟨a1, b1, vs, ws, rfl, rfl, hx, hy, by rw [← rvs.length, ← rws.length]; omega, fun q hq =>
            p.new sr hq fun e n => ⟨q, vs ++ ws, rfl, upd_same, n, (rvs.ext e _ _).append (rws.ext e _ _)⟩⟩
        · simp only [hl, if_false] at p; exact p.elim
  cases op with
  | Add =>
    cases a with
    | int i =>
      cases b with
      | int j =>
        cases (show x = _ from ra); cases (show y = _ from rb)
        exact op_add pins s σ H _ _ v u Q I rx ry ⟨i, j, rfl, rfl, p.here sr rfl⟩
      | _ => exact addL _ _ ra rb p
    | str i =>
      cases b with
      | str j =>
        cases (show x = _ from ra); cases (show y = _ from rb)
        by_cases hl : i.length + j.length ≤ seqMax
        · simp only [binop, hl, if_true] at p
          exact op_add_str pins s σ H _ _ v u Q I rx ry ⟨i, j, rfl, rfl, by omega, p.here sr rfl⟩
        · simp only [binop, hl, if_false] at p; exact p.elim
      | _ => exact addL _ _ ra rb p
    | tup xs =>
      cases b with
      | tup ys =>
        by_cases hl : xs.length + ys.length ≤ seqMax
        · simp only [binop, hl, if_true] at p
          obtain ⟨a1, vs, ex, hx, nx, rvs⟩ := ra
          obtain ⟨b1, ws, ey, hy, ny, rws⟩ := rb
          subst ex ey
          refine op_catA pins s σ H _ _ v u Q I rx ry ⟨a1, b1, vs, ws, rfl, rfl, .of hx, .of hy, by rw [← rvs.length, ← rws.length]; omega, fun e0 => ?_, fun e0 e1 => ?_, fun e0 e1 q hq => ?_⟩
          · subst e0
            have ex : xs = [] := List.eq_nil_of_length_eq_zero (by rw [rvs.length]; rfl)
            subst ex
            exact p.here sr ⟨b1, ws, rfl, hy, ny, rws⟩
          · subst e1
            have ey : ys = [] := List.eq_nil_of_length_eq_zero (by rw [rws.length]; rfl)
            subst ey
            rw [List.append_nil] at p
            exact p.here sr ⟨a1, vs, rfl, hx, nx, rvs⟩
          · exact p.new sr hq fun e n => ⟨q, vs ++ ws, rfl, upd_same, n, (rvs.ext e _ _).append (rws.ext e _ _)⟩
        · simp only [binop, hl, if_false] at p; exact p.elim
      | _ => exact addL _ _ ra rb p
    | non => cases b <;> exact addL _ _ ra rb p
    | bl _ => cases b <;> exact addL _ _ ra rb p
    | lst _ => cases b <;> exact addL _ _ ra rb p
    | ref _ => cases b <;> exact addL _ _ ra rb p
    | rng _ _ => cases b <;> exact addL _ _ ra rb p
    | scr _ => cases b <;> exact addL _ _ ra rb p
  | Sub =>
    cases a with
    | int i =>
      cases b with
      | int j =>
        cases (show x = _ from ra); cases (show y = _ from rb)
        exact op_sub pins s σ H _ _ v u Q I rx ry ⟨i, j, rfl, rfl, p.here sr rfl⟩
      | _ => exact p.elim
    | _ => cases b <;> exact p.elim
  | Mult =>
    cases a with
    | int i =>
      cases b with
      | int j =>
        cases (show x = _ from ra); cases (show y = _ from rb)
        simp only [binop] at p
        split at p
        · rename_i hc
          simp only [Bool.or_eq_true, Bool.and_eq_true, decide_eq_true_eq] at hc
          rcases hc with (hc | hc) | hc
          · exact op_mul pins s σ H _ _ v u Q I rx ry ⟨i, j, rfl, rfl, .inl hc, p.here sr rfl⟩
          · exact op_mul pins s σ H _ _ v u Q I rx ry ⟨i, j, rfl, rfl, .inr hc, p.here sr rfl⟩
          · exact op_mulW pins s σ H _ _ v u Q I rx ry ⟨i, j, rfl, rfl, hc, p.here sr rfl⟩
        · exact p.elim
      | _ => exact p.elim
    | tup xs =>
      cases b with
      | int k =>
        simp only [binop] at p
        split at p
        · rename_i hc
          obtain ⟨h1, h2, h3, h4⟩ := hc
          obtain ⟨a1, vs, ex, hx, nx, rvs⟩ := ra
          cases (show y = _ from rb)
          subst ex
          refine op_repT pins s σ H _ _ v u Q I rx ry ⟨a1, k, vs, rfl, rfl, .of hx, fun z => ?_, h3, h4, by rw [← rvs.length]; exact h1, fun q hq => ?_⟩
          · subst z
            have ex : xs = [] := List.eq_nil_of_length_eq_zero (by rw [rvs.length]; rfl)
            subst ex
            simp at h2
          · exact p.new sr hq fun e n => ⟨q, _, rfl, upd_same, n, (rvs.ext e _ _).rep _⟩
        · exact p.elim
      | _ => exact p.elim
    | lst xs =>
      cases b with
      | int k =>
        simp only [binop] at p
        split at p
        · rename_i hc
          obtain ⟨h1, h2, h3⟩ := hc
          obtain ⟨a1, vs, ex, hx, nx, rvs⟩ := ra
          cases (show y = _ from rb)
          subst ex
          refine op_rep pins s σ H _ _ v u Q I rx ry ⟨a1, k, vs, rfl, rfl, hx, by omega, by omega, ?_, fun q hq => ?_⟩
          · rw [← rvs.length, sizeLine_eq]
            have e1 : xs.length * k.toNat ≤ 1000 * 1000 := Nat.mul_le_mul h1 (by omega)
            omega
          · exact p.new sr hq fun e n => ⟨q, _, rfl, upd_same, n, (rvs.ext e _ _).rep _⟩
        · exact p.elim
      | _ => exact p.elim
    | _ => cases b <;> exact p.elim
  | FloorDiv =>
    cases a with
    | int i =>
      cases b with
      | int j =>
        cases (show x = _ from ra); cases (show y = _ from rb)
        simp only [binop] at p
        split at p
        · rename_i hc
          simp only [Bool.and_eq_true, decide_eq_true_eq] at hc
          exact op_fdivW pins s σ H _ _ v u Q I rx ry ⟨i, j, rfl, rfl, hc, p.here sr rfl⟩
        · exact p.elim
      | _ => exact p.elim
    | _ => cases b <;> exact p.elim
  | Mod =>
    cases a with
    | int i =>
      cases b with
      | int j =>
        cases (show x = _ from ra); cases (show y = _ from rb)
        simp only [binop] at p
        split at p
        · rename_i hc
          exact op_mod pins s σ H _ _ v u Q I rx ry ⟨i, j, rfl, rfl, hc, p.here sr rfl⟩
        · exact p.elim
      | _ => exact p.elim
    | _ => cases b <;> exact p.elim
  | Pow =>
    cases a with
    | int i =>
      cases b with
      | int j =>
        cases (show x = _ from ra); cases (show y = _ from rb)
        simp only [binop] at p
        split at p
        · rename_i hc
          exact op_pow pins s σ H _ _ v u Q I rx ry ⟨i, j, rfl, rfl, hc, p.here sr rfl⟩
        · exact p.elim
      | _ => exact p.elim
    | _ => cases b <;> exact p.elim
  | _ => cases a <;> cases b <;> exact p.elim
end
end Ev

set_option Elab.async false
set_option linter.all false
set_option maxRecDepth 100000
set_option maxHeartbeats 1000000
namespace Ev
open PySem PySem.Spec PyProof.Rows L2
variable {K : PySem.W.Frag}
section
variable {X : Cx} {E : Str → Hp → Prop}
theorem isOp_ok {ρ : Rho} {H : Hp} {st : Store} {a b : D} {x y : V} {k : Bool} (sr : StR K ρ H st) (ra : Rp K ρ H a x) (rb : Rp K ρ H b y) (e : isOp a b st = some k) :
    (∃ p q, x = .bl p ∧ y = .bl q ∧ k = decide (p = q)) ∨ (y = .non ∧ k = decide (x = .non)) := by
  cases b with
  | bl q =>
    cases a with
    | bl p =>
      cases (show x = _ from ra); cases (show y = _ from rb)
      cases e
      exact .inl ⟨p, q, rfl, rfl, rfl⟩
    | _ => cases e
  | non =>
    cases (show y = _ from rb)
    refine .inr ⟨rfl, ?_⟩
    cases a with
    | non => cases (show x = _ from ra); cases e; simp
    | bl p => cases (show x = _ from ra); cases e; simp
    | int p => cases (show x = _ from ra); cases e; simp
    | str p => cases (show x = _ from ra); cases e; simp
    | tup p => obtain ⟨c, _, rfl, _⟩ := ra; cases e; simp
    | lst p => obtain ⟨c, _, rfl, _⟩ := ra; cases e; simp
    | ref p =>
      simp only [isOp] at e
      split at e
      · rename_i l hl
        obtain ⟨c, _, rfl, _⟩ := ra.seqL sr (show seqL (.ref p) st = some l by simp [seqL, hl])
        cases e; simp
      · cases e
    | rng _ _ => cases e
    | scr _ => cases e
  | _ => cases a <;> cases e
theorem in_ok (hu : X.A.units + 65 < cLine) {neg : Bool} {pins : List (Addr × Obj)} {s : Shared} {σ : L2.St} {H : Hp} {x y : V} {v u : Value} {Q : VK} {ρ : Rho} {st : Store} {a b : D} {l : List D}
    (I : Inv X pins σ H s) (rx : RelV x v) (ry : RelV y u) (sr : StR X.K ρ H st) (ra : Rp X.K ρ H a x) (rb : Rp X.K ρ H b y) (e : seqLT b st = some l) (ha : isData 50 a = true) (hl : ∀ z ∈ l, isData 50 z = true)
    (q : Q (.bl (if neg then !(l.any fun z => eqv z a) else l.any fun z => eqv z a)) H) : wpAny (model X.prog X.w) X.A (compareOp (if neg then .NotIn else .In) v u) (EP X pins σ Q) X.xe s := by
  obtain ⟨d1, d2, d3⟩ := dp_of 50 a x ha ra
  obtain ⟨c, vs, rfl, hc, rl⟩ := rb.seqLT sr e
  obtain ⟨l1, l2, l3⟩ := dps_of 50 l vs hl rl
  obtain ⟨as, r1⟩ := Dp.reads I (toPy a) x v d1 rx
  have hroom : X.A.units + 1 + min (PyData.depthAll (toPys l)) (toPy a).depth < cLine := by omega
  rw [← any_py ha hl] at q
  rcases hc with hc | hc
  · obtain ⟨bs, r2⟩ := Dp.reads I (.list (toPys l)) (.ref c) u (.lst (.of hc) l1) ry
    cases neg with
    | false => exact SeqAt.in_list_reads r2 r1 l2 d2 hroom ⟨.bl _, H, I, rfl, q⟩
    | true => exact SeqAt.notIn_list_reads r2 r1 l2 d2 hroom ⟨.bl _, H, I, rfl, q⟩
  · obtain ⟨bs, r2⟩ := Dp.reads I (.tuple (toPys l)) (.ref c) u (.tup (.of hc) l1) ry
    cases neg with
    | false => exact SeqAt.in_tuple_reads r2 r1 l2 d2 hroom ⟨.bl _, H, I, rfl, q⟩
    | true => exact SeqAt.notIn_tuple_reads r2 r1 l2 d2 hroom ⟨.bl _, H, I, rfl, q⟩
theorem cmpop_ok (hu : X.A.units + 65 < cLine) (op : CmpOp) : OpR X (compareOp op) (rOp X.K E (cmpop op)) := by
  intro pins s σ H x y v u Q I rx ry h
  obtain ⟨ρ, st, a, b, sr, ra, rb, p⟩ := h
  have int2 : ∀ {g : Int → Int → Bool} {op : CmpOp}, OpR X (compareOp op) (rI0 fun i j => .bl (g i j)) → ∀ (i j : Int), a = .int i → b = .int j → PostE X.K E ρ H (.ok (.bl (g i j)) st) Q → wpAny (model X.prog X.w) X.A (compareOp op v u) (EP X pins σ Q) X.xe s := by
    intro g op hop i j ea eb p2
    subst ea eb
    cases (show x = _ from ra); cases (show y = _ from rb)
    exact hop pins s σ H _ _ v u Q I rx ry ⟨i, j, rfl, rfl, p2.here (K := X.K) (d := .bl (g i j)) sr rfl⟩
  cases op with
  | Eq =>
    simp only [cmpop] at p
    split at p
    · rename_i hc
      simp only [Bool.and_eq_true] at hc
      obtain ⟨a1, a2, a3⟩ := deref_rp (n := 49) sr ra hc.1
      obtain ⟨b1, b2, b3⟩ := deref_rp (n := 49) sr rb hc.2
      refine op_eqD (by omega) pins s σ H _ _ v u Q I rx ry ⟨_, _, a1, b1, shaped_of a2 a3, shaped_of b2 b3, ?_⟩
      rw [eqv_py 50 _ _ hc.1 hc.2]
      exact p.here sr rfl
    · exact p.elim
  | NotEq =>
    simp only [cmpop] at p
    split at p
    · rename_i hc
      simp only [Bool.and_eq_true] at hc
      obtain ⟨a1, a2, a3⟩ := deref_rp (n := 49) sr ra hc.1
      obtain ⟨b1, b2, b3⟩ := deref_rp (n := 49) sr rb hc.2
      refine op_neD (by omega) pins s σ H _ _ v u Q I rx ry ⟨_, _, a1, b1, shaped_of a2 a3, shaped_of b2 b3, ?_⟩
      rw [eqv_py 50 _ _ hc.1 hc.2]
      exact p.here sr rfl
    · exact p.elim
  | Is =>
    simp only [cmpop] at p
    split at p
    · rename_i k hk
      rcases isOp_ok sr ra rb hk with ⟨i, j, ex, ey, ek⟩ | ⟨ey, ek⟩
      · subst ex ey ek
        exact op_isBl pins s σ H _ _ v u Q I rx ry ⟨i, j, rfl, rfl, p.here sr rfl⟩
      · subst ey ek
        exact op_isN pins s σ H _ _ v u Q I rx ry ⟨rfl, p.here sr rfl⟩
    · exact p.elim
  | IsNot =>
    simp only [cmpop] at p
    split at p
    · rename_i k hk
      rcases isOp_ok sr ra rb hk with ⟨i, j, ex, ey, ek⟩ | ⟨ey, ek⟩
      · subst ex ey ek
        exact op_notBl pins s σ H _ _ v u Q I rx ry ⟨i, j, rfl, rfl, p.here sr rfl⟩
      · subst ey ek
        exact op_notN pins s σ H _ _ v u Q I rx ry ⟨rfl, p.here sr rfl⟩
    · exact p.elim
  | In =>
    simp only [cmpop] at p
    split at p
    · rename_i l hl
      split at p
      · rename_i hc
        simp only [Bool.and_eq_true, List.all_eq_true] at hc
        exact in_ok (neg := false) hu I rx ry sr ra rb hl hc.1 hc.2 (p.here sr rfl)
      · exact p.elim
    · exact p.elim
  | NotIn =>
    simp only [cmpop] at p
    split at p
    · rename_i l hl
      split at p
      · rename_i hc
        simp only [Bool.and_eq_true, List.all_eq_true] at hc
        exact in_ok (neg := true) hu I rx ry sr ra rb hl hc.1 hc.2 (p.here sr rfl)
      · exact p.elim
    · exact p.elim
  | Lt =>
    simp only [cmpop] at p
    split at p
    · exact int2 op_lt _ _ rfl rfl p
    · rename_i xs ys
      split at p
      · rename_i ns ms h1 h2
        obtain ⟨a1, vs, ex, hx, nx, rvs⟩ := ra
        obtain ⟨b1, ws, ey, hy, ny, rws⟩ := rb
        subst ex ey
        rw [intsOf_ok rvs h1] at hx
        rw [intsOf_ok rws h2] at hy
        exact op_ltT (by omega) pins s σ H _ _ v u Q I rx ry ⟨a1, b1, ns, ms, rfl, rfl, .of hx, .of hy, p.here sr rfl⟩
      · exact p.elim
    · exact p.elim
  | LtE =>
    simp only [cmpop] at p
    split at p
    · exact int2 op_le _ _ rfl rfl p
    · exact p.elim
  | Gt =>
    simp only [cmpop] at p
    split at p
    · exact int2 op_gt _ _ rfl rfl p
    · exact p.elim
  | GtE =>
    simp only [cmpop] at p
    split at p
    · exact int2 op_ge _ _ rfl rfl p
    · exact p.elim
end
end Ev

set_option Elab.async false
set_option linter.all false
set_option maxRecDepth 100000
/-! set(xs) of a list of ints, told as SetR (so that it may be walked, sorted). -/
namespace Ev
open PySem PySem.Spec PyProof.Rows L2
abbrev noSet (w : World) : Obj := { cls := .type "set", dict := none, data := .set #[] 0 (.fresh 0 0 (!w.params.followText "set-order")) }
abbrev Heap.withSet (h : Heap) (w : World) : Heap := h.push (noSet w)
section
variable {P : Program} {w : World} {A : Around} {E : Value → Shared → Prop} {s : Shared}
theorem push_sz (h : Heap) (o : Obj) : (h.push o).objs.size = h.objs.size + 1 := Heap.size_push ..
set_option maxHeartbeats 3200000 in
theorem set_of_list {l : Addr} {its : Array Value} (ns : List Int) {Q : Value → Shared → Prop} (hd : A.handled = none) (hl : s.heap.IsList l its) (hi : IntsAre its.toList ns) (few : ns.length + 1 < scanBound)
    (fin : ∀ (h' : Heap) (tk c : Nat), SetR w h' s.heap.objs.size (fun j => decide (j ∈ ns)) c → c ≤ ns.length → (∀ b o, s.heap.get? b = some o → h'.get? b = some o) → Q (.ref s.heap.objs.size) { s with heap := h', toks := tk }) :
    wpAny (model P w) A (call (.type "set") [.ref l]) Q E s := by
  have size_its : its.size = ns.length := (Array.length_toList).symm.trans (IntsAre.length hi)
  obtain ⟨c, tl, m0⟩ := F.called_set.mro; have m1 := F.called_set.made; have m2 := F.called_set.sub
  refine wpAny_call (codeAny_of_tree ?_); show wpAny _ _ (callAny (.type "set") _) _ _ _
  refine wpAny_pure ⟨Code.quiet_builtin _ (by decide +kernel), codeAny_builtin F.entry_type_call ?_⟩; rw [Around.under_plain (weight_type_call_type "set" [.ref l] []) rfl]
  have m3 := F.called_set.notType; have m4 := F.called_set.canCreate; have m5 := F.typeCall_set_1 (.ref l)
  repeat (any_goals (first | assumption | wp_step))
  refine codeAny_mono (code_set_led1 (.ref l) (E := E) (Q₁ := fun ob s₁ => ob = .ref s.heap.objs.size ∧ s₁ = { s with heap := Heap.withSet s.heap w }) ⟨rfl, rfl⟩) fun r s₁ hr => ?_
  cases r with
  | error e => exact hr
  | ok fl =>
    cases fl with
    | next => exact hr.elim
    | brk => exact hr.elim
    | cont => exact hr.elim
    | ret ob =>
      obtain ⟨rfl, rfl⟩ := hr
      have at0 : (Heap.withSet s.heap w).get? s.heap.objs.size = some (noSet w) := Heap.get?_push_size _ rfl
      have ty : Shared.TypeIs { s with heap := Heap.withSet s.heap w } (.ref s.heap.objs.size) "set" := ⟨_, at0, rfl⟩
      have m6 := F.called_set.init.lookup; have m7 := F.called_set.init.bind (.ref s.heap.objs.size)
      repeat (any_goals (first | assumption | wp_step))
      refine codeAny_mono (codeAny_call_builtin (R := wants (fun r s₂ => r = .none ∧ ∃ h' tk c, s₂ = { s with heap := h', toks := tk } ∧ SetR w h' s.heap.objs.size (fun j => decide (j ∈ ns)) c ∧ c ≤ ns.length ∧
        (∀ b o, s.heap.get? b = some o → h'.get? b = some o)) E) F.called_set.init.plain F.entry_set_init (check_set_init_1 ty ?_)) fun r₂ s₂ hr₂ => ?_
      · obtain ⟨⟨oc, od, oa, os⟩, hol, hcl, n0, hdl⟩ := hl
        simp only at hcl hdl; subst hcl; subst hdl
        have hol' : (Heap.withSet s.heap w).get? l = some { cls := .type "list", dict := od, data := .seq its n0, slots := os } := Heap.get?_push_of_some _ hol
        have k1 := F.sub_list_set; have k2 := F.sub_list_frozenset
        have k3 : (Value.type "list" == Value.type "dict") = false := by decide
        have hl1 : (Heap.withSet s.heap w).IsList l its := ⟨_, hol', rfl, n0, rfl⟩
        unfold Builtin.«set.__init__» noKeywords Builtin.Frozenset.updateFrom
        generalize hPI : pyIter = PI; wp_walk; subst hPI
        refine wpAny_pyIter_list hl1 (wpAny_bind (wpAny_runValue ?_))
        have lt0 : l < s.heap.objs.size := Heap.lt_size hol
        have hd3 : A.in1.in1.in1.handled = none := by simp [hd]
        have z1 : (Heap.withSet s.heap w).objs.size = s.heap.objs.size + 1 := push_sz _ _
        have neI : l ≠ (Heap.withSet s.heap w).objs.size := by rw [z1]; exact Nat.ne_of_lt (Nat.lt_succ_of_lt lt0)
        have out0 : s.heap.objs.size ∉ [(Heap.withSet s.heap w).objs.size, l] := by
          rw [z1]; intro hm; rcases List.mem_cons.mp hm with e | hm
          · exact absurd e (Nat.ne_of_lt (Nat.lt_succ_self _))
          · exact absurd (List.mem_singleton.mp hm) (Nat.ne_of_gt lt0)
        have val : ∀ (i : Nat) (v : Value), its[i]? = some v → ∃ k t, ns[i]? = some k ∧ v = .int k t := fun i v hv => by
          have hlt : i < ns.length := by rw [← size_its]; exact (Array.getElem?_eq_some_iff.mp hv).1
          obtain ⟨t, e⟩ := IntsAre.int_at hi i v (by rw [Array.getElem?_toList]; exact hv)
          exact ⟨ns[i], t, List.getElem?_eq_getElem hlt, by rw [e, List.getD_eq_getElem?_getD, List.getElem?_eq_getElem hlt]; rfl⟩
        refine set_update_ints ((Walks.list hd3 _ l neI its).toS) s.heap.objs.size out0 ns size_its few val (its.size - 0) 0 _ (by omega) (Nat.zero_le _) ⟨⟨_, Heap.get?_push_size _ rfl, rfl, rfl⟩, (hl1.push _)⟩ ?_ ?_
        · exact ⟨0, Nat.le_refl 0, setR_new_at (Heap.get?_push_of_some _ at0)⟩
        · intro s' c' mv hc' hS'
          obtain ⟨h', g2, d', tk', os'⟩ := s'
          obtain rfl : g2 = s.gens := mv.gens
          obtain rfl : d' = s.drawn := mv.drawn
          obtain rfl : os' = s.os := mv.os
          rw [size_its] at hc'
          refine wpAny_pure ?_; show wpAny _ _ (ret Value.none) _ _ _
          refine wpAny_pure ⟨rfl, h', tk', c', rfl, hS', hc', fun b o e => ?_⟩
          have b0 : b < s.heap.objs.size := Heap.lt_size e
          refine mv.heap b o (fun hm => ?_) (Heap.get?_push_of_some _ (Heap.get?_push_of_some _ e))
          rcases List.mem_cons.mp hm with e1 | hm
          · exact absurd e1 (Nat.ne_of_lt b0)
          · have e1 := List.mem_singleton.mp hm
            have e1 : b = (Heap.withSet s.heap w).objs.size := e1
            rw [z1] at e1
            exact absurd e1 (Nat.ne_of_lt (Nat.lt_succ_of_lt b0))
      · cases r₂ with
        | error e => exact hr₂
        | ok fl₂ =>
          cases fl₂ with
          | next => exact hr₂.elim
          | brk => exact hr₂.elim
          | cont => exact hr₂.elim
          | ret r =>
            obtain ⟨rfl, h', tk, c', rfl, hS', hc', hk'⟩ := hr₂
            repeat (any_goals (first | assumption | wp_step))
            exact fin _ _ _ hS' hc' hk'
end
end Ev

set_option Elab.async false
set_option linter.all false
set_option maxRecDepth 100000
set_option maxHeartbeats 1000000
namespace Ev
open PySem PySem.Spec PyProof.Rows L2
variable {K : PySem.W.Frag}
/-! ### sorting, in plain Lean -/
theorem insI_mem (x y : Int) : ∀ l : List Int, y ∈ insI x l ↔ y = x ∨ y ∈ l
  | [] => by simp [insI]
  | z :: r => by
    unfold insI
    split
    · simp
    · split
      · rename_i _ h; subst h; simp
      · simp only [List.mem_cons, insI_mem x y r]
        constructor
        · rintro (h | h | h)
          · exact .inr (.inl h)
          · exact .inl h
          · exact .inr (.inr h)
        · rintro (h | h | h)
          · exact .inr (.inl h)
          · exact .inl h
          · exact .inr (.inr h)
theorem insI_lt (x : Int) : ∀ l : List Int, l.Pairwise (· < ·) → (insI x l).Pairwise (· < ·)
  | [], _ => by simp [insI]
  | z :: r, h => by
    obtain ⟨h1, h2⟩ := List.pairwise_cons.mp h
    unfold insI
    split
    · rename_i hx
      refine List.pairwise_cons.mpr ⟨fun y hy => ?_, h⟩
      rcases List.mem_cons.mp hy with e | hy
      · rw [e]; exact hx
      · exact Int.lt_trans hx (h1 y hy)
    · split
      · exact h
      · rename_i a b
        refine List.pairwise_cons.mpr ⟨fun y hy => ?_, insI_lt x r h2⟩
        rcases (insI_mem x y r).mp hy with e | hy
        · omega
        · exact h1 y hy
theorem sortSet_mem (y : Int) : ∀ l : List Int, y ∈ sortSet l ↔ y ∈ l
  | [] => by simp [sortSet]
  | x :: r => by rw [sortSet, insI_mem, sortSet_mem y r, List.mem_cons]
theorem sortSet_lt : ∀ l : List Int, (sortSet l).Pairwise (· < ·)
  | [] => by simp [sortSet]
  | x :: r => insI_lt x _ (sortSet_lt r)
theorem lt_unique : ∀ {l m : List Int}, l.Pairwise (· < ·) → m.Pairwise (· < ·) → (∀ k, k ∈ l ↔ k ∈ m) → l = m
  | [], [], _, _, _ => rfl
  | [], y :: m, _, _, h => by simpa using (h y).mpr List.mem_cons_self
  | x :: l, [], _, _, h => by simpa using (h x).mp List.mem_cons_self
  | x :: l, y :: m, hl, hm, h => by
    obtain ⟨a1, a2⟩ := List.pairwise_cons.mp hl
    obtain ⟨b1, b2⟩ := List.pairwise_cons.mp hm
    have e : x = y := by
      rcases List.mem_cons.mp ((h x).mp List.mem_cons_self) with q | q
      · exact q
      · rcases List.mem_cons.mp ((h y).mpr List.mem_cons_self) with p | p
        · exact p.symm
        · have := b1 x q; have := a1 y p; omega
    subst e
    rw [lt_unique a2 b2 fun k => ?_]
    constructor
    · intro hk
      rcases List.mem_cons.mp ((h k).mp (List.mem_cons_of_mem _ hk)) with q | q
      · have := a1 k hk; omega
      · exact q
    · intro hk
      rcases List.mem_cons.mp ((h k).mpr (List.mem_cons_of_mem _ hk)) with q | q
      · have := b1 k hk; omega
      · exact q
theorem insD_perm (x : Int) : ∀ l : List Int, (insD x l).Perm (x :: l)
  | [] => .refl _
  | y :: r => by
    unfold insD
    split
    · exact .refl _
    · exact ((insD_perm x r).cons y).trans (.swap x y r)
theorem insD_le (x : Int) : ∀ l : List Int, l.Pairwise (· ≤ ·) → (insD x l).Pairwise (· ≤ ·)
  | [], _ => by simp [insD]
  | z :: r, h => by
    obtain ⟨h1, h2⟩ := List.pairwise_cons.mp h
    unfold insD
    split
    · rename_i hx
      refine List.pairwise_cons.mpr ⟨fun y hy => ?_, h⟩
      rcases List.mem_cons.mp hy with e | hy
      · rw [e]; exact hx
      · exact Int.le_trans hx (h1 y hy)
    · rename_i hx
      refine List.pairwise_cons.mpr ⟨fun y hy => ?_, insD_le x r h2⟩
      rcases List.mem_cons.mp ((insD_perm x r).mem_iff.mp hy) with e | hy
      · omega
      · exact h1 y hy
theorem sortI_perm : ∀ l : List Int, (sortI l).Perm l
  | [] => .refl _
  | x :: r => (insD_perm x _).trans ((sortI_perm r).cons x)
theorem sortI_le : ∀ l : List Int, (sortI l).Pairwise (· ≤ ·)
  | [] => by simp [sortI]
  | x :: r => insD_le x _ (sortI_le r)
theorem le_unique : ∀ {l m : List Int}, l.Pairwise (· ≤ ·) → m.Pairwise (· ≤ ·) → l.Perm m → l = m
  | [], m, _, _, p => (List.perm_nil.mp p.symm).symm
  | x :: l, [], _, _, p => by simpa using p.length_eq
  | x :: l, y :: m, hl, hm, p => by
    obtain ⟨a1, a2⟩ := List.pairwise_cons.mp hl
    obtain ⟨b1, b2⟩ := List.pairwise_cons.mp hm
    have e : x = y := by
      rcases List.mem_cons.mp (p.mem_iff.mp List.mem_cons_self) with q | q
      · exact q
      · rcases List.mem_cons.mp (p.mem_iff.mpr List.mem_cons_self) with r | r
        · exact r.symm
        · have := b1 x q; have := a1 y r; omega
    subst e
    rw [le_unique a2 b2 (List.perm_cons x |>.mp p)]
theorem len_le_of_nodup {l m : List Int} (hl : l.Nodup) (h : ∀ k ∈ l, k ∈ m) : l.length ≤ m.length := by
  induction l generalizing m with
  | nil => exact Nat.zero_le _
  | cons x r ih =>
    obtain ⟨h1, h2⟩ := List.nodup_cons.mp hl
    have hx : x ∈ m := h x List.mem_cons_self
    have := ih (m := m.erase x) h2 fun k hk => (List.mem_erase_of_ne (fun e => h1 (by rw [← e]; exact hk))).mpr (h k (List.mem_cons_of_mem _ hk))
    rw [List.length_erase_of_mem hx] at this
    have : 0 < m.length := List.length_pos_of_mem hx
    simp only [List.length_cons]; omega

section
variable {X : Cx} {E : Str → Hp → Prop}
/-- the reading of a call of a built-in on related values -/
def rBl (K : PySem.W.Frag) (E : Str → Hp → Prop) (f : List D → Store → R D) : List V → Hp → VK → Prop := fun xs H Q =>
  ∃ ρ st ds, StR K ρ H st ∧ Rps K ρ H ds xs ∧ PostE K E ρ H (f ds st) Q
theorem rps1 {ρ : Rho} {H : Hp} {d : D} {xs : List V} (h : Rps K ρ H [d] xs) : ∃ v, xs = [v] ∧ Rp K ρ H d v := by
  obtain ⟨v, r, h1, h2, h3⟩ := h
  cases (show r = [] from h3)
  exact ⟨v, h1, h2⟩
theorem rps2 {ρ : Rho} {H : Hp} {d e : D} {xs : List V} (h : Rps K ρ H [d, e] xs) : ∃ v w, xs = [v, w] ∧ Rp K ρ H d v ∧ Rp K ρ H e w := by
  obtain ⟨v, r, h1, h2, h3⟩ := h
  obtain ⟨w, rfl, h4⟩ := rps1 h3
  exact ⟨v, w, h1, h2, h4⟩
theorem scr_sq {ρ : Rho} {H : Hp} {a : Addr} {l : List Int} (h : ScrR K ρ H a l) : SqL K H a (l.map V.int) := by
  rcases h with ⟨o, h, _⟩ | h
  · exact .inl (.inr ⟨o, h⟩)
  · exact h H
theorem preSum_take (ns : List Int) : ∀ j, preSum (fun i => ns.getD i 0) j = (ns.take j).sum
  | 0 => by simp [preSum]
  | j + 1 => by
    rw [preSum, preSum_take ns j, List.take_add_one]
    cases h : ns[j]? with
    | none => simp [List.getD_eq_getElem?_getD, h]
    | some x => simp [List.getD_eq_getElem?_getD, h]
theorem sum_tup (hc : X.calm = true) : CallR X (.builtin "sum") (fun vs H Q => ∃ (a : Addr) (ns : List Int), vs = [V.ref a] ∧ SqT X.K H a (ns.map V.int) ∧ Q (.int ns.sum) H) := by
  intro pins s σ H vs us Q I r h
  obtain ⟨a, ns, rfl, hs, q⟩ := h
  obtain ⟨its, rv, hl, _⟩ := I.tuple hs
  rw [Vals.ref1 r]
  have hi := rv.ints
  have lt0 : a < s.heap.objs.size := hl.lt
  refine call_sum_walkG (wpAny_pyIter_tuple (show s.heap.IsTuple a its.toArray from hl) ?_)
  refine ⟨_, _, _, _, _, _, fun i => ns.getD i 0, rfl, Walks.tuple (A := X.A.in1) (I.ok.hd hc) s.heap.objs.size a (Nat.ne_of_lt lt0) its.toArray, ⟨⟨_, Heap.get?_push_size _ rfl, rfl, rfl⟩, Heap.IsTuple.push (show s.heap.IsTuple a its.toArray from hl) _⟩, fun b hb => ?_, fun i v hv => ?_, fun h' tk t' hk => ?_⟩
  · rw [push_sz]
    rcases List.mem_cons.mp hb with e | hb
    · rw [e]; exact Nat.lt_succ_self _
    · rw [List.mem_singleton.mp hb]; exact Nat.lt_succ_of_lt lt0
  · obtain ⟨t, e⟩ := IntsAre.int_at hi i v (by simpa using hv)
    exact ⟨t, e⟩
  · refine ⟨.int ns.sum, H, I.kept fun b o e => hk b o (fun hm => ?_) (Heap.get?_push_of_some _ e), ⟨t', ?_⟩, q⟩
    · rw [List.mem_singleton.mp hm] at e
      exact absurd (Heap.lt_size e) (Nat.lt_irrefl _)
    · rw [preSum_take, List.size_toArray, List.take_of_length_le (by rw [hi.length]; exact Nat.le_refl _)]
theorem cr_setL (hc : X.calm = true) : CallR X (.type "set") (fun xs H Q => ∃ (a : Addr) (ns : List Int), xs = [.ref a] ∧ (H a = some (.lst (ns.map V.int)) ∨ H a = some (.tup (ns.map V.int))) ∧ ns.length < 1000 ∧
    ∀ p c, H p = none → c ≤ (sortSet ns).length → Q (.ref p) (upd H p (SetO X.w p (fun j => decide (j ∈ ns)) c))) := by
  intro pins s σ H xs us Q I r h
  obtain ⟨a, ns, rfl, hs, few, q⟩ := h
  rw [Vals.ref1 r]
  have fin : ∀ (h' : Heap) (tk c : Nat), SetR X.w h' s.heap.objs.size (fun j => decide (j ∈ ns)) c → c ≤ ns.length → (∀ b o, s.heap.get? b = some o → h'.get? b = some o) → EP X pins σ Q (.ref s.heap.objs.size) { s with heap := h', toks := tk } := fun h' tk c R _ k => by
    have hn : H s.heap.objs.size = none := I.hok.fresh (Nat.le_refl _)
    refine ⟨.ref _, upd H s.heap.objs.size (SetO X.w s.heap.objs.size (fun j => decide (j ∈ ns)) c), I.laid (t' := tk) k (Nat.le_refl _) (setO_new R), rfl, q _ c hn ?_⟩
    obtain ⟨o, es, ep, t, _, _, _, _, nd, hm, _, _, hz, _⟩ := R
    have : c = (es.toList.map keyOf).length := by rw [List.length_map, Array.length_toList]; exact hz.symm
    rw [this]
    exact len_le_of_nodup nd fun k hk => (sortSet_mem k ns).mpr (of_decide_eq_true ((hm k).mpr hk))
  rcases hs with hs | hs
  · obtain ⟨its, rv, hl, _⟩ := I.list (.of hs)
    exact set_of_list ns (I.ok.hd hc) hl.isList (by simpa using rv.ints) (by unfold scanBound; omega) fin
  · obtain ⟨its, rv, hl, _⟩ := I.tuple (.of hs)
    exact call_set_tupI ns (I.ok.hd hc) (show s.heap.IsTuple a its.toArray from hl) (by simpa using rv.ints) (by unfold scanBound; omega) fin
theorem len_ok : CallR X (.builtin "len") (rBl X.K E (bltop .len)) := by
  intro pins s σ H xs us Q I r h
  obtain ⟨ρ, st, ds, sr, rd, p⟩ := h
  match ds, rd, p with
  | [], _, p => exact p.elim
  | [.str z], rd, p =>
    obtain ⟨v, rfl, rv⟩ := rps1 rd
    cases (show v = _ from rv)
    simp only [bltop] at p
    split at p
    · exact call_len_str pins s σ H _ us Q I r ⟨z, rfl, Nat.le_trans (by assumption) line_ok, p.here (K := X.K) (d := .int z.length) sr rfl⟩
    · exact p.elim
  | d :: e :: l, _, p => cases d <;> exact p.elim
  | [.non], rd, p => exact p.elim
  | [.bl _], rd, p => exact p.elim
  | [.int _], rd, p => exact p.elim
  | [.rng _ _], rd, p => exact p.elim
  | [.scr _], rd, p => exact p.elim
  | [.tup l], rd, p =>
    obtain ⟨v, rfl, rv⟩ := rps1 rd
    obtain ⟨a, vs, rfl, ha, rl⟩ := rv.seqLT sr (show seqLT (.tup l) st = some l from rfl)
    exact call_len_seq pins s σ H _ us Q I r ⟨a, vs, rfl, ha.elim (fun h => .inl (.of h)) (fun h => .inr (.of h)), by rw [← rl.length]; exact p.here (K := X.K) (d := .int l.length) sr rfl⟩
  | [.lst l], rd, p =>
    obtain ⟨v, rfl, rv⟩ := rps1 rd
    obtain ⟨a, vs, rfl, ha, rl⟩ := rv.seqLT sr (show seqLT (.lst l) st = some l from rfl)
    exact call_len_seq pins s σ H _ us Q I r ⟨a, vs, rfl, ha.elim (fun h => .inl (.of h)) (fun h => .inr (.of h)), by rw [← rl.length]; exact p.here (K := X.K) (d := .int l.length) sr rfl⟩
  | [.ref k], rd, p =>
    obtain ⟨v, rfl, rv⟩ := rps1 rd
    simp only [bltop] at p
    split at p
    · rename_i l hl
      obtain ⟨a, vs, rfl, ha, rl⟩ := rv.seqLT sr hl
      exact call_len_seq pins s σ H _ us Q I r ⟨a, vs, rfl, ha.elim (fun h => .inl (.of h)) (fun h => .inr (.of h)), by rw [← rl.length]; exact p.here (K := X.K) (d := .int l.length) sr rfl⟩
    · exact p.elim
/-- all, any -/
theorem bools_ok {f : Bf} {id : String} {g : List Bool → Bool} (hop : ∀ d st, bltop f [d] st = match seqL d st with
    | some l => (match boolsOf l with
      | some bs => .ok (.bl (g bs)) st
      | none => .bad)
    | none => .bad) (hno : ∀ ds st, (∀ d, ds ≠ [d]) → bltop f ds st = .bad)
    (rule : CallR X (.builtin id) (fun vs H Q => ∃ (a : Addr) (bs : List Bool), vs = [V.ref a] ∧ SqL X.K H a (bs.map V.bl) ∧ Q (.bl (g bs)) H)) : CallR X (.builtin id) (rBl X.K E (bltop f)) := by
  intro pins s σ H xs us Q I r h
  obtain ⟨ρ, st, ds, sr, rd, p⟩ := h
  by_cases hd : ∃ d, ds = [d]
  · obtain ⟨d, rfl⟩ := hd
    rw [hop] at p
    obtain ⟨v, rfl, rv⟩ := rps1 rd
    split at p
    · rename_i l hl
      split at p
      · rename_i bs hb
        obtain ⟨a, vs, rfl, ha, rl⟩ := rv.seqL sr hl
        rw [boolsOf_ok rl hb] at ha
        exact rule pins s σ H _ us Q I r ⟨a, bs, rfl, .of ha, p.here (K := X.K) (d := .bl (g bs)) sr rfl⟩
      · exact p.elim
    · exact p.elim
  · rw [hno ds st fun d e => hd ⟨d, e⟩] at p; exact p.elim
theorem no_one {f : List D → Store → R D} (h0 : ∀ st, f [] st = .bad) (h2 : ∀ d e l st, f (d :: e :: l) st = .bad) : ∀ ds st, (∀ d, ds ≠ [d]) → f ds st = .bad := fun ds st h => by
  match ds, h with
  | [], _ => exact h0 st
  | [d], h => exact absurd rfl (h d)
  | d :: e :: l, _ => exact h2 d e l st
theorem all_ok (hc : X.calm = true) : CallR X (.builtin "all") (rBl X.K E (bltop .all)) :=
  bools_ok (g := fun bs => bs.all id) (fun _ _ => rfl) (no_one (fun _ => rfl) fun _ _ _ _ => rfl) (cr_all hc)
theorem any_ok (hc : X.calm = true) : CallR X (.builtin "any") (rBl X.K E (bltop .any)) :=
  bools_ok (g := fun bs => bs.any id) (fun _ _ => rfl) (no_one (fun _ => rfl) fun _ _ _ _ => rfl) (cr_any hc)
theorem sum_ok (hc : X.calm = true) : CallR X (.builtin "sum") (rBl X.K E (bltop .sum)) := by
  intro pins s σ H xs us Q I r h
  obtain ⟨ρ, st, ds, sr, rd, p⟩ := h
  match ds, rd, p with
  | [], _, p => exact p.elim
  | d :: e :: l, _, p => exact p.elim
  | [d], rd, p =>
    obtain ⟨v, rfl, rv⟩ := rps1 rd
    simp only [bltop] at p
    split at p
    · rename_i l hl
      split at p
      · rename_i bs hb
        obtain ⟨a, vs, rfl, ha, rl⟩ := rv.seqLT sr hl
        rw [intsOf_ok rl hb] at ha
        rcases ha with ha | ha
        · exact cr_sum hc pins s σ H _ us Q I r ⟨a, bs, rfl, .of ha, p.here (K := X.K) (d := .int bs.sum) sr rfl⟩
        · exact sum_tup hc pins s σ H _ us Q I r ⟨a, bs, rfl, .of ha, p.here (K := X.K) (d := .int bs.sum) sr rfl⟩
      · exact p.elim
    · exact p.elim
theorem rangeL_len' : ∀ (n : Nat) (lo : Int), (rangeL lo n).length = n
  | 0, _ => rfl
  | n + 1, lo => by unfold rangeL; simp [rangeL_len' n]
theorem rgV_rel {ρ : Rho} {H : Hp} : ∀ (n : Nat) (lo : Int), Rps K ρ H (rangeL lo n) ((List.range n).map fun i => V.int (lo + (i : Nat)))
  | 0, _ => rfl
  | n + 1, lo => by
    rw [List.range_succ_eq_map, List.map_cons, List.map_map, rangeL]
    refine .cons (by show V.int _ = V.int _; simp) ?_
    have := rgV_rel (ρ := ρ) (H := H) n (lo + 1)
    have e : ((List.range n).map fun i => V.int (lo + 1 + (i : Nat))) = (List.range n).map ((fun i => V.int (lo + (i : Nat))) ∘ Nat.succ) := by
      refine List.map_congr_left fun i _ => ?_
      show V.int _ = V.int _
      congr 1
      push_cast
      omega
    rw [← e]
    exact this
theorem tuple_ok (hc : X.calm = true) : CallR X (.type "tuple") (rBl X.K E (bltop .tuple)) := by
  intro pins s σ H xs us Q I r h
  obtain ⟨ρ, st, ds, sr, rd, p⟩ := h
  have lists : ∀ d, ds = [d] → PostE X.K E ρ H (match seqL d st with
      | some l => .ok (.tup l) st
      | none => .bad) Q → wpAny (model X.prog X.w) X.A (call (.type "tuple") us) (EP X pins σ Q) X.xe s := fun d e p2 => by
    subst e
    obtain ⟨v, rfl, rv⟩ := rps1 rd
    split at p2
    · rename_i l hl
      obtain ⟨a, vs, rfl, ha, rl⟩ := rv.seqL sr hl
      exact call_tuple_of pins s σ H _ us Q I r ⟨a, vs, rfl, .inl ⟨.of ha, fun q hq => p2.new sr hq fun e n => ⟨q, vs, rfl, upd_same, n, rl.ext e _ _⟩⟩⟩
    · exact p2.elim
  match ds, rd, p with
  | [], _, p => exact p.elim
  | d :: e :: l, _, p => cases d <;> exact p.elim
  | [.tup l], rd, p =>
    obtain ⟨v, rfl, rv⟩ := rps1 rd
    obtain ⟨a, vs, rfl, ha, n, rl⟩ := id rv
    exact call_tuple_of pins s σ H _ us Q I r ⟨a, vs, rfl, .inr ⟨.of ha, p.here sr rv⟩⟩
  | [.non], rd, p => exact lists _ rfl p
  | [.bl _], rd, p => exact lists _ rfl p
  | [.int _], rd, p => exact lists _ rfl p
  | [.str _], rd, p => exact lists _ rfl p
  | [.lst _], rd, p => exact lists _ rfl p
  | [.ref _], rd, p => exact lists _ rfl p
  | [.rng lo hi], rd, p =>
    have p : PostE X.K E ρ H (if -1000000 ≤ lo ∧ lo ≤ 1000000 ∧ -1000000 ≤ hi ∧ hi ≤ 1000000 then .ok (.tup (rangeL lo (hi - lo).toNat)) st else .bad) Q := p
    split at p
    · rename_i hb
      obtain ⟨v, rfl, rv⟩ := rps1 rd
      obtain ⟨t, rfl, h2, off⟩ := rv
      obtain ⟨t1, u1, v1, hr⟩ : ∃ t1 u1 v1, s.heap.get? t = some { cls := .type "range", data := .fields #[.int lo t1, .int hi u1, .int 1 v1] } := I.hok t _ h2
      rw [Vals.ref1 r]
      have hn : Builtin.Range.rangeSize lo hi 1 = (((hi - lo).toNat : Nat) : Int) := by rw [rangeSize_one]; split <;> omega
      refine call_tuple_range (n := (hi - lo).toNat) (I.ok.hd hc) (show IsRange s.heap t lo hi 1 t1 u1 v1 from hr) (small_one (by omega) (by omega) (by omega) (by omega)) hn (by omega) fun h' tk acc hk hacc => ?_
      have hacc' := vals_rg (a := lo) (b := hi) hacc
      have I1 : Inv X pins σ H { s with heap := h', toks := tk } := I.kept hk
      have hz : (rgV lo hi).length ≤ sizeLine := by rw [rgV_length, sizeLine_eq]; omega
      refine ⟨.ref h'.objs.size, upd H h'.objs.size (.tup (rgV lo hi)), I1.laid (t' := tk) (fun b o e => Heap.get?_push_of_some _ e) (Nat.le_refl _) (show ObjOk X.prog X.w _ _ _ (.tup (rgV lo hi)) from ⟨hz, acc.toList, hacc', ⟨_, Heap.get?_push_size _ rfl, rfl, 0, by simp⟩⟩), rfl, ?_⟩
      exact p.new sr (I1.hok.fresh (Nat.le_refl _)) fun e n => ⟨_, _, rfl, upd_same, n, rgV_rel _ _⟩
    · exact p.elim
  | [.scr _], rd, p => exact lists _ rfl p
theorem maxI_mem : ∀ {l : List Int}, l ≠ [] → maxI l ∈ l
  | [], h => absurd rfl h
  | [x], _ => by simp [maxI]
  | x :: y :: r, _ => by
    unfold maxI
    split
    · exact List.mem_cons_of_mem _ (maxI_mem (l := y :: r) (by simp))
    · exact List.mem_cons_self
theorem maxI_le : ∀ {l : List Int}, ∀ z ∈ l, z ≤ maxI l
  | [], z, h => absurd h (by simp)
  | [x], z, h => by simp at h; simp [maxI, h]
  | x :: y :: r, z, h => by
    have ih := maxI_le (l := y :: r)
    unfold maxI
    rcases List.mem_cons.mp h with e | e
    · split <;> omega
    · have := ih z e
      split <;> omega
theorem minI_mem : ∀ {l : List Int}, l ≠ [] → minI l ∈ l
  | [], h => absurd rfl h
  | [x], _ => by simp [minI]
  | x :: y :: r, _ => by
    unfold minI
    split
    · exact List.mem_cons_of_mem _ (minI_mem (l := y :: r) (by simp))
    · exact List.mem_cons_self
theorem minI_le : ∀ {l : List Int}, ∀ z ∈ l, minI l ≤ z
  | [], z, h => absurd h (by simp)
  | [x], z, h => by simp at h; simp [minI, h]
  | x :: y :: r, z, h => by
    have ih := minI_le (l := y :: r)
    unfold minI
    rcases List.mem_cons.mp h with e | e
    · split <;> omega
    · have := ih z e
      split <;> omega
theorem max1_ok (hc : X.calm = true) : CallR X (.builtin "max") (rBl X.K E (bltop .max1)) := by
  intro pins s σ H xs us Q I r h
  obtain ⟨ρ, st, ds, sr, rd, p⟩ := h
  match ds, rd, p with
  | [], _, p => exact p.elim
  | d :: e :: l, _, p => exact p.elim
  | [d], rd, p =>
    obtain ⟨v, rfl, rv⟩ := rps1 rd
    have p : PostE X.K E ρ H (match seqL d st with
      | some l => match intsOf l with
        | some ns => if ns.isEmpty then .bad else .ok (.int (maxI ns)) st
        | none => .bad
      | none => .bad) Q := p
    split at p
    · rename_i l hl
      obtain ⟨a, vs, rfl, ha, rl⟩ := rv.seqL sr hl
      split at p
      · rename_i ns hns
        have e := intsOf_ok rl hns
        subst e
        split at p
        · exact p.elim
        · rename_i hne
          have hne : ns ≠ [] := by
            intro z
            subst z
            exact hne rfl
          refine cr_max hc pins s σ H _ us Q I r ⟨a, ns, rfl, .of ha, by
            cases ns with
            | nil => exact absurd rfl hne
            | cons => simp, fun m h1 h2 => ?_⟩
          have e : m = maxI ns := by
            have h3 := h2 _ (maxI_mem hne)
            have h4 := maxI_le m h1
            omega
          subst e
          exact p.here sr rfl
      · exact p.elim
    · exact p.elim
theorem min1_ok (hc : X.calm = true) : CallR X (.builtin "min") (rBl X.K E (bltop .min1)) := by
  intro pins s σ H xs us Q I r h
  obtain ⟨ρ, st, ds, sr, rd, p⟩ := h
  match ds, rd, p with
  | [], _, p => exact p.elim
  | d :: e :: l, _, p => exact p.elim
  | [d], rd, p =>
    obtain ⟨v, rfl, rv⟩ := rps1 rd
    have p : PostE X.K E ρ H (match seqL d st with
      | some l => match intsOf l with
        | some ns => if ns.isEmpty then .bad else .ok (.int (minI ns)) st
        | none => .bad
      | none => .bad) Q := p
    split at p
    · rename_i l hl
      obtain ⟨a, vs, rfl, ha, rl⟩ := rv.seqL sr hl
      split at p
      · rename_i ns hns
        have e := intsOf_ok rl hns
        subst e
        split at p
        · exact p.elim
        · rename_i hne
          have hne : ns ≠ [] := by
            intro z
            subst z
            exact hne rfl
          refine cr_min hc pins s σ H _ us Q I r ⟨a, ns, rfl, .of ha, by
            cases ns with
            | nil => exact absurd rfl hne
            | cons => simp, fun m h1 h2 => ?_⟩
          have e : m = minI ns := by
            have h3 := h2 _ (minI_mem hne)
            have h4 := minI_le m h1
            omega
          subst e
          exact p.here sr rfl
      · exact p.elim
    · exact p.elim
theorem list_ok : CallR X (.type "list") (rBl X.K E (bltop .list)) := by
  intro pins s σ H xs us Q I r h
  obtain ⟨ρ, st, ds, sr, rd, p⟩ := h
  have lists : ∀ d, ds = [d] → PostE X.K E ρ H (match seqLT d st with
      | some l => .ok (.lst l) st
      | none => .bad) Q → wpAny (model X.prog X.w) X.A (call (.type "list") us) (EP X pins σ Q) X.xe s := fun d e p2 => by
    subst e
    obtain ⟨v, rfl, rv⟩ := rps1 rd
    split at p2
    · rename_i l hl
      obtain ⟨a, vs, rfl, ha, rl⟩ := rv.seqLT sr hl
      exact call_list_of pins s σ H _ us Q I r ⟨a, vs, rfl, ha.elim (fun h => .inl (.of h)) (fun h => .inr (.of h)), fun q hq => p2.new sr hq fun e n => ⟨q, vs, rfl, upd_same, n, rl.ext e _ _⟩⟩
    · exact p2.elim
  match ds, rd, p with
  | [], _, p => exact p.elim
  | d :: e :: l, _, p => cases d <;> exact p.elim
  | [.scr l], rd, p =>
    obtain ⟨v, rfl, rv⟩ := rps1 rd
    obtain ⟨a, rfl, ha⟩ := id rv
    exact call_list_of pins s σ H _ us Q I r ⟨a, _, rfl, .inl (scr_sq ha), fun q hq => p.new sr hq fun e n => ⟨q, _, rfl, upd_same, n, Rps.ints l⟩⟩
  | [.non], rd, p => exact lists _ rfl p
  | [.bl _], rd, p => exact lists _ rfl p
  | [.int _], rd, p => exact lists _ rfl p
  | [.str _], rd, p => exact lists _ rfl p
  | [.lst _], rd, p => exact lists _ rfl p
  | [.tup _], rd, p => exact lists _ rfl p
  | [.ref _], rd, p => exact lists _ rfl p
  | [.rng _ _], rd, p => exact lists _ rfl p
theorem abs_ok : CallR X (.builtin "abs") (rBl X.K E (bltop .abs)) := by
  intro pins s σ H xs us Q I r h
  obtain ⟨ρ, st, ds, sr, rd, p⟩ := h
  match ds, rd, p with
  | [], _, p => exact p.elim
  | d :: e :: l, _, p => cases d <;> exact p.elim
  | [.int i], rd, p =>
    obtain ⟨v, rfl, rv⟩ := rps1 rd
    cases (show v = _ from rv)
    exact call_abs pins s σ H _ us Q I r ⟨i, rfl, p.here sr rfl⟩
  | [.non], rd, p => exact p.elim
  | [.bl _], rd, p => exact p.elim
  | [.str _], rd, p => exact p.elim
  | [.lst _], rd, p => exact p.elim
  | [.tup _], rd, p => exact p.elim
  | [.ref _], rd, p => exact p.elim
  | [.rng _ _], rd, p => exact p.elim
  | [.scr _], rd, p => exact p.elim
theorem int_ok : CallR X (.type "int") (rBl X.K E (bltop .int)) := by
  intro pins s σ H xs us Q I r h
  obtain ⟨ρ, st, ds, sr, rd, p⟩ := h
  match ds, rd, p with
  | [], _, p => exact p.elim
  | d :: e :: l, _, p => cases d <;> exact p.elim
  | [.int i], rd, p =>
    obtain ⟨v, rfl, rv⟩ := rps1 rd
    cases (show v = _ from rv)
    exact call_int1 pins s σ H _ us Q I r (.inl ⟨i, rfl, p.here sr rfl⟩)
  | [.bl i], rd, p =>
    obtain ⟨v, rfl, rv⟩ := rps1 rd
    cases (show v = _ from rv)
    exact call_int1 pins s σ H _ us Q I r (.inr ⟨i, rfl, p.here sr rfl⟩)
  | [.non], rd, p => exact p.elim
  | [.str _], rd, p => exact p.elim
  | [.lst _], rd, p => exact p.elim
  | [.tup _], rd, p => exact p.elim
  | [.ref _], rd, p => exact p.elim
  | [.rng _ _], rd, p => exact p.elim
  | [.scr _], rd, p => exact p.elim
theorem sorted_ok : CallR X (.builtin "sorted") (rBl X.K E (bltop .sorted)) := by
  intro pins s σ H xs us Q I r h
  obtain ⟨ρ, st, ds, sr, rd, p⟩ := h
  match ds, rd, p with
  | [], _, p => exact p.elim
  | d :: e :: l, _, p => exact p.elim
  | [d], rd, p =>
    obtain ⟨v, rfl, rv⟩ := rps1 rd
    simp only [bltop] at p
    split at p
    · rename_i l hl
      split at p
      · rename_i bs hb
        obtain ⟨a, vs, rfl, ha, rl⟩ := rv.seqL sr hl
        rw [intsOf_ok rl hb] at ha
        refine cr_sortedI pins s σ H _ us Q I r ⟨a, bs, rfl, .of ha, fun ns' q pm le hq => ?_⟩
        rw [le_unique le (sortI_le bs) (pm.trans (sortI_perm bs).symm)]
        exact p.new sr hq fun e n => ⟨q, _, rfl, upd_same, n, Rps.ints _⟩
      · exact p.elim
    · exact p.elim
theorem int2_ok {fv : Value} {f : Bf} {g : Int → Int → D} (hop : ∀ l st, bltop f l st = int2 g l st)
    (rule : ∀ (pins : List (Addr × Obj)) (s : Shared) (σ : L2.St) (H : Hp) (i j : Int) (us : List Value) (Q : VK) (ρ : Rho) (st : Store), Inv X pins σ H s → Vals [.int i, .int j] us → StR X.K ρ H st → PostE X.K E ρ H (.ok (g i j) st) Q →
      wpAny (model X.prog X.w) X.A (call fv us) (EP X pins σ Q) X.xe s) : CallR X fv (rBl X.K E (bltop f)) := by
  intro pins s σ H xs us Q I r h
  obtain ⟨ρ, st, ds, sr, rd, p⟩ := h
  rw [hop] at p
  unfold int2 at p
  split at p
  · rename_i i j
    obtain ⟨v, w, rfl, rv, rw'⟩ := rps2 rd
    cases (show v = _ from rv); cases (show w = _ from rw')
    exact rule pins s σ H i j us Q ρ st I r sr p
  · exact p.elim
theorem max2_ok (hc : X.calm = true) : CallR X (.builtin "max") (rBl X.K E (bltop .max2)) :=
  int2_ok (g := fun i j => .int (if j > i then j else i)) (fun _ _ => rfl) fun pins s σ H i j us Q ρ st I r sr p => call_max2 hc pins s σ H _ us Q I r ⟨i, j, rfl, p.here sr rfl⟩
theorem min2_ok (hc : X.calm = true) : CallR X (.builtin "min") (rBl X.K E (bltop .min2)) :=
  int2_ok (g := fun i j => .int (if j < i then j else i)) (fun _ _ => rfl) fun pins s σ H i j us Q ρ st I r sr p => call_min2 hc pins s σ H _ us Q I r ⟨i, j, rfl, p.here sr rfl⟩
theorem range2_ok : CallR X (.type "range") (rBl X.K E (bltop .range2)) :=
  int2_ok (g := fun m n => .rng m n) (fun _ _ => rfl) fun pins s σ H i j us Q ρ st I r sr p => cr_range2 pins s σ H _ us Q I r ⟨i, j, rfl, fun q hq => p.new sr hq fun e n => ⟨q, rfl, upd_same, n⟩⟩
theorem range1_ok : CallR X (.type "range") (rBl X.K E (bltop .range1)) := by
  intro pins s σ H xs us Q I r h
  obtain ⟨ρ, st, ds, sr, rd, p⟩ := h
  match ds, rd, p with
  | [], _, p => exact p.elim
  | d :: e :: l, _, p => cases d <;> exact p.elim
  | [.int j], rd, p =>
    obtain ⟨v, rfl, rv⟩ := rps1 rd
    cases (show v = _ from rv)
    obtain ⟨u, rfl, ru⟩ := vals1 r
    obtain ⟨t, rfl⟩ := ru
    refine call_range_1 ⟨.ref s.heap.objs.size, upd H s.heap.objs.size (.rng 0 j), I.laid (t' := s.toks + 2) (fun b o e => Heap.get?_push_of_some _ e) (Nat.le_refl _) ⟨_, _, _, Heap.get?_push_size _ rfl⟩, rfl, ?_⟩
    exact p.new sr (I.hok.fresh (Nat.le_refl _)) fun e n => ⟨_, rfl, upd_same, n⟩
  | [.non], rd, p => exact p.elim
  | [.bl _], rd, p => exact p.elim
  | [.str _], rd, p => exact p.elim
  | [.lst _], rd, p => exact p.elim
  | [.tup _], rd, p => exact p.elim
  | [.ref _], rd, p => exact p.elim
  | [.rng _ _], rd, p => exact p.elim
  | [.scr _], rd, p => exact p.elim
end
end Ev

set_option Elab.async false
set_option linter.all false
set_option maxRecDepth 100000
set_option maxHeartbeats 1000000
namespace Ev
open PySem PySem.Spec PyProof.Rows L2
variable {K : PySem.W.Frag}
/-! ### t[::-1] of a tuple -/
theorem fm_congr {α β : Type} {f g : α → Option β} : ∀ {l : List α}, (∀ x ∈ l, f x = g x) → l.filterMap f = l.filterMap g
  | [], _ => rfl
  | x :: r, h => by
    rw [List.filterMap_cons, List.filterMap_cons, h x List.mem_cons_self, fm_congr fun y hy => h y (List.mem_cons_of_mem _ hy)]
theorem fm_rev {α : Type} (l : List α) : ((List.range l.length).filterMap fun (k : Nat) => l[l.length - 1 - k]?) = l.reverse := by
  induction l with
  | nil => rfl
  | cons x r ih =>
    rw [List.length_cons, List.range_succ, List.filterMap_append, List.reverse_cons, ← ih]
    congr 1
    · refine fm_congr fun k hk => ?_
      have := List.mem_range.mp hk
      have e : r.length + 1 - 1 - k = (r.length - 1 - k) + 1 := by omega
      rw [e, List.getElem?_cons_succ]
    · simp
section
variable {prog : Program} {w : World} {A : Around} {E : Value → Shared → Prop} {s : Shared}
theorem pick_back (xs : Array Value) : ((List.range xs.size).filterMap fun (k : Nat) => xs[(((xs.size : Int) - 1) + (k : Int) * (-1)).toNat]?).toArray = xs.toList.reverse.toArray := by
  rw [← fm_rev xs.toList, Array.length_toList]
  congr 1
  refine fm_congr fun k hk => ?_
  have := List.mem_range.mp hk
  have e : (((xs.size : Int) - 1) + (k : Int) * (-1)).toNat = xs.size - 1 - k := by omega
  rw [e, Array.getElem?_toList]
theorem tuple_back {t sl : Addr} {items : Array Value} {vs : Value} {Q : Value → Shared → Prop} (ht : IsTup s.heap t items) (hs : s.heap.IsSliceOf sl .none .none vs) (ps : IsPart vs (some (-1)))
    (h : Q (.ref s.heap.objs.size) { s with heap := s.heap.push { cls := .type "tuple", data := .seq items.toList.reverse.toArray } }) (hsz : items.size ≤ sizeLine) : wpAny (model prog w) A (getItem (.ref t) (.ref sl)) Q E s := by
  obtain ⟨os, hos, hcs, hds⟩ := id hs
  have ty : s.TypeIs (.ref sl) "slice" := ⟨os, hos, hcs⟩
  have fits : sizeOk (.seq items.toList.reverse.toArray) := by
    show items.toList.reverse.toArray.size ≤ sizeLine
    rw [List.size_toArray, List.length_reverse, Array.length_toList]; exact hsz
  unfold getItem; try with_reducible refine wpAny_holding ?_
  first | refine wpAny_bind (wpAny_pure ?_) | skip
  refine wpAny_bind (wpAny_sequenceKey ht.typeIs (by decide) (wpAny_bind (wpAny_callSpecial?_slot (name := Str.ofString "__getitem__") ht.typeIs slot_tuple_getitem (wpAny_call_entry slot_tuple_getitem ht.typeIs entry_tuple_getitem ?_ (args_tuple_getitem _ _)))))
  show wpAny _ _ (Builtin.Tuple.tupleItemsOf (.ref t) >>= _) _ _ s
  refine wpAny_bind (tupleItemsOf_ ht (wpAny_bind (wpAny_typeOf ty ?_)))
  rw [if_pos (by decide)]
  refine wpAny_bind ?_
  unfold Builtin.Slice.sliceApplied Builtin.Slice.sliceFields
  refine wpAny_bind (wpAny_bind (wpAny_field hos hds (x := .none) rfl (wpAny_bind (wpAny_field hos hds (x := .none) rfl (wpAny_bind (wpAny_field hos hds (x := vs) rfl (wpAny_pure ?_)))))))
  refine wpAny_bind (HT.slicePart_ ps ?_)
  show wpAny _ _ (if ((-1 : Int) == 0) = true then _ else _) _ _ s
  rw [if_neg (by decide)]
  refine wpAny_bind (slicePart_none (wpAny_bind (slicePart_none (wpAny_bind (wpAny_pure ?_)))))
  have e1 : Builtin.Slice.sliceAdjust none none (-1) (items.size : Int) = ((items.size : Int) - 1, -1) := rfl
  have e2 : Builtin.Slice.slicePlaces ((items.size : Int) - 1) (-1) (-1) = items.size := by
    unfold Builtin.Slice.slicePlaces
    rw [if_neg (by decide)]
    split
    · have q : (- (-1 : Int)) = 1 := by decide
      rw [q, Int.ediv_one]; omega
    · omega
  show wpAny _ _ (match Builtin.Slice.sliceAdjust none none (-1) (items.size : Int) with | (lo, hi) => pure (lo, (-1 : Int), Builtin.Slice.slicePlaces lo hi (-1))) _ _ s
  rw [e1]
  show wpAny _ _ (pure ((items.size : Int) - 1, (-1 : Int), Builtin.Slice.slicePlaces ((items.size : Int) - 1) (-1) (-1))) _ _ s
  rw [e2]
  refine wpAny_pure ?_
  show wpAny _ _ (if ((items.size : Int) - 1 == 0 && (-1 : Int) == 1 && items.size == items.size) = true then _ else _) _ _ s
  rw [if_neg (by rw [show ((-1 : Int) == 1) = false from rfl, Bool.and_false, Bool.false_and]; exact Bool.false_ne_true), pick_back]
  first
    | exact wpAny_bind (m := Builtin.Tuple.tupleExact _) (wpAny_newObj_type (wpAny_pure ⟨_, rfl, wpAny_pure h⟩) fits)
    | exact wpAny_bind (m := Builtin.Tuple.tupleExact _) (wpAny_newObj_type (wpAny_bind (wpAny_pure (wpAny_pure ⟨_, rfl, wpAny_pure h⟩))) fits)
    | exact wpAny_bind (wpAny_bind (m := Builtin.Tuple.tupleExact _) (wpAny_newObj_type (wpAny_pure (wpAny_pure ⟨_, rfl, wpAny_pure h⟩)) fits))
    | exact wpAny_bind (wpAny_bind (m := Builtin.Tuple.tupleExact _) (wpAny_newObj_type (wpAny_pure ⟨_, rfl, wpAny_pure h⟩) fits))
end
/-- the slice [::-1] as it is written -/
abbrev backSl (k : Nat) (p1 p2 p3 : Pos) : Expr := .Slice none none (some (.UnaryOp .USub (.Constant (.int 1) k p1) p2)) p3
section
variable {X : Cx} {E : Str → Hp → Prop}
theorem rev_tup {e : Expr} {te : TE} {k : Nat} {p1 p2 p3 pos : Pos} (he : PE X e te) : PE X (.Subscript e (backSl k p1 p2 p3) pos)
    (fun σ H Q => te σ H fun x H1 => ∃ a xs, x = .ref a ∧ ((H1 a = some (.lst xs) ∧ ∀ p, H1 p = none → Q (.ref p) (upd H1 p (.lst xs.reverse))) ∨ (H1 a = some (.tup xs) ∧ ∀ p, H1 p = none → Q (.ref p) (upd H1 p (.tup xs.reverse))))) := by
  refine ⟨fun pins s σ H Q I h => Subscript_ (thn (he.run pins s σ H _ I h) fun v s1 ⟨x, H1, I1, r1, q1⟩ => ?_)⟩
  obtain ⟨a, xs, rfl, q⟩ := q1
  cases r1
  have part : PO X (some (.UnaryOp .USub (.Constant (.int 1) k p1) p2)) (tPart (tUn (rU fun i => .int (-i)) (tC (.int 1)))) := po_some (pe_un un_neg pe_int)
  refine wpAny_Slice (thn (po_none.run pins s1 σ H1 (fun o H2 => o = none ∧ H2 = H1) I1 ⟨rfl, rfl⟩) fun vl s2 ⟨l, H2, I2, pl, el, e2⟩ => ?_)
  subst el e2
  refine thn (po_none.run pins s2 σ H2 (fun o H3 => o = none ∧ H3 = H2) I2 ⟨rfl, rfl⟩) fun vu s3 ⟨u, H3, I3, pu, eu, e3⟩ => ?_
  subst eu e3
  refine thn (part.run pins s3 σ H3 (fun o H4 => o = some (-1) ∧ H4 = H3) I3 ⟨1, rfl, -1, rfl, rfl, rfl⟩) fun vs s4 ⟨o, H4, I4, ps, eo, e4⟩ => ?_
  subst eo e4
  cases pl; cases pu
  have I5 : Inv X pins σ H4 { s4 with heap := s4.heap.push { cls := .type "slice", data := .fields #[.none, .none, vs] } } := I4.kept (t' := s4.toks) fun b ob q => Heap.get?_push_of_some _ q
  show wpAny (model X.prog X.w) X.A (subscriptTail e (backSl k p1 p2 p3) (.ref a) (.ref s4.heap.objs.size)) (EP X pins σ Q) X.xe { s4 with heap := s4.heap.push { cls := .type "slice", data := .fields #[.none, .none, vs] } }
  rcases q with ⟨hx, q⟩ | ⟨hx, q⟩
  · obtain ⟨its, r, ht, hz⟩ := I5.list (.of hx)
    have hlen := r.length
    refine tail_any (ops := [.ref a, .ref s4.heap.objs.size]) ht.isList.typeIs slot_list_getitem.lookup ?_ (by with_unfolding_all rfl)
    refine wpAny_getItem_list_slice ht.isList (Heap.IsSliceOf.new _ _ _ vs) .none .none ps (by decide) ?_ (by rw [List.size_toArray]; omega)
    rw [PySem.W.krv_pick]
    exact ⟨.ref _, _, I5.laid (t' := s4.toks) (o := .lst xs.reverse) (fun b ob q => Heap.get?_push_of_some _ q) (Nat.le_refl _) ⟨by rw [List.length_reverse]; exact hz, _, 0, r.reverse, Heap.get?_push_size _ rfl⟩, rfl, q _ (I5.hok.fresh (Nat.le_refl _))⟩
  · obtain ⟨its, r, ht, hz⟩ := I5.tuple (.of hx)
    have hlen := r.length
    refine tail_any (ops := [.ref a, .ref s4.heap.objs.size]) ht.typeIs slot_tuple_getitem.lookup ?_ (by with_unfolding_all rfl)
    refine tuple_back ht (Heap.IsSliceOf.new _ _ _ vs) ps ?_ (by rw [List.size_toArray]; omega)
    exact ⟨.ref _, _, I5.laid (t' := s4.toks) (o := .tup xs.reverse) (fun b ob q => Heap.get?_push_of_some _ q) (Nat.le_refl _) ⟨by rw [List.length_reverse]; exact hz, _, r.reverse, IsTup.new _ _⟩, rfl, q _ (I5.hok.fresh (Nat.le_refl _))⟩
/-! ### isinstance -/
theorem isin_ok {ρ : Rho} {H : Hp} {st : Store} {d : D} {v : V} {ty : String} {b : Bool} (sr : StR K ρ H st) (r : Rp K ρ H d v) (hty : okTy ty = true) (e : isinop d ty st = some b) : ∃ t, TyX K H v t ∧ PySem.W.kitOne K t (.type ty) = some b := by
  have tys : ty = "bool" ∨ ty = "int" ∨ ty = "str" ∨ ty = "tuple" ∨ ty = "list" := by
    simp only [okTy, Bool.or_eq_true, beq_iff_eq] at hty
    rcases hty with (((h | h) | h) | h) | h
    · exact .inl h
    · exact .inr (.inl h)
    · exact .inr (.inr (.inl h))
    · exact .inr (.inr (.inr (.inl h)))
    · exact .inr (.inr (.inr (.inr h)))
  have fin : ∀ a b', isinTy a ty = b' → (a = "NoneType" ∨ a = "bool" ∨ a = "int" ∨ a = "str" ∨ a = "tuple" ∨ a = "list") → PySem.W.kitOne K (.type a) (.type ty) = some b' := by
    intro a b' e ha
    refine kit_ty ?_
    subst e
    rcases ha with h | h | h | h | h | h <;> subst h <;> rcases tys with h | h | h | h | h <;> subst h <;> decide +kernel
  cases d with
  | non => cases (show v = _ from r); cases e; exact ⟨_, .base .non, fin "NoneType" _ rfl (by simp)⟩
  | bl x => cases (show v = _ from r); cases e; exact ⟨_, .base (.bl x), fin "bool" _ rfl (by simp)⟩
  | int x => cases (show v = _ from r); cases e; exact ⟨_, .base (.int x), fin "int" _ rfl (by simp)⟩
  | str x => cases (show v = _ from r); cases e; exact ⟨_, .base (.str x), fin "str" _ rfl (by simp)⟩
  | tup l => obtain ⟨a, vs, rfl, h, _⟩ := r; cases e; exact ⟨_, .base (.tup h), fin "tuple" _ rfl (by simp)⟩
  | lst l => obtain ⟨a, vs, rfl, h, _⟩ := r; cases e; exact ⟨_, .base (.lst h), fin "list" _ rfl (by simp)⟩
  | ref k =>
    simp only [isinop] at e
    split at e
    · rename_i l hl
      obtain ⟨a, vs, rfl, h, _⟩ := r.seqL sr (show seqL (.ref k) st = some l by simp [seqL, hl])
      cases e
      exact ⟨_, .base (.lst h), fin "list" _ rfl (by simp)⟩
    · cases e
  | rng _ _ => cases e
  | scr _ => cases e
/-! ### subscripts and slices -/
theorem ix_ok : IxR X (rOp X.K E ixop) := by
  intro value slice pins s σ H x y v u Q I rx ry h hs
  obtain ⟨ρ, st, a, b, sr, ra, rb, p⟩ := h
  cases b with
  | int i =>
    cases (show y = _ from rb)
    simp only [ixop] at p
    split at p
    · rename_i l hl
      cases e : atI l i with
      | none => rw [e] at p; exact p.elim
      | some d =>
        rw [e] at p
        obtain ⟨c, vs, rfl, hc, rl⟩ := ra.seqLT sr hl
        unfold Ev.atI at e
        cases ej : ixN l.length i with
        | none => rw [ej] at e; cases e
        | some j =>
          rw [ej] at e
          obtain ⟨w, hw, rw'⟩ := rl.get (i := j) (d := d) e
          have eat : L2.atI vs i = some w := by
            unfold L2.atI
            rw [show L2.ixN vs.length i = some j by rw [← rl.length]; exact ej]
            exact hw
          have q := p.here sr rw'
          rcases hc with hc | hc
          · exact ix_list value slice pins s σ H _ _ v u Q I rx ry ⟨c, vs, i, w, rfl, rfl, .of hc, eat, q⟩ hs
          · exact ix_tup value slice pins s σ H _ _ v u Q I rx ry ⟨c, vs, i, w, rfl, rfl, .of hc, eat, q⟩ hs
    · exact p.elim
  | _ => exact p.elim
def rSlD (K : PySem.W.Frag) (E : Str → Hp → Prop) : V → Option Int → Option Int → Hp → VK → Prop := fun x lo hi H Q => ∃ ρ st a, StR K ρ H st ∧ Rp K ρ H a x ∧ PostE K E ρ H (slop a lo hi st) Q
theorem rps_cut {ρ : Rho} {H : Hp} {l : List D} {vs : List V} (lo hi : Option Int) (h : Rps K ρ H l vs) : Rps K ρ H (Ev.cut l lo hi) (L2.cutV vs lo hi) := by
  have e := h.length
  unfold Ev.cut L2.cutV
  rw [e]
  exact Rps.take _ (Rps.drop _ h)
theorem cut_whole (l : List D) (lo hi : Option Int) (h : HT.sIx l.length 0 lo = 0 ∧ HT.sIx l.length l.length hi = l.length) : Ev.cut l lo hi = l := by
  unfold cut
  have e1 : sIx l.length 0 lo = 0 := h.1
  have e2 : sIx l.length l.length hi = l.length := h.2
  rw [e1, e2]
  simp
theorem sl_ok : SlR X (rSlD X.K E) := by
  intro pins s σ H x v vl vu lo hi sl Q I rx hs pl pu h
  obtain ⟨ρ, st, a, sr, ra, p⟩ := h
  have lists : ∀ d, a = d → PostE X.K E ρ H (match seqL d st with
      | some l => .ok (.lst (Ev.cut l lo hi)) st
      | none => .bad) Q → ∃ T id, typeLookup (.type T) "__getitem__" = pure (some (.builtin id)) ∧ s.TypeIs v T ∧ wpAny (model X.prog X.w) X.A (getItem v (.ref sl)) (EP X pins σ Q) X.xe s := fun d e p2 => by
    subst e
    split at p2
    · rename_i l hl
      obtain ⟨c, vs, rfl, hc, rl⟩ := ra.seqL sr hl
      exact sl_list pins s σ H _ v vl vu lo hi sl Q I rx hs pl pu ⟨c, vs, rfl, .of hc, fun q hq => p2.new sr hq fun e n => ⟨q, _, rfl, upd_same, n, rps_cut lo hi (rl.ext e _ _)⟩⟩
    · exact p2.elim
  cases a with
  | tup l =>
    obtain ⟨c, vs, rfl, hc, n, rl⟩ := id ra
    refine sl_tupA pins s σ H _ v vl vu lo hi sl Q I rx hs pl pu ⟨c, vs, rfl, .of hc, fun hw => ?_, fun _ q hq => ?_⟩
    · have e : Ev.cut l lo hi = l := cut_whole l lo hi (by rw [rl.length]; exact hw)
      rw [slop, e] at p
      exact p.here sr ra
    · exact p.new sr hq fun e n => ⟨q, _, rfl, upd_same, n, rps_cut lo hi (rl.ext e _ _)⟩
  | non => exact lists _ rfl p
  | bl _ => exact lists _ rfl p
  | int _ => exact lists _ rfl p
  | str _ => exact lists _ rfl p
  | lst _ => exact lists _ rfl p
  | ref _ => exact lists _ rfl p
  | rng _ _ => exact lists _ rfl p
  | scr _ => exact lists _ rfl p
/-! ### truth -/
theorem truth_ok {ρ : Rho} {H : Hp} {st : Store} {d : D} {v : V} {b : Bool} (sr : StR K ρ H st) (r : Rp K ρ H d v) (e : truth d st = some b) : TruV K v H b := by
  cases d with
  | non => cases (show v = _ from r); cases e; rfl
  | bl x => cases (show v = _ from r); cases e; rfl
  | int x => cases (show v = _ from r); cases e; rfl
  | str x =>
    cases (show v = _ from r)
    simp only [truth] at e
    split at e
    · cases e; exact ⟨by rw [sizeLine_eq]; omega, rfl⟩
    · cases e
  | tup l =>
    obtain ⟨a, vs, rfl, h, _, rl⟩ := r
    cases e
    refine .inr (.inl ⟨vs, .of h, ?_⟩)
    have := rl.length
    cases l <;> cases vs <;> simp_all
  | lst l =>
    obtain ⟨a, vs, rfl, h, _, rl⟩ := r
    cases e
    refine .inl ⟨vs, .of h, ?_⟩
    have := rl.length
    cases l <;> cases vs <;> simp_all
  | ref k =>
    simp only [truth] at e
    split at e
    · rename_i l hl
      obtain ⟨a, vs, rfl, h, rl⟩ := r.seqL sr (show seqL (.ref k) st = some l by simp [seqL, hl])
      cases e
      refine .inl ⟨vs, .of h, ?_⟩
      have := rl.length
      cases l <;> cases vs <;> simp_all
    · cases e
  | rng _ _ => cases e
  | scr _ => cases e
end
end Ev

set_option Elab.async false
set_option linter.all false
set_option maxRecDepth 100000
set_option maxHeartbeats 1000000
namespace Ev
open PySem PySem.Spec PyProof.Rows L2
variable {K : PySem.W.Frag}
/-! ### readings -/
abbrev XW := L2.St → Str → Hp → Prop
def PostL (K : PySem.W.Frag) (E : Str → Hp → Prop) (ρ : Rho) (H : Hp) (r : R (List D)) (Q : List V → Hp → Prop) : Prop := match r with
  | .ok d st' => ∀ v ρ' H', Ext ρ H ρ' H' → StR K ρ' H' st' → Rps K ρ' H' d v → Q v H'
  | .exc x st' => ∀ ρ' H', Ext ρ H ρ' H' → StR K ρ' H' st' → E x H'
  | .bad => False
def PostT (K : PySem.W.Frag) (E : Str → Hp → Prop) (ρ : Rho) (H : Hp) (r : R D) (Q : Bool → Hp → Prop) : Prop := match r with
  | .ok d st' => ∃ b, truth d st' = some b ∧ ∀ ρ' H', Ext ρ H ρ' H' → StR K ρ' H' st' → Q b H'
  | .exc x st' => ∀ ρ' H', Ext ρ H ρ' H' → StR K ρ' H' st' → E x H'
  | .bad => False
abbrev Fe := Env → Store → R D
def tE (K : PySem.W.Frag) (W : XW) (f : Fe) : TE := fun σ H Q => ∃ ρ env st, EnvR K ρ H env σ ∧ StR K ρ H st ∧ PostE K (W σ) ρ H (f env st) Q
def tT (K : PySem.W.Frag) (W : XW) (f : Fe) : TT := fun σ H Q => ∃ ρ env st, EnvR K ρ H env σ ∧ StR K ρ H st ∧ PostT K (W σ) ρ H (f env st) Q
def tL (K : PySem.W.Frag) (W : XW) (f : Env → Store → R (List D)) : TA := fun σ H Q => ∃ ρ env st, EnvR K ρ H env σ ∧ StR K ρ H st ∧ PostL K (W σ) ρ H (f env st) Q
section
variable {E : Str → Hp → Prop} {ρ ρ1 : Rho} {H H1 : Hp}
theorem PostE.later {r : R D} {Q : VK} (p : PostE K E ρ H r Q) (e : Ext ρ H ρ1 H1) : PostE K E ρ1 H1 r Q := by
  cases r with
  | ok d st' => exact fun v ρ' H' e' s r => p v ρ' H' (e.trans e') s r
  | exc x st' => exact fun ρ' H' e' s => p ρ' H' (e.trans e') s
  | bad => exact p
theorem PostL.later {r : R (List D)} {Q : List V → Hp → Prop} (p : PostL K E ρ H r Q) (e : Ext ρ H ρ1 H1) : PostL K E ρ1 H1 r Q := by
  cases r with
  | ok d st' => exact fun v ρ' H' e' s r => p v ρ' H' (e.trans e') s r
  | exc x st' => exact fun ρ' H' e' s => p ρ' H' (e.trans e') s
  | bad => exact p
theorem PostT.later {r : R D} {Q : Bool → Hp → Prop} (p : PostT K E ρ H r Q) (e : Ext ρ H ρ1 H1) : PostT K E ρ1 H1 r Q := by
  cases r with
  | ok d st' => obtain ⟨b, h, p⟩ := p; exact ⟨b, h, fun ρ' H' e' s => p ρ' H' (e.trans e') s⟩
  | exc x st' => exact fun ρ' H' e' s => p ρ' H' (e.trans e') s
  | bad => exact p
theorem PostE.imp {r : R D} {Q Q' : VK} (p : PostE K E ρ H r Q) (h : ∀ v H, Q v H → Q' v H) : PostE K E ρ H r Q' := by
  cases r with
  | ok d st' => exact fun v ρ' H' e' s r => h _ _ (p v ρ' H' e' s r)
  | exc x st' => exact p
  | bad => exact p
theorem PostL.imp {r : R (List D)} {Q Q' : List V → Hp → Prop} (p : PostL K E ρ H r Q) (h : ∀ v H, Q v H → Q' v H) : PostL K E ρ H r Q' := by
  cases r with
  | ok d st' => exact fun v ρ' H' e' s r => h _ _ (p v ρ' H' e' s r)
  | exc x st' => exact p
  | bad => exact p
theorem PostT.imp {r : R D} {Q Q' : Bool → Hp → Prop} (p : PostT K E ρ H r Q) (h : ∀ v H, Q v H → Q' v H) : PostT K E ρ H r Q' := by
  cases r with
  | ok d st' => obtain ⟨b, e, p⟩ := p; exact ⟨b, e, fun ρ' H' e' s => h _ _ (p ρ' H' e' s)⟩
  | exc x st' => exact p
  | bad => exact p
/-- behind the first part of a bind -/
def Mid (K : PySem.W.Frag) (ρ : Rho) (H : Hp) (r : R D) (P : Rho → Hp → D → Store → Prop) (v : V) (H1 : Hp) : Prop :=
  ∃ ρ1 st1 d, Ext ρ H ρ1 H1 ∧ StR K ρ1 H1 st1 ∧ Rp K ρ1 H1 d v ∧ r = .ok d st1 ∧ P ρ1 H1 d st1
theorem PostE.step {r : R D} {g : D → Store → R D} {Q : VK} (p : PostE K E ρ H (r.bind g) Q) : PostE K E ρ H r (Mid K ρ H r fun ρ1 H1 d st1 => PostE K E ρ1 H1 (g d st1) Q) := by
  cases r with
  | ok d st1 => exact fun v ρ1 H1 e s r => ⟨ρ1, st1, d, e, s, r, rfl, p.later e⟩
  | exc x st' => exact p
  | bad => exact p
theorem PostL.step {r : R D} {g : D → Store → R (List D)} {Q : List V → Hp → Prop} (p : PostL K E ρ H (r.bind g) Q) : PostE K E ρ H r (Mid K ρ H r fun ρ1 H1 d st1 => PostL K E ρ1 H1 (g d st1) Q) := by
  cases r with
  | ok d st1 => exact fun v ρ1 H1 e s r => ⟨ρ1, st1, d, e, s, r, rfl, PostL.later p e⟩
  | exc x st' => exact p
  | bad => exact p
theorem PostT.step {r : R D} {g : D → Store → R D} {Q : Bool → Hp → Prop} (p : PostT K E ρ H (r.bind g) Q) : PostE K E ρ H r (Mid K ρ H r fun ρ1 H1 d st1 => PostT K E ρ1 H1 (g d st1) Q) := by
  cases r with
  | ok d st1 => exact fun v ρ1 H1 e s r => ⟨ρ1, st1, d, e, s, r, rfl, PostT.later p e⟩
  | exc x st' => exact p
  | bad => exact p
def MidL (K : PySem.W.Frag) (ρ : Rho) (H : Hp) (r : R (List D)) (P : Rho → Hp → List D → Store → Prop) (v : List V) (H1 : Hp) : Prop :=
  ∃ ρ1 st1 d, Ext ρ H ρ1 H1 ∧ StR K ρ1 H1 st1 ∧ Rps K ρ1 H1 d v ∧ r = .ok d st1 ∧ P ρ1 H1 d st1
theorem PostE.stepL {r : R (List D)} {g : List D → Store → R D} {Q : VK} (p : PostE K E ρ H (r.bind g) Q) : PostL K E ρ H r (MidL K ρ H r fun ρ1 H1 d st1 => PostE K E ρ1 H1 (g d st1) Q) := by
  cases r with
  | ok d st1 => exact fun v ρ1 H1 e s r => ⟨ρ1, st1, d, e, s, r, rfl, p.later e⟩
  | exc x st' => exact p
  | bad => exact p
theorem PostL.stepL {r : R (List D)} {g : List D → Store → R (List D)} {Q : List V → Hp → Prop} (p : PostL K E ρ H (r.bind g) Q) : PostL K E ρ H r (MidL K ρ H r fun ρ1 H1 d st1 => PostL K E ρ1 H1 (g d st1) Q) := by
  cases r with
  | ok d st1 => exact fun v ρ1 H1 e s r => ⟨ρ1, st1, d, e, s, r, rfl, p.later e⟩
  | exc x st' => exact p
  | bad => exact p
/-- a value's truth asked -/
theorem PostE.test {r : R D} {g : Bool → D → Store → R D} {Q : VK} (p : PostE K E ρ H (r.bind fun d st1 => match truth d st1 with
    | some b => g b d st1
    | none => .bad) Q) : PostT K E ρ H r fun b H1 => ∃ ρ1 st1 d, Ext ρ H ρ1 H1 ∧ StR K ρ1 H1 st1 ∧ r = .ok d st1 ∧ truth d st1 = some b ∧ PostE K E ρ1 H1 (g b d st1) Q := by
  cases r with
  | ok d st1 =>
    change PostE K E ρ H (match truth d st1 with
    | some b => g b d st1
    | none => .bad) Q at p
    cases h : truth d st1 with
    | none => rw [h] at p; exact p.elim
    | some b => rw [h] at p; exact ⟨b, h, fun ρ1 H1 e s => ⟨ρ1, st1, d, e, s, rfl, h, p.later e⟩⟩
  | exc x st' => exact p
  | bad => exact p
theorem PostT.test {r : R D} {g : Bool → D → Store → R D} {Q : Bool → Hp → Prop} (p : PostT K E ρ H (r.bind fun d st1 => match truth d st1 with
    | some b => g b d st1
    | none => .bad) Q) : PostT K E ρ H r fun b H1 => ∃ ρ1 st1 d, Ext ρ H ρ1 H1 ∧ StR K ρ1 H1 st1 ∧ r = .ok d st1 ∧ truth d st1 = some b ∧ PostT K E ρ1 H1 (g b d st1) Q := by
  cases r with
  | ok d st1 =>
    change PostT K E ρ H (match truth d st1 with
    | some b => g b d st1
    | none => .bad) Q at p
    cases h : truth d st1 with
    | none => rw [h] at p; exact p.elim
    | some b => rw [h] at p; exact ⟨b, h, fun ρ1 H1 e s => ⟨ρ1, st1, d, e, s, rfl, h, PostT.later p e⟩⟩
  | exc x st' => exact p
  | bad => exact p
/-- the value, then its truth -/
theorem PostT.val {r : R D} {Q : Bool → Hp → Prop} (p : PostT K E ρ H r Q) : PostE K E ρ H r fun v H1 => ∃ k, TruV K v H1 k ∧ Q k H1 := by
  cases r with
  | ok d st1 => obtain ⟨b, h, p⟩ := p; exact fun v ρ1 H1 e s r => ⟨b, truth_ok s r h, p ρ1 H1 e s⟩
  | exc x st' => exact p
  | bad => exact p
end
theorem PE.mono {X : Cx} {e : Expr} {t t' : TE} (h : PE X e t) (m : ∀ σ H Q, t' σ H Q → t σ H Q) : PE X e t' := ⟨fun pins s σ H Q I q => h.run pins s σ H Q I (m σ H Q q)⟩
theorem PT.mono {X : Cx} {e : Expr} {t t' : TT} (h : PT X e t) (m : ∀ σ H Q, t' σ H Q → t σ H Q) : PT X e t' := ⟨fun pins s σ H Q I q => h.run pins s σ H Q I (m σ H Q q)⟩
theorem PW.mono {X : Cx} {e : Expr} {t t' : TT} (h : PW X e t) (m : ∀ σ H Q, t' σ H Q → t σ H Q) : PW X e t' := ⟨fun wh pins s σ H Q I q => h.run wh pins s σ H Q I (m σ H Q q)⟩
theorem PA.mono {X : Cx} {es : List Expr} {t t' : TA} (h : PA X es t) (m : ∀ σ H Q, t' σ H Q → t σ H Q) : PA X es t' := ⟨fun pos pins s σ H Q I q => h.run pos pins s σ H Q I (m σ H Q q)⟩
theorem PSs.mono {X : Cx} {st : List Stmt} {t t' : TS} (h : PSs X st t) (m : ∀ D σ H, t' D σ H → t D σ H) : PSs X st t' := ⟨fun pins s σ H D I q => h.run pins s σ H D I (m D σ H q)⟩
theorem PS.mono {X : Cx} {st : Stmt} {t t' : TS} (h : PS X st t) (m : ∀ D σ H, t' D σ H → t D σ H) : PS X st t' := ⟨fun pins s σ H D I q => h.run pins s σ H D I (m D σ H q)⟩
theorem pe_false {X : Cx} {e : Expr} {t : TE} (h : ∀ σ H Q, ¬ t σ H Q) : PE X e t := ⟨fun _ _ σ H Q _ q => absurd q (h σ H Q)⟩
theorem pt_false {X : Cx} {e : Expr} {t : TT} (h : ∀ σ H Q, ¬ t σ H Q) : PT X e t := ⟨fun _ _ σ H Q _ q => absurd q (h σ H Q)⟩
theorem tE_bad {W : XW} {f : Fe} (h : ∀ env st, f env st = .bad) : ∀ σ H Q, ¬ tE K W f σ H Q := fun σ H Q ⟨ρ, env, st, _, _, p⟩ => by rw [h] at p; exact p
theorem tT_bad {W : XW} {f : Fe} (h : ∀ env st, f env st = .bad) : ∀ σ H Q, ¬ tT K W f σ H Q := fun σ H Q ⟨ρ, env, st, _, _, p⟩ => by rw [h] at p; exact p

/-! ### the rules by their meanings -/
section
variable {X : Cx} {W : XW} {a b c : Expr} {fa fb fc : Fe} {pos : Pos}
abbrev Pe (X : Cx) (W : XW) (e : Expr) (f : Fe) : Prop := PE X e (tE X.K W f)
abbrev Pt (X : Cx) (W : XW) (e : Expr) (f : Fe) : Prop := PT X e (tT X.K W f)
abbrev Pl (X : Cx) (W : XW) (es : List Expr) (f : Env → Store → R (List D)) : Prop := PA X es (tL X.K W f)
theorem two_ok {E : L2.St → Str → Hp → Prop} {g : D → D → Store → R D} : ∀ σ H Q, tE K W (fun env st => (fa env st).bind fun x st1 => (fb env st1).bind fun y st2 => g x y st2) σ H Q → tE K W fa σ H fun x H1 => tE K W fb σ H1 fun y H2 => rOp K (W σ) g x y H2 Q :=
  fun σ H Q ⟨ρ, env, st, er, sr, p⟩ => ⟨ρ, env, st, er, sr, p.step.imp fun v H1 ⟨ρ1, st1, d, e1, s1, r1, _, p1⟩ => ⟨ρ1, env, st1, er.ext e1, s1, p1.step.imp fun w H2 ⟨ρ2, st2, d2, e2, s2, r2, _, p2⟩ => ⟨ρ2, st2, d, d2, s2, r1.ext e2 _ _, r2, p2⟩⟩⟩
theorem x_bin {op : Operator} (ha : Pe X W a fa) (hb : Pe X W b fb) : Pe X W (.BinOp a op b pos) fun env st => (fa env st).bind fun x st1 => (fb env st1).bind fun y st2 => binop op x y st2 := by
  refine ⟨fun pins s σ H Q I h => ?_⟩
  exact (pe_op (binop_ok (E := W σ) op) ha hb).run pins s σ H Q I (two_ok (E := W) σ H Q h)
theorem x_cmp {op : CmpOp} (hu : X.A.units + 65 < cLine) (ha : Pe X W a fa) (hb : Pe X W b fb) (hm : behindInMarks op b = false) : Pe X W (.Compare a [op] [b] pos) fun env st => (fa env st).bind fun x st1 => (fb env st1).bind fun y st2 => cmpop op x y st2 := by
  refine ⟨fun pins s σ H Q I h => ?_⟩
  exact (pe_cmpR (cmpop_ok (E := W σ) hu op) ha hb hm).run pins s σ H Q I (two_ok (E := W) σ H Q h)
theorem x_ix (ha : Pe X W a fa) (hb : Pe X W b fb) (hs : PlainIx b) : Pe X W (.Subscript a b pos) fun env st => (fa env st).bind fun x st1 => (fb env st1).bind fun y st2 => ixop x y st2 := by
  refine ⟨fun pins s σ H Q I h => ?_⟩
  exact (pe_ix (ix_ok (E := W σ)) ha hb hs).run pins s σ H Q I (two_ok (E := W) σ H Q h)
/-- a comparison gives a bool -/
theorem cmp_bl {op : CmpOp} {x y d : D} {st st' : Store} (h : cmpop op x y st = .ok d st') : ∃ k, d = .bl k ∧ st' = st := by
  unfold cmpop at h
  cases op <;> dsimp only at h
  all_goals (try (repeat' split at h))
  all_goals first
    | (cases h; exact ⟨_, rfl, rfl⟩)
    | cases h
/-- a test of a value that is known to be a bool, of the form of a comparison -/
theorem t_cmp {op : CmpOp} (hu : X.A.units + 65 < cLine) (ha : Pe X W a fa) (hb : Pe X W b fb) (hm : behindInMarks op b = false) : Pt X W (.Compare a [op] [b] pos) fun env st => (fa env st).bind fun x st1 => (fb env st1).bind fun y st2 => cmpop op x y st2 := by
  refine ⟨fun pins s σ H Q I ⟨ρ, env, st, er, sr, p⟩ => ?_⟩
  refine (pt_cmpR (cmpop_ok (E := W σ) hu op) ha hb hm).run pins s σ H Q I ?_
  refine two_ok (E := W) σ H _ ⟨ρ, env, st, er, sr, ?_⟩
  revert p
  dsimp only
  generalize hr : (fa env st).bind (fun x st1 => (fb env st1).bind fun y st2 => cmpop op x y st2) = r
  intro p
  cases r with
  | ok d st' =>
    obtain ⟨k, h, p⟩ := p
    have hb : ∃ k, d = .bl k := by
      cases q : fa env st with
      | ok x st1 =>
        rw [q] at hr
        change (fb env st1).bind (fun y st2 => cmpop op x y st2) = _ at hr
        cases q2 : fb env st1 with
        | ok y st2 =>
          rw [q2] at hr
          obtain ⟨k, e, _⟩ := cmp_bl hr
          exact ⟨k, e⟩
        | exc x st' => rw [q2] at hr; cases hr
        | bad => rw [q2] at hr; cases hr
      | exc x st' => rw [q] at hr; cases hr
      | bad => rw [q] at hr; cases hr
    obtain ⟨k', rfl⟩ := hb
    cases h
    exact fun v ρ' H' e s r => by cases (show v = _ from r); exact ⟨k, rfl, p ρ' H' e s⟩
  | exc x st' => exact p
  | bad => exact p
/-- by the value -/
theorem t_val (ha : Pe X W a fa) (he : ∀ whole, isTrue a X.env whole = (do let v ← whole; standAt a.pos; holding [v] (truthy v))) : Pt X W a fa :=
  PT.mono (pt_truth ha he) fun σ H Q ⟨ρ, env, st, er, sr, p⟩ => ⟨ρ, env, st, er, sr, p.val⟩
theorem x_not (ha : Pe X W a fa) : Pe X W (.UnaryOp .Not a pos) fun env st => (fa env st).bind fun x st1 => match truth x st1 with
    | some b => .ok (.bl (!b)) st1
    | none => .bad :=
  PE.mono (pe_notT ha) fun σ H Q ⟨ρ, env, st, er, sr, p⟩ => ⟨ρ, env, st, er, sr, p.step.imp fun v H1 ⟨ρ1, st1, d, e1, s1, r1, _, p1⟩ => by
    dsimp only at p1
    split at p1
    · rename_i k hk
      exact ⟨k, truth_ok s1 r1 hk, p1.here s1 rfl⟩
    · exact p1.elim⟩
theorem t_not (ha : Pt X W a fa) : Pt X W (.UnaryOp .Not a pos) fun env st => (fa env st).bind fun x st1 => match truth x st1 with
    | some b => .ok (.bl (!b)) st1
    | none => .bad :=
  PT.mono (pt_not ha) fun σ H Q ⟨ρ, env, st, er, sr, p⟩ => ⟨ρ, env, st, er, sr, p.test.imp fun k H1 ⟨ρ1, st1, d, e1, s1, _, _, p1⟩ => by
    obtain ⟨k', h, p1⟩ := p1
    cases h
    exact p1 ρ1 H1 (.refl _ _) s1⟩
theorem x_neg (ha : Pe X W a fa) : Pe X W (.UnaryOp .USub a pos) fun env st => (fa env st).bind fun x st1 => match x with
    | .int i => .ok (.int (-i)) st1
    | _ => .bad :=
  PE.mono (pe_un un_neg ha) fun σ H Q ⟨ρ, env, st, er, sr, p⟩ => ⟨ρ, env, st, er, sr, p.step.imp fun v H1 ⟨ρ1, st1, d, e1, s1, r1, _, p1⟩ => by
    dsimp only at p1
    cases d with
    | int i => exact ⟨i, r1, p1.here s1 rfl⟩
    | _ => exact p1.elim⟩
theorem x_ite (hc : Pt X W c fc) (ha : Pe X W a fa) (hb : Pe X W b fb) : Pe X W (.IfExp c a b pos) fun env st => (fc env st).bind fun x st1 => match truth x st1 with
    | some k => if k = true then fa env st1 else fb env st1
    | none => .bad :=
  PE.mono (pe_ifExp hc ha hb) fun σ H Q ⟨ρ, env, st, er, sr, p⟩ => ⟨ρ, env, st, er, sr, p.test.imp fun k H1 ⟨ρ1, st1, d, e1, s1, _, _, p1⟩ => by
    cases k with
    | true => exact ⟨ρ1, env, st1, er.ext e1, s1, p1⟩
    | false => exact ⟨ρ1, env, st1, er.ext e1, s1, p1⟩⟩
theorem t_ite (hc : Pt X W c fc) (ha : Pt X W a fa) (hb : Pt X W b fb) : Pt X W (.IfExp c a b pos) fun env st => (fc env st).bind fun x st1 => match truth x st1 with
    | some k => if k = true then fa env st1 else fb env st1
    | none => .bad := by
  refine ⟨fun pins s σ H Q I ⟨ρ, env, st, er, sr, p⟩ => ?_⟩
  show wpAny _ X.A (do if ← isTrue c X.env (eval c X.env) then isTrue a X.env (eval a X.env) else isTrue b X.env (eval b X.env)) _ _ s
  refine wpAny_bind (thn (hc.run pins s σ H _ I ⟨ρ, env, st, er, sr, p.test⟩) fun k s1 ⟨H1, I1, ρ1, st1, d, e1, s1', _, _, p1⟩ => ?_)
  cases k with
  | true => exact ha.run pins s1 σ H1 Q I1 ⟨ρ1, env, st1, er.ext e1, s1', p1⟩
  | false => exact hb.run pins s1 σ H1 Q I1 ⟨ρ1, env, st1, er.ext e1, s1', p1⟩
end
end Ev

set_option Elab.async false
set_option linter.all false
set_option maxRecDepth 100000
set_option maxHeartbeats 1000000
namespace Ev
open PySem PySem.Spec PyProof.Rows L2
section
variable {X : Cx} {W : XW} {a b c e : Expr} {fa fb fc f : Fe} {pos p p2 : Pos} {rest es : List Expr}
/-! ### constants, names -/
theorem x_const {d : D} {v : V} (h : PE X e (tC v)) (r : ∀ ρ H, Rp X.K ρ H d v) : Pe X W e fun _ st => .ok d st :=
  PE.mono h fun σ H Q ⟨ρ, env, st, er, sr, p⟩ => p.here sr (r ρ H)
theorem x_var {i : Nat} {x : Str} (hN : X.N[i]? = some x) (hv : Vis X.env.scope x) (hd : (x == ("__debug__" : Str)) = false) (hcd : (x == ("__classdict__" : Str)) = false) : Pe X W (.Name x pos) fun env st => match env[i]? with
    | some (some d) => .ok d st
    | _ => .bad :=
  PE.mono (pe_var hN hv hd hcd) fun σ H Q ⟨ρ, env, st, er, sr, p⟩ => by
    dsimp only at p
    split at p
    · rename_i d hd
      obtain ⟨v, h1, h2⟩ := er.get i d hd
      exact ⟨v, h1, p.here sr h2⟩
    · exact p.elim
theorem x_glob {cs : Consts} {x : Str} (hg : Gl X x) (hd : (x == ("__debug__" : Str)) = false)
    (hc : ∀ d, cs.lookup x = some d → ∃ v u, X.mg x = some u ∧ RelV v u ∧ ∀ ρ H, Rp X.K ρ H d v) : Pe X W (.Name x pos) fun _ st => R.of (cs.lookup x) st := by
  cases h : cs.lookup x with
  | none => exact pe_false (tE_bad fun _ _ => rfl)
  | some d =>
    obtain ⟨v, u, h1, h2, h3⟩ := hc d h
    exact PE.mono (pe_glob hg h1 h2 hd) fun σ H Q ⟨ρ, env, st, er, sr, p⟩ => PostE.here (d := d) (st := st) p sr (h3 ρ H)
/-! ### and, or -/
theorem t_one {op : BoolOp} (ha : Pt X W a fa) : PW X (.BoolOp op [a] pos) (tT X.K W fa) := by
  cases op with
  | And => exact pw_and1 ha
  | Or => exact pw_or1 ha
abbrev andF (fa fb : Fe) : Fe := fun env st => (fa env st).bind fun x st1 => match truth x st1 with
  | some k => if k = true then fb env st1 else .ok x st1
  | none => .bad
abbrev orF (fa fb : Fe) : Fe := fun env st => (fa env st).bind fun x st1 => match truth x st1 with
  | some k => if k = true then .ok x st1 else fb env st1
  | none => .bad
theorem w_and (ha : Pt X W a fa) (hb : PW X (.BoolOp .And (b :: rest) pos) (tT X.K W fb)) : PW X (.BoolOp .And (a :: b :: rest) pos) (tT X.K W (andF fa fb)) :=
  PW.mono (pw_and ha hb) fun σ H Q ⟨ρ, env, st, er, sr, p⟩ => ⟨ρ, env, st, er, sr, PostT.imp (PostT.test (g := fun k x st1 => if k = true then fb env st1 else .ok x st1) p) fun k H1 ⟨ρ1, st1, d, e1, s1, _, ht, p1⟩ => by
    cases k with
    | true => exact ⟨ρ1, env, st1, er.ext e1, s1, p1⟩
    | false =>
      obtain ⟨k', h, p1⟩ := p1
      rw [ht] at h; cases h
      exact p1 ρ1 H1 (.refl _ _) s1⟩
theorem w_or (ha : Pt X W a fa) (hb : PW X (.BoolOp .Or (b :: rest) pos) (tT X.K W fb)) : PW X (.BoolOp .Or (a :: b :: rest) pos) (tT X.K W (orF fa fb)) :=
  PW.mono (pw_or ha hb) fun σ H Q ⟨ρ, env, st, er, sr, p⟩ => ⟨ρ, env, st, er, sr, PostT.imp (PostT.test (g := fun k x st1 => if k = true then .ok x st1 else fb env st1) p) fun k H1 ⟨ρ1, st1, d, e1, s1, _, ht, p1⟩ => by
    cases k with
    | false => exact ⟨ρ1, env, st1, er.ext e1, s1, p1⟩
    | true =>
      obtain ⟨k', h, p1⟩ := p1
      rw [ht] at h; cases h
      exact p1 ρ1 H1 (.refl _ _) s1⟩
theorem x_and (ha : Pe X W a fa) (hb : Pe X W (.BoolOp .And (b :: rest) pos) fb) : Pe X W (.BoolOp .And (a :: b :: rest) pos) (andF fa fb) :=
  PE.mono (pe_andT ha hb) fun σ H Q ⟨ρ, env, st, er, sr, p⟩ => ⟨ρ, env, st, er, sr, PostE.imp (PostE.step p) fun v H1 ⟨ρ1, st1, d, e1, s1, r1, _, p1⟩ => by
    dsimp only at p1
    split at p1
    · rename_i k hk
      refine ⟨k, truth_ok s1 r1 hk, ?_⟩
      cases k with
      | true => exact ⟨ρ1, env, st1, er.ext e1, s1, p1⟩
      | false => exact PostE.here (d := d) (st := st1) p1 s1 r1
    · exact p1.elim⟩
theorem x_or (ha : Pe X W a fa) (hb : Pe X W (.BoolOp .Or (b :: rest) pos) fb) : Pe X W (.BoolOp .Or (a :: b :: rest) pos) (orF fa fb) :=
  PE.mono (pe_orT ha hb) fun σ H Q ⟨ρ, env, st, er, sr, p⟩ => ⟨ρ, env, st, er, sr, PostE.imp (PostE.step p) fun v H1 ⟨ρ1, st1, d, e1, s1, r1, _, p1⟩ => by
    dsimp only at p1
    split at p1
    · rename_i k hk
      refine ⟨k, truth_ok s1 r1 hk, ?_⟩
      cases k with
      | false => exact ⟨ρ1, env, st1, er.ext e1, s1, p1⟩
      | true => exact PostE.here (d := d) (st := st1) p1 s1 r1
    · exact p1.elim⟩
/-! ### chains -/
abbrev chF (op op2 : CmpOp) (fa fb fc : Fe) : Fe := fun env st => (fa env st).bind fun x st1 => (fb env st1).bind fun y st2 => (cmpop op x y st2).bind fun k st3 => match k with
  | .bl true => (fc env st3).bind fun z st4 => cmpop op2 y z st4
  | .bl false => .ok (.bl false) st3
  | _ => .bad
theorem x_chain {op op2 : CmpOp} (hu : X.A.units + 65 < cLine) (ha : Pe X W a fa) (hb : Pe X W b fb) (hc : Pe X W c fc) (hm : lastMarks [op, op2] [b, c] = false) : Pe X W (.Compare a [op, op2] [b, c] pos) (chF op op2 fa fb fc) := by
  refine ⟨fun pins s σ H Q I ⟨ρ, env, st, er, sr, p⟩ => ?_⟩
  refine (pe_chain (cmpop_ok (E := W σ) hu op) (cmpop_ok (E := W σ) hu op2) ha hb hc hm).run pins s σ H Q I ?_
  refine ⟨ρ, env, st, er, sr, PostE.imp (PostE.step p) fun v H1 ⟨ρ1, st1, d, e1, s1, r1, _, p1⟩ => ?_⟩
  refine ⟨ρ1, env, st1, er.ext e1, s1, PostE.imp (PostE.step p1) fun w H2 ⟨ρ2, st2, d2, e2, s2, r2, _, p2⟩ => ?_⟩
  refine ⟨ρ2, st2, d, d2, s2, r1.ext e2 _ _, r2, PostE.imp (PostE.step p2) fun z H3 ⟨ρ3, st3, d3, e3, s3, r3, eq3, p3⟩ => ?_⟩
  obtain ⟨k, rfl, rfl⟩ := cmp_bl eq3
  refine ⟨k, r3, ?_⟩
  cases k with
  | false => exact PostE.here (d := .bl false) p3 s3 rfl
  | true => exact ⟨ρ3, env, _, ((er.ext e1).ext e2).ext e3, s3, PostE.imp (PostE.step p3) fun w4 H4 ⟨ρ4, st4, d4, e4, s4, r4, _, p4⟩ => ⟨ρ4, st4, d2, d4, s4, (r2.ext e3 _ _).ext e4 _ _, r4, p4⟩⟩
/-- what a chain gives is a bool -/
theorem ch_bl {op op2 : CmpOp} {env : Env} {st st' : Store} {d : D} (h : chF op op2 fa fb fc env st = .ok d st') : ∃ k, d = .bl k := by
  unfold chF at h
  cases q : fa env st with
  | ok x st1 =>
    rw [q] at h
    change (fb env st1).bind _ = _ at h
    cases q2 : fb env st1 with
    | ok y st2 =>
      rw [q2] at h
      change (cmpop op x y st2).bind _ = _ at h
      cases q3 : cmpop op x y st2 with
      | ok k st3 =>
        rw [q3] at h
        obtain ⟨k', rfl, _⟩ := cmp_bl q3
        cases k' with
        | false => cases h; exact ⟨_, rfl⟩
        | true =>
          change (fc env st3).bind _ = _ at h
          cases q4 : fc env st3 with
          | ok z st4 =>
            rw [q4] at h
            obtain ⟨k2, e, _⟩ := cmp_bl h
            exact ⟨k2, e⟩
          | exc x st' => rw [q4] at h; cases h
          | bad => rw [q4] at h; cases h
      | exc x st' => rw [q3] at h; cases h
      | bad => rw [q3] at h; cases h
    | exc x st' => rw [q2] at h; cases h
    | bad => rw [q2] at h; cases h
  | exc x st' => rw [q] at h; cases h
  | bad => rw [q] at h; cases h
/-- a bool's truth as a value -/
theorem PostT.bool {E : Str → Hp → Prop} {ρ : Rho} {H : Hp} {r : R D} {Q : Bool → Hp → Prop} (p : PostT X.K E ρ H r Q) (hb : ∀ d st, r = .ok d st → ∃ k, d = .bl k) : PostE X.K E ρ H r fun z H' => ∃ k, z = .bl k ∧ Q k H' := by
  cases r with
  | ok d st' =>
    obtain ⟨k, h, p⟩ := p
    obtain ⟨k', rfl⟩ := hb d st' rfl
    cases h
    exact fun v ρ' H' e s r => by cases (show v = _ from r); exact ⟨k, rfl, p ρ' H' e s⟩
  | exc x st' => exact p
  | bad => exact p
theorem t_chain {op op2 : CmpOp} (hu : X.A.units + 65 < cLine) (ha : Pe X W a fa) (hb : Pe X W b fb) (hc : Pe X W c fc) (hm : lastMarks [op, op2] [b, c] = false) : Pt X W (.Compare a [op, op2] [b, c] pos) (chF op op2 fa fb fc) := by
  refine ⟨fun pins s σ H Q I ⟨ρ, env, st, er, sr, p⟩ => ?_⟩
  refine (pt_chain (cmpop_ok (E := W σ) hu op) (cmpop_ok (E := W σ) hu op2) ha hb hc hm).run pins s σ H Q I ?_
  have p : PostE X.K (W σ) ρ H (chF op op2 fa fb fc env st) _ := PostT.bool p fun d st' h => ch_bl h
  refine ⟨ρ, env, st, er, sr, PostE.imp (PostE.step p) fun v H1 ⟨ρ1, st1, d, e1, s1, r1, _, p1⟩ => ?_⟩
  refine ⟨ρ1, env, st1, er.ext e1, s1, PostE.imp (PostE.step p1) fun w H2 ⟨ρ2, st2, d2, e2, s2, r2, _, p2⟩ => ?_⟩
  refine ⟨ρ2, st2, d, d2, s2, r1.ext e2 _ _, r2, PostE.imp (PostE.step p2) fun z H3 ⟨ρ3, st3, d3, e3, s3, r3, eq3, p3⟩ => ?_⟩
  obtain ⟨k, rfl, rfl⟩ := cmp_bl eq3
  refine ⟨k, r3, ?_⟩
  cases k with
  | false => exact PostE.here (d := .bl false) p3 s3 rfl
  | true => exact ⟨ρ3, env, _, ((er.ext e1).ext e2).ext e3, s3, PostE.imp (PostE.step p3) fun w4 H4 ⟨ρ4, st4, d4, e4, s4, r4, _, p4⟩ => ⟨ρ4, st4, d2, d4, s4, (r2.ext e3 _ _).ext e4 _ _, r4, p4⟩⟩
/-! ### argument lists, displays -/
theorem l_nil : Pl X W [] fun _ st => .ok [] st := PA.mono pa_nil fun σ H Q ⟨ρ, env, st, er, sr, p⟩ => p [] ρ H (.refl _ _) sr rfl
theorem l_cons {fl : Env → Store → R (List D)} (ha : Pe X W a fa) (hl : Pl X W es fl) (hs : starEach (a :: es) X.env = (false, eval a X.env) :: starEach es X.env) : Pl X W (a :: es) fun env st => (fa env st).bind fun d st1 => (fl env st1).bind fun ds st2 => .ok (d :: ds) st2 :=
  PA.mono (pa_cons ha hl hs) fun σ H Q ⟨ρ, env, st, er, sr, p⟩ => ⟨ρ, env, st, er, sr, PostE.imp (PostL.step p) fun v H1 ⟨ρ1, st1, d, e1, s1, r1, _, p1⟩ =>
    ⟨ρ1, env, st1, er.ext e1, s1, PostL.imp (PostL.stepL p1) fun vs H2 ⟨ρ2, st2, ds, e2, s2, r2, _, p2⟩ => p2 _ ρ2 H2 (.refl _ _) s2 (.cons (r1.ext e2 _ _) r2)⟩⟩
theorem x_tup {fl : Env → Store → R (List D)} {x1 : Nat} (hl : Pl X W es fl) (hz : ∀ env st ds st', fl env st = .ok ds st' → ds.length ≤ seqMax) : Pe X W (.Tuple es x1 pos) fun env st => (fl env st).bind fun ds st1 => .ok (.tup ds) st1 :=
  PE.mono (pe_tup hl) fun σ H Q ⟨ρ, env, st, er, sr, p⟩ => ⟨ρ, env, st, er, sr, PostL.imp (PostE.stepL p) fun vs H1 ⟨ρ1, st1, ds, e1, s1, r1, q1, p1⟩ =>
    ⟨by rw [← r1.length]; exact Nat.le_trans (hz _ _ _ _ q1) line_ok, fun p hp => PostE.new (d := .tup ds) (st := st1) p1 s1 hp fun ex off => ⟨p, vs, rfl, upd_same, off, r1.ext ex _ _⟩⟩⟩
theorem x_lst {fl : Env → Store → R (List D)} (hl : Pl X W es fl) (hz : ∀ env st ds st', fl env st = .ok ds st' → ds.length ≤ seqMax) : Pe X W (.List es pos) fun env st => (fl env st).bind fun ds st1 => .ok (.lst ds) st1 :=
  PE.mono (pe_lst hl) fun σ H Q ⟨ρ, env, st, er, sr, p⟩ => ⟨ρ, env, st, er, sr, PostL.imp (PostE.stepL p) fun vs H1 ⟨ρ1, st1, ds, e1, s1, r1, q1, p1⟩ =>
    ⟨by rw [← r1.length]; exact Nat.le_trans (hz _ _ _ _ q1) line_ok, fun p hp => PostE.new (d := .lst ds) (st := st1) p1 s1 hp fun ex off => ⟨p, vs, rfl, upd_same, off, r1.ext ex _ _⟩⟩⟩
theorem x_cel {fl : Env → Store → R (List D)} (hl : Pl X W es fl) (hz : ∀ env st ds st', fl env st = .ok ds st' → ds.length ≤ seqMax) : Pe X W (.List es pos) fun env st => (fl env st).bind fun ds st1 => .ok (.ref st1.length) (st1 ++ [.lst ds]) :=
  PE.mono (pe_lst hl) fun σ H Q ⟨ρ, env, st, er, sr, p⟩ => ⟨ρ, env, st, er, sr, PostL.imp (PostE.stepL p) fun vs H1 ⟨ρ1, st1, ds, e1, s1, r1, q1, p1⟩ =>
    ⟨by rw [← r1.length]; exact Nat.le_trans (hz _ _ _ _ q1) line_ok, fun p hp => by
      obtain ⟨ex, s2⟩ := s1.cellNew hp r1
      refine p1 _ _ _ ex s2 ⟨by simp [s1.len], fun a ha => ?_⟩
      rw [s1.len] at ha
      simp at ha
      rw [ha]⟩⟩
/-! ### calls -/
theorem args_ok {fl : Env → Store → R (List D)} {g : List D → Store → R D} : ∀ σ H Q, tE X.K W (fun env st => (fl env st).bind fun ds st1 => g ds st1) σ H Q → tL X.K W fl σ H fun vs H1 => rBl X.K (W σ) g vs H1 Q :=
  fun σ H Q ⟨ρ, env, st, er, sr, p⟩ => ⟨ρ, env, st, er, sr, PostL.imp (PostE.stepL p) fun vs H1 ⟨ρ1, st1, ds, e1, s1, r1, _, p1⟩ => ⟨ρ1, st1, ds, s1, r1, p1⟩⟩
theorem x_blt {fl : Env → Store → R (List D)} {g : List D → Store → R D} {x : Str} {id : String} (hop : ∀ E, CallR X (.builtin id) (rBl X.K E g)) (hg : Gl X x) (hm : X.mg x = none) (hv : bootBuiltins x = some (.builtin id))
    (hl : Pl X W (a :: es) fl) (hn : x ≠ "__name__") (hd : (x == ("__debug__" : Str)) = false) (he : starEach (a :: es) X.env = (false, eval a X.env) :: starEach es X.env) (hpl : (backTo pos (starEach es X.env)).any (·.1) = false) :
    Pe X W (.Call (.Name x p) (a :: es) [] pos) fun env st => (fl env st).bind fun ds st1 => g ds st1 := by
  refine ⟨fun pins s σ H Q I h => ?_⟩
  exact (pe_callB (hop (W σ)) hg hm hv hl hn hd he hpl).run pins s σ H Q I (args_ok σ H Q h)
theorem x_ty {fl : Env → Store → R (List D)} {g : List D → Store → R D} {x : Str} {T : String} (hop : ∀ E, CallR X (.type T) (rBl X.K E g)) (hg : Gl X x) (hm : X.mg x = none) (hv : bootBuiltins x = some (.type T))
    (hl : Pl X W (a :: es) fl) (hn : x ≠ "__name__") (hd : (x == ("__debug__" : Str)) = false) (he : starEach (a :: es) X.env = (false, eval a X.env) :: starEach es X.env) (hpl : (backTo pos (starEach es X.env)).any (·.1) = false) :
    Pe X W (.Call (.Name x p) (a :: es) [] pos) fun env st => (fl env st).bind fun ds st1 => g ds st1 := by
  refine ⟨fun pins s σ H Q I h => ?_⟩
  exact (pe_callTy (hop (W σ)) hg hm hv hl hn hd he hpl).run pins s σ H Q I (args_ok σ H Q h)
/-- what a def promises: as the evaluator's table says -/
def spF (K : PySem.W.Frag) (mg : Str → Option Value) (ar : Nat) (g : List D → Store → R D) : Sp := fun vs H Q E => ∃ ρ st ds, StR K ρ H st ∧ Rps K ρ H ds vs ∧ ds.length = ar ∧ PostE K (fun x H => ∀ C, mg x = some (.ref C) → E (.ref C) none H) ρ H (g ds st) Q
/-- the wish for exceptions by their classes' names -/
def wxOf (mg : Str → Option Value) (W : XW) : WX := fun cls d σ H => ∃ x C, cls = .ref C ∧ d = none ∧ mg x = some (.ref C) ∧ W σ x H
theorem PostE.wish {K : PySem.W.Frag} {E E' : Str → Hp → Prop} {ρ : Rho} {H : Hp} {r : R D} {Q : VK} (p : PostE K E ρ H r Q) (h : ∀ x H, E x H → E' x H) : PostE K E' ρ H r Q := by
  cases r with
  | ok d st' => exact p
  | exc x st' => exact fun ρ' H' e s => h _ _ (p ρ' H' e s)
  | bad => exact p
theorem x_call {fl : Env → Store → R (List D)} {g : List D → Store → R D} {x : Str} {k ar : Nat} {fd : FuncData} {ps : List Str} {fn : Addr} (F : FnOk X.prog X.w X.K X.mg X.base (L2.CX X.prog X.w) k fn fd ps (spF X.K X.mg ar g)) (hr : Room k X.A) (hg : Gl X x) (hm : X.mg x = some (.ref fn))
    (hk : PySem.W.keepIn X.K (.ref fn) = true) (hb : Binds X.K fd ps []) (tk : Takes X (wxOf X.mg W))
    (hl : Pl X W (a :: es) fl) (hz : ∀ env st ds st', fl env st = .ok ds st' → ds.length = ar) (hd : (x == ("__debug__" : Str)) = false) (he : starEach (a :: es) X.env = (false, eval a X.env) :: starEach es X.env) (hpl : (backTo pos (starEach es X.env)).any (·.1) = false) :
    Pe X W (.Call (.Name x p) (a :: es) [] pos) fun env st => (fl env st).bind fun ds st1 => g ds st1 :=
  PE.mono (pe_callS F hr hg hm hk hb (passAt tk) hl hd he hpl) fun σ H Q ⟨ρ, env, st, er, sr, p⟩ => ⟨ρ, env, st, er, sr, PostL.imp (PostE.stepL p) fun vs H1 ⟨ρ1, st1, ds, e1, s1, r1, q1, p1⟩ =>
    ⟨ρ1, st1, ds, s1, r1, hz _ _ _ _ q1, PostE.wish p1 fun y H w C hC => ⟨y, C, rfl, rfl, hC, w⟩⟩⟩
/-- isinstance(a, T) -/
theorem x_isin {T : String} {x y : Str} {py : Pos} (hty : okTy T = true) (hg : Gl X x) (hm : X.mg x = none) (hv : bootBuiltins x = some (.builtin "isinstance")) (hn : x ≠ "__name__") (hd : (x == ("__debug__" : Str)) = false)
    (hg2 : Gl X y) (hm2 : X.mg y = none) (hv2 : bootBuiltins y = some (.type T)) (hn2 : y ≠ "__name__") (hd2 : (y == ("__debug__" : Str)) = false)
    (ha : Pe X W a fa) (hs : starEach [a, .Name y py] X.env = (false, eval a X.env) :: starEach [.Name y py] X.env) (hpl : (backTo pos (starEach [.Name y py] X.env)).any (·.1) = false) :
    Pe X W (.Call (.Name x p) [a, .Name y py] [] pos) fun env st => (fa env st).bind fun d st1 => R.of ((isinop d T st1).map D.bl) st1 := by
  have h2 : PE X (.Name y py) (tC (.ty T)) := pe_bltn hg2 hm2 hv2 rfl hn2 hd2
  refine PE.mono (pe_callB call_isi hg hm hv (pa_cons ha (pa_cons h2 pa_nil) hs) hn hd hs hpl) fun σ H Q ⟨ρ, env, st, er, sr, p⟩ => ⟨ρ, env, st, er, sr, PostE.imp (PostE.step p) fun v H1 ⟨ρ1, st1, d, e1, s1, r1, _, p1⟩ => ?_⟩
  dsimp only at p1
  cases q : isinop d T st1 with
  | none => rw [q] at p1; exact p1.elim
  | some b =>
    rw [q] at p1
    obtain ⟨t, h1, h2⟩ := isin_ok s1 r1 hty q
    exact ⟨v, .ty T, t, .type T, b, rfl, .ty T, h1, h2, PostE.here (d := .bl b) p1 s1 rfl⟩
/-! ### slices -/
abbrev partF (o : Option Fe) : Env → Store → R (Option Int) := fun env st => match o with
  | none => .ok none st
  | some f => (f env st).bind fun d st1 => match d with
    | .int i => .ok (some i) st1
    | _ => .bad
end
end Ev

set_option Elab.async false
set_option linter.all false
set_option maxRecDepth 100000
set_option maxHeartbeats 1000000
/-! enumerate of a tuple -/
namespace PySem
open Sem (wp)
theorem ev_meets_enum1 {v : Value} {o : Obj} {H : Heap → Prop} (B : Begins v o H) :
    Meets (Builtin.«enumerate.__new__» ⟨[.type "enumerate", v], []⟩) (fun _ R s => H s.heap ∧
      R (.ok (.ret (.ref (s.heap.push o).objs.size))) { s with heap := (s.heap.push o).push { cls := .type "enumerate", data := .fields #[.none, .bool false, .ref s.heap.objs.size, rawInt 0, .none, .none] } }) :=
  .of_wp fun prog w A R s h => by
    obtain ⟨hp, g, d, tk, os⟩ := s; obtain ⟨h1, h⟩ := h
    have hsub := sub_enumerate
    have q1 : ∀ {A' : Around} {E : Value → Shared → Prop} {Q : Value → Shared → Prop}, Q (.ref hp.objs.size) ⟨hp.push o, g, d, tk, os⟩ → wpAny (model prog w) A' (pyIter v) Q E ⟨hp, g, d, tk, os⟩ :=
      fun q => B.iter prog w _ _ ⟨hp, g, d, tk, os⟩ _ h1 q
    wp_walk using q1
    refine wpAny_stack_any fun st => wpAny_pure ?_
    split
    · rename_i c _ _ _ _ _
      cases (c == Value.type "enumerate")
      · wp_walk using q1
        exact ⟨_, rfl, h⟩
      · wp_walk using q1
        exact ⟨_, rfl, h⟩
    · wp_walk using q1
      exact ⟨_, rfl, h⟩
theorem ev_enum1 {prog : Program} {w : World} {A : Around} {E : Value → Shared → Prop} {s : Shared} {v : Value} {o : Obj} {H : Heap → Prop} {Q : Value → Shared → Prop} (B : Begins v o H) (h1 : H s.heap)
    (h : ∀ h', IsEnum h' (s.heap.objs.size + 1) s.heap.objs.size 0 .none → h'.get? s.heap.objs.size = some o → h'.objs.size = s.heap.objs.size + 2 →
      (∀ b o, s.heap.get? b = some o → h'.get? b = some o) → Q (.ref (s.heap.objs.size + 1)) { s with heap := h' }) :
    wpAny (model prog w) A (call (.type "enumerate") [v]) Q E s := by
  refine callType_new F.called_enumerate (by decide) (F.typeCall_enumerate_1 _) (F.newCall_enumerate_1 _) (fun obj => F.args_object_init_2 obj _) F.entry_enumerate_new
    (ev_meets_enum1 B) ⟨h1, ?_⟩
  have hz : (s.heap.push o).objs.size = s.heap.objs.size + 1 := Heap.size_push ..
  show _ ∧ _
  rw [hz]
  have he : IsEnum ((s.heap.push o).push { cls := .type "enumerate", data := .fields #[.none, .bool false, .ref s.heap.objs.size, rawInt 0, .none, .none] }) (s.heap.objs.size + 1) s.heap.objs.size 0 .none := by
    have := Heap.get?_push_size (s.heap.push o) (o := { cls := .type "enumerate", data := .fields #[.none, .bool false, .ref s.heap.objs.size, rawInt 0, .none, .none] }) rfl
    rw [hz] at this; exact this
  refine ⟨⟨_, he, rfl⟩, h _ he (Heap.get?_push_of_some _ (Heap.get?_push_size _ B.free)) (by rw [Heap.size_push, hz]) fun b o x => Heap.get?_push_of_some _ (Heap.get?_push_of_some _ x)⟩
end PySem
namespace Ev
open PySem PySem.Spec PyProof.Rows L2
variable {K : PySem.W.Frag}
/-- the tuple at a, each item in a new pair with its place -/
def IteT (K : PySem.W.Frag) (a : Addr) : It :=
  ⟨fun i H => ∃ (xs : List V) (x : V), SqT K H a xs ∧ xs[i]? = some x, fun i H v H' => ∃ T x, v = .ref T ∧ H T = none ∧ H' = upd H T (.tup [.int (i : Nat), x]) ∧ ∀ xs, SqT K H a xs → xs[i]? = some x, fun i H => ∃ xs : List V, SqT K H a xs ∧ xs.length = i⟩
theorem turn_enumT {P : Program} {w : World} {elts : List Expr} {kk : Nat} {tpos : Pos} (a e it : Addr) :
    Turn P w K (.Tuple elts kk tpos) (IteT K a) [e, it] e (fun i h => (∃ old, IsEnum h e it ((i : Nat) : Int) old) ∧ h.IsTupleIter it a i ∧ e ≠ it ∧ e ≠ a ∧ a ≠ it) where
  mem := by simp
  obj := fun i h st b hb => by
    obtain ⟨⟨old, he⟩, ⟨o, ho, hc, hd⟩, _⟩ := st
    have e' : b = e ∨ b = it := by simpa using hb
    rcases e' with z | z
    · rw [z]; exact ⟨_, he, fun v q => nomatch q⟩
    · rw [z]; exact ⟨o, ho, fun v q => by rw [hd] at q; cases q⟩
  keep := fun i h h' st k => let ⟨⟨old, he⟩, hi, hne⟩ := st; ⟨⟨old, k e (by simp) _ he⟩, hi.at fun o q => k it (by simp) o q, hne⟩
  item := by
    intro X hP hw hK hc i pins s σ H E I hf st hg
    subst hP hw hK
    obtain ⟨⟨old, he⟩, hit, hne, hea, hai⟩ := st
    obtain ⟨xs, x, hq, hx⟩ := hg
    obtain ⟨its, rv, p, hz⟩ := I.tuple hq
    obtain ⟨u, hu, ru⟩ := rv.get hx
    have hel : e < s.heap.objs.size := Heap.lt_size he
    have hil : it < s.heap.objs.size := by obtain ⟨_, q, _⟩ := hit; exact Heap.lt_size q
    have hlt : i < its.toArray.size := by
      have := (List.getElem?_eq_some_iff.mp hu).1
      simpa using this
    refine wpAny_pyNext_enum_itemC (Draws.tuple (prog := X.prog) (w := X.w) (A := X.A.in1) (show X.A.in1.handled = none from I.ok.hd hc) it a hai its.toArray) he ⟨hit, p⟩ hlt hne (by simp [hne, hea]) fun z h' tk hP ho hs' hT hsz hk => ?_
    obtain ⟨hit', _⟩ := hs'
    have ez : z = u := by
      have : its[i]? = some z := by simpa using hP
      rw [hu] at this; cases this; rfl
    subst ez
    refine ⟨_, rfl, wpAny_letOwnedTupleGo_enum ho fun h'' he' sb => ?_⟩
    have hT2 : h''.get? s.heap.objs.size = some { cls := .type "tuple", data := .seq #[.int i tk, z] } := (sb.2 _ (Nat.ne_of_gt hel)).trans hT
    have new : ObjOk X.prog X.w (upd H s.heap.objs.size (.tup [.int (i : Nat), x])) h'' s.heap.objs.size (.tup [.int (i : Nat), x]) :=
      ⟨by show 2 ≤ sizeLine; decide, [.int i tk, z], .cons ⟨_, rfl⟩ (.cons ru .nil), ⟨_, hT2, rfl, _, rfl⟩⟩
    have I1 : Inv X pins σ (upd H s.heap.objs.size (.tup [.int (i : Nat), x])) { s with heap := h'', toks := tk + 1 } :=
      I.turnedNew (ch := [e, it]) (fun b ob hb q => (sb.2 b (fun z => hb (by simp [z]))).trans (hk b ob (fun z => hb (by simp [z])) (fun z => hb (by simp [z])) q)) hf (Nat.le_refl _) new
    refine ⟨.ref s.heap.objs.size, _, I1, rfl, ⟨_, x, rfl, I.hok.fresh (Nat.le_refl _), rfl, fun ys hy => by rw [I.tuple_inj hy hq]; exact hx⟩, ⟨⟨z, ?_⟩, hit'.at fun o q => (sb.2 it (Ne.symm hne)).trans q, hne, hea, hai⟩, fun b hb => ?_⟩
    · have e1 : ((i + 1 : Nat) : Int) = (i : Int) + 1 := by omega
      rw [e1]; exact he'
    · have hb' : b < s.heap.objs.size := by
        have e' : b = e ∨ b = it := by simpa using hb
        rcases e' with z | z
        · rw [z]; exact hel
        · rw [z]; exact hil
      rw [upd_ne (Nat.ne_of_lt hb')]
      exact (hf b hb).1
  done := by
    intro X hP hw hK hc i pins s σ H E I hf st hg
    subst hP hw hK
    obtain ⟨⟨old, he⟩, hit, hne, hea, hai⟩ := st
    obtain ⟨xs, hq, hx⟩ := hg
    obtain ⟨its, rv, p, hz⟩ := I.tuple hq
    obtain ⟨f0, f1, f2, f3, f4, f5⟩ := hf it (by simp)
    have hl := rv.length
    have hn : i = its.toArray.size := by simp; omega
    subst hn
    have D := Draws.tuple (prog := X.prog) (w := X.w) (A := X.A.in1) (show X.A.in1.handled = none from I.ok.hd hc) it a hai its.toArray
    exact wpAny_pyNext_enum_endD D he ⟨hit, p⟩ fun h' eb => ⟨rfl, I.turned (t' := s.toks) (fun b o hb q => eb b o hb q) f0 f1 f3 f4 f5⟩
  self := fun A i s Q E st h => let ⟨⟨_, he⟩, _⟩ := st; wpAny_pyIter_enum he h
end Ev

set_option Elab.async false
set_option linter.all false
set_option maxRecDepth 100000
set_option maxHeartbeats 1000000
namespace Ev
open PySem PySem.Spec PyProof.Rows L2
variable {K : PySem.W.Frag}
theorem Move.refl (ρ : Rho) (H : Hp) : Move ρ H ρ H := (Ext.refl ρ H).move
theorem Move.trans {ρ ρ1 ρ2 : Rho} {H H1 H2 : Hp} (a : Move ρ H ρ1 H1) (b : Move ρ1 H1 ρ2 H2) : Move ρ H ρ2 H2 :=
  ⟨fun x o h n => let ⟨p, q⟩ := a.keep x o h n; b.keep x o p q, Nat.le_trans a.len b.len, fun k hk => by
    rcases b.old k (Nat.lt_of_lt_of_le hk a.len) with q | q
    · rcases a.old k hk with p | p
      · exact .inl (q.trans p)
      · exact .inr (q.trans p)
    · exact .inr q⟩
/-- J gives the items, one after another, while what stands off the cells stays -/
structure Wk (K : PySem.W.Frag) (J : It) (ρ : Rho) (H : Hp) (xs : List D) : Prop where
  go : ∀ i ρ1 H1, i < xs.length → Move ρ H ρ1 H1 → J.go i H1
  stop : ∀ ρ1 H1, Move ρ H ρ1 H1 → J.stop xs.length H1
  yld : ∀ (i : Nat) d ρ1 H1 st1 x H2, xs[i]? = some d → Move ρ H ρ1 H1 → StR K ρ1 H1 st1 → J.yld i H1 x H2 → Ext ρ1 H1 ρ1 H2 ∧ StR K ρ1 H2 st1 ∧ Rp K ρ1 H2 d x
theorem wk_tup {ρ : Rho} {H : Hp} {a : Addr} {vs : List V} {l : List D} (h : H a = some (.tup vs)) (n : ρ.off a) (r : Rps K ρ H l vs) : Wk K (Itt K a) ρ H l where
  go := fun i ρ1 H1 hi m => by
    obtain ⟨v, hv, _⟩ := r.get (List.getElem?_eq_some_iff.mpr ⟨hi, rfl⟩)
    exact ⟨vs, v, .of (m.keep a _ h n).1, hv⟩
  stop := fun ρ1 H1 m => ⟨vs, .of (m.keep a _ h n).1, by rw [r.length]; exact Nat.le_refl _⟩
  yld := fun i d ρ1 H1 st1 x H2 hd m s y => by
    obtain ⟨rfl, y⟩ := y
    obtain ⟨v, hv, rv⟩ := r.get hd
    have := y vs (.of (m.keep a _ h n).1)
    rw [hv] at this; cases this
    exact ⟨.refl _ _, s, rv.move m⟩
theorem wk_lst {ρ : Rho} {H : Hp} {a : Addr} {vs : List V} {l : List D} (h : H a = some (.lst vs)) (n : ρ.off a) (r : Rps K ρ H l vs) : Wk K (Itl K a) ρ H l where
  go := fun i ρ1 H1 hi m => by
    obtain ⟨v, hv, _⟩ := r.get (List.getElem?_eq_some_iff.mpr ⟨hi, rfl⟩)
    exact ⟨vs, v, .of (m.keep a _ h n).1, hv⟩
  stop := fun ρ1 H1 m => ⟨vs, .of (m.keep a _ h n).1, by rw [r.length]; exact Nat.le_refl _⟩
  yld := fun i d ρ1 H1 st1 x H2 hd m s y => by
    obtain ⟨rfl, y⟩ := y
    obtain ⟨v, hv, rv⟩ := r.get hd
    have := y vs (.of (m.keep a _ h n).1)
    rw [hv] at this; cases this
    exact ⟨.refl _ _, s, rv.move m⟩
theorem rangeL_length : ∀ (n : Nat) (lo : Int), (rangeL lo n).length = n
  | 0, _ => rfl
  | n + 1, lo => by unfold rangeL; simp [rangeL_length n]
theorem rangeL_get : ∀ (n : Nat) (lo : Int) (i : Nat), i < n → (rangeL lo n)[i]? = some (.int (lo + i))
  | 0, _, i, h => by omega
  | n + 1, lo, 0, h => by unfold rangeL; simp
  | n + 1, lo, i + 1, h => by
    unfold rangeL
    rw [List.getElem?_cons_succ, rangeL_get n (lo + 1) i (by omega)]
    congr 2
    push_cast
    omega
theorem wk_rng {ρ : Rho} {H : Hp} {lo : Int} {n : Nat} : Wk K (Itr lo n) ρ H (rangeL lo n) where
  go := fun i ρ1 H1 hi m => by rw [rangeL_length] at hi; exact hi
  stop := fun ρ1 H1 m => by rw [rangeL_length]; exact Nat.le_refl n
  yld := fun i d ρ1 H1 st1 x H2 hd m s y => by
    obtain ⟨rfl, rfl⟩ := y
    have hi : i < n := by
      have := (List.getElem?_eq_some_iff.mp hd).1
      rw [rangeL_length] at this; exact this
    rw [rangeL_get n lo i hi] at hd
    cases hd
    exact ⟨.refl _ _, s, rfl⟩
theorem enumL_length : ∀ (l : List D) (i : Int), (enumL i l).length = l.length
  | [], _ => rfl
  | x :: r, i => by unfold enumL; simp [enumL_length r]
theorem enumL_get : ∀ (l : List D) (k : Int) (i : Nat) (d : D), (enumL k l)[i]? = some d → ∃ x, l[i]? = some x ∧ d = .tup [.int (k + i), x]
  | [], _, _, _, h => by simp [enumL] at h
  | x :: r, k, 0, d, h => by
    simp [enumL] at h
    exact ⟨x, by simp, by rw [← h]; simp⟩
  | x :: r, k, i + 1, d, h => by
    unfold enumL at h
    obtain ⟨y, h1, h2⟩ := enumL_get r (k + 1) i d (by simpa using h)
    refine ⟨y, by simpa using h1, ?_⟩
    rw [h2]
    congr 3
    push_cast
    omega
theorem pair_rp {ρ : Rho} {H : Hp} {st : Store} {T : Addr} {x y : V} {d e : D} (s : StR K ρ H st) (h : H T = none) (r1 : Rp K ρ H d x) (r2 : Rp K ρ H e y) :
    Ext ρ H ρ (upd H T (.tup [x, y])) ∧ StR K ρ (upd H T (.tup [x, y])) st ∧ Rp K ρ (upd H T (.tup [x, y])) (.tup [d, e]) (.ref T) := by
  obtain ⟨ex, s', off⟩ := s.laid (o := .tup [x, y]) h
  exact ⟨ex, s', T, [x, y], rfl, upd_same, off, .cons (r1.ext ex _ _) (.cons (r2.ext ex _ _) .nil)⟩
theorem wk_enumT {ρ : Rho} {H : Hp} {a : Addr} {vs : List V} {l : List D} (h : H a = some (.tup vs)) (n : ρ.off a) (r : Rps K ρ H l vs) : Wk K (IteT K a) ρ H (enumL 0 l) where
  go := fun i ρ1 H1 hi m => by
    rw [enumL_length] at hi
    obtain ⟨v, hv, _⟩ := r.get (List.getElem?_eq_some_iff.mpr ⟨hi, rfl⟩)
    exact ⟨vs, v, .of (m.keep a _ h n).1, hv⟩
  stop := fun ρ1 H1 m => ⟨vs, .of (m.keep a _ h n).1, by rw [enumL_length, r.length]⟩
  yld := fun i d ρ1 H1 st1 x H2 hd m s y => by
    obtain ⟨T, z, rfl, hT, rfl, y⟩ := y
    obtain ⟨w, hw, rfl⟩ := enumL_get l 0 i d hd
    obtain ⟨v, hv, rv⟩ := r.get hw
    have := y vs (.of (m.keep a _ h n).1)
    rw [hv] at this; cases this
    exact pair_rp s hT (by show V.int _ = V.int _; congr 1; omega) (rv.move m)
theorem wk_enumL {ρ : Rho} {H : Hp} {a : Addr} {vs : List V} {l : List D} (h : H a = some (.lst vs)) (n : ρ.off a) (r : Rps K ρ H l vs) : Wk K (Ite K a) ρ H (enumL 0 l) where
  go := fun i ρ1 H1 hi m => by
    rw [enumL_length] at hi
    obtain ⟨v, hv, _⟩ := r.get (List.getElem?_eq_some_iff.mpr ⟨hi, rfl⟩)
    exact ⟨vs, v, .of (m.keep a _ h n).1, hv⟩
  stop := fun ρ1 H1 m => ⟨vs, .of (m.keep a _ h n).1, by rw [enumL_length, r.length]; exact Nat.le_refl _⟩
  yld := fun i d ρ1 H1 st1 x H2 hd m s y => by
    obtain ⟨T, z, rfl, hT, rfl, y⟩ := y
    obtain ⟨w, hw, rfl⟩ := enumL_get l 0 i d hd
    obtain ⟨v, hv, rv⟩ := r.get hw
    have := y vs (.of (m.keep a _ h n).1)
    rw [hv] at this; cases this
    exact pair_rp s hT (by show V.int _ = V.int _; congr 1; omega) (rv.move m)
theorem zipL_length : ∀ (l m : List D), (zipL l m).length = min l.length m.length
  | [], _ => by simp [zipL]
  | _ :: _, [] => by simp [zipL]
  | x :: r, y :: q => by unfold zipL; simp [zipL_length r q]
theorem zipL_get : ∀ (l m : List D) (i : Nat) (d : D), (zipL l m)[i]? = some d → ∃ x y, l[i]? = some x ∧ m[i]? = some y ∧ d = .tup [x, y]
  | [], _, _, _, h => by simp [zipL] at h
  | _ :: _, [], _, _, h => by simp [zipL] at h
  | x :: r, y :: q, 0, d, h => by
    simp [zipL] at h
    exact ⟨x, y, by simp, by simp, h.symm⟩
  | x :: r, y :: q, i + 1, d, h => by
    unfold zipL at h
    obtain ⟨u, w, h1, h2, h3⟩ := zipL_get r q i d (by simpa using h)
    exact ⟨u, w, by simpa using h1, by simpa using h2, h3⟩
theorem wk_zipT {ρ : Rho} {H : Hp} {a b : Addr} {vs ws : List V} {l m : List D} (h : H a = some (.tup vs)) (n : ρ.off a) (r : Rps K ρ H l vs) (h2 : H b = some (.tup ws)) (n2 : ρ.off b) (r2 : Rps K ρ H m ws) : Wk K (RZ.ItzT K a b) ρ H (zipL l m) where
  go := fun i ρ1 H1 hi mv => by
    rw [zipL_length] at hi
    obtain ⟨v, hv, _⟩ := r.get (List.getElem?_eq_some_iff.mpr ⟨(show i < l.length by omega), rfl⟩)
    obtain ⟨w, hw, _⟩ := r2.get (List.getElem?_eq_some_iff.mpr ⟨(show i < m.length by omega), rfl⟩)
    exact ⟨vs, ws, v, w, .of (mv.keep a _ h n).1, .of (mv.keep b _ h2 n2).1, hv, hw⟩
  stop := fun ρ1 H1 mv => ⟨vs, ws, .of (mv.keep a _ h n).1, .of (mv.keep b _ h2 n2).1, by rw [zipL_length, r.length, r2.length]; omega⟩
  yld := fun i d ρ1 H1 st1 x H2 hd mv s y => by
    obtain ⟨T, z, u, rfl, hT, rfl, y, y'⟩ := y
    obtain ⟨p, q, hp, hq, rfl⟩ := zipL_get l m i d hd
    obtain ⟨v, hv, rv⟩ := r.get hp
    obtain ⟨w, hw, rw'⟩ := r2.get hq
    have := y vs (.of (mv.keep a _ h n).1)
    rw [hv] at this; cases this
    have := y' ws (.of (mv.keep b _ h2 n2).1)
    rw [hw] at this; cases this
    exact pair_rp s hT (rv.move mv) (rw'.move mv)
theorem wk_zipL {ρ : Rho} {H : Hp} {a b : Addr} {vs ws : List V} {l m : List D} (h : H a = some (.lst vs)) (n : ρ.off a) (r : Rps K ρ H l vs) (h2 : H b = some (.lst ws)) (n2 : ρ.off b) (r2 : Rps K ρ H m ws) : Wk K (Itz K a b) ρ H (zipL l m) where
  go := fun i ρ1 H1 hi mv => by
    rw [zipL_length] at hi
    obtain ⟨v, hv, _⟩ := r.get (List.getElem?_eq_some_iff.mpr ⟨(show i < l.length by omega), rfl⟩)
    obtain ⟨w, hw, _⟩ := r2.get (List.getElem?_eq_some_iff.mpr ⟨(show i < m.length by omega), rfl⟩)
    exact ⟨vs, ws, v, w, .of (mv.keep a _ h n).1, .of (mv.keep b _ h2 n2).1, hv, hw⟩
  stop := fun ρ1 H1 mv => ⟨vs, ws, .of (mv.keep a _ h n).1, .of (mv.keep b _ h2 n2).1, by rw [zipL_length, r.length, r2.length]; omega⟩
  yld := fun i d ρ1 H1 st1 x H2 hd mv s y => by
    obtain ⟨T, z, u, rfl, hT, rfl, y, y'⟩ := y
    obtain ⟨p, q, hp, hq, rfl⟩ := zipL_get l m i d hd
    obtain ⟨v, hv, rv⟩ := r.get hp
    obtain ⟨w, hw, rw'⟩ := r2.get hq
    have := y vs (.of (mv.keep a _ h n).1)
    rw [hv] at this; cases this
    have := y' ws (.of (mv.keep b _ h2 n2).1)
    rw [hw] at this; cases this
    exact pair_rp s hT (rv.move mv) (rw'.move mv)

/-! ### iterators' readings -/
def PostI (K : PySem.W.Frag) (E : Str → Hp → Prop) (ρ : Rho) (H : Hp) (r : R (List D)) (Q : It → Hp → Prop) : Prop := match r with
  | .ok xs st' => ∀ J ρ' H', Ext ρ H ρ' H' → StR K ρ' H' st' → Wk K J ρ' H' xs → Q J H'
  | .exc x st' => ∀ ρ' H', Ext ρ H ρ' H' → StR K ρ' H' st' → E x H'
  | .bad => False
abbrev Fl := Env → Store → R (List D)
def tI (K : PySem.W.Frag) (W : XW) (f : Fl) : TI := fun σ H Q => ∃ ρ env st, EnvR K ρ H env σ ∧ StR K ρ H st ∧ PostI K (W σ) ρ H (f env st) Q
abbrev Pi' (X : Cx) (W : XW) (tg e : Expr) (f : Fl) : Prop := PI X tg e (tI X.K W f)
section
variable {E : Str → Hp → Prop} {ρ ρ1 : Rho} {H H1 : Hp}
theorem PostI.later {r : R (List D)} {Q : It → Hp → Prop} (p : PostI K E ρ H r Q) (e : Ext ρ H ρ1 H1) : PostI K E ρ1 H1 r Q := by
  cases r with
  | ok d st' => exact fun v ρ' H' e' s r => p v ρ' H' (e.trans e') s r
  | exc x st' => exact fun ρ' H' e' s => p ρ' H' (e.trans e') s
  | bad => exact p
theorem PostI.imp {r : R (List D)} {Q Q' : It → Hp → Prop} (p : PostI K E ρ H r Q) (h : ∀ v H, Q v H → Q' v H) : PostI K E ρ H r Q' := by
  cases r with
  | ok d st' => exact fun v ρ' H' e' s r => h _ _ (p v ρ' H' e' s r)
  | exc x st' => exact p
  | bad => exact p
theorem PostI.step {r : R D} {g : D → Store → R (List D)} {Q : It → Hp → Prop} (p : PostI K E ρ H (r.bind g) Q) : PostE K E ρ H r (Mid K ρ H r fun ρ1 H1 d st1 => PostI K E ρ1 H1 (g d st1) Q) := by
  cases r with
  | ok d st1 => exact fun v ρ1 H1 e s r => ⟨ρ1, st1, d, e, s, r, rfl, PostI.later p e⟩
  | exc x st' => exact p
  | bad => exact p
end
theorem PI.mono {X : Cx} {tg e : Expr} {t t' : TI} (h : PI X tg e t) (m : ∀ σ H Q, t' σ H Q → t σ H Q) : PI X tg e t' := ⟨fun pins s σ H Q I q => h.run pins s σ H Q I (m σ H Q q)⟩
section
variable {X : Cx} {W : XW} {a b e tg : Expr} {fa fb f : Fe} {pos p : Pos}
/-- a tuple, a list, a range -/
theorem i_val (he : Pe X W e f) : Pi' X W tg e fun env st => (f env st).bind fun d st1 => R.of (itemsOf d st1) st1 := by
  refine ⟨fun pins s σ H Rq I ⟨ρ, env, st, er, sr, p⟩ => ?_⟩
  refine thn (he.run pins s σ H _ I ⟨ρ, env, st, er, sr, PostI.step p⟩) fun v s1 ⟨x, H1, I1, r1, ρ1, st1, d, e1, s1', rd, _, p1⟩ => ?_
  dsimp only at p1
  cases d with
  | tup l =>
    obtain ⟨t, vs, rfl, h2, off, rl⟩ := rd
    cases r1
    obtain ⟨its, rv, pl, hz⟩ := I1.tuple (SqT.of h2)
    refine wpAny_pyIter_tuple (show s1.heap.IsTuple t its.toArray from pl) ?_
    refine ⟨s1.heap.objs.size, [s1.heap.objs.size], _, _, H1, rfl, I1.kept (t' := s1.toks) fun b o e => Heap.get?_push_of_some _ e, turn_tuple t _, ⟨_, Heap.get?_push_size _ rfl, rfl, rfl⟩, fun b hb => ?_, p1 _ ρ1 H1 (.refl _ _) s1' (wk_tup h2 off rl)⟩
    have e : b = s1.heap.objs.size := by simpa using hb
    subst e
    exact I1.fpOk (Nat.le_refl _) (I1.hok.fresh (Nat.le_refl _))
  | lst l =>
    obtain ⟨t, vs, rfl, h2, off, rl⟩ := rd
    cases r1
    obtain ⟨its, rv, pl, hz⟩ := I1.list (SqL.of h2)
    refine wpAny_pyIter_list pl.isList ?_
    refine ⟨s1.heap.objs.size, [s1.heap.objs.size], _, _, H1, rfl, I1.kept (t' := s1.toks) fun b o e => Heap.get?_push_of_some _ e, turn_list t _, ⟨_, Heap.get?_push_size _ rfl, rfl, rfl⟩, fun b hb => ?_, p1 _ ρ1 H1 (.refl _ _) s1' (wk_lst h2 off rl)⟩
    have e : b = s1.heap.objs.size := by simpa using hb
    subst e
    exact I1.fpOk (Nat.le_refl _) (I1.hok.fresh (Nat.le_refl _))
  | rng lo hi =>
    obtain ⟨t, rfl, h2, off⟩ := rd
    cases r1
    unfold itemsOf at p1
    dsimp only at p1
    split at p1
    · rename_i hb
      obtain ⟨t1, u1, v1, hr⟩ : ∃ t1 u1 v1, s1.heap.get? t = some { cls := .type "range", data := .fields #[.int lo t1, .int hi u1, .int 1 v1] } := I1.hok t _ h2
      refine wpAny_pyIter_range (show IsRange s1.heap t lo hi 1 t1 u1 v1 from hr) (small_one (by omega) (by omega) (by omega) (by omega)) ?_
      refine ⟨s1.heap.objs.size, [s1.heap.objs.size], _, _, H1, rfl,
        I1.kept (t' := s1.toks) fun b o e => Heap.get?_push_of_some _ e, turn_range _ lo (hi - lo).toNat, ?_, fun b hb => ?_, p1 _ ρ1 H1 (.refl _ _) s1' wk_rng⟩
      · have e1 : lo + ((0 : Nat) : Int) * 1 = lo := by simp
        have e2 : (((hi - lo).toNat : Nat) : Int) - ((0 : Nat) : Int) = Builtin.Range.rangeSize lo hi 1 := by rw [rangeSize_one]; split <;> omega
        show IsRangeIter _ _ (lo + ((0 : Nat) : Int) * 1) ((((hi - lo).toNat : Nat) : Int) - ((0 : Nat) : Int)) 1
        rw [e1, e2]
        exact Heap.get?_push_size _ rfl
      · have e : b = s1.heap.objs.size := by simpa using hb
        subst e
        exact I1.fpOk (Nat.le_refl _) (I1.hok.fresh (Nat.le_refl _))
    · exact p1.elim
  | _ => exact p1.elim
def enF (x : D) (st1 : Store) : R (List D) := match x with
  | .tup xs => .ok (enumL 0 xs) st1
  | .lst xs => .ok (enumL 0 xs) st1
  | _ => .bad
theorem i_enum {elts : List Expr} {kk : Nat} {tpos : Pos} (hg : Gl X "enumerate") (hm : X.mg "enumerate" = none) (ha : Pe X W a fa) (hs : starEach [a] X.env = [(false, eval a X.env)]) :
    Pi' X W (.Tuple elts kk tpos) (.Call (.Name "enumerate" p) [a] [] pos) fun env st => (fa env st).bind enF := by
  refine ⟨fun pins s σ H Rq I ⟨ρ, env, st, er, sr, p⟩ => ?_⟩
  have ha' : PA X [a] (tCons (tE X.K W fa) tNil) := pa_cons ha pa_nil hs
  refine Call_ (ld_blt I hg hm boot_enumerate (PyProof.Rows.callWith_type1 (thn (ha'.run pos pins s σ H (fun xs H1 => ∃ w, xs = [w] ∧ Mid X.K ρ H (fa env st) (fun ρ1 H1 d st1 => PostI X.K (W σ) ρ1 H1 (enF d st1) Rq) w H1) I ⟨ρ, env, st, er, sr, PostE.imp (PostI.step p) fun v H1 m => ⟨v, rfl, m⟩⟩) fun us s1 ⟨vs, H1, I1, r1, q1⟩ => ?_) hs rfl))
  obtain ⟨x, ex, ρ1, st1, d, e1, s1', rd, _, p1⟩ := q1
  subst ex
  unfold enF at p1
  cases r1 with
  | cons r rr =>
    cases rr
    cases d with
    | tup l =>
      obtain ⟨t, ws, rfl, h2, off, rl⟩ := rd
      cases r
      obtain ⟨its, rv, pl, hz⟩ := I1.tuple (SqT.of h2)
      have htl : t < s1.heap.objs.size := I1.hok.lt h2
      refine ev_enum1 (begins_tuple t its.toArray) (show s1.heap.IsTuple t its.toArray from pl) fun h' he hit hsz hk => wpAny_pyIter_enum he ?_
      have I2 : Inv X pins σ H1 { s1 with heap := h' } := I1.kept (t' := s1.toks) hk
      refine ⟨s1.heap.objs.size + 1, [s1.heap.objs.size + 1, s1.heap.objs.size], _, _, H1, rfl, I2, turn_enumT t (s1.heap.objs.size + 1) s1.heap.objs.size,
        ⟨⟨.none, he⟩, ⟨_, hit, rfl, rfl⟩, Nat.succ_ne_self _, Nat.ne_of_gt (Nat.lt_succ_of_lt htl), Nat.ne_of_lt htl⟩, fun b hb => ?_, p1 _ ρ1 H1 (.refl _ _) s1' (wk_enumT h2 off rl)⟩
      have e' : b = s1.heap.objs.size + 1 ∨ b = s1.heap.objs.size := by simpa using hb
      have hle : s1.heap.objs.size ≤ b := by
        rcases e' with z | z
        · rw [z]; exact Nat.le_add_right _ _
        · rw [z]; exact Nat.le_refl _
      exact I1.fpOk hle (I1.hok.fresh hle)
    | lst l =>
      obtain ⟨t, ws, rfl, h2, off, rl⟩ := rd
      cases r
      obtain ⟨its, rv, pl, hz⟩ := I1.list (SqL.of h2)
      refine call_enumerate_list pl.isList fun h' he hit hsz hk => wpAny_pyIter_enum he ?_
      have I2 : Inv X pins σ H1 { s1 with heap := h' } := I1.kept (t' := s1.toks) hk
      refine ⟨s1.heap.objs.size + 1, [s1.heap.objs.size + 1, s1.heap.objs.size], _, _, H1, rfl, I2, turn_enum t (s1.heap.objs.size + 1) s1.heap.objs.size, ⟨⟨.none, he⟩, hit, Nat.succ_ne_self _⟩, fun b hb => ?_, p1 _ ρ1 H1 (.refl _ _) s1' (wk_enumL h2 off rl)⟩
      have e' : b = s1.heap.objs.size + 1 ∨ b = s1.heap.objs.size := by simpa using hb
      have hle : s1.heap.objs.size ≤ b := by
        rcases e' with z | z
        · rw [z]; exact Nat.le_add_right _ _
        · rw [z]; exact Nat.le_refl _
      exact I1.fpOk hle (I1.hok.fresh hle)
    | _ => exact p1.elim
theorem i_zip {elts : List Expr} {kk : Nat} {tpos : Pos} (hg : Gl X "zip") (hm : X.mg "zip" = none) (ha : Pe X W a fa) (hb : Pe X W b fb)
    (hs : starEach [a, b] X.env = (false, eval a X.env) :: starEach [b] X.env) (hs2 : starEach [b] X.env = (false, eval b X.env) :: starEach [] X.env) (hpl : (backTo pos (starEach [b] X.env)).any (·.1) = false) :
    Pi' X W (.Tuple elts kk tpos) (.Call (.Name "zip" p) [a, b] [] pos) fun env st => (fa env st).bind fun x st1 => (fb env st1).bind fun y st2 => match x, y with
      | .tup xs, .tup ys => .ok (zipL xs ys) st2
      | .lst xs, .lst ys => .ok (zipL xs ys) st2
      | _, _ => .bad :=
  PI.mono (RZ.pi_zipA hg hm (pa_cons ha (pa_cons hb pa_nil hs2) hs) hs hpl) fun σ H Q ⟨ρ, env, st, er, sr, p⟩ => ⟨ρ, env, st, er, sr, PostE.imp (PostI.step p) fun v H1 ⟨ρ1, st1, d, e1, s1, r1, _, p1⟩ =>
    ⟨ρ1, env, st1, er.ext e1, s1, PostE.imp (PostI.step p1) fun w H2 ⟨ρ2, st2, d2, e2, s2, r2, _, p2⟩ => by
      have r1 := r1.ext e2 _ _
      dsimp only at p2
      cases d with
      | tup l =>
        cases d2 with
        | tup m =>
          obtain ⟨t, vs, rfl, h1, n1, rl⟩ := r1
          obtain ⟨u, ws, rfl, h2, n2, rm⟩ := r2
          exact ⟨t, u, vs, ws, rfl, .inr ⟨.of h1, .of h2, p2 _ ρ2 H2 (.refl _ _) s2 (wk_zipT h1 n1 rl h2 n2 rm)⟩⟩
        | _ => exact p2.elim
      | lst l =>
        cases d2 with
        | lst m =>
          obtain ⟨t, vs, rfl, h1, n1, rl⟩ := r1
          obtain ⟨u, ws, rfl, h2, n2, rm⟩ := r2
          exact ⟨t, u, vs, ws, rfl, .inl ⟨.of h1, .of h2, p2 _ ρ2 H2 (.refl _ _) s2 (wk_zipL h1 n1 rl h2 n2 rm)⟩⟩
        | _ => exact p2.elim
      | _ => exact p2.elim⟩⟩
end
end Ev

set_option Elab.async false
set_option linter.all false
set_option maxRecDepth 100000
set_option maxHeartbeats 1000000
namespace Ev
open PySem PySem.Spec PyProof.Rows L2
variable {K : PySem.W.Frag}
/-! ### slots forgotten -/
theorem wipe_get (σ : L2.St) : ∀ (vs : List Nat) (i : Nat), (wipe σ vs)[i]? = if i ∈ vs then σ[i]?.map (fun _ => none) else σ[i]?
  | [], i => by simp [wipe]
  | v :: vs, i => by
    unfold wipe
    by_cases h : v = i
    · subst h
      rw [if_pos List.mem_cons_self]
      by_cases hl : v < σ.length
      · rw [List.getElem?_set_self (by rw [wipe_length]; exact hl), List.getElem?_eq_getElem hl]; rfl
      · rw [List.getElem?_eq_none (by rw [List.length_set, wipe_length]; omega), List.getElem?_eq_none (by omega)]; rfl
    · rw [List.getElem?_set_ne h, wipe_get σ vs i]
      have : i ∈ v :: vs ↔ i ∈ vs := by simp [Ne.symm h]
      simp only [this]
theorem wipe_set {σ : L2.St} {vs : List Nat} {i : Nat} {x : Option V} (h : i ∈ vs) : wipe (σ.set i x) vs = wipe σ vs := by
  refine List.ext_getElem? fun j => ?_
  rw [wipe_get, wipe_get]
  by_cases hj : j ∈ vs
  · rw [if_pos hj, if_pos hj]
    by_cases e : i = j
    · subst e
      by_cases hl : i < σ.length
      · rw [List.getElem?_set_self hl, List.getElem?_eq_getElem hl]; rfl
      · rw [List.getElem?_eq_none (by rw [List.length_set]; omega), List.getElem?_eq_none (by omega)]
    · rw [List.getElem?_set_ne e]
  · rw [if_neg hj, if_neg hj, List.getElem?_set_ne (fun (e : i = j) => hj (e ▸ h))]
theorem wipe_wipe {σ : L2.St} {vs : List Nat} : wipe (wipe σ vs) vs = wipe σ vs := by
  refine List.ext_getElem? fun j => ?_
  rw [wipe_get, wipe_get]
  by_cases hj : j ∈ vs
  · rw [if_pos hj, if_pos hj]
    cases σ[j]? <;> rfl
  · rw [if_neg hj, if_neg hj]
theorem wipeE_length (env : Env) : ∀ vs : List Nat, (wipeE env vs).length = env.length
  | [] => rfl
  | v :: vs => by unfold wipeE; rw [List.length_set, wipeE_length env vs]
theorem wipeE_get {env : Env} {i : Nat} {x : D} : ∀ {vs : List Nat}, (wipeE env vs)[i]? = some (some x) → env[i]? = some (some x) ∧ i ∉ vs
  | [], h => ⟨h, by simp⟩
  | v :: vs, h => by
    unfold wipeE at h
    by_cases hi : v = i
    · subst hi
      by_cases hv : v < (wipeE env vs).length
      · rw [List.getElem?_set_self hv] at h; cases h
      · rw [List.getElem?_eq_none (by simpa using hv)] at h; cases h
    · rw [List.getElem?_set_ne hi] at h
      obtain ⟨a, b⟩ := wipeE_get h
      exact ⟨a, by simp [Ne.symm hi, b]⟩
theorem EnvR.wipe {ρ : Rho} {H : Hp} {env : Env} {σ : L2.St} (r : EnvR K ρ H env σ) (vs : List Nat) : EnvR K ρ H (wipeE env vs) (wipe σ vs) :=
  ⟨by rw [wipeE_length, wipe_length]; exact r.len, fun i d h => by
    obtain ⟨h1, h2⟩ := wipeE_get h
    obtain ⟨v, h3, h4⟩ := r.get i d h1
    exact ⟨v, by rw [wipe_get, if_neg h2]; exact h3, h4⟩⟩
theorem EnvR.set {ρ : Rho} {H : Hp} {env : Env} {σ : L2.St} {i : Nat} {d : D} {v : V} (r : EnvR K ρ H env σ) (rd : Rp K ρ H d v) : EnvR K ρ H (env.set i (some d)) (σ.set i (some v)) :=
  ⟨by rw [List.length_set, List.length_set]; exact r.len, fun j x h => by
    by_cases e : i = j
    · subst e
      by_cases hl : i < env.length
      · rw [List.getElem?_set_self hl] at h
        cases h
        exact ⟨v, by rw [List.getElem?_set_self (by rw [← r.len]; exact hl)], rd⟩
      · rw [List.getElem?_eq_none (by rw [List.length_set]; omega)] at h; cases h
    · rw [List.getElem?_set_ne e] at h
      obtain ⟨w, h3, h4⟩ := r.get j x h
      exact ⟨w, by rw [List.getElem?_set_ne e]; exact h3, h4⟩⟩
/-! ### targets -/
def tG (K : PySem.W.Frag) (t : T) : TG := fun v σ H Q => ∃ ρ d env st env', EnvR K ρ H env σ ∧ StR K ρ H st ∧ Rp K ρ H d v ∧ bindT t d env = some env' ∧
  ∀ σ', EnvR K ρ H env' σ' → (∀ vs, (∀ i ∈ slots t, i ∈ vs) → wipe σ' vs = wipe σ vs) → Q σ' H
def tGs (K : PySem.W.Frag) (ts : List T) : TGs := fun us σ H Q => ∃ ρ ds env st env', EnvR K ρ H env σ ∧ StR K ρ H st ∧ Rps K ρ H ds us ∧ bindTs ts ds env = some env' ∧
  ∀ σ', EnvR K ρ H env' σ' → (∀ vs, (∀ i ∈ slotss ts, i ∈ vs) → wipe σ' vs = wipe σ vs) → Q σ' H
theorem PG.mono {X : Cx} {e : Expr} {t t' : TG} (h : PG X e t) (m : ∀ v σ H Q, t' v σ H Q → t v σ H Q) : PG X e t' := ⟨fun pins s σ H v u Q I r q => h.run pins s σ H v u Q I r (m v σ H Q q)⟩
theorem PGs.mono {X : Cx} {e : List Expr} {t t' : TGs} (h : PGs X e t) (m : ∀ v σ H Q, t' v σ H Q → t v σ H Q) : PGs X e t' := ⟨fun pins s σ H v u Q I r q => h.run pins s σ H v u Q I r (m v σ H Q q)⟩
section
variable {X : Cx} {pos : Pos} {e : Expr} {es : List Expr}
theorem g_name {i : Nat} {x : Str} (hN : X.N.Nodup) (hi : X.N[i]? = some x) (hx : Loc X.env.scope x) (hf : X.fn x = true ∨ X.env.scope.names.lookup x = some .local) : PG X (.Name x pos) (tG X.K (.name i)) :=
  PG.mono (pg_name hN hi hx hf) fun v σ H Q ⟨ρ, d, env, st, env', er, sr, rd, hb, q⟩ => by
    unfold bindT at hb
    split at hb
    · cases hb
      exact q _ (er.set rd) fun vs h => wipe_set (h i (by simp [slots]))
    · cases hb
theorem g_nil : PGs X [] (tGs X.K []) :=
  PGs.mono pgs_nil fun v σ H Q ⟨ρ, d, env, st, env', er, sr, rd, hb, q⟩ => by
    cases d with
    | nil =>
      cases hb
      exact ⟨rd, q σ er fun _ _ => rfl⟩
    | cons a b => cases hb
theorem g_cons {t : T} {ts : List T} (h1 : PG X e (tG X.K t)) (h2 : PGs X es (tGs X.K ts)) (hs : (assignEach (e :: es) X.env).map (·.2) = assign e X.env :: (assignEach es X.env).map (·.2)) : PGs X (e :: es) (tGs X.K (t :: ts)) :=
  PGs.mono (pgs_cons h1 h2 hs) fun v σ H Q ⟨ρ, ds, env, st, env', er, sr, rd, hb, q⟩ => by
    cases ds with
    | nil => cases hb
    | cons d ds =>
      obtain ⟨u, us, rfl, r1, r2⟩ := rd
      unfold bindTs at hb
      split at hb
      · rename_i env1 he
        exact ⟨u, us, rfl, ρ, d, env, st, env1, er, sr, r1, he, fun σ1 er1 hw1 => ⟨ρ, ds, env1, st, env', er1, sr, r2, hb, fun σ2 er2 hw2 =>
          q σ2 er2 fun vs h => (hw2 vs fun i hi => h i (by simp [slotss, hi])).trans (hw1 vs fun i hi => h i (by simp [slotss, hi]))⟩⟩
      · cases hb
theorem bindTs_len : ∀ {ts : List T} {ds : List D} {env env' : Env}, bindTs ts ds env = some env' → ts.length = ds.length
  | [], [], _, _, _ => rfl
  | [], _ :: _, _, _, h => by cases h
  | _ :: _, [], _, _, h => by cases h
  | t :: ts, d :: ds, env, env', h => by
    unfold bindTs at h
    split at h
    · simp [bindTs_len h]
    · cases h
theorem g_tup {ts : List T} {k : Nat} (hc : X.calm = true) (h : PGs X es (tGs X.K ts)) (hl : es.length = ts.length) (hn : (assignEach es X.env).length = es.length) (hst : (assignEach es X.env).findIdx? (·.1) = none) : PG X (.Tuple es k pos) (tG X.K (.tup ts)) :=
  PG.mono (pg_tup hc h hn hst) fun v σ H Q ⟨ρ, d, env, st, env', er, sr, rd, hb, q⟩ => by
    cases d with
    | tup l =>
      obtain ⟨a, vs, rfl, h2, off, rl⟩ := rd
      unfold bindT at hb
      exact ⟨a, vs, rfl, .of h2, by rw [← rl.length, hl, bindTs_len hb], ρ, l, env, st, env', er, sr, rl, hb, fun σ' e' w => q σ' e' fun vs h => w vs fun i hi => h i (by simpa [slots] using hi)⟩
    | _ => simp [bindT] at hb
end
/-! ### tests of a comprehension -/
def PostB (K : PySem.W.Frag) (E : Str → Hp → Prop) (ρ : Rho) (H : Hp) (r : R Bool) (Q : Bool → Hp → Prop) : Prop := match r with
  | .ok b st' => ∀ ρ' H', Ext ρ H ρ' H' → StR K ρ' H' st' → Q b H'
  | .exc x st' => ∀ ρ' H', Ext ρ H ρ' H' → StR K ρ' H' st' → E x H'
  | .bad => False
def tB' (K : PySem.W.Frag) (W : XW) (f : Env → Store → R Bool) : TT := fun σ H Q => ∃ ρ env st, EnvR K ρ H env σ ∧ StR K ρ H st ∧ PostB K (W σ) ρ H (f env st) Q
abbrev Fb := Env → Store → R Bool
theorem PTs.mono {X : Cx} {e : List Expr} {t t' : TT} (h : PTs X e t) (m : ∀ σ H Q, t' σ H Q → t σ H Q) : PTs X e t' := ⟨fun pins s σ H Q I q => h.run pins s σ H Q I (m σ H Q q)⟩
theorem b_nil {X : Cx} {W : XW} : PTs X [] (tB' X.K W fun _ st => .ok true st) := PTs.mono pts_nil fun σ H Q ⟨ρ, env, st, er, sr, p⟩ => p ρ H (.refl _ _) sr
theorem b_one {X : Cx} {W : XW} {c : Expr} {f : Fe} (h : Pt X W c f) : PTs X [c] (tB' X.K W fun env st => (f env st).bind fun d st1 => match truth d st1 with
    | some b => .ok b st1
    | none => .bad) :=
  PTs.mono (pts_one h) fun σ H Q ⟨ρ, env, st, er, sr, p⟩ => by
    refine ⟨ρ, env, st, er, sr, ?_⟩
    dsimp only at p
    cases q : f env st with
    | ok d st1 =>
      rw [q] at p
      change PostB X.K (W σ) ρ H (match truth d st1 with
        | some b => .ok b st1
        | none => .bad) Q at p
      cases q2 : truth d st1 with
      | none => rw [q2] at p; exact p.elim
      | some b => rw [q2] at p; exact ⟨b, q2, p⟩
    | exc x st' => rw [q] at p; exact p
    | bad => rw [q] at p; exact p
/-! ### a list under way -/
theorem Ext.ungrip {ρ ρ' : Rho} {H H' : Hp} {p : Addr} (e : Ext (ρ.grip p) H (ρ'.grip p) H') : Ext ρ H ρ' H' := ⟨e.keep, e.there, e.len, e.old, e.new, (List.cons.inj e.held).2⟩
theorem Ext.over {ρ ρ' : Rho} {H H' : Hp} {p : Addr} {o : HO} (e : Ext ρ H ρ' H') (h : H p = none) : Ext ρ H ρ' (upd H' p o) :=
  ⟨fun a x hx n => by rw [upd_ne (ne_of_none hx h)]; exact e.keep a x hx n, fun a ha => upd_there (e.there a ha), e.len, e.old, e.new, e.held⟩
structure LS (K : PySem.W.Frag) (ρ : Rho) (H : Hp) (p : Addr) (ρ1 : Rho) (H1 : Hp) (st1 : Store) (ys : List D) : Prop where
  ext : Ext ρ H ρ1 H1
  st : StR K (ρ1.grip p) H1 st1
  at' : ∃ vs, H1 p = some (.lst vs) ∧ Rps K (ρ1.grip p) H1 ys vs
theorem LS.start {ρ : Rho} {H : Hp} {p : Addr} {st : Store} (s : StR K ρ H st) (h : H p = none) : LS K ρ H p ρ (upd H p (.lst [])) st [] :=
  ⟨(Ext.refl ρ H).over h, s.grip h, [], upd_same, rfl⟩
section
variable {ρ ρ1 ρ2 : Rho} {H H1 H2 : Hp} {p : Addr} {st1 st2 : Store} {ys : List D}
theorem LS.move (l : LS K ρ H p ρ1 H1 st1 ys) (h : H p = none) : Move ρ H (ρ1.grip p) H1 :=
  ⟨fun a o ha n => ⟨l.ext.keep a o ha n.1, (l.ext.notin ha n).1, fun hm => by
    rcases List.mem_cons.mp hm with z | z
    · rw [z] at ha; rw [h] at ha; cases ha
    · exact (l.ext.notin ha n).2 z⟩, l.ext.len, l.ext.old⟩
theorem LS.go (l : LS K ρ H p ρ1 H1 st1 ys) (e : Ext (ρ1.grip p) H1 ρ2 H2) (s : StR K ρ2 H2 st2) : ∃ ρ3, ρ2 = Rho.grip ρ3 p ∧ LS K ρ H p ρ3 H2 st2 ys := by
  obtain ⟨c, hd⟩ := ρ2
  have hh : hd = p :: ρ1.held := e.held
  subst hh
  refine ⟨⟨c, ρ1.held⟩, rfl, ⟨l.ext.trans (Ext.ungrip (ρ' := ⟨c, ρ1.held⟩) e), s, ?_⟩⟩
  obtain ⟨vs, h1, h2⟩ := l.at'
  exact ⟨vs, e.keep p _ h1 (l.st.hold p List.mem_cons_self).2, h2.ext e _ _⟩
theorem LS.app (l : LS K ρ H p ρ1 H1 st1 ys) (h : H p = none) {y : D} {v : V} (r : Rp K (ρ1.grip p) H1 y v) : ∃ acc, H1 p = some (.lst acc) ∧ acc.length = ys.length ∧ LS K ρ H p ρ1 (upd H1 p (.lst (acc ++ [v]))) st1 (ys ++ [y]) := by
  obtain ⟨vs, h1, h2⟩ := l.at'
  refine ⟨vs, h1, h2.length.symm, l.ext.over h, l.st.put List.mem_cons_self, vs ++ [v], upd_same, ?_⟩
  exact (h2.append (.cons r .nil)).move (.put List.mem_cons_self)
theorem LS.done (l : LS K ρ H p ρ1 H1 st1 ys) {st : Store} (s : StR K ρ H st) (h : H p = none) : StR K ρ1 H1 st1 ∧ Rp K ρ1 H1 (.lst ys) (.ref p) := by
  obtain ⟨vs, h1, h2⟩ := l.at'
  refine ⟨l.st.loose, p, vs, rfl, h1, ⟨(l.st.hold p List.mem_cons_self).2, ?_⟩, h2.move .loose⟩
  rw [l.ext.held]
  exact (s.free h).2
end
/-! ### comprehensions -/
def oneF (t : T) (ft : Fb) (fe : Fe) : D → Env → Store → R (List D) := fun x env st => match bindT t x env with
  | none => .bad
  | some env1 => (ft env1 st).bind fun b st1 => if b = true then (fe env1 st1).bind fun y st2 => .ok [y] st2 else .ok [] st1
def twoF (t : T) (ft : Fb) (fi : Fl) (vs1 : List Nat) (one : D → Env → Store → R (List D)) : D → Env → Store → R (List D) := fun x env st => match bindT t x env with
  | none => .bad
  | some env1 => (ft env1 st).bind fun b st1 => if b = true then (fi env1 st1).bind fun xs st2 => lcItems one xs (wipeE env1 vs1) st2 else .ok [] st1
def lcF (fi : Fl) (one : D → Env → Store → R (List D)) (own : List Nat) : Fe := fun env st => (fi env st).bind fun xs st1 => (lcItems one xs (wipeE env own) st1).calm.bind fun ys st2 =>
  if ys.length ≤ seqMax then .ok (.lst ys) st2 else .bad
abbrev W0 : XW := fun _ _ _ => False
theorem bind_ok {α β : Type} {r : R α} {f : α → Store → R β} {b : β} {st : Store} (h : r.bind f = .ok b st) : ∃ a st1, r = .ok a st1 ∧ f a st1 = .ok b st := by
  cases r with
  | ok a st1 => exact ⟨a, st1, rfl, h⟩
  | exc x st' => cases h
  | bad => cases h
theorem lcItems_drop {one : D → Env → Store → R (List D)} {xs : List D} {i : Nat} {d : D} {env : Env} {st stF : Store} {zs : List D} (hd : xs[i]? = some d) (h : lcItems one (xs.drop i) env st = .ok zs stF) :
    ∃ y st2 zs2, one d env st = .ok y st2 ∧ lcItems one (xs.drop (i + 1)) env st2 = .ok zs2 stF ∧ zs = y ++ zs2 := by
  obtain ⟨hl, he⟩ := List.getElem?_eq_some_iff.mp hd
  rw [List.drop_eq_getElem_cons hl, he] at h
  unfold lcItems at h
  obtain ⟨y, st2, h1, h2⟩ := bind_ok h
  obtain ⟨zs2, st3, h3, h4⟩ := bind_ok h2
  cases h4
  exact ⟨y, st2, zs2, h1, h3, rfl⟩
theorem one_ok {t : T} {ft : Fb} {fe : Fe} {x : D} {env : Env} {st st2 : Store} {ys : List D} (h : oneF t ft fe x env st = .ok ys st2) :
    ∃ env1 b st1, bindT t x env = some env1 ∧ ft env1 st = .ok b st1 ∧ ((b = true ∧ ∃ y, fe env1 st1 = .ok y st2 ∧ ys = [y]) ∨ (b = false ∧ ys = [] ∧ st2 = st1)) := by
  unfold oneF at h
  split at h
  · cases h
  · rename_i env1 he
    obtain ⟨b, st1, h1, h2⟩ := bind_ok h
    refine ⟨env1, b, st1, he, h1, ?_⟩
    cases b with
    | true =>
      rw [if_pos rfl] at h2
      obtain ⟨y, st3, h3, h4⟩ := bind_ok h2
      cases h4
      exact .inl ⟨rfl, y, h3, rfl⟩
    | false =>
      rw [if_neg Bool.false_ne_true] at h2
      cases h2
      exact .inr ⟨rfl, rfl, rfl⟩
theorem two_ok' {t : T} {ft : Fb} {fi : Fl} {vs1 : List Nat} {one : D → Env → Store → R (List D)} {x : D} {env : Env} {st st2 : Store} {ys : List D} (h : twoF t ft fi vs1 one x env st = .ok ys st2) :
    ∃ env1 b st1, bindT t x env = some env1 ∧ ft env1 st = .ok b st1 ∧ ((b = true ∧ ∃ xs st3, fi env1 st1 = .ok xs st3 ∧ lcItems one xs (wipeE env1 vs1) st3 = .ok ys st2) ∨ (b = false ∧ ys = [] ∧ st2 = st1)) := by
  unfold twoF at h
  split at h
  · cases h
  · rename_i env1 he
    obtain ⟨b, st1, h1, h2⟩ := bind_ok h
    refine ⟨env1, b, st1, he, h1, ?_⟩
    cases b with
    | true =>
      rw [if_pos rfl] at h2
      obtain ⟨xs, st3, h3, h4⟩ := bind_ok h2
      exact .inl ⟨rfl, xs, st3, h3, h4⟩
    | false =>
      rw [if_neg Bool.false_ne_true] at h2
      cases h2
      exact .inr ⟨rfl, rfl, rfl⟩
/-- a Walk by Wk -/
theorem Wk.walk {J : It} {ρ : Rho} {H : Hp} {xs : List D} (w : Wk K J ρ H xs) : Walk J xs.length (fun H1 => ∃ ρ1, Move ρ H ρ1 H1) (fun i H1 x H2 => J.yld i H1 x H2) :=
  ⟨fun i H1 hi ⟨ρ1, m⟩ => w.go i ρ1 H1 hi m, fun H1 ⟨ρ1, m⟩ => w.stop ρ1 H1 m, fun _ _ _ _ _ _ y => y⟩
/-- one turn's yield in the last walk: the target bound, the test, the item put on -/
theorem last_turn {K : PySem.W.Frag} {ρ ρ1 : Rho} {H H1 H2 : Hp} {p : Addr} {t : T} {ft : Fb} {fe : Fe} {J : It} {ρ0 : Rho} {H0 : Hp} {xs ys zs : List D} {st1 st2 : Store} {i : Nat} {d : D} {x : V} {env : Env} {σ : L2.St} {vs : List Nat} {Nx : Hp → Prop}
    (w : Wk K J ρ0 H0 xs) (l : LS K ρ H p ρ1 H1 st1 ys) (hp : H p = none) (mv : Move ρ0 H0 (ρ1.grip p) H1) (er : EnvR K (ρ1.grip p) H1 env σ) (hd : xs[i]? = some d) (h1 : oneF t ft fe d env st1 = .ok zs st2)
    (hz : (ys ++ zs).length ≤ seqMax) (hsl : ∀ i ∈ slots t, i ∈ vs) (hy : J.yld i H1 x H2)
    (next : ∀ ρ3 H3, LS K ρ H p ρ3 H3 st2 (ys ++ zs) → Move ρ0 H0 (ρ3.grip p) H3 → EnvR K (ρ3.grip p) H3 env σ → Nx H3) :
    tG K t x σ H2 fun σ2 H2 => wipe σ2 vs = wipe σ vs ∧ tB' K W0 ft σ2 H2 fun b H3 =>
      if b = true then tE K W0 fe σ2 H3 fun y H4 => ∃ acc, H4 p = some (.lst acc) ∧ acc.length < sizeLine ∧ Nx (upd H4 p (.lst (acc ++ [y]))) else Nx H3 := by
  obtain ⟨ex, s2, rx⟩ := w.yld i d (ρ1.grip p) H1 st1 x H2 hd mv l.st hy
  obtain ⟨env1, b, st3, hb, hft, hr⟩ := one_ok h1
  obtain ⟨ρ2, e2, l2⟩ := l.go ex s2
  have e2' : ρ2 = ρ1 := by
    obtain ⟨a, b⟩ := ρ1; obtain ⟨a', b'⟩ := ρ2
    cases e2; rfl
  subst e2'
  refine ⟨ρ2.grip p, d, env, st1, env1, er.ext ex, s2, rx, hb, fun σ1 er1 hw => ⟨hw vs hsl, ρ2.grip p, env1, st1, er1, s2, ?_⟩⟩
  rw [hft]
  intro ρ3' H3 e3 s3
  obtain ⟨ρ3, rfl, l3⟩ := l2.go e3 s3
  rcases hr with ⟨rfl, y, hfe, rfl⟩ | ⟨rfl, rfl, rfl⟩
  · rw [if_pos rfl]
    refine ⟨ρ3.grip p, env1, st3, er1.ext e3, s3, ?_⟩
    rw [hfe]
    intro v ρ4' H4 e4 s4 r4
    obtain ⟨ρ4, rfl, l4⟩ := l3.go e4 s4
    obtain ⟨acc, h5, h6, l5⟩ := l4.app hp r4
    refine ⟨acc, h5, ?_, next ρ4 _ l5 ((((mv.trans ex.move).trans e3.move).trans e4.move).trans (.put List.mem_cons_self)) ((((er.ext ex).ext e3).ext e4).move (.put List.mem_cons_self))⟩
    rw [h6]
    have : ys.length + 1 ≤ seqMax := by simpa using hz
    exact Nat.lt_of_lt_of_le (by omega) line_ok
  · rw [if_neg Bool.false_ne_true]
    exact next ρ3 H3 (by rw [List.append_nil]; exact l3) ((mv.trans ex.move).trans e3.move) ((er.ext ex).ext e3)
/-- the state ahead of a turn -/
def lcInv (K : PySem.W.Frag) (ρ1 : Rho) (H1 : Hp) (p : Addr) (one : D → Env → Store → R (List D)) (xs : List D) (env : Env) (stF : Store) (total : List D) (i : Nat) (H2 : Hp) : Prop :=
  ∃ ρ2 st2 ys zs, LS K ρ1 H1 p ρ2 H2 st2 ys ∧ lcItems one (xs.drop i) env st2 = .ok zs stF ∧ ys ++ zs = total
section
variable {X : Cx} {W : XW} {elt tg iter tg1 iter1 : Expr} {ifs ifs1 : List Expr} {scope : Scope} {own : List (Str × Nat)} {pos : Pos} {fi fi1 : Fl} {t t1 : T} {ft ft1 : Fb} {fe : Fe}
theorem lc_read (hsl : ∀ i ∈ slots t, i ∈ own.map (·.2)) : ∀ σ H Q, tE K W (lcF fi (oneF t ft fe) (own.map (·.2))) σ H Q → tLc (tI K W fi) (tG K t) (tB' K W0 ft) (tE K W0 fe) (own.map (·.2)) σ H Q := by
  intro σ H Q ⟨ρ, env, st, er, sr, p⟩
  refine ⟨ρ, env, st, er, sr, ?_⟩
  unfold lcF at p
  cases q : fi env st with
  | exc x st' => rw [q] at p; exact p
  | bad => rw [q] at p; exact p.elim
  | ok xs st1 =>
    rw [q] at p
    change PostE K (W σ) ρ H ((lcItems (oneF t ft fe) xs (wipeE env (own.map (·.2))) st1).calm.bind _) Q at p
    cases q2 : lcItems (oneF t ft fe) xs (wipeE env (own.map (·.2))) st1 with
    | exc x st' => rw [q2] at p; exact p.elim
    | bad => rw [q2] at p; exact p.elim
    | ok total stF =>
      rw [q2] at p
      change PostE K (W σ) ρ H (if total.length ≤ seqMax then .ok (.lst total) stF else .bad) Q at p
      split at p
      · rename_i hz
        intro J ρ1 H1 e1 s1 wk D hD
        have er1 := er.ext e1
        refine lc_it wk.walk (lcInv K ρ1 H1 D (oneF t ft fe) xs (wipeE env (own.map (·.2))) stF total)
          ⟨ρ1, st1, [], total, .start s1 hD, by rw [List.drop_zero]; exact q2, rfl⟩ ?_ ?_ ?_
        · rintro i H2 _ ⟨ρ2, st2, ys, zs, l, _⟩
          exact ⟨ρ2.grip D, l.move hD⟩
        · rintro i x H2 H3 hi ⟨ρ2, st2, ys, zs, l, hr, rfl⟩ hy
          have hd : xs[i]? = some xs[i] := List.getElem?_eq_some_iff.mpr ⟨hi, rfl⟩
          obtain ⟨y, st3, zs2, h1, h2, rfl⟩ := lcItems_drop hd hr
          have z := last_turn (zs := y) (ys := ys) (Nx := lcInv K ρ1 H1 D (oneF t ft fe) xs (wipeE env (own.map (·.2))) stF (ys ++ (y ++ zs2)) (i + 1)) wk l hD (l.move hD) ((er1.move (l.move hD)).wipe (own.map (·.2))) hd h1 (by rw [List.length_append, List.length_append] at hz; rw [List.length_append]; omega) hsl hy (fun ρ3 H3 l3 _ _ => ⟨ρ3, st3, ys ++ y, zs2, l3, h2, by simp⟩)
          rw [wipe_wipe] at z
          exact z
        · rintro H2 ⟨ρ2, st2, ys, zs, l, hr, rfl⟩
          rw [List.drop_length] at hr
          cases hr
          obtain ⟨s3, r3⟩ := l.done s1 hD
          exact p _ ρ2 H2 (e1.trans l.ext) s3 (by rw [List.append_nil]; exact r3)
      · exact p.elim
theorem x_lc (hc : X.calm = true) (hN : X.N.Nodup) (hi : Pi' X W tg iter fi) (ok : BlkOk X.N X.env.scope scope own)
    (hg : ∀ (s : Shared) (H : Hp) (C : Addr) (cl : List (Str × Addr)) (fp : List Addr), PG (X.blk s H scope (compEnvC scope cl C X.env) fp) tg (tG X.K t)) (ht : ∀ (s : Shared) (H : Hp) (C : Addr) (cl : List (Str × Addr)) (fp : List Addr), PTs (X.blk s H scope (compEnvC scope cl C X.env) fp) ifs (tB' X.K W0 ft))
    (he : ∀ (s : Shared) (H : Hp) (C : Addr) (cl : List (Str × Addr)) (fp : List Addr), Pe (X.blk s H scope (compEnvC scope cl C X.env) fp) W0 elt fe) (hs : ∀ x, foldedSetIterable iter X.env x = pure x) (hsl : ∀ i ∈ slots t, i ∈ own.map (·.2)) :
    Pe X W (.ListComp elt [⟨tg, iter, ifs, 0⟩] scope pos) (lcF fi (oneF t ft fe) (own.map (·.2))) ∧
    ∀ (i : Nat) (y : Str) (py spos : Pos), X.N[i]? = some y → X.env.scope.names.lookup y = some .local → swapsWith (.ListComp elt [⟨tg, iter, ifs, 0⟩] scope pos) (some (.Name y py)) spos.line X.env = pure true →
      PS X (.Assign [.Name y py] (.ListComp elt [⟨tg, iter, ifs, 0⟩] scope pos) spos) (tAsg (tE X.K W (lcF fi (oneF t ft fe) (own.map (·.2)))) (gName i)) :=
  ⟨PE.mono (pe_lc hc hN hi ok hg ht he hs) (lc_read hsl), fun i y py spos hy hyl hsw => PS.mono (ps_setLc hc hN hy hyl hsw hi ok hg ht he hs) fun D σ H q => lc_read hsl σ H _ q⟩
/-! two walks -/
/-- the state ahead of an inner turn -/
def lcInv1 (K : PySem.W.Frag) (ρ1 : Rho) (H1 : Hp) (p : Addr) (ρ0 : Rho) (H0 : Hp) (one : D → Env → Store → R (List D)) (xs : List D) (env : Env) (σ : L2.St) (stM : Store) (mid : List D) (i : Nat) (H2 : Hp) : Prop :=
  ∃ ρ2 st2 ys zs, LS K ρ1 H1 p ρ2 H2 st2 ys ∧ Move ρ0 H0 (ρ2.grip p) H2 ∧ EnvR K (ρ2.grip p) H2 env σ ∧ lcItems one (xs.drop i) env st2 = .ok zs stM ∧ ys ++ zs = mid
theorem lc2_read {vs1 : List Nat} (hsl : ∀ i ∈ slots t, i ∈ own.map (·.2)) (hsl1 : ∀ i ∈ slots t1, i ∈ vs1) :
    ∀ σ H Q, tE K W (lcF fi (twoF t ft fi1 vs1 (oneF t1 ft1 fe)) (own.map (·.2))) σ H Q → tLc2 (tI K W fi) (tG K t) (tB' K W0 ft) (tI K W0 fi1) (tG K t1) (tB' K W0 ft1) (tE K W0 fe) (own.map (·.2)) vs1 σ H Q := by
  intro σ H Q ⟨ρ, env, st, er, sr, p⟩
  refine ⟨ρ, env, st, er, sr, ?_⟩
  unfold lcF at p
  cases q : fi env st with
  | exc x st' => rw [q] at p; exact p
  | bad => rw [q] at p; exact p.elim
  | ok xs st1 =>
    rw [q] at p
    change PostE K (W σ) ρ H ((lcItems (twoF t ft fi1 vs1 (oneF t1 ft1 fe)) xs (wipeE env (own.map (·.2))) st1).calm.bind _) Q at p
    cases q2 : lcItems (twoF t ft fi1 vs1 (oneF t1 ft1 fe)) xs (wipeE env (own.map (·.2))) st1 with
    | exc x st' => rw [q2] at p; exact p.elim
    | bad => rw [q2] at p; exact p.elim
    | ok total stF =>
      rw [q2] at p
      change PostE K (W σ) ρ H (if total.length ≤ seqMax then .ok (.lst total) stF else .bad) Q at p
      split at p
      · rename_i hz
        intro J ρ1 H1 e1 s1 wk D hD
        have er1 := er.ext e1
        refine ⟨fun i m H2 => m = xs.length - i ∧ i ≤ xs.length ∧ lcInv K ρ1 H1 D (twoF t ft fi1 vs1 (oneF t1 ft1 fe)) xs (wipeE env (own.map (·.2))) stF total i H2,
          ⟨xs.length, by simp, Nat.zero_le _, ρ1, st1, [], total, .start s1 hD, by rw [List.drop_zero]; exact q2, rfl⟩, ?_⟩
        rintro i m H2 ⟨rfl, hi, ρ2, st2, ys, zs, l, hr, rfl⟩
        by_cases hlt : i < xs.length
        · refine .inr ⟨wk.go i _ H2 hlt (l.move hD), lcInv K ρ1 H1 D (twoF t ft fi1 vs1 (oneF t1 ft1 fe)) xs (wipeE env (own.map (·.2))) stF (ys ++ zs) (i + 1),
            fun H' h => ⟨xs.length - (i + 1), by omega, rfl, hlt, h⟩, ?_⟩
          intro x H3 hy
          have hd : xs[i]? = some xs[i] := List.getElem?_eq_some_iff.mpr ⟨hlt, rfl⟩
          obtain ⟨y, st3, zs2, h1, h2, rfl⟩ := lcItems_drop hd hr
          obtain ⟨ex, s2, rx⟩ := wk.yld i _ (ρ2.grip D) H2 st2 x H3 hd (l.move hD) l.st hy
          obtain ⟨env1, b, st4, hb, hft, hrest⟩ := two_ok' h1
          obtain ⟨ρ3, e3, l2⟩ := l.go ex s2
          have e3' : ρ3 = ρ2 := by
            obtain ⟨a, b⟩ := ρ2; obtain ⟨a', b'⟩ := ρ3
            cases e3; rfl
          subst e3'
          refine ⟨ρ3.grip D, _, _, st2, env1, ((er1.move (l.move hD)).wipe (own.map (·.2))).ext ex, s2, rx, hb, fun σ2 er2 hw2 => ⟨(hw2 _ hsl).trans wipe_wipe, ρ3.grip D, env1, st2, er2, s2, ?_⟩⟩
          rw [hft]
          intro ρ4' H4 e4 s4
          obtain ⟨ρ4, rfl, l4⟩ := l2.go e4 s4
          rcases hrest with ⟨rfl, xs1, st5, hfi1, hin⟩ | ⟨rfl, rfl, rfl⟩
          · rw [if_pos rfl]
            refine ⟨ρ4.grip D, env1, st4, er2.ext e4, s4, ?_⟩
            rw [hfi1]
            intro J1 ρ5' H5 e5 s5 wk1
            obtain ⟨ρ5, rfl, l5⟩ := l4.go e5 s5
            refine ⟨fun j k H6 => k = xs1.length - j ∧ j ≤ xs1.length ∧ lcInv1 K ρ1 H1 D (ρ5.grip D) H5 (oneF t1 ft1 fe) xs1 (wipeE env1 vs1) (wipe σ2 vs1) st3 (ys ++ y) j H6,
              ⟨xs1.length, by simp, Nat.zero_le _, ρ5, st5, ys, y, l5, .refl _ _, ((er2.ext e4).ext e5).wipe vs1, by rw [List.drop_zero]; exact hin, rfl⟩, ?_⟩
            rintro j k H6 ⟨rfl, hj, ρ6, st6, ys6, zs6, l6, mv6, er6, hr6, hmid⟩
            by_cases hlt1 : j < xs1.length
            · refine .inr ⟨wk1.go j _ H6 hlt1 mv6, lcInv1 K ρ1 H1 D (ρ5.grip D) H5 (oneF t1 ft1 fe) xs1 (wipeE env1 vs1) (wipe σ2 vs1) st3 (ys ++ y) (j + 1), fun H' h => ⟨xs1.length - (j + 1), by omega, rfl, hlt1, h⟩, ?_⟩
              intro x1 H7 hy1
              have hd1 : xs1[j]? = some xs1[j] := List.getElem?_eq_some_iff.mpr ⟨hlt1, rfl⟩
              obtain ⟨y1, st7, zs7, g1, g2, rfl⟩ := lcItems_drop hd1 hr6
              have hl7 : (ys6 ++ y1).length ≤ seqMax := by
                have e := congrArg List.length hmid
                rw [List.length_append, List.length_append, List.length_append] at e
                rw [List.length_append, List.length_append] at hz
                rw [List.length_append]
                omega
              have z := last_turn (zs := y1) (ys := ys6) (Nx := lcInv1 K ρ1 H1 D (ρ5.grip D) H5 (oneF t1 ft1 fe) xs1 (wipeE env1 vs1) (wipe σ2 vs1) st3 (ys ++ y) (j + 1)) wk1 l6 hD mv6 er6 hd1 g1 hl7 hsl1 hy1
                (fun ρ8 H8 l8 m8 er8 => ⟨ρ8, st7, ys6 ++ y1, zs7, l8, m8, er8, g2, by rw [List.append_assoc]; exact hmid⟩)
              rw [wipe_wipe] at z
              exact z
            · have e : j = xs1.length := by omega
              subst e
              rw [List.drop_length] at hr6
              cases hr6
              refine .inl ⟨wk1.stop _ H6 mv6, ρ6, _, ys6, zs2, l6, h2, ?_⟩
              rw [← List.append_assoc, ← hmid, List.append_nil]
          · rw [if_neg Bool.false_ne_true]
            exact ⟨ρ4, _, ys, zs2, l4, h2, by simp⟩
        · have e : i = xs.length := by omega
          subst e
          rw [List.drop_length] at hr
          cases hr
          obtain ⟨s3, r3⟩ := l.done s1 hD
          exact .inl ⟨wk.stop _ H2 (l.move hD), p _ ρ2 H2 (e1.trans l.ext) s3 (by rw [List.append_nil]; exact r3)⟩
      · exact p.elim
theorem x_lc2 {vs1 : List Nat} (hc : X.calm = true) (hN : X.N.Nodup) (hi : Pi' X W tg iter fi) (ok : BlkOk X.N X.env.scope scope own) (hv : ∀ i ∈ vs1, i ∈ own.map (·.2))
    (hg : ∀ (s : Shared) (H : Hp) (C : Addr) (cl : List (Str × Addr)) (fp : List Addr), PG (X.blk s H scope (compEnvC scope cl C X.env) fp) tg (tG X.K t)) (ht : ∀ (s : Shared) (H : Hp) (C : Addr) (cl : List (Str × Addr)) (fp : List Addr), PTs (X.blk s H scope (compEnvC scope cl C X.env) fp) ifs (tB' X.K W0 ft))
    (hi1 : ∀ (s : Shared) (H : Hp) (C : Addr) (cl : List (Str × Addr)) (fp : List Addr), Pi' (X.blk s H scope (compEnvC scope cl C X.env) fp) W0 tg1 iter1 fi1)
    (hg1 : ∀ (s : Shared) (H : Hp) (C : Addr) (cl : List (Str × Addr)) (fp : List Addr), PG (X.blk s H scope (compEnvC scope cl C X.env) fp) tg1 (tG X.K t1)) (ht1 : ∀ (s : Shared) (H : Hp) (C : Addr) (cl : List (Str × Addr)) (fp : List Addr), PTs (X.blk s H scope (compEnvC scope cl C X.env) fp) ifs1 (tB' X.K W0 ft1))
    (he : ∀ (s : Shared) (H : Hp) (C : Addr) (cl : List (Str × Addr)) (fp : List Addr), Pe (X.blk s H scope (compEnvC scope cl C X.env) fp) W0 elt fe) (hs : ∀ x, foldedSetIterable iter X.env x = pure x) (hs1 : ∀ env x, foldedSetIterable iter1 env x = pure x)
    (hsl : ∀ i ∈ slots t, i ∈ own.map (·.2)) (hsl1 : ∀ i ∈ slots t1, i ∈ vs1) :
    Pe X W (.ListComp elt [⟨tg, iter, ifs, 0⟩, ⟨tg1, iter1, ifs1, 0⟩] scope pos) (lcF fi (twoF t ft fi1 vs1 (oneF t1 ft1 fe)) (own.map (·.2))) ∧
    ∀ (i : Nat) (y : Str) (py spos : Pos), X.N[i]? = some y → X.env.scope.names.lookup y = some .local → swapsWith (.ListComp elt [⟨tg, iter, ifs, 0⟩, ⟨tg1, iter1, ifs1, 0⟩] scope pos) (some (.Name y py)) spos.line X.env = pure true →
      PS X (.Assign [.Name y py] (.ListComp elt [⟨tg, iter, ifs, 0⟩, ⟨tg1, iter1, ifs1, 0⟩] scope pos) spos) (tAsg (tE X.K W (lcF fi (twoF t ft fi1 vs1 (oneF t1 ft1 fe)) (own.map (·.2)))) (gName i)) :=
  ⟨PE.mono (pe_lc2 hc hN hi ok hv hg ht hi1 hg1 ht1 he hs hs1) (lc2_read hsl hsl1), fun i y py spos hy hyl hsw => PS.mono (ps_setLc2 hc hN hy hyl hsw hi ok hv hg ht hi1 hg1 ht1 he hs hs1) fun D σ H q => lc2_read hsl hsl1 σ H _ q⟩
end
end Ev

set_option Elab.async false
set_option linter.all false
set_option maxRecDepth 100000
set_option maxHeartbeats 1000000
namespace Ev
open PySem PySem.Spec PyProof.Rows L2
variable {K : PySem.W.Frag}
/-! ### slices -/
def PostO (K : PySem.W.Frag) (E : Str → Hp → Prop) (ρ : Rho) (H : Hp) (r : R (Option Int)) (Q : Option Int → Hp → Prop) : Prop := match r with
  | .ok d st' => ∀ ρ' H', Ext ρ H ρ' H' → StR K ρ' H' st' → Q d H'
  | .exc x st' => ∀ ρ' H', Ext ρ H ρ' H' → StR K ρ' H' st' → E x H'
  | .bad => False
abbrev Fo := Env → Store → R (Option Int)
def tO (K : PySem.W.Frag) (W : XW) (f : Fo) : TO := fun σ H Q => ∃ ρ env st, EnvR K ρ H env σ ∧ StR K ρ H st ∧ PostO K (W σ) ρ H (f env st) Q
theorem PO.mono {X : Cx} {e : Option Expr} {t t' : TO} (h : PO X e t) (m : ∀ σ H Q, t' σ H Q → t σ H Q) : PO X e t' := ⟨fun pins s σ H Q I q => h.run pins s σ H Q I (m σ H Q q)⟩
section
variable {E : Str → Hp → Prop} {ρ ρ1 : Rho} {H H1 : Hp}
theorem PostO.imp {r : R (Option Int)} {Q Q' : Option Int → Hp → Prop} (p : PostO K E ρ H r Q) (h : ∀ v H, Q v H → Q' v H) : PostO K E ρ H r Q' := by
  cases r with
  | ok d st' => exact fun ρ' H' e' s => h _ _ (p ρ' H' e' s)
  | exc x st' => exact p
  | bad => exact p
theorem PostE.stepO {r : R (Option Int)} {g : Option Int → Store → R D} {Q : VK} (p : PostE K E ρ H (r.bind g) Q) :
    PostO K E ρ H r fun o H1 => ∃ ρ1 st1, Ext ρ H ρ1 H1 ∧ StR K ρ1 H1 st1 ∧ PostE K E ρ1 H1 (g o st1) Q := by
  cases r with
  | ok d st1 => exact fun ρ1 H1 e s => ⟨ρ1, st1, e, s, p.later e⟩
  | exc x st' => exact p
  | bad => exact p
end
section
variable {X : Cx} {W : XW} {a : Expr} {lo hi : Option Expr} {fa f : Fe} {fl fh : Fo} {pos p p2 q q2 : Pos}
theorem o_none : PO X none (tO X.K W fun _ st => .ok none st) := PO.mono po_none fun σ H Q ⟨ρ, env, st, er, sr, p⟩ => p ρ H (.refl _ _) sr
theorem o_some (ha : Pe X W a f) : PO X (some a) (tO X.K W fun env st => (f env st).bind fun d st1 => match d with
    | .int i => .ok (some i) st1
    | _ => .bad) :=
  PO.mono (po_some ha) fun σ H Q ⟨ρ, env, st, er, sr, p⟩ => by
    refine ⟨ρ, env, st, er, sr, ?_⟩
    dsimp only at p
    cases e : f env st with
    | ok d st1 =>
      rw [e] at p
      cases d with
      | int i => exact fun v ρ' H' e s r => ⟨i, r, p ρ' H' e s⟩
      | _ => exact p.elim
    | exc x st' => rw [e] at p; exact p
    | bad => rw [e] at p; exact p
theorem x_sl (ha : Pe X W a fa) (hl : PO X lo (tO X.K W fl)) (hh : PO X hi (tO X.K W fh)) : Pe X W (.Subscript a (.Slice lo hi none p2) pos) fun env st => (fa env st).bind fun x st1 => (fl env st1).bind fun l st2 => (fh env st2).bind fun h st3 => slop x l h st3 := by
  refine ⟨fun pins s σ H Q I ⟨ρ, env, st, er, sr, p⟩ => ?_⟩
  refine (pe_slice (sl_ok (E := W σ)) ha hl hh).run pins s σ H Q I ?_
  refine ⟨ρ, env, st, er, sr, PostE.imp (PostE.step p) fun v H1 ⟨ρ1, st1, d, e1, s1, r1, _, p1⟩ => ?_⟩
  refine ⟨ρ1, env, st1, er.ext e1, s1, PostO.imp (PostE.stepO p1) fun o H2 ⟨ρ2, st2, e2, s2, p2⟩ => ?_⟩
  refine ⟨ρ2, env, st2, (er.ext e1).ext e2, s2, PostO.imp (PostE.stepO p2) fun o2 H3 ⟨ρ3, st3, e3, s3, p3⟩ => ?_⟩
  exact ⟨ρ3, st3, d, s3, (r1.ext e2 _ _).ext e3 _ _, p3⟩
theorem x_rev {k : Nat} {p1 p3 : Pos} (ha : Pe X W a fa) : Pe X W (.Subscript a (backSl k p1 p2 p3) pos) fun env st => (fa env st).bind fun x st1 => revop x st1 :=
  PE.mono (rev_tup ha) fun σ H Q ⟨ρ, env, st, er, sr, p⟩ => ⟨ρ, env, st, er, sr, PostE.imp (PostE.step p) fun v H1 ⟨ρ1, st1, d, e1, s1, r1, _, p1⟩ => by
    have lst : ∀ l, seqL d st1 = some l → revop d st1 = .ok (.lst l.reverse) st1 → ∃ a xs, v = .ref a ∧ H1 a = some (.lst xs) ∧ ∀ p, H1 p = none → Q (.ref p) (upd H1 p (.lst xs.reverse)) := fun l hl he => by
      dsimp only at p1
      rw [he] at p1
      obtain ⟨a, vs, rfl, h2, h3⟩ := r1.seqL s1 hl
      exact ⟨a, vs, rfl, h2, fun p hp => PostE.new (d := .lst l.reverse) (st := st1) p1 s1 hp fun ex off => ⟨p, _, rfl, upd_same, off, (h3.ext ex _ _).reverse⟩⟩
    cases d with
    | tup l =>
      obtain ⟨a, vs, rfl, h2, off, h3⟩ := r1
      exact ⟨a, vs, rfl, .inr ⟨h2, fun p hp => PostE.new (d := .tup l.reverse) (st := st1) p1 s1 hp fun ex off => ⟨p, _, rfl, upd_same, off, (h3.ext ex _ _).reverse⟩⟩⟩
    | lst l =>
      obtain ⟨a, xs, h1, h2, h3⟩ := lst l rfl rfl
      exact ⟨a, xs, h1, .inl ⟨h2, h3⟩⟩
    | ref k =>
      dsimp only [revop] at p1
      split at p1
      · rename_i l hl
        obtain ⟨a, xs, h1, h2, h3⟩ := lst l hl (by unfold revop; simp only [hl])
        exact ⟨a, xs, h1, .inl ⟨h2, h3⟩⟩
      · exact p1.elim
    | _ => exact p1.elim⟩
end
/-! ### methods of lists -/
abbrev methF (m : Mth) (fa : Fe) (fl : Fl) : Fe := fun env st => (fa env st).bind fun x st1 => if liveC x st1 = true then (fl env st1).bind fun ds st2 => methop m x ds st2 else .bad
theorem live_ok {ρ : Rho} {H : Hp} {st : Store} {d : D} {v : V} (s : StR K ρ H st) (r : Rp K ρ H d v) (h : liveC d st = true) : ∃ k a vs, d = .ref k ∧ v = .ref a ∧ H a = some (.lst vs) := by
  cases d with
  | ref k =>
    unfold liveC at h
    dsimp only at h
    split at h
    · rename_i l hl
      obtain ⟨a, ha⟩ := s.back k l hl
      obtain ⟨l', vs, h1, h2, h3⟩ := s.cell k a ha
      exact ⟨k, a, vs, rfl, r.2 a ha, h2⟩
    · cases h
  | _ => cases h
theorem mth_read {W : XW} {fa : Fe} (m : Mth) {rr : V → List V → Hp → VK → Prop} {fl : Fl}
    (hop : ∀ (E : Str → Hp → Prop) (ρ : Rho) (st : Store) (k : Nat) (l : List D) (a : Addr) (vs : List V) (ds : List D) (us : List V) (H : Hp) (Q : VK), StR K ρ H st → st[k]? = some (.lst l) → ρ.cells[k]? = some (some a) → H a = some (.lst vs) → Rps K ρ H l vs → Rps K ρ H ds us → PostE K E ρ H (methop m (.ref k) ds st) Q → rr (.ref a) us H Q) :
    ∀ σ H Q, tE K W (methF m fa fl) σ H Q → tBM K "list" rr (tE K W fa) (tL K W fl) σ H Q :=
  fun σ H Q ⟨ρ, env, st, er, sr, p⟩ => ⟨ρ, env, st, er, sr, PostE.imp (PostE.step p) fun v H1 ⟨ρ1, st1, d, e1, s1, r1, _, p1⟩ => by
    dsimp only at p1
    split at p1
    · rename_i hlive
      obtain ⟨k, a, vs, rfl, rfl, ha⟩ := live_ok s1 r1 hlive
      refine ⟨.inl ⟨rfl, vs, .of ha⟩, ρ1, env, st1, er.ext e1, s1, PostL.imp (PostE.stepL p1) fun us H2 ⟨ρ2, st2, ds, e2, s2, r2, _, p2⟩ => ?_⟩
      have r1' := r1.ext e2 _ _
      cases q : st2[k]? with
      | none => unfold methop at p2; simp only [q] at p2; exact p2.elim
      | some c =>
        cases c with
        | gone => unfold methop at p2; simp only [q] at p2; exact p2.elim
        | lst l =>
          obtain ⟨a2, ha2⟩ := s2.back k l q
          obtain ⟨l', ws, h1, h2, h3⟩ := s2.cell k a2 ha2
          rw [q] at h1; cases h1
          have e : V.ref a = V.ref a2 := r1'.2 a2 ha2
          cases e
          exact hop _ ρ2 st2 k l a ws ds us H2 Q s2 q ha2 h2 h3 r2 p2
    · exact p1.elim⟩
theorem append_read {W : XW} {fa : Fe} {fl : Fl} : ∀ σ H Q, tE K W (methF .append fa fl) σ H Q → tBM K "list" rAppend (tE K W fa) (tL K W fl) σ H Q :=
  mth_read .append fun E ρ st k l a vs ds us H Q s q ha h2 h3 r2 p => by
    unfold methop at p
    simp only [q] at p
    split at p <;> rename_i hm <;> try (cases hm; done)
    · rename_i d
      split at p
      · rename_i hz
        obtain ⟨v, rfl, rv⟩ := rps1 r2
        obtain ⟨ex, s'⟩ := s.write ha (h3.append (.cons rv .nil))
        exact ⟨a, vs, v, rfl, rfl, h2, by rw [← h3.length]; exact Nat.lt_of_lt_of_le hz line_ok, p .non ρ _ ex s' rfl⟩
      · exact p.elim
    · exact p.elim
theorem extend_read {W : XW} {fa : Fe} {fl : Fl} : ∀ σ H Q, tE K W (methF .extend fa fl) σ H Q → tBM K "list" rExtend (tE K W fa) (tL K W fl) σ H Q :=
  mth_read .extend fun E ρ st k l a vs ds us H Q s q ha h2 h3 r2 p => by
    unfold methop at p
    simp only [q] at p
    split at p <;> rename_i hm <;> try (cases hm; done)
    · rename_i m
      split at p
      · rename_i hz
        obtain ⟨v, rfl, b, zs, rfl, hb, off, rz⟩ := rps1 r2
        obtain ⟨ex, s'⟩ := s.write ha (h3.append rz)
        exact ⟨a, b, vs, zs, rfl, rfl, h2, hb, by rw [← h3.length, ← rz.length]; exact Nat.le_trans hz line_ok, p .non ρ _ ex s' rfl⟩
      · exact p.elim
    · exact p.elim
theorem pop_read {W : XW} {fa : Fe} : ∀ σ H Q, tE K W (methF .pop fa fun _ st => .ok [] st) σ H Q → tBM0 K "list" rPop (tE K W fa) σ H Q := by
  intro σ H Q h
  have := mth_read (K := K) (W := W) (fa := fa) (rr := rPop) (fl := fun _ st => .ok [] st) .pop (fun E ρ st k l a vs ds us H Q s q ha h2 h3 r2 p => by
    unfold methop at p
    simp only [q] at p
    split at p <;> rename_i hm <;> try (cases hm; done)
    · split at p
      · rename_i d hd
        cases (show us = [] from r2)
        obtain ⟨y, hy, ry⟩ := h3.get hd
        have rd : Rps K ρ H l.dropLast vs.dropLast := by
          rw [List.dropLast_eq_take, List.dropLast_eq_take, ← h3.length]
          exact h3.take _
        obtain ⟨ex, s'⟩ := s.write ha rd
        exact ⟨a, vs, y, rfl, rfl, h2, by rw [← h3.length]; exact hy, p y ρ _ ex s' (ry.ext ex _ _)⟩
      · exact p.elim
    · exact p.elim) σ H Q h
  obtain ⟨ρ, env, st, er, sr, p⟩ := this
  refine ⟨ρ, env, st, er, sr, PostE.imp p fun v H1 ⟨ty, ρ1, env1, st1, er1, sr1, p1⟩ => ⟨ty, ?_⟩⟩
  exact p1 [] ρ1 H1 (.refl _ _) sr1 rfl
section
variable {X : Cx} {W : XW} {a e : Expr} {fa : Fe} {fl : Fl} {apos cpos : Pos}
theorem x_append (ha : Pe X W a fa) (hl : Pl X W [e] fl) (hb : attributeBase a "append" X.env (eval a X.env) = eval a X.env) (hfew : ((backTo cpos (starEach [e] X.env)).all (fun x => !x.1) && (backToKw cpos (keywordEach [] X.env)).all (fun x => x.1.isSome)
      && decide (([e] : List Expr).length + ([] : List Keyword).length + (if ([] : List Keyword).isEmpty then 0 else 1) < 30)) = true) (hline : (apos.endLine == cpos.line) = true) (hs : starEach [e] X.env = (false, eval e X.env) :: starEach [] X.env) (hp : (backTo cpos (starEach [] X.env)).any (·.1) = false) :
    Pe X W (.Call (.Attribute a "append" apos) [e] [] cpos) (methF .append fa fl) := PE.mono (pe_bm PySem.F.plainAttrs_list PySem.F.slot_list_append PySem.F.type_list_append mt_append ha hl hb hfew hline hs hp) append_read
theorem x_extend (ha : Pe X W a fa) (hl : Pl X W [e] fl) (hb : attributeBase a "extend" X.env (eval a X.env) = eval a X.env) (hfew : ((backTo cpos (starEach [e] X.env)).all (fun x => !x.1) && (backToKw cpos (keywordEach [] X.env)).all (fun x => x.1.isSome)
      && decide (([e] : List Expr).length + ([] : List Keyword).length + (if ([] : List Keyword).isEmpty then 0 else 1) < 30)) = true) (hline : (apos.endLine == cpos.line) = true) (hs : starEach [e] X.env = (false, eval e X.env) :: starEach [] X.env) (hp : (backTo cpos (starEach [] X.env)).any (·.1) = false) :
    Pe X W (.Call (.Attribute a "extend" apos) [e] [] cpos) (methF .extend fa fl) := PE.mono (pe_bm PySem.F.plainAttrs_list PySem.F.slot_list_extend PySem.F.type_list_extend mt_extend ha hl hb hfew hline hs hp) extend_read
theorem x_pop (ha : Pe X W a fa) (hb : attributeBase a "pop" X.env (eval a X.env) = eval a X.env) (hline : (apos.endLine == cpos.line) = true) :
    Pe X W (.Call (.Attribute a "pop" apos) [] [] cpos) (methF .pop fa fun _ st => .ok [] st) := PE.mono (pe_bm0 PySem.F.plainAttrs_list PySem.F.slot_list_pop PySem.F.type_list_pop mt_pop ha hb hline) pop_read
end
/-! ### sorted(set(..)) -/
section
variable {X : Cx} {W : XW} {a : Expr} {pos p q q2 : Pos}
theorem x_ss {fl : Fl} {x y : Str} (hc : X.calm = true) (hg : Gl X x) (hm : X.mg x = none) (hv : bootBuiltins x = some (.builtin "sorted")) (hn : x ≠ "__name__") (hd : (x == ("__debug__" : Str)) = false)
    (hg2 : Gl X y) (hm2 : X.mg y = none) (hv2 : bootBuiltins y = some (.type "set")) (hn2 : y ≠ "__name__") (hd2 : (y == ("__debug__" : Str)) = false)
    (hl : Pl X W [a] fl) (hs : starEach [a] X.env = (false, eval a X.env) :: starEach [] X.env) (hpl : (backTo q2 (starEach [] X.env)).any (·.1) = false)
    (hs1 : starEach [.Call (.Name y q) [a] [] q2] X.env = (false, eval (.Call (.Name y q) [a] [] q2) X.env) :: starEach [] X.env) (hpl1 : (backTo pos (starEach [] X.env)).any (·.1) = false) :
    Pe X W (.Call (.Name x p) [.Call (.Name y q) [a] [] q2] [] pos) fun env st => (fl env st).bind fun ds st1 => bltop .sortedSet ds st1 := by
  have h1 := pe_callTy (cr_setL hc) hg2 hm2 hv2 hl hn2 hd2 hs hpl (p := q)
  refine PE.mono (pe_callB (cr_sortedSet hc) hg hm hv (pa_cons h1 pa_nil hs1) hn hd hs1 hpl1) fun σ H Q ⟨ρ, env, st, er, sr, p⟩ => ⟨ρ, env, st, er, sr, PostL.imp (PostE.stepL p) fun vs H1 ⟨ρ1, st1, ds, e1, s1, r1, _, p1⟩ => ?_⟩
  dsimp only at p1
  cases ds with
  | nil => exact p1.elim
  | cons d r =>
  cases r with
  | cons e r => exact p1.elim
  | nil =>
  change PostE X.K (W σ) ρ1 H1 (match seqLT d st1 with
    | some l => match intsOf l with
      | some ns => if ns.length < 1000 ∧ (sortSet ns).length < 64 then .ok (.lst ((sortSet ns).map D.int)) st1 else .bad
      | none => .bad
    | none => .bad) Q at p1
  obtain ⟨v, rfl, rv⟩ := rps1 r1
  cases h2 : seqLT d st1 with
  | none => rw [h2] at p1; exact p1.elim
  | some l =>
    rw [h2] at p1
    obtain ⟨b, ws, rfl, h3, h4⟩ := rv.seqLT s1 h2
    cases h5 : intsOf l with
    | none => simp only [h5] at p1; exact p1.elim
    | some ns =>
      simp only [h5] at p1
      have := intsOf_ok h4 h5
      subst this
      split at p1
      · rename_i hz
        refine ⟨b, ns, rfl, h3, hz.1, fun p c hp hcn => ?_⟩
        refine ⟨p, fun j => decide (j ∈ ns), c, rfl, upd_same, by omega, fun ms p' hms hmem _ hp' => ?_⟩
        have e : ms = sortSet ns := lt_unique hms (sortSet_lt ns) fun k => by rw [hmem k, sortSet_mem]; simp
        subst e
        obtain ⟨ex1, s2, _⟩ := s1.laid (o := SetO X.w p (fun j => decide (j ∈ ns)) c) hp
        exact PostE.new (d := .lst ((sortSet ns).map D.int)) (st := st1) (PostE.later p1 ex1) s2 hp' fun ex off => ⟨p', _, rfl, upd_same, off, Rps.ints _⟩
      · exact p1.elim
end
end Ev

set_option Elab.async false
set_option linter.all false
set_option maxRecDepth 100000
set_option maxHeartbeats 1000000
namespace Ev
open PySem PySem.Spec PyProof.Rows L2
variable {K : PySem.W.Frag}
def PostS (K : PySem.W.Frag) (W : XW) (D : Ends) (ρ : Rho) (H : Hp) (r : R F) : Prop := match r with
  | .ok f st' => match f with
    | .next env' => ∀ σ' ρ' H', Ext ρ H ρ' H' → StR K ρ' H' st' → EnvR K ρ' H' env' σ' → D.nx σ' H'
    | .brk env' => ∀ σ' ρ' H', Ext ρ H ρ' H' → StR K ρ' H' st' → EnvR K ρ' H' env' σ' → D.bk σ' H'
    | .cont env' => ∀ σ' ρ' H', Ext ρ H ρ' H' → StR K ρ' H' st' → EnvR K ρ' H' env' σ' → D.ct σ' H'
    | .ret d => ∀ v ρ' H', Ext ρ H ρ' H' → StR K ρ' H' st' → Rp K ρ' H' d v → D.rt v H'
  | .exc x st' => ∀ σ' ρ' H', Ext ρ H ρ' H' → StR K ρ' H' st' → W σ' x H'
  | .bad => False
abbrev Fs := Env → Store → R F
def tS (K : PySem.W.Frag) (W : XW) (f : Fs) : TS := fun D σ H => ∃ ρ env st, EnvR K ρ H env σ ∧ StR K ρ H st ∧ PostS K W D ρ H (f env st)
abbrev Ps (X : Cx) (W : XW) (s : Stmt) (f : Fs) : Prop := PS X s (tS X.K W f)
abbrev Pss (X : Cx) (W : XW) (s : List Stmt) (f : Fs) : Prop := PSs X s (tS X.K W f)
section
variable {W : XW} {D : Ends} {ρ ρ1 : Rho} {H H1 : Hp} {σ : L2.St}
theorem PostS.later {r : R F} (p : PostS K W D ρ H r) (e : Ext ρ H ρ1 H1) : PostS K W D ρ1 H1 r := by
  cases r with
  | ok f st' =>
    cases f with
    | next env' => exact fun σ' ρ' H' e' s r => p σ' ρ' H' (e.trans e') s r
    | brk env' => exact fun σ' ρ' H' e' s r => p σ' ρ' H' (e.trans e') s r
    | cont env' => exact fun σ' ρ' H' e' s r => p σ' ρ' H' (e.trans e') s r
    | ret d => exact fun v ρ' H' e' s r => p v ρ' H' (e.trans e') s r
  | exc x st' => exact fun σ' ρ' H' e' s => p σ' ρ' H' (e.trans e') s
  | bad => exact p
theorem PostS.step (σ : L2.St) {r : R Ev.D} {g : Ev.D → Store → R F} (p : PostS K W D ρ H (r.bind g)) : PostE K (W σ) ρ H r (Mid K ρ H r fun ρ1 H1 d st1 => PostS K W D ρ1 H1 (g d st1)) := by
  cases r with
  | ok d st1 => exact fun v ρ1 H1 e s r => ⟨ρ1, st1, d, e, s, r, rfl, PostS.later p e⟩
  | exc x st' => exact fun ρ' H' e s => p σ ρ' H' e s
  | bad => exact p
theorem PostS.stepL (σ : L2.St) {r : R (List Ev.D)} {g : List Ev.D → Store → R F} (p : PostS K W D ρ H (r.bind g)) : PostL K (W σ) ρ H r (MidL K ρ H r fun ρ1 H1 d st1 => PostS K W D ρ1 H1 (g d st1)) := by
  cases r with
  | ok d st1 => exact fun v ρ1 H1 e s r => ⟨ρ1, st1, d, e, s, r, rfl, PostS.later p e⟩
  | exc x st' => exact fun ρ' H' e s => p σ ρ' H' e s
  | bad => exact p
theorem PostS.stepI (σ : L2.St) {r : R (List Ev.D)} {g : List Ev.D → Store → R F} (p : PostS K W D ρ H (r.bind g)) :
    PostI K (W σ) ρ H r fun J H1 => ∃ ρ1 st1 xs, Ext ρ H ρ1 H1 ∧ StR K ρ1 H1 st1 ∧ Wk K J ρ1 H1 xs ∧ r = .ok xs st1 ∧ PostS K W D ρ1 H1 (g xs st1) := by
  cases r with
  | ok d st1 => exact fun v ρ1 H1 e s r => ⟨ρ1, st1, d, e, s, r, rfl, PostS.later p e⟩
  | exc x st' => exact fun ρ' H' e s => p σ ρ' H' e s
  | bad => exact p
theorem PostS.test (σ : L2.St) {r : R Ev.D} {g : Bool → Ev.D → Store → R F} (p : PostS K W D ρ H (r.bind fun d st1 => match truth d st1 with
    | some b => g b d st1
    | none => .bad)) : PostT K (W σ) ρ H r fun b H1 => ∃ ρ1 st1 d, Ext ρ H ρ1 H1 ∧ StR K ρ1 H1 st1 ∧ r = .ok d st1 ∧ truth d st1 = some b ∧ PostS K W D ρ1 H1 (g b d st1) := by
  cases r with
  | ok d st1 =>
    change PostS K W D ρ H (match truth d st1 with
    | some b => g b d st1
    | none => .bad) at p
    cases h : truth d st1 with
    | none => rw [h] at p; exact p.elim
    | some b => rw [h] at p; exact ⟨b, h, fun ρ1 H1 e s => ⟨ρ1, st1, d, e, s, rfl, h, PostS.later p e⟩⟩
  | exc x st' => exact fun ρ' H' e s => p σ ρ' H' e s
  | bad => exact p
end
section
variable {X : Cx} {W : XW} {a o i e c : Expr} {fe fo fi fc f : Fe} {fa fb : Fs} {s : Stmt} {pos p : Pos} {A B rest : List Stmt}
theorem s_never {f : Fs} (h : ∀ env st, f env st = .bad) : Ps X W s f := ⟨fun pins s σ H D I ⟨ρ, env, st, er, sr, p⟩ => by rw [h] at p; exact p.elim⟩
theorem ss_never {f : Fs} (h : ∀ env st, f env st = .bad) : Pss X W A f := ⟨fun pins s σ H D I ⟨ρ, env, st, er, sr, p⟩ => by rw [h] at p; exact p.elim⟩
theorem s_pass : Ps X W (.Pass pos) fun env st => .ok (.next env) st := PS.mono ps_pass fun D σ H ⟨ρ, env, st, er, sr, p⟩ => p σ ρ H (.refl _ _) sr er
theorem s_brk : Ps X W (.Break pos) fun env st => .ok (.brk env) st := PS.mono ps_break fun D σ H ⟨ρ, env, st, er, sr, p⟩ => p σ ρ H (.refl _ _) sr er
theorem s_cont : Ps X W (.Continue pos) fun env st => .ok (.cont env) st := PS.mono ps_continue fun D σ H ⟨ρ, env, st, er, sr, p⟩ => p σ ρ H (.refl _ _) sr er
abbrev setF (t : T) (fe : Fe) : Fs := fun env st => (fe env st).bind fun d st1 => match bindT t d env with
  | some env1 => .ok (.next env1) st1
  | none => .bad
theorem set_read {j : Nat} : ∀ D σ H, tS K W (setF (.name j) fe) D σ H → tAsg (tE K W fe) (gName j) D σ H :=
  fun D σ H ⟨ρ, env, st, er, sr, p⟩ => ⟨ρ, env, st, er, sr, PostE.imp (PostS.step σ p) fun v H1 ⟨ρ1, st1, d, e1, s1, r1, _, p1⟩ => by
    unfold bindT at p1
    split at p1
    · rename_i env1 hb
      split at hb
      · cases hb
        exact p1 _ ρ1 H1 (.refl _ _) s1 ((er.ext e1).set r1)
      · cases hb
    · exact p1.elim⟩
theorem asg_read {t : T} : ∀ D σ H, tS K W (setF t fe) D σ H → tAsg (tE K W fe) (tG K t) D σ H :=
  fun D σ H ⟨ρ, env, st, er, sr, p⟩ => ⟨ρ, env, st, er, sr, PostE.imp (PostS.step σ p) fun v H1 ⟨ρ1, st1, d, e1, s1, r1, _, p1⟩ => by
    dsimp only at p1
    split at p1
    · rename_i env1 hb
      exact ⟨ρ1, d, env, st1, env1, er.ext e1, s1, r1, hb, fun σ' er' _ => p1 σ' ρ1 H1 (.refl _ _) s1 er'⟩
    · exact p1.elim⟩
theorem s_set {j : Nat} {x : Str} {pos' : Pos} (hN : X.N.Nodup) (hi : X.N[j]? = some x) (hx : Loc X.env.scope x) (he : Pe X W e fe) (hs : swapsWith e (some (.Name x pos')) pos.line X.env = pure false) (hf : X.fn x = true ∨ X.env.scope.names.lookup x = some .local) :
    Ps X W (.Assign [.Name x pos'] e pos) (setF (.name j) fe) := PS.mono (ps_set hN hi hx he hs hf) set_read
theorem s_asg {tg : Expr} {t : T} (he : Pe X W e fe) (hg : PG X tg (tG X.K t)) (hs : swapsWithSole [tg] e pos.line X.env = pure false) (hw : swappedStores [tg] e X.env = pure none) (h1 : (assignEach [tg] X.env).map (·.2) = [assign tg X.env]) :
    Ps X W (.Assign [tg] e pos) (setF t fe) := PS.mono (ps_asg he hg hs hw h1) asg_read
/-- a, b = x, y -/
theorem s_par {j k : Nat} {x y : Str} {a b : Expr} {fl : Fl} {px py pt : Pos} {kt k2 : Nat} {pt2 : Pos} (hc : X.calm = true) (hN : X.N.Nodup) (hi : X.N[j]? = some x) (hj : X.N[k]? = some y) (hij : j ≠ k)
    (hx : X.env.scope.names.lookup x = some .local) (hy : X.env.scope.names.lookup y = some .local) (ha : Pl X W [a, b] fl)
    (hw : swappedStores [.Tuple [.Name x px, .Name y py] kt pt] (.Tuple [a, b] k2 pt2) X.env = pure (some [x, y]))
    (hs : swapsWithSole [.Tuple [.Name x px, .Name y py] kt pt] (.Tuple [a, b] k2 pt2) pos.line X.env = pure false) :
    Ps X W (.Assign [.Tuple [.Name x px, .Name y py] kt pt] (.Tuple [a, b] k2 pt2) pos) (setF (.tup [.name j, .name k]) fun env st => (fl env st).bind fun ds st1 => .ok (.tup ds) st1) :=
  PS.mono (ps_par hc hN hi hj hij hx hy ha hw hs) fun D σ H ⟨ρ, env, st, er, sr, p⟩ => by
    refine ⟨ρ, env, st, er, sr, ?_⟩
    have p : PostS X.K W D ρ H ((fl env st).bind fun ds st1 => match bindT (.tup [.name j, .name k]) (.tup ds) env with
      | some env1 => .ok (.next env1) st1
      | none => .bad) := by
      cases q : fl env st <;> (have p := p; unfold setF at p; dsimp only at p; rw [q] at p; exact p)
    refine PostL.imp (PostS.stepL σ p) fun vs H1 ⟨ρ1, st1, ds, e1, s1, r1, _, p1⟩ => ?_
    dsimp only at p1
    split at p1
    · rename_i env1 hb
      unfold bindT at hb
      have hl := bindTs_len hb
      match ds, hl with
      | [d1, d2], _ =>
        obtain ⟨v1, v2, rfl, q1, q2⟩ := rps2 r1
        refine ⟨v1, v2, rfl, ?_⟩
        unfold bindTs bindT bindTs bindT bindTs at hb
        split at hb
        · rename_i env2 hb2
          split at hb2
          · cases hb2
            split at hb
            · rename_i env3 hb3
              split at hb3
              · cases hb3; cases hb
                exact p1 _ ρ1 H1 (.refl _ _) s1 (((er.ext e1).set q1).set q2)
              · cases hb3
            · cases hb
          · cases hb2
        · cases hb
    · exact p1.elim
theorem s_par3 {j k l : Nat} {x y z : Str} {a b c : Expr} {fl : Fl} {px py pz pt : Pos} {kt k2 : Nat} {pt2 : Pos} (hc : X.calm = true) (hN : X.N.Nodup) (hi : X.N[j]? = some x) (hj : X.N[k]? = some y) (hl : X.N[l]? = some z) (hij : j ≠ k) (hil : j ≠ l) (hjl : k ≠ l)
    (hx : X.env.scope.names.lookup x = some .local) (hy : X.env.scope.names.lookup y = some .local) (hz : X.env.scope.names.lookup z = some .local) (ha : Pl X W [a, b, c] fl)
    (hw : swappedStores [.Tuple [.Name x px, .Name y py, .Name z pz] kt pt] (.Tuple [a, b, c] k2 pt2) X.env = pure (some [x, y, z]))
    (hs : swapsWithSole [.Tuple [.Name x px, .Name y py, .Name z pz] kt pt] (.Tuple [a, b, c] k2 pt2) pos.line X.env = pure false) :
    Ps X W (.Assign [.Tuple [.Name x px, .Name y py, .Name z pz] kt pt] (.Tuple [a, b, c] k2 pt2) pos) (setF (.tup [.name j, .name k, .name l]) fun env st => (fl env st).bind fun ds st1 => .ok (.tup ds) st1) :=
  PS.mono (ps_par3 hc hN hi hj hl hij hil hjl hx hy hz ha hw hs) fun D σ H ⟨ρ, env, st, er, sr, p⟩ => by
    refine ⟨ρ, env, st, er, sr, ?_⟩
    have p : PostS X.K W D ρ H ((fl env st).bind fun ds st1 => match bindT (.tup [.name j, .name k, .name l]) (.tup ds) env with
      | some env1 => .ok (.next env1) st1
      | none => .bad) := by
      cases q : fl env st <;> (have p := p; unfold setF at p; dsimp only at p; rw [q] at p; exact p)
    refine PostL.imp (PostS.stepL σ p) fun vs H1 ⟨ρ1, st1, ds, e1, s1, r1, _, p1⟩ => ?_
    dsimp only at p1
    split at p1
    · rename_i env1 hb
      unfold bindT at hb
      have hl := bindTs_len hb
      match ds, hl with
      | [d1, d2, d3], _ =>
        obtain ⟨v1, rr, rfl, q1, r2⟩ := r1
        obtain ⟨v2, v3, rfl, q2, q3⟩ := rps2 r2
        refine ⟨v1, v2, v3, rfl, ?_⟩
        unfold bindTs bindT bindTs bindT bindTs bindT bindTs at hb
        split at hb
        · rename_i env2 hb2
          split at hb2
          · cases hb2
            split at hb
            · rename_i env3 hb3
              split at hb3
              · cases hb3
                split at hb
                · rename_i env4 hb4
                  split at hb4
                  · cases hb4; cases hb
                    exact p1 _ ρ1 H1 (.refl _ _) s1 ((((er.ext e1).set q1).set q2).set q3)
                  · cases hb4
                · cases hb
              · cases hb3
            · cases hb
          · cases hb2
        · cases hb
    · exact p1.elim
theorem subop_some {x y d : D} {st st4 : Store} (h : subop x y d st = some st4) : ∃ k n l j, x = .ref k ∧ y = .int n ∧ st[k]? = some (.lst l) ∧ ixN l.length n = some j ∧ st4 = setCell st k (l.set j d) := by
  cases x with
  | ref k =>
    cases y with
    | int n =>
      unfold subop at h
      dsimp only at h
      cases q : st[k]? with
      | none => rw [q] at h; cases h
      | some c =>
        cases c with
        | gone => rw [q] at h; cases h
        | lst l =>
          rw [q] at h
          dsimp only at h
          cases q2 : ixN l.length n with
          | none => rw [q2] at h; cases h
          | some j =>
            rw [q2] at h; cases h
            exact ⟨k, n, l, j, rfl, rfl, q, q2, rfl⟩
    | _ => cases h
  | _ => cases h
/-- o[i] = e -/
abbrev subF (fe fo fi : Fe) : Fs := fun env st => (fe env st).bind fun d st1 => (fo env st1).bind fun x st2 => (fi env st2).bind fun y st3 => match subop x y d st3 with
  | some st4 => .ok (.next env) st4
  | none => .bad
theorem s_sub (he : Pe X W e fe) (ho : Pe X W o fo) (hi : Pe X W i fi) (hs : swapsWithSole [.Subscript o i p] e pos.line X.env = pure false) (hw : swappedStores [.Subscript o i p] e X.env = pure none) (h1 : (assignEach [.Subscript o i p] X.env).map (·.2) = [assign (.Subscript o i p) X.env])
    (ha : ∀ v, assign (.Subscript o i p) X.env v = (do
      let ov ← holding [v] (eval o X.env)
      let iv ← holding [v, ov] (eval i X.env)
      standAt p
      holding [v, ov, iv] (setItem ov iv v)
      release [v, ov, iv] [])) : Ps X W (.Assign [.Subscript o i p] e pos) (subF fe fo fi) :=
  PS.mono (ps_asg he (pg_sub ho hi set_list ha) hs hw h1) fun D σ H ⟨ρ, env, st, er, sr, p⟩ => ⟨ρ, env, st, er, sr, PostE.imp (PostS.step σ p) fun v H1 ⟨ρ1, st1, d, e1, s1, r1, _, p1⟩ =>
    ⟨ρ1, env, st1, er.ext e1, s1, PostE.imp (PostS.step σ p1) fun w H2 ⟨ρ2, st2, d2, e2, s2, r2, _, p2⟩ =>
      ⟨ρ2, env, st2, (er.ext e1).ext e2, s2, PostE.imp (PostS.step σ p2) fun u H3 ⟨ρ3, st3, d3, e3, s3, r3, _, p3⟩ => by
        dsimp only at p3
        split at p3
        · rename_i st4 hsub
          obtain ⟨k, n, l, j, rfl, rfl, hl, hj, rfl⟩ := subop_some hsub
          obtain ⟨a, ha⟩ := s3.back k l hl
          obtain ⟨l', vs, h4, h5, h6⟩ := s3.cell k a ha
          rw [hl] at h4; cases h4
          have hw : w = .ref a := (r2.ext e3 _ _).2 a ha
          subst hw
          have rv := (r1.ext e2 _ _).ext e3 _ _
          obtain ⟨ex, s4⟩ := s3.write ha (h6.set rv j)
          exact ⟨a, vs, n, j, rfl, r3, h5, by rw [← h6.length]; exact hj, p3 σ ρ3 _ ex s4 ((((er.ext e1).ext e2).ext e3).ext ex)⟩
        · exact p3.elim⟩⟩⟩
theorem s_ex (he : Pe X W e fe) (hs : swapsWith e none pos.line X.env = pure false) : Ps X W (.Expr e pos) fun env st => (fe env st).bind fun _ st1 => .ok (.next env) st1 :=
  PS.mono (ps_expr he hs) fun D σ H ⟨ρ, env, st, er, sr, p⟩ => ⟨ρ, env, st, er, sr, PostE.imp (PostS.step σ p) fun v H1 ⟨ρ1, st1, d, e1, s1, r1, _, p1⟩ => p1 σ ρ1 H1 (.refl _ _) s1 (er.ext e1)⟩
theorem s_ret (he : Pe X W e fe) : Ps X W (.Return (some e) pos) fun env st => (fe env st).bind fun d st1 => .ok (.ret d) st1 :=
  PS.mono (ps_ret he) fun D σ H ⟨ρ, env, st, er, sr, p⟩ => ⟨ρ, env, st, er, sr, PostE.imp (PostS.step σ p) fun v H1 ⟨ρ1, st1, d, e1, s1, r1, _, p1⟩ => p1 v ρ1 H1 (.refl _ _) s1 r1⟩
theorem s_retN : Ps X W (.Return none pos) fun env st => .ok (.ret .non) st := PS.mono ps_retN fun D σ H ⟨ρ, env, st, er, sr, p⟩ => p .non ρ H (.refl _ _) sr rfl
theorem s_if (hc : Pt X W c fc) (ha : Pss X W A fa) (hb : Pss X W B fb) : Ps X W (.If c A B pos) fun env st => (fc env st).bind fun x st1 => match truth x st1 with
    | some k => if k = true then fa env st1 else fb env st1
    | none => .bad :=
  PS.mono (ps_if hc ha hb) fun D σ H ⟨ρ, env, st, er, sr, p⟩ => ⟨ρ, env, st, er, sr, PostT.imp (PostS.test σ (g := fun k _ st1 => if k = true then fa env st1 else fb env st1) p) fun k H1 ⟨ρ1, st1, d, e1, s1, _, _, p1⟩ => by
    cases k with
    | true => exact ⟨ρ1, env, st1, er.ext e1, s1, p1⟩
    | false => exact ⟨ρ1, env, st1, er.ext e1, s1, p1⟩⟩
theorem ss_nil : Pss X W [] fun env st => .ok (.next env) st := PSs.mono pss_nil fun D σ H ⟨ρ, env, st, er, sr, p⟩ => p σ ρ H (.refl _ _) sr er
abbrev seqF (f1 f2 : Fs) : Fs := fun env st => (f1 env st).bind fun f st1 => match f with
  | .next env1 => f2 env1 st1
  | _ => .ok f st1
theorem ss_cons {f1 f2 : Fs} (h1 : Ps X W s f1) (h2 : Pss X W rest f2) : Pss X W (s :: rest) (seqF f1 f2) :=
  PSs.mono (pss_cons h1 h2) fun D σ H ⟨ρ, env, st, er, sr, p⟩ => by
    refine ⟨ρ, env, st, er, sr, ?_⟩
    unfold seqF at p
    cases q : f1 env st with
    | ok f st1 =>
      rw [q] at p
      cases f with
      | next env1 => exact fun σ' ρ' H' e s r => ⟨ρ', env1, st1, r, s, PostS.later p e⟩
      | brk env1 => exact p
      | cont env1 => exact p
      | ret d => exact p
    | exc x st' => rw [q] at p; exact p
    | bad => rw [q] at p; exact p
/-! ### loops -/
theorem s_for {tg it : Expr} {fi : Fl} {t : T} {fb : Fs} (hp : PassesOwn (model X.prog X.w) X.A X.env X.xe) (hc : X.calm = true) (hi : Pi' X W tg it fi) (hg : PG X tg (tG X.K t)) (hb : Pss X W A fb) (hs : ∀ x, foldedSetIterable it X.env x = pure x) :
    Ps X W (.For tg it A [] pos) fun env st => (fi env st).bind fun xs st1 => forGo fb t xs env st1 :=
  PS.mono (ps_for hp hc hi hg hb hs) fun D σ H ⟨ρ, env, st, er, sr, p⟩ => by
    refine ⟨ρ, env, st, er, sr, PostI.imp (PostS.stepI σ p) fun J H1 ⟨ρ1, st1, xs, e1, s1, wk, _, p1⟩ => ?_⟩
    refine for_it wk.walk (fun i σ2 H2 => ∃ ρ2 env2 st2, Ext ρ1 H1 ρ2 H2 ∧ StR X.K ρ2 H2 st2 ∧ EnvR X.K ρ2 H2 env2 σ2 ∧ PostS X.K W D ρ2 H2 (forGo fb t (xs.drop i) env2 st2))
      ⟨ρ1, env, st1, .refl _ _, s1, er.ext e1, by rw [List.drop_zero]; exact p1⟩ ?_ ?_ ?_
    · rintro i σ2 H2 _ ⟨ρ2, env2, st2, e2, _⟩
      exact ⟨ρ2, e2.move⟩
    · rintro i x σ2 H2 H3 hlt ⟨ρ2, env2, st2, e2, s2, er2, p2⟩ hy
      obtain ⟨ex, s3, rx⟩ := wk.yld i _ ρ2 H2 st2 x H3 (List.getElem?_eq_some_iff.mpr ⟨hlt, rfl⟩) e2.move s2 hy
      rw [List.drop_eq_getElem_cons hlt] at p2
      unfold forGo at p2
      split at p2
      · exact p2.elim
      · rename_i env3 hb3
        refine ⟨ρ2, _, env2, st2, env3, er2.ext ex, s3, rx, hb3, fun σ3 er3 _ => ⟨ρ2, env3, st2, er3, s3, ?_⟩⟩
        have p2 := p2.later ex
        cases q : fb env3 st2 with
        | ok f st3 =>
          rw [q] at p2
          cases f with
          | next env4 => exact fun σ' ρ' H' e s r => ⟨ρ', env4, st3, (e2.trans ex).trans e, s, r, PostS.later p2 e⟩
          | cont env4 => exact fun σ' ρ' H' e s r => ⟨ρ', env4, st3, (e2.trans ex).trans e, s, r, PostS.later p2 e⟩
          | brk env4 => exact p2
          | ret d => exact p2
        | exc x st' => rw [q] at p2; exact p2
        | bad => rw [q] at p2; exact p2
    · rintro σ2 H2 ⟨ρ2, env2, st2, e2, s2, er2, p2⟩
      rw [List.drop_length] at p2
      exact p2 σ2 ρ2 H2 (.refl _ _) s2 er2
theorem s_while {n : Nat} {fb : Fs} (hp : PassesOwn (model X.prog X.w) X.A X.env X.xe) (hc : Pt X W c fc) (hb : Pss X W A fb) : Ps X W (.While c A [] pos) fun env st => whileGo fc fb n env st :=
  PS.mono (ps_while hp hc hb) fun D σ H ⟨ρ, env, st, er, sr, p⟩ => by
    refine ⟨fun m σ2 H2 => ∃ ρ2 env2 st2, StR X.K ρ2 H2 st2 ∧ EnvR X.K ρ2 H2 env2 σ2 ∧ PostS X.K W D ρ2 H2 (whileGo fc fb m env2 st2), ⟨n, ρ, env, st, sr, er, p⟩, ?_⟩
    rintro m σ2 H2 ⟨ρ2, env2, st2, s2, er2, p2⟩
    cases m with
    | zero => exact p2.elim
    | succ m =>
      unfold whileGo at p2
      have p2 : PostS X.K W D ρ2 H2 ((fc env2 st2).bind fun d st1 => match truth d st1 with
        | some b => if b = true then (fb env2 st1).bind fun f st2 => (match f with
            | .next env2 => whileGo fc fb m env2 st2
            | .cont env2 => whileGo fc fb m env2 st2
            | .brk env2 => .ok (.next env2) st2
            | .ret d => .ok (.ret d) st2) else .ok (.next env2) st1
        | none => .bad) := by
        cases q : fc env2 st2 with
        | ok d st1 =>
          rw [q] at p2
          have p2 : PostS X.K W D ρ2 H2 (match truth d st1 with
            | none => .bad
            | some b => _) := p2
          show PostS X.K W D ρ2 H2 (match truth d st1 with
            | some b => _
            | none => .bad)
          cases q2 : truth d st1 with
          | none => rw [q2] at p2; exact p2
          | some b => rw [q2] at p2; exact p2
        | exc x st' => rw [q] at p2; exact p2
        | bad => rw [q] at p2; exact p2
      refine ⟨ρ2, env2, st2, er2, s2, PostT.imp (PostS.test σ2 (g := fun b _ st1 => if b = true then (fb env2 st1).bind fun f st2 => (match f with
            | .next env2 => whileGo fc fb m env2 st2
            | .cont env2 => whileGo fc fb m env2 st2
            | .brk env2 => .ok (.next env2) st2
            | .ret d => .ok (.ret d) st2) else .ok (.next env2) st1) p2) fun k H3 ⟨ρ3, st3, d, e3, s3, _, _, p3⟩ => ?_⟩
      cases k with
      | false =>
        rw [if_neg Bool.false_ne_true] at p3 ⊢
        exact p3 σ2 ρ3 H3 (.refl _ _) s3 (er2.ext e3)
      | true =>
        rw [if_pos rfl] at p3 ⊢
        refine ⟨fun σ' H' => ∃ ρ2 env2 st2, StR X.K ρ2 H' st2 ∧ EnvR X.K ρ2 H' env2 σ' ∧ PostS X.K W D ρ2 H' (whileGo fc fb m env2 st2), fun σ' H' h => ⟨m, Nat.lt_succ_self m, h⟩, ρ3, env2, st3, er2.ext e3, s3, ?_⟩
        cases q : fb env2 st3 with
        | ok f st4 =>
          rw [q] at p3
          cases f with
          | next env4 => exact fun σ' ρ' H' e s r => ⟨ρ', env4, st4, s, r, PostS.later p3 e⟩
          | cont env4 => exact fun σ' ρ' H' e s r => ⟨ρ', env4, st4, s, r, PostS.later p3 e⟩
          | brk env4 => exact p3
          | ret d => exact p3
        | exc x st' => rw [q] at p3; exact p3
        | bad => rw [q] at p3; exact p3
/-- raise X('..') -/
theorem s_raise {x m : Str} {j : Nat} {q p2 : Pos} {B newId initId : String} {bmB : List Value} {C : Addr} (hc : X.calm = true) (tk : Takes X (wxOf X.mg W)) (Fx : ExcBaseFacts B newId initId bmB) (hq : PySem.W.excIn X.K C bmB newId = true) (gC : X.mg x = some (.ref C)) (kC : PySem.W.keepIn X.K (.ref C) = true) (r : Raises X (.ref C)) (hg : Gl X x)
    (hdb : (x == ("__debug__" : Str)) = false) : Ps X W (.Raise (some (.Call (.Name x p) [.Constant (.str m) j p2] [] q)) none pos) fun _ st => .exc x st :=
  PS.mono (ps_raise hc tk (pmk_own Fx hq gC kC r hg hdb)) fun D σ H ⟨ρ, env, st, er, sr, p⟩ => ⟨x, C, rfl, rfl, gC, p σ ρ H (.refl _ _) sr⟩
end
end Ev

set_option Elab.async false
set_option linter.all false
set_option maxRecDepth 100000
set_option maxHeartbeats 1000000
namespace Ev
open PySem PySem.Spec PyProof.Rows L2
/-! ### the checker: what the text says is what the short form says -/
structure Cv where
  N : List Str
  scope : Scope
  fs : Option Scope
  fns : List (Str × Nat)
  exc : List Str
def vis (sc : Scope) (x : Str) : Bool := match sc.names.lookup x with
  | some .local => true
  | some .cell => true
  | some .free => true
  | _ => false
def locl (sc : Scope) (x : Str) : Bool := match sc.names.lookup x with
  | some .local => true
  | some .cell => true
  | _ => false
def isLocal (sc : Scope) (x : Str) : Bool := match sc.names.lookup x with
  | some .local => true
  | _ => false
def glb (sc : Scope) (x : Str) : Bool := match sc.names.lookup x with
  | some .globalImplicit => true
  | _ => false
def plainName (x : Str) : Bool := !(x == ("__debug__" : Str)) && (!(x == ("__classdict__" : Str)) && !(x == ("__name__" : Str)))
def Cv.fnc (cv : Cv) (x : Str) : Bool := match cv.fs with
  | none => true
  | some sc => match sc.names.lookup x with
    | some .cell => true
    | _ => false
def okE : Expr → Bool
  | .BoolOp .. => true
  | .BinOp .. => true
  | .UnaryOp .. => true
  | .IfExp .. => true
  | .ListComp .. => true
  | .Compare .. => true
  | .Call .. => true
  | .Constant .. => true
  | .Subscript .. => true
  | .Name .. => true
  | .List .. => true
  | .Tuple .. => true
  | _ => false
def isComp : Expr → Bool
  | .ListComp .. => true
  | _ => false
def chkAll (rec : Expr → E → Bool) : List Expr → List E → Bool
  | [], [] => true
  | e :: es, m :: ms => rec e m && chkAll rec es ms
  | _, _ => false
mutual
def chkT (cv : Cv) : Expr → T → Bool
  | .Name x _, .name i => cv.N[i]? == some x && (locl cv.scope x && (cv.fnc x || isLocal cv.scope x))
  | .Tuple es _ _, .tup ts => chkTs cv es ts
  | _, _ => false
def chkTs (cv : Cv) : List Expr → List T → Bool
  | [], [] => true
  | e :: es, t :: ts => chkT cv e t && chkTs cv es ts
  | _, _ => false
end
def chkCon (e : Expr) (d : D) : Bool := match e with
  | .Constant c _ _ => match c, d with
    | .int i, .int j => i == j
    | .bool i, .bl j => i == j
    | .none, .non => true
    | .str x, .str y => x == y
    | _, _ => false
  | _ => false
def bfOk : Bf → Bool
  | .len | .all | .any | .sum | .tuple | .list | .abs | .int | .sorted | .max2 | .min2 | .max1 | .min1 | .range1 | .range2 => true
  | _ => false
def bfN : Bf → Str
  | .len => "len" | .all => "all" | .any => "any" | .sum => "sum" | .tuple => "tuple" | .list => "list" | .abs => "abs" | .int => "int" | .sorted => "sorted" | .max2 => "max" | .min2 => "min" | .max1 => "max" | .min1 => "min" | .range1 => "range" | .range2 => "range"
  | _ => ""
def bltNames : List Str := ["len", "all", "any", "sum", "tuple", "list", "abs", "int", "sorted", "max", "min", "range", "set", "zip", "enumerate", "isinstance", "bool", "str"]
/-- a class's name in the text and in the machine -/
def tyN : List (String × Str) := [("bool", "bool"), ("int", "int"), ("str", "str"), ("tuple", "tuple"), ("list", "list")]
def isNil {α : Type} : List α → Bool
  | [] => true
  | _ => false
/-- a call's function name and arguments -/
def callOf : Expr → Option (Str × List Expr)
  | .Call (.Name x _) args [] _ => some (x, args)
  | _ => none
def blkOk (cv : Cv) (scope : Scope) (own : List Nat) : Bool :=
  scope.kind == .function && (scope.names.all (fun y => scope.names.lookup y.1 == some y.2) && (own.all (fun i => (cv.N[i]?).isSome) &&
    (scope.names.all (fun y => !(y.2 == .free) || (cv.scope.names.lookup y.1 == some .cell || cv.scope.names.lookup y.1 == some .free)) &&
     scope.names.all (fun y => !(y.2 == .local || y.2 == .cell) || ((own.map fun i => cv.N.getD i "").contains y.1 || !(cv.N.contains y.1))))))
abbrev Cv.blk (cv : Cv) (scope : Scope) : Cv := { cv with scope := L2.relS scope cv.scope, fs := some scope }
abbrev Rc := Cv → Expr → E → Bool
def chkTests (rec : Expr → E → Bool) : List Expr → List E → Bool
  | [], [] => true
  | [e], [m] => rec e m
  | _, _ => false
def isTupE : Expr → Bool
  | .Tuple .. => true
  | _ => false
/-- what is walked -/
def chkI (cv : Cv) (rec : Expr → E → Bool) (tg e : Expr) (m : E) : Bool := match m with
  | .blt .zip [x, y] => match e with
    | .Call (.Name f _) [a, b] [] _ => f == ("zip" : Str) && (glb cv.scope f && (isTupE tg && (rec a x && rec b y)))
    | _ => false
  | .blt .enumerate [x] => match e with
    | .Call (.Name f _) [a] [] _ => f == ("enumerate" : Str) && (glb cv.scope f && (isTupE tg && rec a x))
    | _ => false
  | m => rec e m
def chkLc (cv : Cv) (rec : Rc) (e : Expr) (me : E) (gs : List G) (own : List Nat) : Bool := match e with
  | .ListComp elt cs scope _ => match cs, gs with
    | [⟨tg, it, ifs, k⟩], [.mk t mi mifs] =>
      k == 0 && (blkOk cv scope own && (chkI cv (rec cv) tg it mi && (chkT (cv.blk scope) tg t && (chkTests (rec (cv.blk scope)) ifs mifs && (rec (cv.blk scope) elt me && (slots t).all (fun i => own.contains i))))))
    | [⟨tg, it, ifs, k⟩, ⟨tg1, it1, ifs1, k1⟩], [.mk t mi mifs, .mk t1 mi1 mifs1] =>
      k == 0 && (k1 == 0 && (blkOk cv scope own && (chkI cv (rec cv) tg it mi && (chkT (cv.blk scope) tg t && (chkTests (rec (cv.blk scope)) ifs mifs &&
        (chkI (cv.blk scope) (rec (cv.blk scope)) tg1 it1 mi1 && (chkT (cv.blk scope) tg1 t1 && (chkTests (rec (cv.blk scope)) ifs1 mifs1 &&
          (rec (cv.blk scope) elt me && ((slots t).all (fun i => own.contains i) && (slots t1).all (fun i => own.contains i)))))))))))
    | _, _ => false
  | _ => false
def chkOpt (rec : Expr → E → Bool) : Option Expr → Option E → Bool
  | none, none => true
  | some e, some m => rec e m
  | _, _ => false
def chkBool (rec : Expr → E → Bool) (op : BoolOp) (e : Expr) (x y : E) : Bool := match e with
  | .BoolOp op' (a :: b :: r) p => op' == op && (rec a x && (match r with
    | [] => rec b y
    | _ :: _ => rec (.BoolOp op (b :: r) p) y))
  | _ => false
def notCall : Expr → Bool
  | .Call .. => false
  | _ => true
def chkMeth (rec : Expr → E → Bool) (e : Expr) (m : Mth) (x : E) (ms : List E) : Bool := match e with
  | .Call (.Attribute a f apos) args [] cpos => notCall a && (apos.endLine == cpos.line && (match m with
    | .append => match args, ms with
      | [b], [y] => f == ("append" : Str) && (rec a x && rec b y)
      | _, _ => false
    | .extend => match args, ms with
      | [b], [y] => f == ("extend" : Str) && (rec a x && rec b y)
      | _, _ => false
    | .pop => match args, ms with
      | [], [] => f == ("pop" : Str) && rec a x
      | _, _ => false))
  | _ => false
def chkStep (cv : Cv) (rec : Rc) (e : Expr) (m : E) : Bool := match m with
  | .bad => okE e
  | .con d => chkCon e d
  | .var i => match e with
    | .Name x _ => cv.N[i]? == some x && (vis cv.scope x && plainName x)
    | _ => false
  | .glob y => match e with
    | .Name x _ => x == y && (glb cv.scope x && plainName x)
    | _ => false
  | .tup ms => match e with
    | .Tuple es _ _ => chkAll (rec cv) es ms && decide (ms.length ≤ 1000000)
    | _ => false
  | .lst ms => match e with
    | .List es _ => chkAll (rec cv) es ms && decide (ms.length ≤ 1000000)
    | _ => false
  | .cel ms => match e with
    | .List es _ => chkAll (rec cv) es ms && decide (ms.length ≤ 1000000)
    | _ => false
  | .bin op x y => match e with
    | .BinOp a op' b _ => op' == op && (rec cv a x && rec cv b y)
    | _ => false
  | .neg x => match e with
    | .UnaryOp .USub a _ => rec cv a x
    | _ => false
  | .not x => match e with
    | .UnaryOp .Not a _ => rec cv a x
    | _ => false
  | .and x y => chkBool (rec cv) .And e x y
  | .or x y => chkBool (rec cv) .Or e x y
  | .cmp op x y => match e with
    | .Compare a [op'] [b] _ => op' == op && (rec cv a x && rec cv b y)
    | _ => false
  | .cmp2 op op2 x y z => match e with
    | .Compare a [o1, o2] [b, c] _ => o1 == op && (o2 == op2 && (rec cv a x && (rec cv b y && rec cv c z)))
    | _ => false
  | .ite x y z => match e with
    | .IfExp c a b _ => rec cv c x && (rec cv a y && rec cv b z)
    | _ => false
  | .call f ms => match callOf e with
    | some (g, es) => g == f && (glb cv.scope g && (plainName g && (!isNil es && (cv.fns.lookup g == some ms.length && chkAll (rec cv) es ms))))
    | none => false
  | .blt .sortedSet [x] => match e with
    | .Call (.Name f _) [.Call (.Name g _) [a] [] _] [] _ => f == ("sorted" : Str) && (g == ("set" : Str) && (glb cv.scope f && (glb cv.scope g && rec cv a x)))
    | _ => false
  | .blt bf ms => match callOf e with
    | some (g, es) => bfOk bf && (g == bfN bf && (glb cv.scope g && (!isNil es && chkAll (rec cv) es ms)))
    | none => false
  | .isin x T => match e with
    | .Call (.Name f _) [a, .Name y _] [] _ => f == ("isinstance" : Str) && (glb cv.scope f && (glb cv.scope y && (okTy T && (tyN.lookup T == some y && rec cv a x))))
    | _ => false
  | .ix x y => match e with
    | .Subscript a i _ => rec cv a x && rec cv i y
    | _ => false
  | .sl x lo hi => match e with
    | .Subscript a (.Slice l h none _) _ => rec cv a x && (chkOpt (rec cv) l lo && chkOpt (rec cv) h hi)
    | _ => false
  | .rev x => match e with
    | .Subscript a (.Slice none none (some (.UnaryOp .USub (.Constant (.int i) _ _) _)) _) _ => i == 1 && rec cv a x
    | _ => false
  | .lc me gs own => chkLc cv rec e me gs own
  | .meth m x ms => chkMeth (rec cv) e m x ms
def chk : Nat → Rc
  | 0 => fun _ _ _ => false
  | n + 1 => fun cv e m => chkStep cv (chk n) e m
/-! ### statements -/
def noStar : List Expr → Bool
  | [] => true
  | .Starred .. :: _ => false
  | _ :: r => noStar r
/-- a = e with a no tuple, or e no tuple: nothing is swapped -/
def swapNo (scope : Scope) (tg e : Expr) : Bool := match tg with
  | .Tuple ts _ _ => match e with
    | .Tuple vs _ _ => vs.all (foldedForSure 8) || ts.any (fun t => match t with
      | .Name x _ => !isLocal scope x
      | _ => true)
    | _ => true
  | _ => true
def chkPar (cv : Cv) (rec : Expr → E → Bool) (tg e : Expr) (t : T) (me : E) : Bool := match tg, e, t, me with
  | .Tuple [.Name x px, .Name y py] _ _, .Tuple [a, b] _ _, .tup [.name j, .name k], .tup [ma, mb] =>
    cv.scope.kind == .function && (cv.N[j]? == some x && (cv.N[k]? == some y && (!(x == y) && (isLocal cv.scope x && (isLocal cv.scope y && (px.line == py.line && (!([a, b].all (foldedForSure 8)) && (!([a, b].all (constantsAlone 8)) && (rec a ma && rec b mb)))))))))
  | .Tuple [.Name x px, .Name y py, .Name z pz] _ _, .Tuple [a, b, c] _ _, .tup [.name j, .name k, .name l], .tup [ma, mb, mc] =>
    cv.scope.kind == .function && (cv.N[j]? == some x && (cv.N[k]? == some y && (cv.N[l]? == some z && (!(x == y) && (!(x == z) && (!(y == z) && (isLocal cv.scope x && (isLocal cv.scope y && (isLocal cv.scope z && (px.line == py.line && (px.line == pz.line &&
      (!([a, b, c].all (foldedForSure 8)) && (!([a, b, c].all (constantsAlone 8)) && (rec a ma && (rec b mb && rec c mc)))))))))))))))
  | _, _, _, _ => false
def chkB (rec : Stmt → S → Bool) : List Stmt → List S → Bool
  | [], [] => true
  | s :: ss, m :: ms => rec s m && chkB rec ss ms
  | _, _ => false
def chkSet (cv : Cv) (ce : Rc) (tg e : Expr) (t : T) (me : E) : Bool := match tg with
  | .Name .. => ce cv e me && chkT cv tg t
  | .Tuple .. => (ce cv e me && (chkT cv tg t && swapNo cv.scope tg e)) || chkPar cv (ce cv) tg e t me
  | _ => false
def chkSs (cv : Cv) (ce : Rc) (rec : Stmt → S → Bool) (s : Stmt) (m : S) : Bool := match m with
  | .bad => true
  | .set t me => match s with
    | .Assign [tg] e _ => chkSet cv ce tg e t me
    | _ => false
  | .sub mo mi me => match s with
    | .Assign [.Subscript o i _] e _ => !isComp e && (ce cv o mo && (ce cv i mi && ce cv e me))
    | _ => false
  | .ex me => match s with
    | .Expr e _ => !isComp e && ce cv e me
    | _ => false
  | .ret me => match s with
    | .Return (some e) _ => ce cv e me
    | _ => false
  | .retN => match s with
    | .Return none _ => true
    | _ => false
  | .cond c a b => match s with
    | .If e p q _ => ce cv e c && (chkB rec p a && chkB rec q b)
    | _ => false
  | .for t mi b => match s with
    | .For tg it p [] _ => chkI cv (ce cv) tg it mi && (chkT cv tg t && chkB rec p b)
    | _ => false
  | .while c b => match s with
    | .While e p [] _ => ce cv e c && chkB rec p b
    | _ => false
  | .raise x => match s with
    | .Raise (some (.Call (.Name y _) [.Constant (.str _) _ _] [] _)) none _ => y == x && (glb cv.scope y && (plainName y && cv.exc.contains y))
    | _ => false
  | .pass => match s with
    | .Pass _ => true
    | _ => false
  | .brk => match s with
    | .Break _ => true
    | _ => false
  | .cont => match s with
    | .Continue _ => true
    | _ => false
def chkS (cv : Cv) (ce : Rc) : Nat → Stmt → S → Bool
  | 0 => fun _ _ => false
  | n + 1 => chkSs cv ce (chkS cv ce n)
def chkBody (cv : Cv) (body : List Stmt) (ms : List S) : Bool := chkB (chkS cv (chk 60) 60) body ms
end Ev

set_option Elab.async false
set_option linter.all false
set_option maxRecDepth 100000
set_option maxHeartbeats 1000000
namespace Ev
open PySem PySem.Spec PyProof.Rows L2
/-! ### the checker is sound: expressions -/
structure ExcF (X : Cx) (x : Str) : Prop where
  ex : ∃ (C : Addr) (B newId initId : String) (bmB : List Value), ExcBaseFacts B newId initId bmB ∧ PySem.W.excIn X.K C bmB newId = true ∧ X.mg x = some (.ref C) ∧ PySem.W.keepIn X.K (.ref C) = true ∧ Raises X (.ref C)
structure Good (X : Cx) (W : XW) (l : Nat) (cv : Cv) (Φ : Fns) (cs : Consts) : Prop where
  calm : X.calm = true
  nd : X.N.Nodup
  N : X.N = cv.N
  sc : X.env.scope = cv.scope
  room : Room l X.A
  fn : ∀ x, cv.fnc x = true → X.fn x = true
  blt : ∀ x ∈ bltNames, X.mg x = none
  cons : ∀ x d, cs.lookup x = some d → ∃ v u, X.mg x = some u ∧ RelV v u ∧ ∀ ρ H, Rp X.K ρ H d v
  fns : ∀ x ar, cv.fns.lookup x = some ar → ∃ f fd ps, FnOk X.prog X.w X.K X.mg X.base (L2.CX X.prog X.w) l f fd ps (spF X.K X.mg ar (Φ x)) ∧ X.mg x = some (.ref f) ∧ PySem.W.keepIn X.K (.ref f) = true ∧ Binds X.K fd ps []
  exc : ∀ x ∈ cv.exc, ExcF X x
  po : PassesOwn (model X.prog X.w) X.A X.env X.xe
  tk : Takes X (wxOf X.mg W)
structure Sd (X : Cx) (W : XW) (e : Expr) (f : Fe) : Prop where
  pe : Pe X W e f
  pt : Pt X W e f
  pw : ∀ op vs pos, e = .BoolOp op vs pos → PW X e (tT X.K W f)
  asg : ∀ elt gs sc p, e = .ListComp elt gs sc p → ∀ (i : Nat) (y : Str) (py spos : Pos), X.N[i]? = some y → X.env.scope.names.lookup y = some .local → swapsWith e (some (.Name y py)) spos.line X.env = pure true →
    PS X (.Assign [.Name y py] e spos) (tAsg (tE X.K W f) (gName i))
theorem pw_false {X : Cx} {e : Expr} {t : TT} (h : ∀ σ H Q, ¬ t σ H Q) : PW X e t := ⟨fun _ _ _ σ H Q _ q => absurd q (h σ H Q)⟩
theorem ps_false {X : Cx} {s : Stmt} {t : TS} (h : ∀ D σ H, ¬ t D σ H) : PS X s t := ⟨fun _ _ σ H D _ q => absurd q (h D σ H)⟩
theorem Sd.bad {X : Cx} {W : XW} {e : Expr} {f : Fe} (h : ∀ env st, f env st = .bad) : Sd X W e f :=
  ⟨pe_false (tE_bad h), pt_false (tT_bad h), fun _ _ _ _ => pw_false (tT_bad h), fun _ _ _ _ _ i _ _ _ _ _ _ => ps_false fun D σ H q => tE_bad h σ H _ q⟩
/-- no and, or; no comprehension -/
def common : Expr → Bool
  | .BoolOp .. => false
  | .ListComp .. => false
  | _ => true
theorem Sd.of {X : Cx} {W : XW} {e : Expr} {f : Fe} (h : common e = true) (a : Pe X W e f) (b : Pt X W e f) : Sd X W e f :=
  ⟨a, b, fun op vs pos he => (by subst he; cases h), fun elt gs sc p he => (by subst he; cases h)⟩
section
variable {env : PySem.Env} {e : Expr} {es : List Expr} {op : CmpOp}
theorem ok_star (h : okE e = true) : starEach (e :: es) env = (false, eval e env) :: starEach es env := by
  cases e <;> first | rfl | cases h
theorem ok_back {pos : Pos} : ∀ {es : List Expr}, (∀ e ∈ es, okE e = true) → (backTo pos (starEach es env)).any (·.1) = false
  | [], _ => rfl
  | e :: es, h => by
    rw [ok_star (h e List.mem_cons_self)]
    have := ok_back (pos := pos) (es := es) fun x hx => h x (List.mem_cons_of_mem _ hx)
    unfold backTo at this ⊢
    simp only [List.map_cons, List.any_cons, Bool.false_or]
    exact this
theorem ok_marks (h : okE e = true) : behindInMarks op e = false := by
  cases e <;> first | rfl | cases h
theorem ok_last {op2 : CmpOp} {b : Expr} (h : okE e = true) : lastMarks [op, op2] [b, e] = false := ok_marks h
theorem ok_ix (h : okE e = true) : PlainIx e := by
  cases e <;> first | (intro _ _; rfl) | cases h
theorem ok_fold (h : okE e = true) : ∀ x, foldedSetIterable e env x = pure x := by
  cases e <;> first | (intro _; rfl) | cases h
theorem ok_swap {l : Nat} {tg : Option Expr} (h : okE e = true) (hc : isComp e = false) : swapsWith e tg l env = pure false := by
  cases e <;> first | rfl | (cases hc; done) | (cases h; done)
end
theorem vis_ok {sc : Scope} {x : Str} (h : vis sc x = true) : Vis sc x := by
  unfold vis at h
  unfold Vis
  split at h
  · rename_i q; exact .inl q
  · rename_i q; exact .inr (.inl q)
  · rename_i q; exact .inr (.inr q)
  · cases h
theorem locl_ok {sc : Scope} {x : Str} (h : locl sc x = true) : L2.Loc sc x := by
  unfold locl at h
  unfold L2.Loc
  split at h
  · rename_i q; exact .inl q
  · rename_i q; exact .inr q
  · cases h
theorem isLocal_ok {sc : Scope} {x : Str} (h : isLocal sc x = true) : sc.names.lookup x = some .local := by
  unfold isLocal at h
  split at h
  · rename_i q; exact q
  · cases h
theorem plain_ok {x : Str} (h : plainName x = true) : (x == ("__debug__" : Str)) = false ∧ (x == ("__classdict__" : Str)) = false ∧ x ≠ ("__name__" : Str) := by
  unfold plainName at h
  simp only [Bool.and_eq_true, Bool.not_eq_true'] at h
  exact ⟨h.1, h.2.1, fun e => by simp [e] at h⟩
variable {X : Cx} {W : XW} {l : Nat} {cv : Cv} {Φ : Fns} {cs : Consts}
theorem Good.gl (g : Good X W l cv Φ cs) {x : Str} (h : glb cv.scope x = true) : Gl X x := by
  unfold glb at h
  split at h
  · rename_i q
    show X.env.scope.names.lookup x = _
    rw [g.sc]; exact q
  · cases h
theorem Good.hu (g : Good X W l cv Φ cs) : X.A.units + 65 < cLine := by have := g.room.un; omega
/-- what stands on a recursion: the parts' meanings -/
def HR (l : Nat) (Φ : Fns) (cs : Consts) (rec : Rc) (re : Ex) : Prop := ∀ cv e m, rec cv e m = true → okE e = true ∧ ∀ X W, Good X W l cv Φ cs → Sd X W e (re m)
section
variable {rec : Rc} {re : Ex}
theorem all_ok' (hr : HR l Φ cs rec re) : ∀ {es : List Expr} {ms : List E}, chkAll (rec cv) es ms = true → (∀ e ∈ es, okE e = true) ∧ es.length = ms.length ∧ ∀ X W, Good X W l cv Φ cs → Pl X W es (evs re ms)
  | [], [], _ => ⟨fun _ h => absurd h (by simp), rfl, fun X W g => l_nil⟩
  | [], _ :: _, h => by cases h
  | _ :: _, [], h => by cases h
  | e :: es, m :: ms, h => by
    unfold chkAll at h
    simp only [Bool.and_eq_true] at h
    obtain ⟨h1, h2, h3⟩ := all_ok' hr h.2
    obtain ⟨a, b⟩ := hr cv e m h.1
    refine ⟨fun x hx => ?_, by simp [h2], fun X W g => l_cons (b X W g).pe (h3 X W g) (ok_star a)⟩
    rcases List.mem_cons.mp hx with z | z
    · rw [z]; exact a
    · exact h1 x z
theorem evs_len {re : Ex} : ∀ {ms : List E} {env : Env} {st st' : Store} {ds : List D}, evs re ms env st = .ok ds st' → ds.length = ms.length
  | [], env, st, st', ds, h => by cases h; rfl
  | m :: ms, env, st, st', ds, h => by
    unfold evs at h
    obtain ⟨d, st1, h1, h2⟩ := bind_ok h
    obtain ⟨r, st2, h3, h4⟩ := bind_ok h2
    cases h4
    simp [evs_len h3]
/-- the step's claim -/
def Cl (l : Nat) (Φ : Fns) (cs : Consts) (cv : Cv) (e : Expr) (f : Fe) : Prop := okE e = true ∧ ∀ X W, Good X W l cv Φ cs → Sd X W e f
theorem c_con {d : D} {e : Expr} (h : chkCon e d = true) : Cl l Φ cs cv e (evStep Φ cs re (.con d)) := by
  unfold chkCon at h
  split at h
  · rename_i c k pos
    refine ⟨rfl, fun X W g => ?_⟩
    split at h
    · rename_i i j
      have := eq_of_beq h; subst this
      have pe : Pe X W (.Constant (.int i) k pos) (evStep Φ cs re (.con (.int i))) := x_const (v := .int i) pe_int (fun _ _ => rfl)
      exact .of rfl pe (t_val pe fun _ => rfl)
    · rename_i i j
      have := eq_of_beq h; subst this
      have pe : Pe X W (.Constant (.bool i) k pos) (evStep Φ cs re (.con (.bl i))) := x_const (v := .bl i) pe_bl (fun _ _ => rfl)
      exact .of rfl pe (t_val pe fun _ => rfl)
    · have pe : Pe X W (.Constant .none k pos) (evStep Φ cs re (.con .non)) := x_const (v := .non) pe_non (d := .non) (fun _ _ => rfl)
      exact .of rfl pe (t_val pe fun _ => rfl)
    · rename_i i j
      have := eq_of_beq h; subst this
      have pe : Pe X W (.Constant (.str i) k pos) (evStep Φ cs re (.con (.str i))) := x_const (v := .str i) pe_str (fun _ _ => rfl)
      exact .of rfl pe (t_val pe fun _ => rfl)
    · cases h
  · cases h
theorem c_var {i : Nat} {e : Expr} (h : chkStep cv rec e (.var i) = true) : Cl l Φ cs cv e (evStep Φ cs re (.var i)) := by
  dsimp only [chkStep] at h
  split at h
  · rename_i x pos
    simp only [Bool.and_eq_true, beq_iff_eq] at h
    obtain ⟨h1, h2, h3⟩ := h
    obtain ⟨p1, p2, p3⟩ := plain_ok h3
    refine ⟨rfl, fun X W g => ?_⟩
    have pe : Pe X W (.Name x pos) (evStep Φ cs re (.var i)) := x_var (by rw [g.N]; exact h1) (by rw [g.sc]; exact vis_ok h2) p1 p2
    exact .of rfl pe (t_val pe fun _ => rfl)
  · cases h
theorem c_glob {y : Str} {e : Expr} (h : chkStep cv rec e (.glob y) = true) : Cl l Φ cs cv e (evStep Φ cs re (.glob y)) := by
  dsimp only [chkStep] at h
  split at h
  · rename_i x pos
    simp only [Bool.and_eq_true, beq_iff_eq] at h
    obtain ⟨h1, h2, h3⟩ := h
    subst h1
    obtain ⟨p1, p2, p3⟩ := plain_ok h3
    refine ⟨rfl, fun X W g => ?_⟩
    have pe : Pe X W (.Name x pos) (evStep Φ cs re (.glob x)) := x_glob (g.gl h2) p1 (g.cons x)
    exact .of rfl pe (t_val pe fun _ => rfl)
  · cases h
theorem len_of {ms : List E} {es : List Expr} (hm : ms.length ≤ 1000000) : ∀ env st ds st', evs re ms env st = .ok ds st' → ds.length ≤ seqMax := fun env st ds st' h => by rw [evs_len h]; exact hm
theorem c_tup (hr : HR l Φ cs rec re) {ms : List E} {e : Expr} (h : chkStep cv rec e (.tup ms) = true) : Cl l Φ cs cv e (evStep Φ cs re (.tup ms)) := by
  dsimp only [chkStep] at h
  split at h
  · rename_i es k pos
    simp only [Bool.and_eq_true, decide_eq_true_eq] at h
    obtain ⟨a, b, c⟩ := all_ok' hr h.1
    refine ⟨rfl, fun X W g => ?_⟩
    have pe : Pe X W (.Tuple es k pos) (evStep Φ cs re (.tup ms)) := x_tup (c X W g) (len_of (es := es) h.2)
    exact .of rfl pe (t_val pe fun _ => rfl)
  · cases h
theorem c_lst (hr : HR l Φ cs rec re) {ms : List E} {e : Expr} (h : chkStep cv rec e (.lst ms) = true) : Cl l Φ cs cv e (evStep Φ cs re (.lst ms)) := by
  dsimp only [chkStep] at h
  split at h
  · rename_i es pos
    simp only [Bool.and_eq_true, decide_eq_true_eq] at h
    obtain ⟨a, b, c⟩ := all_ok' hr h.1
    refine ⟨rfl, fun X W g => ?_⟩
    have pe : Pe X W (.List es pos) (evStep Φ cs re (.lst ms)) := x_lst (c X W g) (len_of (es := es) h.2)
    exact .of rfl pe (t_val pe fun _ => rfl)
  · cases h
theorem c_cel (hr : HR l Φ cs rec re) {ms : List E} {e : Expr} (h : chkStep cv rec e (.cel ms) = true) : Cl l Φ cs cv e (evStep Φ cs re (.cel ms)) := by
  dsimp only [chkStep] at h
  split at h
  · rename_i es pos
    simp only [Bool.and_eq_true, decide_eq_true_eq] at h
    obtain ⟨a, b, c⟩ := all_ok' hr h.1
    refine ⟨rfl, fun X W g => ?_⟩
    have pe : Pe X W (.List es pos) (evStep Φ cs re (.cel ms)) := x_cel (c X W g) (len_of (es := es) h.2)
    exact .of rfl pe (t_val pe fun _ => rfl)
  · cases h
theorem c_bin (hr : HR l Φ cs rec re) {op : Operator} {x y : E} {e : Expr} (h : chkStep cv rec e (.bin op x y) = true) : Cl l Φ cs cv e (evStep Φ cs re (.bin op x y)) := by
  dsimp only [chkStep] at h
  split at h
  · rename_i a op' b pos
    simp only [Bool.and_eq_true, beq_iff_eq] at h
    obtain ⟨rfl, h2, h3⟩ := h
    refine ⟨rfl, fun X W g => ?_⟩
    have pe : Pe X W (.BinOp a op' b pos) (evStep Φ cs re (.bin op' x y)) := x_bin ((hr cv a x h2).2 X W g).pe ((hr cv b y h3).2 X W g).pe
    exact .of rfl pe (t_val pe fun _ => rfl)
  · cases h
theorem c_neg (hr : HR l Φ cs rec re) {x : E} {e : Expr} (h : chkStep cv rec e (.neg x) = true) : Cl l Φ cs cv e (evStep Φ cs re (.neg x)) := by
  dsimp only [chkStep] at h
  split at h
  · rename_i a pos
    refine ⟨rfl, fun X W g => ?_⟩
    have pe : Pe X W (.UnaryOp .USub a pos) (evStep Φ cs re (.neg x)) := x_neg ((hr cv a x h).2 X W g).pe
    exact .of rfl pe (t_val pe fun _ => rfl)
  · cases h
theorem c_not (hr : HR l Φ cs rec re) {x : E} {e : Expr} (h : chkStep cv rec e (.not x) = true) : Cl l Φ cs cv e (evStep Φ cs re (.not x)) := by
  dsimp only [chkStep] at h
  split at h
  · rename_i a pos
    refine ⟨rfl, fun X W g => ?_⟩
    exact .of rfl (x_not ((hr cv a x h).2 X W g).pe) (t_not ((hr cv a x h).2 X W g).pt)
  · cases h
theorem c_ite (hr : HR l Φ cs rec re) {x y z : E} {e : Expr} (h : chkStep cv rec e (.ite x y z) = true) : Cl l Φ cs cv e (evStep Φ cs re (.ite x y z)) := by
  dsimp only [chkStep] at h
  split at h
  · rename_i c a b pos
    simp only [Bool.and_eq_true] at h
    obtain ⟨h1, h2, h3⟩ := h
    refine ⟨rfl, fun X W g => ?_⟩
    exact .of rfl (x_ite ((hr cv c x h1).2 X W g).pt ((hr cv a y h2).2 X W g).pe ((hr cv b z h3).2 X W g).pe) (t_ite ((hr cv c x h1).2 X W g).pt ((hr cv a y h2).2 X W g).pt ((hr cv b z h3).2 X W g).pt)
  · cases h
theorem c_cmp (hr : HR l Φ cs rec re) {op : CmpOp} {x y : E} {e : Expr} (h : chkStep cv rec e (.cmp op x y) = true) : Cl l Φ cs cv e (evStep Φ cs re (.cmp op x y)) := by
  dsimp only [chkStep] at h
  split at h
  · rename_i a op' b pos
    simp only [Bool.and_eq_true, beq_iff_eq] at h
    obtain ⟨rfl, h2, h3⟩ := h
    refine ⟨rfl, fun X W g => ?_⟩
    exact .of rfl (x_cmp g.hu ((hr cv a x h2).2 X W g).pe ((hr cv b y h3).2 X W g).pe (ok_marks (hr cv b y h3).1)) (t_cmp g.hu ((hr cv a x h2).2 X W g).pe ((hr cv b y h3).2 X W g).pe (ok_marks (hr cv b y h3).1))
  · cases h
theorem c_cmp2 (hr : HR l Φ cs rec re) {op op2 : CmpOp} {x y z : E} {e : Expr} (h : chkStep cv rec e (.cmp2 op op2 x y z) = true) : Cl l Φ cs cv e (evStep Φ cs re (.cmp2 op op2 x y z)) := by
  dsimp only [chkStep] at h
  split at h
  · rename_i a o1 o2 b c pos
    simp only [Bool.and_eq_true, beq_iff_eq] at h
    obtain ⟨rfl, rfl, h2, h3, h4⟩ := h
    refine ⟨rfl, fun X W g => ?_⟩
    exact .of rfl (x_chain g.hu ((hr cv a x h2).2 X W g).pe ((hr cv b y h3).2 X W g).pe ((hr cv c z h4).2 X W g).pe (ok_last (hr cv c z h4).1))
      (t_chain g.hu ((hr cv a x h2).2 X W g).pe ((hr cv b y h3).2 X W g).pe ((hr cv c z h4).2 X W g).pe (ok_last (hr cv c z h4).1))
  · cases h
theorem sd_bool {op : BoolOp} {vs : List Expr} {pos : Pos} {f : Fe} (a : Pe X W (.BoolOp op vs pos) f) (b : PW X (.BoolOp op vs pos) (tT X.K W f)) : Sd X W (.BoolOp op vs pos) f :=
  ⟨a, b.pt, fun o v p he => by cases he; exact b, fun elt gs sc p he => by cases he⟩
theorem c_and (hr : HR l Φ cs rec re) {x y : E} {e : Expr} (h : chkStep cv rec e (.and x y) = true) : Cl l Φ cs cv e (evStep Φ cs re (.and x y)) := by
  dsimp only [chkStep, chkBool] at h
  split at h
  · rename_i op a b r pos
    simp only [Bool.and_eq_true, beq_iff_eq] at h
    obtain ⟨rfl, h1, h2⟩ := h
    refine ⟨rfl, fun X W g => ?_⟩
    have sa := (hr cv a x h1).2 X W g
    split at h2
    · have sb := (hr cv b y h2).2 X W g
      exact sd_bool (x_and sa.pe (pe_one sb.pe)) (w_and sa.pt (t_one sb.pt))
    · have sb := (hr cv _ y h2).2 X W g
      exact sd_bool (x_and sa.pe sb.pe) (w_and sa.pt (sb.pw _ _ _ rfl))
  · cases h
theorem c_or (hr : HR l Φ cs rec re) {x y : E} {e : Expr} (h : chkStep cv rec e (.or x y) = true) : Cl l Φ cs cv e (evStep Φ cs re (.or x y)) := by
  dsimp only [chkStep, chkBool] at h
  split at h
  · rename_i op a b r pos
    simp only [Bool.and_eq_true, beq_iff_eq] at h
    obtain ⟨rfl, h1, h2⟩ := h
    refine ⟨rfl, fun X W g => ?_⟩
    have sa := (hr cv a x h1).2 X W g
    split at h2
    · have sb := (hr cv b y h2).2 X W g
      exact sd_bool (x_or sa.pe (pe_one sb.pe)) (w_or sa.pt (t_one sb.pt))
    · have sb := (hr cv _ y h2).2 X W g
      exact sd_bool (x_or sa.pe sb.pe) (w_or sa.pt (sb.pw _ _ _ rfl))
  · cases h
theorem callOf_ok {e : Expr} {f : Str} {es : List Expr} (h : callOf e = some (f, es)) : ∃ p pos, e = .Call (.Name f p) es [] pos := by
  unfold callOf at h
  split at h
  · cases h; exact ⟨_, _, rfl⟩
  · cases h
theorem c_call (hr : HR l Φ cs rec re) {f : Str} {ms : List E} {e : Expr} (h : chkStep cv rec e (.call f ms) = true) : Cl l Φ cs cv e (evStep Φ cs re (.call f ms)) := by
  dsimp only [chkStep] at h
  split at h
  · rename_i g' es hcall
    obtain ⟨p, pos, rfl⟩ := callOf_ok hcall
    simp only [Bool.and_eq_true, beq_iff_eq, Bool.not_eq_true'] at h
    obtain ⟨rfl, h1, h2, h3, h4, h5⟩ := h
    obtain ⟨a, b, c⟩ := all_ok' hr h5
    obtain ⟨p1, p2, p3⟩ := plain_ok h2
    cases es with
    | nil => cases h3
    | cons e1 es =>
      refine ⟨rfl, fun X W g => ?_⟩
      obtain ⟨fa, fd, ps, F, hm, hk, hb⟩ := g.fns _ _ h4
      have pe : Pe X W (.Call (.Name g' p) (e1 :: es) [] pos) (evStep Φ cs re (.call g' ms)) :=
        x_call F g.room (g.gl h1) hm hk hb g.tk (c X W g) (fun env st ds st' h => evs_len h) p1 (ok_star (a e1 List.mem_cons_self)) (ok_back fun x hx => a x (List.mem_cons_of_mem _ hx))
      exact .of rfl pe (t_val pe fun _ => rfl)
  · cases h
theorem boot_range' : bootBuiltins "range" = some (.type "range") := by decide +kernel
theorem mem_blt {x : Str} (h : bltNames.contains x = true) : x ∈ bltNames := List.contains_iff_mem.mp h
theorem c_blt (hr : HR l Φ cs rec re) {bf : Bf} {ms : List E} {e : Expr} (h : (match callOf e with
    | some (g, es) => bfOk bf && (g == bfN bf && (glb cv.scope g && (!isNil es && chkAll (rec cv) es ms)))
    | none => false) = true) : Cl l Φ cs cv e (evStep Φ cs re (.blt bf ms)) := by
  split at h
  · rename_i g' es hcall
    obtain ⟨p, pos, rfl⟩ := callOf_ok hcall
    simp only [Bool.and_eq_true, beq_iff_eq, Bool.not_eq_true'] at h
    obtain ⟨h0, rfl, h2, h3, h5⟩ := h
    obtain ⟨a, b, c⟩ := all_ok' hr h5
    cases es with
    | nil => cases h3
    | cons e1 es =>
      refine ⟨rfl, fun X W g => ?_⟩
      have hs : starEach (e1 :: es) X.env = (false, eval e1 X.env) :: starEach es X.env := ok_star (a e1 List.mem_cons_self)
      have hb : (backTo pos (starEach es X.env)).any (·.1) = false := ok_back fun x hx => a x (List.mem_cons_of_mem _ hx)
      have pe : Pe X W (.Call (.Name (bfN bf) p) (e1 :: es) [] pos) (evStep Φ cs re (.blt bf ms)) := by
        cases bf with
        | len => exact x_blt (fun E => len_ok) (g.gl h2) (g.blt _ (mem_blt (by decide +kernel))) (by decide +kernel) (c X W g) (by decide +kernel) (by decide +kernel) hs hb
        | all => exact x_blt (fun E => all_ok g.calm) (g.gl h2) (g.blt _ (mem_blt (by decide +kernel))) (by decide +kernel) (c X W g) (by decide +kernel) (by decide +kernel) hs hb
        | any => exact x_blt (fun E => any_ok g.calm) (g.gl h2) (g.blt _ (mem_blt (by decide +kernel))) (by decide +kernel) (c X W g) (by decide +kernel) (by decide +kernel) hs hb
        | sum => exact x_blt (fun E => sum_ok g.calm) (g.gl h2) (g.blt _ (mem_blt (by decide +kernel))) (by decide +kernel) (c X W g) (by decide +kernel) (by decide +kernel) hs hb
        | tuple => exact x_ty (fun E => tuple_ok g.calm) (g.gl h2) (g.blt _ (mem_blt (by decide +kernel))) (by decide +kernel) (c X W g) (by decide +kernel) (by decide +kernel) hs hb
        | list => exact x_ty (fun E => list_ok) (g.gl h2) (g.blt _ (mem_blt (by decide +kernel))) (by decide +kernel) (c X W g) (by decide +kernel) (by decide +kernel) hs hb
        | abs => exact x_blt (fun E => abs_ok) (g.gl h2) (g.blt _ (mem_blt (by decide +kernel))) (by decide +kernel) (c X W g) (by decide +kernel) (by decide +kernel) hs hb
        | int => exact x_ty (fun E => int_ok) (g.gl h2) (g.blt _ (mem_blt (by decide +kernel))) (by decide +kernel) (c X W g) (by decide +kernel) (by decide +kernel) hs hb
        | sorted => exact x_blt (fun E => sorted_ok) (g.gl h2) (g.blt _ (mem_blt (by decide +kernel))) (by decide +kernel) (c X W g) (by decide +kernel) (by decide +kernel) hs hb
        | max2 => exact x_blt (fun E => max2_ok g.calm) (g.gl h2) (g.blt _ (mem_blt (by decide +kernel))) (by decide +kernel) (c X W g) (by decide +kernel) (by decide +kernel) hs hb
        | min2 => exact x_blt (fun E => min2_ok g.calm) (g.gl h2) (g.blt _ (mem_blt (by decide +kernel))) (by decide +kernel) (c X W g) (by decide +kernel) (by decide +kernel) hs hb
        | max1 => exact x_blt (fun E => max1_ok g.calm) (g.gl h2) (g.blt _ (mem_blt (by decide +kernel))) (by decide +kernel) (c X W g) (by decide +kernel) (by decide +kernel) hs hb
        | min1 => exact x_blt (fun E => min1_ok g.calm) (g.gl h2) (g.blt _ (mem_blt (by decide +kernel))) (by decide +kernel) (c X W g) (by decide +kernel) (by decide +kernel) hs hb
        | range1 => exact x_ty (fun E => range1_ok) (g.gl h2) (g.blt _ (mem_blt (by decide +kernel))) (by decide +kernel) (c X W g) (by decide +kernel) (by decide +kernel) hs hb
        | range2 => exact x_ty (fun E => range2_ok) (g.gl h2) (g.blt _ (mem_blt (by decide +kernel))) (by decide +kernel) (c X W g) (by decide +kernel) (by decide +kernel) hs hb
        | _ => cases h0
      exact .of rfl pe (t_val pe fun _ => rfl)
  · cases h
end
end Ev

set_option Elab.async false
set_option linter.all false
set_option maxRecDepth 100000
set_option maxHeartbeats 1000000
namespace Ev
open PySem PySem.Spec PyProof.Rows L2
variable {X : Cx} {W : XW} {l : Nat} {cv : Cv} {Φ : Fns} {cs : Consts} {rec : Rc} {re : Ex}
theorem c_ss (hr : HR l Φ cs rec re) {x : E} {e : Expr} (h : chkStep cv rec e (.blt .sortedSet [x]) = true) : Cl l Φ cs cv e (evStep Φ cs re (.blt .sortedSet [x])) := by
  dsimp only [chkStep] at h
  split at h
  · rename_i f p g' q a q2 pos
    simp only [Bool.and_eq_true, beq_iff_eq] at h
    obtain ⟨rfl, rfl, h1, h2, h3⟩ := h
    refine ⟨rfl, fun X W g => ?_⟩
    obtain ⟨oa, sa⟩ := hr cv a x h3
    have hl : Pl X W [a] (evs re [x]) := l_cons (sa X W g).pe l_nil (ok_star oa)
    have pe : Pe X W (.Call (.Name "sorted" p) [.Call (.Name "set" q) [a] [] q2] [] pos) (evStep Φ cs re (.blt .sortedSet [x])) :=
      x_ss g.calm (g.gl h1) (g.blt _ (mem_blt (by decide +kernel))) (by decide +kernel) (by decide +kernel) (by decide +kernel) (g.gl h2) (g.blt _ (mem_blt (by decide +kernel))) (by decide +kernel) (by decide +kernel) (by decide +kernel)
        hl (ok_star oa) rfl (ok_star (by rfl)) rfl
    exact .of rfl pe (t_val pe fun _ => rfl)
  · cases h
theorem c_isin (hr : HR l Φ cs rec re) {x : E} {T : String} {e : Expr} (h : chkStep cv rec e (.isin x T) = true) : Cl l Φ cs cv e (evStep Φ cs re (.isin x T)) := by
  dsimp only [chkStep] at h
  split at h
  · rename_i f p a y q pos
    simp only [Bool.and_eq_true, beq_iff_eq] at h
    obtain ⟨rfl, h1, h2, h3, h4, h5⟩ := h
    obtain ⟨oa, sa⟩ := hr cv a x h5
    refine ⟨rfl, fun X W g => ?_⟩
    have key : ∀ (T : String) (y : Str), okTy T = true → (tyN.lookup T == some y) = true → bootBuiltins y = some (.type T) ∧ y ≠ ("__name__" : Str) ∧ (y == ("__debug__" : Str)) = false ∧ bltNames.contains y = true := by
      intro T y hT hy
      unfold okTy at hT
      simp only [Bool.or_eq_true, beq_iff_eq] at hT
      have hy := eq_of_beq hy
      rcases hT with (((rfl | rfl) | rfl) | rfl) | rfl
      · have e : y = ("bool" : Str) := by
          have : tyN.lookup "bool" = some ("bool" : Str) := by decide +kernel
          rw [this] at hy; cases hy; rfl
        subst e; decide +kernel
      · have e : y = ("int" : Str) := by
          have : tyN.lookup "int" = some ("int" : Str) := by decide +kernel
          rw [this] at hy; cases hy; rfl
        subst e; decide +kernel
      · have e : y = ("str" : Str) := by
          have : tyN.lookup "str" = some ("str" : Str) := by decide +kernel
          rw [this] at hy; cases hy; rfl
        subst e; decide +kernel
      · have e : y = ("tuple" : Str) := by
          have : tyN.lookup "tuple" = some ("tuple" : Str) := by decide +kernel
          rw [this] at hy; cases hy; rfl
        subst e; decide +kernel
      · have e : y = ("list" : Str) := by
          have : tyN.lookup "list" = some ("list" : Str) := by decide +kernel
          rw [this] at hy; cases hy; rfl
        subst e; decide +kernel
    obtain ⟨k1, k2, k3, k4⟩ := key T y h3 (by rw [h4]; exact beq_self_eq_true _)
    have pe : Pe X W (.Call (.Name "isinstance" p) [a, .Name y q] [] pos) (evStep Φ cs re (.isin x T)) := by
      have := x_isin (X := X) (W := W) (p := p) (pos := pos) (py := q) h3 (g.gl h1) (g.blt _ (mem_blt (by decide +kernel))) (by decide +kernel) (by decide +kernel) (by decide +kernel) (g.gl h2) (g.blt _ (mem_blt k4)) k1 k2 k3 (sa X W g).pe (ok_star oa) (by rfl)
      refine PE.mono this fun σ H Q ⟨ρ, env, st, er, sr, p⟩ => ⟨ρ, env, st, er, sr, ?_⟩
      dsimp only [evStep] at p
      simp only [h3, if_true] at p
      exact p
    exact .of rfl pe (t_val pe fun _ => rfl)
  · cases h
theorem c_ix (hr : HR l Φ cs rec re) {x y : E} {e : Expr} (h : chkStep cv rec e (.ix x y) = true) : Cl l Φ cs cv e (evStep Φ cs re (.ix x y)) := by
  dsimp only [chkStep] at h
  split at h
  · rename_i a i pos
    simp only [Bool.and_eq_true] at h
    refine ⟨rfl, fun X W g => ?_⟩
    have pe : Pe X W (.Subscript a i pos) (evStep Φ cs re (.ix x y)) := x_ix ((hr cv a x h.1).2 X W g).pe ((hr cv i y h.2).2 X W g).pe (ok_ix (hr cv i y h.2).1)
    exact .of rfl pe (t_val pe fun _ => rfl)
  · cases h
theorem opt_ok (hr : HR l Φ cs rec re) {o : Option Expr} {m : Option E} (h : chkOpt (rec cv) o m = true) (g : Good X W l cv Φ cs) : PO X o (tO X.K W (evStep.part re m)) := by
  cases o with
  | none =>
    cases m with
    | none => exact o_none
    | some m => cases h
  | some e =>
    cases m with
    | none => cases h
    | some m => exact o_some ((hr cv e m h).2 X W g).pe
theorem c_sl (hr : HR l Φ cs rec re) {x : E} {lo hi : Option E} {e : Expr} (h : chkStep cv rec e (.sl x lo hi) = true) : Cl l Φ cs cv e (evStep Φ cs re (.sl x lo hi)) := by
  dsimp only [chkStep] at h
  split at h
  · rename_i a l h' q pos
    simp only [Bool.and_eq_true] at h
    refine ⟨rfl, fun X W g => ?_⟩
    have pe : Pe X W (.Subscript a (.Slice l h' none q) pos) (evStep Φ cs re (.sl x lo hi)) := x_sl ((hr cv a x h.1).2 X W g).pe (opt_ok hr h.2.1 g) (opt_ok hr h.2.2 g)
    exact .of rfl pe (t_val pe fun _ => rfl)
  · cases h
theorem c_rev (hr : HR l Φ cs rec re) {x : E} {e : Expr} (h : chkStep cv rec e (.rev x) = true) : Cl l Φ cs cv e (evStep Φ cs re (.rev x)) := by
  dsimp only [chkStep] at h
  split at h
  · rename_i a i k p1 p2 p3 pos
    simp only [Bool.and_eq_true, beq_iff_eq] at h
    obtain ⟨rfl, h⟩ := h
    refine ⟨rfl, fun X W g => ?_⟩
    have pe : Pe X W (.Subscript a (backSl k p1 p2 p3) pos) (evStep Φ cs re (.rev x)) := x_rev ((hr cv a x h).2 X W g).pe
    exact .of rfl pe (t_val pe fun _ => rfl)
  · cases h
theorem ok_base {e : Expr} {f : Str} {env : PySem.Env} {w : Sem Value} (h : okE e = true) (hn : notCall e = true) : attributeBase e f env w = w := by
  cases e <;> first | rfl | (cases hn; done) | (cases h; done)
theorem ok_few {e : Expr} {env : PySem.Env} {cpos : Pos} (h : okE e = true) : ((backTo cpos (starEach [e] env)).all (fun x => !x.1) && (backToKw cpos (keywordEach [] env)).all (fun x => x.1.isSome)
      && decide (([e] : List Expr).length + ([] : List Keyword).length + (if ([] : List Keyword).isEmpty then 0 else 1) < 30)) = true := by
  rw [ok_star h]
  rfl
theorem c_meth (hr : HR l Φ cs rec re) {m : Mth} {x : E} {ms : List E} {e : Expr} (h : chkStep cv rec e (.meth m x ms) = true) : Cl l Φ cs cv e (evStep Φ cs re (.meth m x ms)) := by
  dsimp only [chkStep] at h
  unfold chkMeth at h
  split at h
  · rename_i a f apos args cpos
    simp only [Bool.and_eq_true, beq_iff_eq] at h
    obtain ⟨h1, h2, h⟩ := h
    have hline : (apos.endLine == cpos.line) = true := by rw [h2]; exact beq_self_eq_true _
    refine ⟨rfl, fun X W g => ?_⟩
    cases m with
    | append =>
      dsimp only at h
      split at h
      · rename_i b y
        simp only [Bool.and_eq_true, beq_iff_eq] at h
        obtain ⟨rfl, h3, h4⟩ := h
        obtain ⟨oa, sa⟩ := hr cv a x h3
        obtain ⟨ob, sb⟩ := hr cv b y h4
        have pe : Pe X W (.Call (.Attribute a "append" apos) [b] [] cpos) (evStep Φ cs re (.meth .append x [y])) :=
          x_append (sa X W g).pe (l_cons (sb X W g).pe l_nil (ok_star ob)) (ok_base oa h1) (ok_few ob) hline (ok_star ob) rfl
        exact .of rfl pe (t_val pe fun _ => rfl)
      · cases h
    | extend =>
      dsimp only at h
      split at h
      · rename_i b y
        simp only [Bool.and_eq_true, beq_iff_eq] at h
        obtain ⟨rfl, h3, h4⟩ := h
        obtain ⟨oa, sa⟩ := hr cv a x h3
        obtain ⟨ob, sb⟩ := hr cv b y h4
        have pe : Pe X W (.Call (.Attribute a "extend" apos) [b] [] cpos) (evStep Φ cs re (.meth .extend x [y])) :=
          x_extend (sa X W g).pe (l_cons (sb X W g).pe l_nil (ok_star ob)) (ok_base oa h1) (ok_few ob) hline (ok_star ob) rfl
        exact .of rfl pe (t_val pe fun _ => rfl)
      · cases h
    | pop =>
      dsimp only at h
      split at h
      · simp only [Bool.and_eq_true, beq_iff_eq] at h
        obtain ⟨rfl, h3⟩ := h
        obtain ⟨oa, sa⟩ := hr cv a x h3
        have pe : Pe X W (.Call (.Attribute a "pop" apos) [] [] cpos) (evStep Φ cs re (.meth .pop x [])) :=
          x_pop (sa X W g).pe (ok_base oa h1) hline
        exact .of rfl pe (t_val pe fun _ => rfl)
      · cases h
  · cases h
/-! ### what is walked -/
theorem i_ok (hr : HR l Φ cs rec re) {tg e : Expr} {m : E} (h : chkI cv (rec cv) tg e m = true) : okE e = true ∧ ∀ X W, Good X W l cv Φ cs → Pi' X W tg e (evI re m) := by
  unfold chkI at h
  split at h
  · rename_i x y
    split at h
    · rename_i f p a b pos
      simp only [Bool.and_eq_true, beq_iff_eq] at h
      obtain ⟨rfl, h1, h2, h3, h4⟩ := h
      refine ⟨rfl, fun X W g => ?_⟩
      cases tg <;> first | (cases h2; done) | skip
      exact i_zip (g.gl h1) (g.blt _ (mem_blt (by decide +kernel))) ((hr cv a x h3).2 X W g).pe ((hr cv b y h4).2 X W g).pe (ok_star (hr cv a x h3).1) (ok_star (hr cv b y h4).1) (ok_back fun z hz => by
        rw [List.mem_singleton.mp hz]; exact (hr cv b y h4).1)
    · cases h
  · rename_i x
    split at h
    · rename_i f p a pos
      simp only [Bool.and_eq_true, beq_iff_eq] at h
      obtain ⟨rfl, h1, h2, h3⟩ := h
      refine ⟨rfl, fun X W g => ?_⟩
      cases tg <;> first | (cases h2; done) | skip
      exact i_enum (g.gl h1) (g.blt _ (mem_blt (by decide +kernel))) ((hr cv a x h3).2 X W g).pe (ok_star (hr cv a x h3).1)
    · cases h
  · rename_i m' n1 n2
    refine ⟨(hr cv e _ h).1, fun X W g => ?_⟩
    refine PI.mono (i_val ((hr cv e _ h).2 X W g).pe) fun σ H Q ⟨ρ, env, st, er, sr, p⟩ => ⟨ρ, env, st, er, sr, ?_⟩
    unfold evI at p
    split at p
    · exact absurd rfl (n1 _ _)
    · exact absurd rfl (n2 _)
    · exact p
theorem tests_ok (hr : HR l Φ cs rec re) {es : List Expr} {ms : List E} (h : chkTests (rec cv) es ms = true) (g : Good X W l cv Φ cs) : PTs X es (tB' X.K W (tests re ms)) := by
  unfold chkTests at h
  split at h
  · exact b_nil
  · exact b_one ((hr cv _ _ h).2 X W g).pt
  · cases h
mutual
theorem t_ok (g : Good X W l cv Φ cs) : ∀ {e : Expr} {t : T}, chkT cv e t = true → PG X e (tG X.K t)
  | .Name x pos, .name i, h => by
    simp only [chkT, Bool.and_eq_true, Bool.or_eq_true, beq_iff_eq] at h
    obtain ⟨h1, h2, h3⟩ := h
    refine g_name g.nd (by rw [g.N]; exact h1) (by rw [g.sc]; exact locl_ok h2) ?_
    rcases h3 with h3 | h3
    · exact .inl (g.fn x h3)
    · exact .inr (by rw [g.sc]; exact isLocal_ok h3)
  | .Tuple es k pos, .tup ts, h => by
    have h : chkTs cv es ts = true := by simpa only [chkT] using h
    obtain ⟨a, b, c, d⟩ := ts_ok g h
    exact g_tup g.calm a b c d
  | .Name .., .tup _, h => by simp [chkT] at h
  | .Tuple .., .name _, h => by simp [chkT] at h
  | .BoolOp .., _, h => by simp [chkT] at h
  | .NamedExpr .., _, h => by simp [chkT] at h
  | .BinOp .., _, h => by simp [chkT] at h
  | .UnaryOp .., _, h => by simp [chkT] at h
  | .Lambda .., _, h => by simp [chkT] at h
  | .IfExp .., _, h => by simp [chkT] at h
  | .Dict .., _, h => by simp [chkT] at h
  | .Set .., _, h => by simp [chkT] at h
  | .ListComp .., _, h => by simp [chkT] at h
  | .SetComp .., _, h => by simp [chkT] at h
  | .DictComp .., _, h => by simp [chkT] at h
  | .GeneratorExp .., _, h => by simp [chkT] at h
  | .Await .., _, h => by simp [chkT] at h
  | .Yield .., _, h => by simp [chkT] at h
  | .YieldFrom .., _, h => by simp [chkT] at h
  | .Compare .., _, h => by simp [chkT] at h
  | .Call .., _, h => by simp [chkT] at h
  | .FormattedValue .., _, h => by simp [chkT] at h
  | .JoinedStr .., _, h => by simp [chkT] at h
  | .Constant .., _, h => by simp [chkT] at h
  | .Attribute .., _, h => by simp [chkT] at h
  | .Subscript .., _, h => by simp [chkT] at h
  | .Starred .., _, h => by simp [chkT] at h
  | .List .., _, h => by simp [chkT] at h
  | .Slice .., _, h => by simp [chkT] at h
theorem ts_ok (g : Good X W l cv Φ cs) : ∀ {es : List Expr} {ts : List T}, chkTs cv es ts = true → PGs X es (tGs X.K ts) ∧ es.length = ts.length ∧ (assignEach es X.env).length = es.length ∧ (assignEach es X.env).findIdx? (·.1) = none
  | [], [], _ => ⟨g_nil, rfl, rfl, rfl⟩
  | [], _ :: _, h => by simp [chkTs] at h
  | _ :: _, [], h => by simp [chkTs] at h
  | e :: es, t :: ts, h => by
    simp only [chkTs, Bool.and_eq_true] at h
    obtain ⟨a, b, c, d⟩ := ts_ok g h.2
    have q : assignEach (e :: es) X.env = (false, assign e X.env) :: assignEach es X.env := by
      cases e <;> first | rfl | (simp [chkT] at h; done)
    refine ⟨g_cons (t_ok g h.1) a (by rw [q]; rfl), by simp [b], by rw [q]; simp [c], ?_⟩
    rw [q, List.findIdx?_cons, d]
    rfl
end
/-! ### comprehensions -/
theorem all_mem {l m : List Nat} (h : (l.all fun i => m.contains i) = true) : ∀ i ∈ l, i ∈ m := fun i hi => List.contains_iff_mem.mp (List.all_eq_true.mp h i hi)
abbrev ownOf (cv : Cv) (own : List Nat) : List (Str × Nat) := own.map fun i => (cv.N.getD i "", i)
theorem ownOf_snd {own : List Nat} : (ownOf cv own).map (·.2) = own := by
  unfold ownOf
  rw [List.map_map]
  exact List.map_id' own
theorem blk_ok {scope : Scope} {own : List Nat} (h : blkOk cv scope own = true) (g : Good X W l cv Φ cs) : BlkOk X.N X.env.scope scope (ownOf cv own) := by
  unfold blkOk at h
  simp only [Bool.and_eq_true, beq_iff_eq] at h
  obtain ⟨h1, h2, h3, h4, h5⟩ := h
  rw [g.sc, g.N]
  refine ⟨h1, fun y hy => eq_of_beq (List.all_eq_true.mp h2 y hy), fun p hp => ?_, fun y hy hf => ?_, fun y hy hf => ?_⟩
  · obtain ⟨i, hi, rfl⟩ := List.mem_map.mp hp
    have := List.all_eq_true.mp h3 i hi
    cases q : cv.N[i]? with
    | none => rw [q] at this; cases this
    | some x => simp [List.getD, q]
  · have := List.all_eq_true.mp h4 y hy
    simp only [hf, beq_self_eq_true, Bool.not_true, Bool.false_or, Bool.or_eq_true, beq_iff_eq] at this
    exact this
  · have := List.all_eq_true.mp h5 y hy
    have hk : (y.2 == .local || y.2 == .cell) = true := by
      rcases hf with q | q <;> simp [q]
    simp only [hk, Bool.not_true, Bool.false_or, Bool.or_eq_true, Bool.not_eq_true', List.contains_iff_mem] at this
    rcases this with q | q
    · left
      unfold ownOf
      rw [List.map_map]
      exact q
    · right
      intro hm
      rw [List.contains_iff_mem.mpr hm] at q
      cases q
theorem takesF {X : Cx} {mg : Str → Option Value} : Takes X (wxOf mg W0) := takes0.imp fun _ _ _ _ ⟨_, _, _, _, _, h⟩ => h
theorem Good.blk (g : Good X W l cv Φ cs) (scope : Scope) (s : Shared) (H : Hp) (C : Addr) (cl : List (Str × Addr)) (fp : List Addr) : Good (X.blk s H scope (compEnvC scope cl C X.env) fp) W0 l (cv.blk scope) Φ cs where
  calm := g.calm
  nd := g.nd
  N := g.N
  sc := by
    show relS scope X.env.scope = relS scope cv.scope
    rw [g.sc]
  room := g.room
  fn := fun x h => by
    show (scope.names.lookup x == some .cell) = true
    unfold Cv.fnc at h
    dsimp only at h
    split at h
    · rename_i q; rw [q]; rfl
    · cases h
  blt := g.blt
  cons := g.cons
  fns := g.fns
  exc := fun x hx => by
    obtain ⟨C, B, n1, n2, bm, a, b, c, d, e⟩ := (g.exc x hx).ex
    exact ⟨C, B, n1, n2, bm, a, b, c, d, e⟩
  po := PassesOwn.never
  tk := takesF
theorem sd_comp {elt : Expr} {gs : List Comprehension} {sc : Scope} {pos : Pos} {f : Fe} (h : Pe X W (.ListComp elt gs sc pos) f ∧ ∀ (i : Nat) (y : Str) (py spos : Pos), X.N[i]? = some y → X.env.scope.names.lookup y = some .local → swapsWith (.ListComp elt gs sc pos) (some (.Name y py)) spos.line X.env = pure true →
      PS X (.Assign [.Name y py] (.ListComp elt gs sc pos) spos) (tAsg (tE X.K W f) (gName i))) : Sd X W (.ListComp elt gs sc pos) f :=
  ⟨h.1, t_val h.1 (fun _ => rfl), fun op vs p he => (by cases he), fun e' g' s' p' he => (by cases he; exact h.2)⟩
theorem c_lc (hr : HR l Φ cs rec re) {me : E} {gs : List G} {own : List Nat} {e : Expr} (h : chkStep cv rec e (.lc me gs own) = true) : Cl l Φ cs cv e (evStep Φ cs re (.lc me gs own)) := by
  dsimp only [chkStep] at h
  unfold chkLc at h
  split at h
  · rename_i elt cmps scope pos
    split at h
    · rename_i tg it ifs k t mi mifs
      simp only [Bool.and_eq_true, beq_iff_eq] at h
      obtain ⟨rfl, h1, h2, h3, h4, h5, h6⟩ := h
      obtain ⟨oi, hi⟩ := i_ok hr h2
      refine ⟨rfl, fun X W g => ?_⟩
      have q := x_lc (W := W) (pos := pos) (fe := re me) (ft := tests re mifs) (t := t) (elt := elt) (ifs := ifs) (own := ownOf cv own) g.calm g.nd (hi X W g) (blk_ok h1 g)
        (fun s H C cl fp => t_ok (g.blk scope s H C cl fp) h3) (fun s H C cl fp => tests_ok hr h4 (g.blk scope s H C cl fp)) (fun s H C cl fp => ((hr _ elt me h5).2 _ _ (g.blk scope s H C cl fp)).pe) (ok_fold oi)
        (by rw [ownOf_snd]; exact all_mem h6)
      rw [ownOf_snd] at q
      exact sd_comp q
    · rename_i tg it ifs k tg1 it1 ifs1 k1 t mi mifs t1 mi1 mifs1
      simp only [Bool.and_eq_true, beq_iff_eq] at h
      obtain ⟨rfl, rfl, h1, h2, h3, h4, h5, h6, h7, h8, h9, h10⟩ := h
      obtain ⟨oi, hi⟩ := i_ok hr h2
      obtain ⟨oi1, hi1⟩ := i_ok hr h5
      refine ⟨rfl, fun X W g => ?_⟩
      have q := x_lc2 (W := W) (pos := pos) (fe := re me) (ft := tests re mifs) (ft1 := tests re mifs1) (t := t) (t1 := t1) (elt := elt) (ifs := ifs) (ifs1 := ifs1) (own := ownOf cv own) (vs1 := slots t1) g.calm g.nd (hi X W g) (blk_ok h1 g)
        (by rw [ownOf_snd]; exact all_mem h10)
        (fun s H C cl fp => t_ok (g.blk scope s H C cl fp) h3) (fun s H C cl fp => tests_ok hr h4 (g.blk scope s H C cl fp)) (fun s H C cl fp => hi1 _ _ (g.blk scope s H C cl fp)) (fun s H C cl fp => t_ok (g.blk scope s H C cl fp) h6)
        (fun s H C cl fp => tests_ok hr h7 (g.blk scope s H C cl fp)) (fun s H C cl fp => ((hr _ elt me h8).2 _ _ (g.blk scope s H C cl fp)).pe) (ok_fold oi) (fun env => ok_fold oi1)
        (by rw [ownOf_snd]; exact all_mem h9) (fun i hi => hi)
      rw [ownOf_snd] at q
      exact sd_comp q
    · cases h
  · cases h
/-! ### all together -/
theorem step_ok (hr : HR l Φ cs rec re) {m : E} {e : Expr} (h : chkStep cv rec e m = true) : Cl l Φ cs cv e (evStep Φ cs re m) := by
  cases m with
  | bad => exact ⟨h, fun X W g => .bad fun _ _ => rfl⟩
  | con d => exact c_con h
  | var i => exact c_var h
  | glob y => exact c_glob h
  | tup ms => exact c_tup hr h
  | lst ms => exact c_lst hr h
  | cel ms => exact c_cel hr h
  | bin op x y => exact c_bin hr h
  | neg x => exact c_neg hr h
  | not x => exact c_not hr h
  | and x y => exact c_and hr h
  | or x y => exact c_or hr h
  | cmp op x y => exact c_cmp hr h
  | cmp2 op op2 x y z => exact c_cmp2 hr h
  | ite x y z => exact c_ite hr h
  | call f ms => exact c_call hr h
  | blt bf ms =>
    by_cases hb : bf = .sortedSet ∧ ∃ x, ms = [x]
    · obtain ⟨rfl, x, rfl⟩ := hb
      exact c_ss hr h
    · refine c_blt hr ?_
      unfold chkStep at h
      split at h <;> rename_i heq <;> try (cases heq; done)
      · cases heq
        exact absurd ⟨rfl, _, rfl⟩ hb
      · cases heq; exact h
  | isin x T => exact c_isin hr h
  | ix x y => exact c_ix hr h
  | sl x lo hi => exact c_sl hr h
  | rev x => exact c_rev hr h
  | lc me gs own => exact c_lc hr h
  | meth m x ms => exact c_meth hr h
theorem step_oke {m : E} {e : Expr} (hr : HR l Φ cs rec re) (h : chkStep cv rec e m = true) : okE e = true := (step_ok hr h).1
theorem ev_zero (Φ : Fns) (cs : Consts) (m : E) : ∀ env st, ev Φ cs 0 m env st = .bad := fun _ _ => rfl
theorem chk_ok (l : Nat) (Φ : Fns) (cs : Consts) : ∀ n k, HR l Φ cs (chk n) (ev Φ cs k)
  | 0, k => fun cv e m h => by cases h
  | n + 1, 0 => fun cv e m h => ⟨(step_ok (chk_ok l Φ cs n 0) h).1, fun X W g => .bad (ev_zero Φ cs m)⟩
  | n + 1, k + 1 => fun cv e m h => step_ok (chk_ok l Φ cs n k) h
end Ev

set_option Elab.async false
set_option linter.all false
set_option maxRecDepth 100000
set_option maxHeartbeats 1000000
namespace Ev
open PySem PySem.Spec PyProof.Rows L2
variable {X : Cx} {W : XW} {l : Nat} {cv : Cv} {Φ : Fns} {cs : Consts} {ce : Rc} {re : Ex}
/-! ### the checker is sound: statements -/
def HS (l : Nat) (Φ : Fns) (cs : Consts) (cv : Cv) (rec : Stmt → S → Bool) (rs : Sx) : Prop := ∀ s m, rec s m = true → ∀ X W, Good X W l cv Φ cs → Ps X W s (rs m)
theorem b_ok {rec : Stmt → S → Bool} {rs : Sx} (hs : HS l Φ cs cv rec rs) (g : Good X W l cv Φ cs) : ∀ {ss : List Stmt} {ms : List S}, chkB rec ss ms = true → Pss X W ss (exs rs ms)
  | [], [], _ => ss_nil
  | [], _ :: _, h => by cases h
  | _ :: _, [], h => by cases h
  | s :: ss, m :: ms, h => by
    unfold chkB at h
    simp only [Bool.and_eq_true] at h
    have h1 := hs s m h.1 X W g
    have h2 := b_ok hs g h.2
    exact ss_cons h1 h2
theorem swap_name {x : Str} {px : Pos} {e : Expr} {n : Nat} {env : PySem.Env} (h : okE e = true) : (∃ elt gs sc p, e = .ListComp elt gs sc p ∧ swapsWith e (some (.Name x px)) n env = pure true) ∨ swapsWith e (some (.Name x px)) n env = pure false := by
  cases e <;> first | (exact .inr rfl) | (cases h; done) | skip
  rename_i elt gs sc p
  show _ ∨ swapsWith _ _ _ _ = _
  have key : ∃ b, swapsWith (.ListComp elt gs sc p) (some (.Name x px)) n env = pure b := ⟨_, rfl⟩
  obtain ⟨b, hb⟩ := key
  cases b with
  | true => exact .inl ⟨elt, gs, sc, p, rfl, hb⟩
  | false => exact .inr hb
theorem s_setName (hr : HR l Φ cs ce re) {x : Str} {px pos : Pos} {e : Expr} {t : T} {me : E} (h1 : ce cv e me = true) (h2 : chkT cv (.Name x px) t = true) (g : Good X W l cv Φ cs) : Ps X W (.Assign [.Name x px] e pos) (setF t (re me)) := by
  obtain ⟨oe, se⟩ := hr cv e me h1
  have sd := se X W g
  cases t with
  | tup ts => simp [chkT] at h2
  | name j =>
    simp only [chkT, Bool.and_eq_true, Bool.or_eq_true, beq_iff_eq] at h2
    obtain ⟨h3, h4, h5⟩ := h2
    have hN : X.N[j]? = some x := by rw [g.N]; exact h3
    have hf : X.fn x = true ∨ X.env.scope.names.lookup x = some .local := by
      rcases h5 with h5 | h5
      · exact .inl (g.fn x h5)
      · exact .inr (by rw [g.sc]; exact isLocal_ok h5)
    have hx : L2.Loc X.env.scope x := by rw [g.sc]; exact locl_ok h4
    rcases swap_name (x := x) (px := px) (n := pos.line) (env := X.env) oe with ⟨elt, gs, sc, p, rfl, hsw⟩ | hsw
    · by_cases hl : X.env.scope.names.lookup x = some .local
      · exact PS.mono (sd.asg elt gs sc p rfl j x px pos hN hl hsw) set_read
      · exfalso
        have hk : X.env.kindOf x ≠ some .local := hl
        have hk' : (X.env.kindOf x == some .local) = false := by
          cases q : (X.env.kindOf x == some NameKind.local) with
          | false => rfl
          | true => exact absurd (eq_of_beq q) hk
        have e0 : swapsWith (.ListComp elt gs sc p) (some (.Name x px)) pos.line X.env = pure (X.env.blockKind == .function && X.env.kindOf x == some .local && px.line == (Expr.ListComp elt gs sc p).pos.line && !(sc.names.any fun (n, k) => n == x && (k == .local || k == .cell))) := rfl
        rw [e0, hk', Bool.and_false, Bool.false_and, Bool.false_and] at hsw
        have : (pure false : Sem Bool) ≠ pure true := fun z => by
          have z' := congrArg (fun m : Sem Bool => m) z
          cases z'
        exact this hsw
    · exact s_set g.nd hN hx sd.pe hsw hf
theorem fm_len {α β : Type} {f : α → Option β} : ∀ {l : List α}, (l.filterMap f).length ≤ l.length
  | [] => by simp
  | a :: l => by
    have := fm_len (f := f) (l := l)
    rw [List.filterMap_cons]
    split <;> simp <;> omega
theorem fm_all {α β : Type} {f : α → Option β} : ∀ {l : List α}, (l.filterMap f).length = l.length → ∀ a ∈ l, (f a).isSome = true
  | [], _, a, h => absurd h (by simp)
  | x :: l, hl, a, h => by
    have hle := fm_len (f := f) (l := l)
    rw [List.filterMap_cons] at hl
    cases q : f x with
    | none => rw [q] at hl; simp at hl; omega
    | some y =>
      rw [q] at hl
      simp at hl
      rcases List.mem_cons.mp h with z | z
      · rw [z, q]; rfl
      · exact hl a z
theorem swapNo_ok {sc : Scope} {ts : List Expr} {k : Nat} {pt : Pos} {e : Expr} {env : PySem.Env} (h : swapNo sc (.Tuple ts k pt) e = true) (hsc : env.scope = sc) (he : okE e = true) : swappedStores [.Tuple ts k pt] e env = pure none := by
  cases e <;> first | rfl | (cases he; done) | skip
  rename_i vs k2 p2
  have h : (vs.all (foldedForSure 8) || ts.any (fun t => match t with
      | .Name x _ => !isLocal sc x
      | _ => true)) = true := h
  rw [Bool.or_eq_true] at h
  rcases h with h | h
  · unfold swappedStores
    dsimp only
    rw [h]
    repeat' split
    all_goals first | rfl | (exfalso; rename_i q _; exact q rfl) | (exfalso; rename_i q; exact q rfl)
  · obtain ⟨t, ht, hx⟩ := List.any_eq_true.mp h
    have key : ∀ (ln : Nat) (f : Expr → Option Str), (∀ x px, f (.Name x px) = if env.kindOf x == some .local && px.line == ln then some x else none) → (∀ e, (∀ x px, e ≠ .Name x px) → f e = none) → (ts.filterMap f).length ≠ ts.length := by
      intro ln f h1 h2 hl
      have := fm_all hl t ht
      cases t with
      | Name x px =>
        rw [h1] at this
        have hx : (!isLocal sc x) = true := hx
        have nl : env.kindOf x ≠ some .local := fun z => by
          have z : env.scope.names.lookup x = some .local := z
          rw [hsc] at z
          unfold isLocal at hx
          rw [z] at hx
          cases hx
        have : (env.kindOf x == some .local) = false := by
          cases q : (env.kindOf x == some NameKind.local) with
          | false => rfl
          | true => exact absurd (eq_of_beq q) nl
        simp_all
      | _ => rw [h2 _ (fun _ _ => Expr.noConfusion)] at this; cases this
    unfold swappedStores
    dsimp only
    split
    · rfl
    · split
      · rfl
      · split
        · rfl
        · rename_i q
          exfalso
          refine q ?_
          simp only [Bool.or_eq_true, bne_iff_ne]
          left
          refine key ((ts.head?.map (·.pos.line)).getD 0) _ (fun _ _ => rfl) (fun e he => ?_)
          cases e <;> first | rfl | exact absurd rfl (he _ _)
theorem sole_ok {ts : List Expr} {k : Nat} {pt : Pos} {e : Expr} {n : Nat} {env : PySem.Env} (he : okE e = true) : swapsWithSole [.Tuple ts k pt] e n env = pure false := by
  cases e <;> first | rfl | (cases he; done)
theorem bk_fun {env : PySem.Env} (h : env.scope.kind = .function) : env.blockKind = .function := by
  unfold Env.blockKind
  rw [h]; rfl
theorem par2_ok {env : PySem.Env} {x y : Str} {px py pt : Pos} {kt k2 : Nat} {pt2 : Pos} {a b : Expr} (hk : env.scope.kind = .function) (hx : env.scope.names.lookup x = some .local) (hy : env.scope.names.lookup y = some .local) (hxy : (x == y) = false) (hl : px.line = py.line)
    (ha : okE a = true) (hb : okE b = true) (hf : [a, b].all (foldedForSure 8) = false) (hc : [a, b].all (constantsAlone 8) = false) :
    swappedStores [.Tuple [.Name x px, .Name y py] kt pt] (.Tuple [a, b] k2 pt2) env = pure (some [x, y]) := by
  have kx : env.kindOf x = some .local := hx
  have ky : env.kindOf y = some .local := hy
  have hyx : (y == x) = false := by
    cases q : (y == x) with
    | false => rfl
    | true => rw [eq_of_beq q] at hxy; simp at hxy
  have e3 : [x, y].eraseDups = [x, y] := by simp [List.eraseDups, List.eraseDupsBy, List.eraseDupsBy.loop, hyx]
  have e2 : ∀ f : Expr → Option Str, f (.Name x px) = some x → f (.Name y py) = some y → [Expr.Name x px, Expr.Name y py].filterMap f = [x, y] := fun f h1 h2 => by simp [h1, h2]
  have e4 : ∀ f : Expr → Bool, f a = false → f b = false → [a, b].any f = false := fun f h1 h2 => by simp [h1, h2]
  unfold swappedStores
  dsimp only
  rw [e2 _ (by simp [kx]; rfl) (by simp [ky]; exact hl.symm), e4 _ (by cases a <;> first | rfl | (cases ha; done)) (by cases b <;> first | rfl | (cases hb; done)), e3, hf, hc]
  split
  · rename_i h; exfalso; revert h; rw [bk_fun hk]; intro h; cases h
  · rfl
theorem par3_ok {env : PySem.Env} {x y z : Str} {px py pz pt : Pos} {kt k2 : Nat} {pt2 : Pos} {a b c : Expr} (hk : env.scope.kind = .function) (hx : env.scope.names.lookup x = some .local) (hy : env.scope.names.lookup y = some .local) (hz : env.scope.names.lookup z = some .local)
    (hxy : (x == y) = false) (hxz : (x == z) = false) (hyz : (y == z) = false) (hl : px.line = py.line) (hl2 : px.line = pz.line)
    (ha : okE a = true) (hb : okE b = true) (hc' : okE c = true) (hf : [a, b, c].all (foldedForSure 8) = false) (hc : [a, b, c].all (constantsAlone 8) = false) :
    swappedStores [.Tuple [.Name x px, .Name y py, .Name z pz] kt pt] (.Tuple [a, b, c] k2 pt2) env = pure (some [x, y, z]) := by
  have kx : env.kindOf x = some .local := hx
  have ky : env.kindOf y = some .local := hy
  have kz : env.kindOf z = some .local := hz
  have sym : ∀ {u w : Str}, (u == w) = false → (w == u) = false := fun {u w} h => by
    cases q : (w == u) with
    | false => rfl
    | true => rw [eq_of_beq q] at h; simp at h
  have e3 : [x, y, z].eraseDups = [x, y, z] := by simp [List.eraseDups, List.eraseDupsBy, List.eraseDupsBy.loop, sym hxy, sym hxz, sym hyz]
  have e2 : ∀ f : Expr → Option Str, f (.Name x px) = some x → f (.Name y py) = some y → f (.Name z pz) = some z → [Expr.Name x px, Expr.Name y py, Expr.Name z pz].filterMap f = [x, y, z] := fun f h1 h2 h3 => by simp [h1, h2, h3]
  have e4 : ∀ f : Expr → Bool, f a = false → f b = false → f c = false → [a, b, c].any f = false := fun f h1 h2 h3 => by simp [h1, h2, h3]
  unfold swappedStores
  dsimp only
  rw [e2 _ (by simp [kx]; rfl) (by simp [ky]; exact hl.symm) (by simp [kz]; exact hl2.symm), e4 _ (by cases a <;> first | rfl | (cases ha; done)) (by cases b <;> first | rfl | (cases hb; done)) (by cases c <;> first | rfl | (cases hc'; done)), e3, hf, hc]
  split
  · rename_i h; exfalso; revert h; rw [bk_fun hk]; intro h; cases h
  · rfl
end Ev

set_option Elab.async false
set_option linter.all false
set_option maxRecDepth 100000
set_option maxHeartbeats 1000000
namespace Ev
open PySem PySem.Spec PyProof.Rows L2
variable {X : Cx} {W : XW} {l : Nat} {cv : Cv} {Φ : Fns} {cs : Consts} {n k : Nat}
theorem two_args {a b : Expr} {ma mb : E} (h1 : chk n cv a ma = true) (h2 : chk n cv b mb = true) (g : Good X W l cv Φ cs) : okE a = true ∧ okE b = true ∧ Pl X W [a, b] (evs (ev Φ cs k) [ma, mb]) := by
  obtain ⟨oa, sa⟩ := chk_ok l Φ cs n k cv a ma h1
  obtain ⟨ob, sb⟩ := chk_ok l Φ cs n k cv b mb h2
  exact ⟨oa, ob, l_cons (sa X W g).pe (l_cons (sb X W g).pe l_nil (ok_star ob)) (ok_star oa)⟩
theorem three_args {a b c : Expr} {ma mb mc : E} (h1 : chk n cv a ma = true) (h2 : chk n cv b mb = true) (h3 : chk n cv c mc = true) (g : Good X W l cv Φ cs) : okE a = true ∧ okE b = true ∧ okE c = true ∧ Pl X W [a, b, c] (evs (ev Φ cs k) [ma, mb, mc]) := by
  obtain ⟨oa, sa⟩ := chk_ok l Φ cs n k cv a ma h1
  obtain ⟨ob, oc, pl⟩ := two_args (k := k) h2 h3 g
  exact ⟨oa, ob, oc, l_cons (sa X W g).pe pl (ok_star oa)⟩
theorem neq_of {N : List Str} {j k : Nat} {x y : Str} (h1 : N[j]? = some x) (h2 : N[k]? = some y) (h : (x == y) = false) : j ≠ k := fun e => by
  subst e
  rw [h1] at h2; cases h2
  simp at h
theorem s_chkPar {tg e : Expr} {t : T} {me : E} {pos : Pos} (h : chkPar cv (chk n cv) tg e t me = true) (g : Good X W l cv Φ cs) : Ps X W (.Assign [tg] e pos) (setF t (ev Φ cs k me)) := by
  cases k with
  | zero => exact s_never fun env st => rfl
  | succ k =>
  unfold chkPar at h
  split at h
  · rename_i x px y py kt pt a b k2 pt2 j i ma mb
    simp only [Bool.and_eq_true, beq_iff_eq, Bool.not_eq_true'] at h
    obtain ⟨h0, h1, h2, h3, h4, h5, h6, h7, h8, h9, h10⟩ := h
    obtain ⟨oa, ob, pl⟩ := two_args (k := k) h9 h10 g
    have hx := isLocal_ok h4
    have hy := isLocal_ok h5
    rw [← g.sc] at hx hy h0
    rw [← g.N] at h1 h2
    exact s_par g.calm g.nd h1 h2 (neq_of h1 h2 h3) hx hy pl (par2_ok h0 hx hy h3 h6 oa ob h7 h8) rfl
  · rename_i x px y py z pz kt pt a b c k2 pt2 j i l' ma mb mc
    simp only [Bool.and_eq_true, beq_iff_eq, Bool.not_eq_true'] at h
    obtain ⟨h0, h1, h2, h3, q1, q2, q3, r1, r2, r3, p1, p2, h7, h8, h9, h10, h11⟩ := h
    obtain ⟨oa, ob, oc, pl⟩ := three_args (k := k) h9 h10 h11 g
    have hx := isLocal_ok r1
    have hy := isLocal_ok r2
    have hz := isLocal_ok r3
    rw [← g.sc] at hx hy hz h0
    rw [← g.N] at h1 h2 h3
    exact s_par3 g.calm g.nd h1 h2 h3 (neq_of h1 h2 q1) (neq_of h1 h3 q2) (neq_of h2 h3 q3) hx hy hz pl (par3_ok h0 hx hy hz q1 q2 q3 p1 p2 oa ob oc h7 h8) rfl
  · cases h
theorem s_chkSet {tg e : Expr} {t : T} {me : E} {pos : Pos} (h : chkSet cv (chk n) tg e t me = true) (g : Good X W l cv Φ cs) : Ps X W (.Assign [tg] e pos) (setF t (ev Φ cs k me)) := by
  unfold chkSet at h
  split at h
  · simp only [Bool.and_eq_true] at h
    exact s_setName (chk_ok l Φ cs n k) h.1 h.2 g
  · simp only [Bool.or_eq_true, Bool.and_eq_true] at h
    rcases h with ⟨h1, h2, h3⟩ | h
    · obtain ⟨oe, se⟩ := chk_ok l Φ cs n k cv e me h1
      exact s_asg (se X W g).pe (t_ok g h2) (sole_ok oe) (swapNo_ok h3 g.sc oe) rfl
    · exact s_chkPar h g
  · cases h
theorem sub_sole {o i e : Expr} {p : Pos} {n : Nat} {env : PySem.Env} (he : okE e = true) (hc : isComp e = false) : swapsWithSole [.Subscript o i p] e n env = pure false := by
  cases e <;> first | rfl | (cases hc; done) | (cases he; done)
theorem not_slice {i : Expr} (h : okE i = true) : ∀ (X : Cx) (o : Expr) (p : Pos) v, assign (.Subscript o i p) X.env v = (do
      let ov ← holding [v] (eval o X.env)
      let iv ← holding [v, ov] (eval i X.env)
      standAt p
      holding [v, ov, iv] (setItem ov iv v)
      release [v, ov, iv] []) := by
  cases i <;> first | (intros; rfl) | (cases h; done)
theorem ss_step {rec : Stmt → S → Bool} {rs : Sx} (hs : HS l Φ cs cv rec rs) {s : Stmt} {m : S} (h : chkSs cv (chk n) rec s m = true) (g : Good X W l cv Φ cs) : Ps X W s (exStep (ev Φ cs k) rs m) := by
  have ce := chk_ok l Φ cs n k
  cases m with
  | bad => exact s_never fun _ _ => rfl
  | set t me =>
    dsimp only [chkSs] at h
    split at h
    · exact s_chkSet h g
    · cases h
  | sub mo mi me =>
    dsimp only [chkSs] at h
    split at h
    · rename_i o i p e pos
      simp only [Bool.and_eq_true, Bool.not_eq_true'] at h
      obtain ⟨h1, h2, h3, h4⟩ := h
      obtain ⟨oe, se⟩ := ce cv e me h4
      obtain ⟨oi, si⟩ := ce cv i mi h3
      obtain ⟨oo, so⟩ := ce cv o mo h2
      exact s_sub (se X W g).pe (so X W g).pe (si X W g).pe (sub_sole oe h1) rfl rfl (not_slice oi X o p)
    · cases h
  | ex me =>
    dsimp only [chkSs] at h
    split at h
    · rename_i e pos
      simp only [Bool.and_eq_true, Bool.not_eq_true'] at h
      obtain ⟨oe, se⟩ := ce cv e me h.2
      exact s_ex (se X W g).pe (ok_swap oe h.1)
    · cases h
  | ret me =>
    dsimp only [chkSs] at h
    split at h
    · exact s_ret ((ce cv _ me h).2 X W g).pe
    · cases h
  | retN =>
    dsimp only [chkSs] at h
    split at h
    · exact s_retN
    · cases h
  | cond c a b =>
    dsimp only [chkSs] at h
    split at h
    · simp only [Bool.and_eq_true] at h
      exact s_if ((ce cv _ c h.1).2 X W g).pt (b_ok hs g h.2.1) (b_ok hs g h.2.2)
    · cases h
  | «for» t mi b =>
    dsimp only [chkSs] at h
    split at h
    · simp only [Bool.and_eq_true] at h
      obtain ⟨oi, hi⟩ := i_ok ce h.1
      exact s_for g.po g.calm (hi X W g) (t_ok g h.2.1) (b_ok hs g h.2.2) (ok_fold oi)
    · cases h
  | «while» c b =>
    dsimp only [chkSs] at h
    split at h
    · simp only [Bool.and_eq_true] at h
      exact s_while g.po ((ce cv _ c h.1).2 X W g).pt (b_ok hs g h.2)
    · cases h
  | raise x =>
    dsimp only [chkSs] at h
    split at h
    · rename_i y p m j p2 q pos
      simp only [Bool.and_eq_true, beq_iff_eq] at h
      obtain ⟨rfl, h1, h2, h3⟩ := h
      obtain ⟨C, B, n1, n2, bm, a, b, c, d, e⟩ := (g.exc y (List.contains_iff_mem.mp h3)).ex
      exact s_raise g.calm g.tk a b c d e (g.gl h1) (plain_ok h2).1
    · cases h
  | pass =>
    dsimp only [chkSs] at h
    split at h
    · exact s_pass
    · cases h
  | brk =>
    dsimp only [chkSs] at h
    split at h
    · exact s_brk
    · cases h
  | cont =>
    dsimp only [chkSs] at h
    split at h
    · exact s_cont
    · cases h
theorem ex_zero (ee : Ex) (m : S) : ∀ env st, ex ee 0 m env st = .bad := fun _ _ => rfl
theorem chkS_ok (l : Nat) (Φ : Fns) (cs : Consts) (cv : Cv) (n k : Nat) : ∀ a b, HS l Φ cs cv (chkS cv (chk n) a) (ex (ev Φ cs k) b)
  | 0, b => fun s m h => by cases h
  | a + 1, 0 => fun s m h X W g => s_never (ex_zero _ m)
  | a + 1, b + 1 => fun s m h X W g => ss_step (chkS_ok l Φ cs cv n k a b) h g
theorem body_ok {body : List Stmt} {ms : List S} (h : chkBody cv body ms = true) (g : Good X W l cv Φ cs) (k b : Nat) : Pss X W body (exs (ex (ev Φ cs k) b) ms) := b_ok (chkS_ok l Φ cs cv 60 k 60 b) g h
end Ev

set_option Elab.async false
set_option linter.all false
set_option maxRecDepth 100000
set_option maxHeartbeats 1000000
namespace Ev
open PySem PySem.Spec PyProof.Rows L2
variable {K : PySem.W.Frag}
/-! ### a def by its body -/
theorem trunc_ok {E : Str → Hp → Prop} {ρ ρ' : Rho} {H H' : Hp} {st' : Store} {v : D} {w : V} {Q : VK} (p : PostE K E ρ H (trunc ρ.cells.length v st') Q) (e : Ext ρ H ρ' H') (s : StR K ρ' H' st') (r : Rp K ρ' H' v w) : Q w H' := by
  unfold trunc at p
  split at p
  · exact p w ρ' H' e s r
  · split at p
    · rename_i h
      simp only [Bool.and_eq_true] at h
      exact p w (ρ'.take ρ.cells.length) H' e.cut (s.cut e.len h.2) (r.cut 40 v w h.1 e.len)
    · exact p w ρ' H' e s r
theorem env_start {ρ : Rho} {H : Hp} {ds : List D} {vs : List V} {d : FD} (r : Rps K ρ H ds vs) : EnvR K ρ H (startE d ds) (L2.start d.N vs) := by
  have hl := r.length
  refine ⟨by unfold startE L2.start; simp [hl], fun i x h => ?_⟩
  unfold startE at h
  have hi : i < ds.length := by
    by_cases hi : i < ds.length
    · exact hi
    · rw [List.getElem?_append_right (by simpa using hi), List.getElem?_replicate] at h
      split at h <;> cases h
  rw [List.getElem?_append_left (by simpa using hi), List.getElem?_map] at h
  cases q : ds[i]? with
  | none => rw [q] at h; cases h
  | some y =>
    rw [q] at h; cases h
    obtain ⟨v, hv, rv⟩ := r.get q
    refine ⟨v, ?_, rv⟩
    unfold L2.start
    rw [List.getElem?_append_left (by simp; omega), List.getElem?_map, hv]
    rfl
theorem end_ok {E : Str → Hp → Prop} {W : XW} {ρ : Rho} {H : Hp} {n : Nat} {r : R F} {Q : VK} (hn : n = ρ.cells.length) (hW : ∀ σ x H, E x H → W σ x H) (p : PostE K E ρ H (endF n r) Q) : PostS K W { nx := fun _ H' => Q .non H', rt := Q } ρ H r := by
  subst hn
  cases r with
  | ok f st' =>
    cases f with
    | next env' => exact fun σ' ρ' H' e s _ => trunc_ok (v := .non) p e s rfl
    | ret d => exact fun v ρ' H' e s r => trunc_ok (v := d) p e s r
    | brk env' => exact p.elim
    | cont env' => exact p.elim
  | exc x st' => exact fun σ' ρ' H' e s => hW _ _ _ (p ρ' H' e s)
  | bad => exact p
structure Df where
  name : Str
  st : Stmt
  fd : FD
def tabOf (l : List Df) : Tab := l.map fun d => (d.name, d.fd)
def fnsOf (l : List Df) : List (Str × Nat) := l.map fun d => (d.name, d.fd.ps.length)
theorem look_df : ∀ {l : List Df} {x : Str} {fd : FD}, (tabOf l).lookup x = some fd → ∃ d ∈ l, d.name = x ∧ d.fd = fd
  | [], _, _, h => by simp [tabOf] at h
  | d :: l, x, fd, h => by
    unfold tabOf at h
    rw [List.map_cons, List.lookup_cons] at h
    split at h
    · rename_i q
      cases h
      exact ⟨d, List.mem_cons_self, (eq_of_beq q).symm, rfl⟩
    · obtain ⟨d', h1, h2⟩ := look_df (l := l) h
      exact ⟨d', List.mem_cons_of_mem _ h1, h2⟩
theorem look_fn : ∀ {l : List Df} {x : Str} {n : Nat}, (fnsOf l).lookup x = some n → ∃ fd, (tabOf l).lookup x = some fd ∧ fd.ps.length = n
  | [], _, _, h => by simp [fnsOf] at h
  | d :: l, x, n, h => by
    unfold fnsOf at h
    unfold tabOf
    rw [List.map_cons, List.lookup_cons] at h ⊢
    split at h
    · rename_i q
      cases h
      exact ⟨d.fd, rfl, rfl⟩
    · exact look_fn (l := l) h
/-- positional parameters, no more -/
def BindOk (params : Arguments) (ps : List Str) : Prop := ∀ (x qual : Str) (body : List Stmt) (scope : Scope) (kV doc pm : Value) (an : Option Addr) (cdv ct : Value) (us : List Value), us.length = ps.length →
  bindArgs (PySem.W.fnOf x qual params body scope .none kV doc pm an cdv ct) ⟨us, []⟩ = pure (ps.zip us)
def scopeB (N ps : List Str) (sc : Scope) : Bool :=
  sc.kind == .function && (!sc.isCoroutine && (!sc.isGenerator && (decide N.Nodup && (N.take ps.length == ps && (ps.all (fun x => locl sc x) && sc.names.all (fun y => !(y.2 == .free)))))))
theorem scope_ok {N ps : List Str} {sc : Scope} (h : scopeB N ps sc = true) : FnScope N ps sc := by
  unfold scopeB at h
  simp only [Bool.and_eq_true, beq_iff_eq, Bool.not_eq_true', decide_eq_true_eq] at h
  obtain ⟨h1, h2, h3, h4, h5, h6, h7⟩ := h
  refine ⟨h1, h2, h3, h4, h5, fun x hx => locl_ok (List.all_eq_true.mp h6 x hx), fun y hy e => ?_⟩
  have := List.all_eq_true.mp h7 y hy
  rw [e] at this
  cases this
abbrev cvOf (l : List Df) (exc : List Str) (d : Df) : Cv := { N := d.fd.N, scope := defScope d.st, fs := none, fns := fnsOf l, exc := exc }
def dfB (l : List Df) (exc : List Str) (d : Df) : Bool := scopeB d.fd.N d.fd.ps (defScope d.st) && chkBody (cvOf l exc d) (defBody d.st) d.fd.body
/-- what the head tells of the module -/
structure Mf (K : PySem.W.Frag) (mg : Str → Option Value) (l : List Df) (exc : List Str) (cs : Consts) : Prop where
  fn : ∀ d ∈ l, ∃ f fd, FunD K d.name d.name (defArgs d.st) (defBody d.st) (defScope d.st) [] [] f fd ∧ mg d.name = some (.ref f)
  blt : ∀ x ∈ bltNames, mg x = none
  cons : ∀ x d, cs.lookup x = some d → ∃ v u, mg x = some u ∧ RelV v u ∧ ∀ ρ H, Rp K ρ H d v
  exc : ∀ x ∈ exc, ∃ C, mg x = some (.ref C) ∧ PySem.W.excIn K C He.veBase "ValueError.__new__" = true ∧ PySem.W.keepIn K (.ref C) = true ∧ PySem.W.subIn K (.ref C) (.type "BaseException") = some true ∧ PySem.W.typeIn K (.ref C) = some (.type "type")
theorem phi_bad {tab : Tab} {cs : Consts} (x : Str) (ds : List D) (st : Store) : phi tab cs 0 x ds st = .bad := rfl
theorem sp_len {mg : Str → Option Value} {ar : Nat} {g : List D → Store → R D} {ps : List Str} (h : ar = ps.length) : ∀ vs H Q E, spF K mg ar g vs H Q E → vs.length = ps.length := fun vs H Q E ⟨ρ, st, ds, _, r, hl, _⟩ => by rw [← r.length, hl, h]
theorem fns_ok {P : Program} {w : World} {mg : Str → Option Value} {base : Heap} {l : List Df} {exc : List Str} {cs : Consts} (M : Mf K mg l exc cs) (hb : l.all (dfB l exc) = true) (hp : ∀ d ∈ l, BindOk (defArgs d.st) d.fd.ps) :
    ∀ (n : Nat) (q : Df), q ∈ l → (tabOf l).lookup q.name = some q.fd → ∀ f fd, FunD K q.name q.name (defArgs q.st) (defBody q.st) (defScope q.st) [] [] f fd →
      FnOk P w K mg base (L2.CX P w) n f fd q.fd.ps (spF K mg q.fd.ps.length (phi (tabOf l) cs n q.name))
  | 0, q, hq, hd, f, fd, F => ⟨sp_len rfl, fun A outer s H args us vs Q E _ _ _ _ ⟨ρ, st, ds, _, _, _, p⟩ => p.elim⟩
  | n + 1, q, hq, hd, f, fd, F => by
    have hB := List.all_eq_true.mp hb q hq
    unfold dfB at hB
    simp only [Bool.and_eq_true] at hB
    have S := scope_ok hB.1
    refine F.ok S (sp_len rfl) (fun cdv A outer s H vs Q E hr hsp => ?_)
    obtain ⟨ρ, st, ds, sr, r, hl, p⟩ := hsp
    have hphi : phi (tabOf l) cs (n + 1) q.name ds st = endF st.length (exs (ex (ev (phi (tabOf l) cs n) cs q.fd.fuel) q.fd.fuel) q.fd.body (startE q.fd ds) st) := by
      show (match lookF (tabOf l) q.name with
        | some d => runF (phi (tabOf l) cs n) cs d ds st
        | none => .bad) = _
      have e : lookF (tabOf l) q.name = some q.fd := hd
      rw [e]
      show (if ds.length = q.fd.ps.length then _ else _) = _
      rw [if_pos hl]
    rw [hphi] at p
    have G : Good (cxOf (L2.CX P w) P w K mg base q.fd.N q.name (defScope q.st) f cdv A outer s H E) (fun _ x H => ∀ C, mg x = some (.ref C) → E (.ref C) none H) n (cvOf l exc q) (phi (tabOf l) cs n) cs :=
      { calm := rfl
        nd := S.nd
        N := rfl
        sc := rfl
        room := hr
        fn := fun _ _ => rfl
        blt := M.blt
        cons := M.cons
        fns := fun x ar hx => by
          obtain ⟨d', h1, h2⟩ := look_fn hx
          subst h2
          obtain ⟨q', hq', rfl, rfl⟩ := look_df h1
          obtain ⟨f', fd', F', hm'⟩ := M.fn q' hq'
          exact ⟨f', fd', q'.fd.ps, fns_ok M hb hp n q' hq' h1 f' fd' F', hm', F'.kp, F'.bindsN (hp q' hq' q'.name q'.name _ _)⟩
        exc := fun x hx => by
          obtain ⟨C, a, b, c, d, e⟩ := M.exc x hx
          exact ⟨C, _, _, _, _, PySem.F.excBase_ValueError, b, a, c, raises_own d e⟩
        po := passes_of rfl
        tk := (takes_of rfl rfl rfl rfl).imp fun cls d σ H ⟨x, C, h1, h2, h3, h4⟩ => by
          subst h1; subst h2
          exact h4 C h3 }
    refine ⟨_, body_ok hB.2 G q.fd.fuel q.fd.fuel, ρ, startE q.fd ds, st, env_start r, sr, ?_⟩
    exact end_ok sr.len (fun σ x H h => h) p
/-- nothing is let out -/
theorem calm_fn {P : Program} {w : World} {mg : Str → Option Value} {base : Heap} {k : Nat} {f : Addr} {fd : FuncData} {ps : List Str} {sp : Sp} (F : FnOk P w K mg base (L2.CX P w) k f fd ps sp) : FnOk P w K mg base CX0 k f fd ps (fun vs H Q _ => sp vs H Q fun _ _ _ => False) :=
  ⟨fun vs H Q E h => F.len _ _ _ _ h, fun A outer s H args us vs Q E hr e0 hb hv h => codeAny_mono (F.run A outer s H args us vs Q _ hr e0 hb hv h) fun r s' hq => by
    cases r with
    | error e =>
      obtain ⟨_, _, _, _, _, _, _, _, _, _, _, _, z⟩ := hq
      exact z.elim
    | ok fl => cases fl <;> exact hq⟩
/-! ### the law -/
theorem scr_of {H : Hp} {a : Addr} {ns : List Int} (hO : Only H) (hS : SqL K H a (ns.map V.int)) : Rp K ⟨[], []⟩ H (.scr ns) (.ref a) := by
  refine ⟨a, rfl, ?_⟩
  rcases hS with h | h
  · rcases h with h | ⟨o, h⟩
    · rcases hO a with q | ⟨o, xs, q⟩
      · rw [q] at h; cases h
      · rw [q] at h; cases h
    · exact .inl ⟨o, h, by simp [Rho.off]⟩
  · exact .inr fun H' => .inr h
theorem law_sp {mg : Str → Option Value} {g : List D → Store → R D} {H : Hp} {a : Addr} {ns : List Int} (hO : Only H) (hS : SqL K H a (ns.map V.int)) (hg : ∃ st, g [.scr ns] [] = .ok (.bl true) st) :
    spF K mg 1 g [.ref a] H (fun v _ => v = .bl true) fun _ _ _ => False := by
  obtain ⟨st, hg⟩ := hg
  refine ⟨⟨[], []⟩, [], [.scr ns], ⟨rfl, fun k a h => by simp at h, fun j k a h => by simp at h, fun k l h => by simp at h, fun a h => by simp at h⟩, .cons (scr_of hO hS) .nil, rfl, ?_⟩
  rw [hg]
  exact fun v ρ' H' _ _ r => r
end Ev

set_option Elab.async false
set_option linter.all false
set_option maxRecDepth 100000
set_option maxHeartbeats 1000000
namespace Ev
open PySem PySem.Spec PyProof.Rows L2
/-! ### what the head is asked -/
def dOf (d : Df) : He.DefD := ⟨(d.name, none), d.name, d.name, defArgs d.st, defBody d.st, defScope d.st, [], []⟩
abbrev Ints := List (Str × Int)
def csOf (l : Ints) : Consts := l.map fun q => (q.1, .int q.2)
def faOf (l : List Df) (exc : List Str) (cs : Ints) : List He.Fa := (l.map fun d => He.Fa.glo d.name) ++ ((bltNames.map He.Fa.free) ++ ((exc.map He.Fa.exc) ++ ((exc.map He.Fa.glo) ++ (cs.map fun q => He.Fa.int q.1 q.2))))
theorem look_cs : ∀ {l : Ints} {x : Str} {d : D}, (csOf l).lookup x = some d → ∃ i, (x, i) ∈ l ∧ d = .int i
  | [], _, _, h => by simp [csOf] at h
  | q :: l, x, d, h => by
    unfold csOf at h
    rw [List.map_cons, List.lookup_cons] at h
    split at h
    · rename_i e
      cases h
      exact ⟨q.2, by rw [eq_of_beq e]; exact List.mem_cons_self, rfl⟩
    · obtain ⟨i, h1, h2⟩ := look_cs (l := l) h
      exact ⟨i, List.mem_cons_of_mem _ h1, h2⟩
theorem mf_of {K : PySem.W.Frag} {h : Heap} {mg : Str → Option Value} {l : List Df} {exc : List Str} {cs : Ints} (X : K.In h) (G : h.Ns mainGlobals mg) (c : He.SaysD (faOf l exc cs) (l.map dOf) K) : Mf K mg l exc (csOf cs) where
  fn := fun d hd => by
    obtain ⟨fd, F⟩ := c.defs (d := dOf d) (List.mem_map.mpr ⟨d, hd, rfl⟩)
    exact ⟨_, fd, F, He.glo_ok X G (c.facts (f := .glo d.name) (by unfold faOf; exact List.mem_append_left _ (List.mem_map.mpr ⟨d, hd, rfl⟩)))⟩
  blt := fun x hx => He.free_ok X G (c.facts (f := .free x) (by unfold faOf; exact List.mem_append_right _ (List.mem_append_left _ (List.mem_map.mpr ⟨x, hx, rfl⟩))))
  cons := fun x d hd => by
    obtain ⟨i, hi, rfl⟩ := look_cs hd
    obtain ⟨t, e⟩ := He.int_ok X G (c.facts (f := .int x i) (by unfold faOf; exact List.mem_append_right _ (List.mem_append_right _ (List.mem_append_right _ (List.mem_append_right _ (List.mem_map.mpr ⟨(x, i), hi, rfl⟩))))))
    exact ⟨.int i, _, e, ⟨t, rfl⟩, fun _ _ => rfl⟩
  exc := fun x hx => by
    have a := He.exc_ok (c.facts (f := .exc x) (by unfold faOf; exact List.mem_append_right _ (List.mem_append_right _ (List.mem_append_left _ (List.mem_map.mpr ⟨x, hx, rfl⟩)))))
    have b := He.glo_ok X G (c.facts (f := .glo x) (by unfold faOf; exact List.mem_append_right _ (List.mem_append_right _ (List.mem_append_right _ (List.mem_append_left _ (List.mem_map.mpr ⟨x, hx, rfl⟩))))))
    exact ⟨_, b, a.1, a.2.1, a.2.2.1, a.2.2.2⟩
theorem law_F {P : Program} {w : World} {K : PySem.W.Frag} {h : Heap} {mg : Str → Option Value} {l : List Df} {exc : List Str} {cs : Ints} {n N : Nat} {fa : Addr} (q : Df) (hb : l.all (dfB l exc) = true) (hp : ∀ d ∈ l, BindOk (defArgs d.st) d.fd.ps)
    (X : K.In h) (G : h.Ns mainGlobals mg) (c : He.SaysD (faOf l exc cs) (l.map dOf) K) (hq : q ∈ l) (hn : q.name = "law") (hlk : (tabOf l).lookup q.name = some q.fd) (hps : q.fd.ps = [("script" : Str)]) (hmg : mg "law" = some (.ref fa))
    (hlaw : ∀ ns : List Int, ns.length ≤ N → ∃ st, phi (tabOf l) (csOf cs) n "law" [.scr ns] [] = .ok (.bl true) st) :
    ∃ (K : PySem.W.Frag) (fd : FuncData) (sp : Sp), K.In h ∧ (∀ (s : Shared) (u : Value), BindsTo s fd ⟨[u], []⟩ [(("script" : Str), u)]) ∧
      (∀ (H : Hp) (a : Addr) (ns : List Int), ns.length ≤ N → Only H → SqL K H a (ns.map V.int) → sp [.ref a] H (fun v _ => v = .bl true) fun _ _ _ => False) ∧
      ∀ base : Heap, K.In base → base.Ns mainGlobals mg → FnOk P w K mg base CX0 n fa fd [("script" : Str)] sp := by
  have M := mf_of X G c
  obtain ⟨f, fd, F, hm⟩ := M.fn q hq
  have e := (by rw [hn] at hm; exact hm : mg "law" = some (.ref f)).symm.trans hmg
  cases e
  have b := FunD.bindsA (ps := q.fd.ps) F (hp q hq q.name q.name _ _)
  refine ⟨K, fd, fun vs H Q _ => spF K mg q.fd.ps.length (phi (tabOf l) (csOf cs) n q.name) vs H Q fun _ _ _ => False, X, fun s v => ?_, fun H a ns hl hO hS => ?_, fun base _ _ => ?_⟩
  · have := b s [v] (by rw [hps]; rfl)
    rw [hps] at this
    exact this
  · rw [hps, hn]
    exact law_sp hO hS (hlaw ns hl)
  · have := calm_fn (fns_ok (P := P) (w := w) (base := base) M hb hp n q hq hlk _ fd F)
    rw [hps] at this ⊢
    exact this
end Ev

set_option Elab.async false
set_option linter.all false
set_option maxRecDepth 100000
set_option maxHeartbeats 1000000
/-! the evaluator's equations for simp; loops and comprehensions by what one turn does -/
namespace Lw
open Ev
open PySem (Str)
section
variable {Φ : Fns} {cs : Consts} {n : Nat} {env : Env} {st : Store}
@[simp] theorem R.bind_ok {α β : Type} (a : α) (st : Store) (f : α → Store → R β) : (R.ok a st).bind f = f a st := (rfl)
@[simp] theorem R.bind_exc {α β : Type} (x : Str) (st : Store) (f : α → Store → R β) : (R.exc x st : R α).bind f = .exc x st := (rfl)
@[simp] theorem R.bind_bad {α β : Type} (f : α → Store → R β) : (R.bad : R α).bind f = .bad := (rfl)
@[simp] theorem R.calm_ok {α : Type} (a : α) (st : Store) : (R.ok a st).calm = .ok a st := (rfl)
@[simp] theorem R.of_some {α : Type} (a : α) (st : Store) : R.of (some a) st = .ok a st := (rfl)
@[simp] theorem evs_nil (rec : Ex) : evs rec [] env st = .ok [] st := (rfl)
@[simp] theorem evs_cons (rec : Ex) (e : E) (r : List E) : evs rec (e :: r) env st = (rec e env st).bind fun d st1 => (evs rec r env st1).bind fun ds st2 => .ok (d :: ds) st2 := (rfl)
@[simp] theorem ev_con (d : D) : ev Φ cs (n+1) (.con d) env st = .ok d st := (rfl)
@[simp] theorem ev_var (i : Nat) : ev Φ cs (n+1) (.var i) env st = match env[i]? with
    | some (some d) => .ok d st
    | _ => .bad := (rfl)
@[simp] theorem ev_glob (x : Str) : ev Φ cs (n+1) (.glob x) env st = R.of (cs.lookup x) st := (rfl)
@[simp] theorem ev_tup (l : List E) : ev Φ cs (n+1) (.tup l) env st = (evs (ev Φ cs n) l env st).bind fun ds st1 => .ok (.tup ds) st1 := (rfl)
@[simp] theorem ev_lst (l : List E) : ev Φ cs (n+1) (.lst l) env st = (evs (ev Φ cs n) l env st).bind fun ds st1 => .ok (.lst ds) st1 := (rfl)
@[simp] theorem ev_cel (l : List E) : ev Φ cs (n+1) (.cel l) env st = (evs (ev Φ cs n) l env st).bind fun ds st1 => .ok (.ref st1.length) (st1 ++ [.lst ds]) := (rfl)
@[simp] theorem ev_bin (op : PySem.Operator) (a b : E) : ev Φ cs (n+1) (.bin op a b) env st = (ev Φ cs n a env st).bind fun x st1 => (ev Φ cs n b env st1).bind fun y st2 => binop op x y st2 := (rfl)
@[simp] theorem ev_neg (a : E) : ev Φ cs (n+1) (.neg a) env st = (ev Φ cs n a env st).bind fun x st1 => match x with
    | .int i => .ok (.int (-i)) st1
    | _ => .bad := (rfl)
@[simp] theorem ev_not (a : E) : ev Φ cs (n+1) (.not a) env st = (ev Φ cs n a env st).bind fun x st1 => match truth x st1 with
    | some b => .ok (.bl (!b)) st1
    | none => .bad := (rfl)
@[simp] theorem ev_and (a b : E) : ev Φ cs (n+1) (.and a b) env st = (ev Φ cs n a env st).bind fun x st1 => match truth x st1 with
    | some k => if k = true then ev Φ cs n b env st1 else .ok x st1
    | none => .bad := (rfl)
@[simp] theorem ev_or (a b : E) : ev Φ cs (n+1) (.or a b) env st = (ev Φ cs n a env st).bind fun x st1 => match truth x st1 with
    | some k => if k = true then .ok x st1 else ev Φ cs n b env st1
    | none => .bad := (rfl)
@[simp] theorem ev_cmp (op : PySem.CmpOp) (a b : E) : ev Φ cs (n+1) (.cmp op a b) env st = (ev Φ cs n a env st).bind fun x st1 => (ev Φ cs n b env st1).bind fun y st2 => cmpop op x y st2 := (rfl)
def andB (k : D) (st : Store) (f : R D) : R D := match k with
  | .bl true => f
  | .bl false => .ok (.bl false) st
  | _ => .bad
@[simp] theorem andB_bl (b : Bool) (st : Store) (f : R D) : andB (.bl b) st f = if b = true then f else .ok (.bl false) st := by cases b <;> rfl
@[simp] theorem ev_cmp2 (op op2 : PySem.CmpOp) (a b c : E) : ev Φ cs (n+1) (.cmp2 op op2 a b c) env st = (ev Φ cs n a env st).bind fun x st1 => (ev Φ cs n b env st1).bind fun y st2 => (cmpop op x y st2).bind fun k st3 =>
    andB k st3 ((ev Φ cs n c env st3).bind fun z st4 => cmpop op2 y z st4) := (rfl)
@[simp] theorem ev_ite (c a b : E) : ev Φ cs (n+1) (.ite c a b) env st = (ev Φ cs n c env st).bind fun x st1 => match truth x st1 with
    | some k => if k = true then ev Φ cs n a env st1 else ev Φ cs n b env st1
    | none => .bad := (rfl)
@[simp] theorem ev_call (f : Str) (args : List E) : ev Φ cs (n+1) (.call f args) env st = (evs (ev Φ cs n) args env st).bind fun ds st1 => Φ f ds st1 := (rfl)
@[simp] theorem ev_blt (f : Bf) (args : List E) : ev Φ cs (n+1) (.blt f args) env st = (evs (ev Φ cs n) args env st).bind fun ds st1 => bltop f ds st1 := (rfl)
@[simp] theorem ev_isin (a : E) (ty : String) : ev Φ cs (n+1) (.isin a ty) env st = (ev Φ cs n a env st).bind fun x st1 => if okTy ty = true then R.of ((isinop x ty st1).map D.bl) st1 else .bad := (rfl)
@[simp] theorem ev_ix (a b : E) : ev Φ cs (n+1) (.ix a b) env st = (ev Φ cs n a env st).bind fun x st1 => (ev Φ cs n b env st1).bind fun y st2 => ixop x y st2 := (rfl)
@[simp] theorem part_none (rec : Ex) : evStep.part rec none env st = .ok none st := (rfl)
@[simp] theorem part_some (rec : Ex) (e : E) : evStep.part rec (some e) env st = (rec e env st).bind fun d st1 => match d with
    | .int i => .ok (some i) st1
    | _ => .bad := (rfl)
@[simp] theorem ev_sl (a : E) (lo hi : Option E) : ev Φ cs (n+1) (.sl a lo hi) env st = (ev Φ cs n a env st).bind fun x st1 => (evStep.part (ev Φ cs n) lo env st1).bind fun l st2 => (evStep.part (ev Φ cs n) hi env st2).bind fun h st3 => slop x l h st3 := (rfl)
@[simp] theorem ev_meth (m : Mth) (o : E) (args : List E) : ev Φ cs (n+1) (.meth m o args) env st = (ev Φ cs n o env st).bind fun x st1 => if liveC x st1 = true then (evs (ev Φ cs n) args env st1).bind fun ds st2 => methop m x ds st2 else .bad := (rfl)
@[simp] theorem ev_rev (a : E) : ev Φ cs (n+1) (.rev a) env st = (ev Φ cs n a env st).bind fun x st1 => revop x st1 := (rfl)
def lcEnd (ys : List D) (st : Store) : R D := if ys.length ≤ seqMax then .ok (.lst ys) st else .bad
@[simp] theorem ev_lc (elt : E) (t : T) (it : E) (ifs : List E) (gs : List G) (own : List Nat) : ev Φ cs (n+1) (.lc elt (.mk t it ifs :: gs) own) env st =
    (evI (ev Φ cs n) it env st).bind fun xs st1 => (lcItems (lcOne (ev Φ cs n) elt gs t ifs) xs (wipeE env own) st1).calm.bind lcEnd := (rfl)
@[simp] theorem evI_zip (rec : Ex) (a b : E) : evI rec (.blt .zip [a, b]) env st = (rec a env st).bind fun x st1 => (rec b env st1).bind fun y st2 => match x, y with
    | .tup xs, .tup ys => .ok (zipL xs ys) st2
    | .lst xs, .lst ys => .ok (zipL xs ys) st2
    | _, _ => .bad := (rfl)
@[simp] theorem evI_enum (rec : Ex) (a : E) : evI rec (.blt .enumerate [a]) env st = (rec a env st).bind fun x st1 => match x with
    | .tup xs => .ok (enumL 0 xs) st1
    | .lst xs => .ok (enumL 0 xs) st1
    | _ => .bad := (rfl)
@[simp] theorem evI_var (rec : Ex) (i : Nat) : evI rec (.var i) env st = (rec (.var i) env st).bind fun d st1 => R.of (itemsOf d st1) st1 := (rfl)
@[simp] theorem evI_tup (rec : Ex) (l : List E) : evI rec (.tup l) env st = (rec (.tup l) env st).bind fun d st1 => R.of (itemsOf d st1) st1 := (rfl)
@[simp] theorem evI_lst (rec : Ex) (l : List E) : evI rec (.lst l) env st = (rec (.lst l) env st).bind fun d st1 => R.of (itemsOf d st1) st1 := (rfl)
@[simp] theorem evI_call (rec : Ex) (f : Str) (l : List E) : evI rec (.call f l) env st = (rec (.call f l) env st).bind fun d st1 => R.of (itemsOf d st1) st1 := (rfl)
@[simp] theorem evI_ix (rec : Ex) (a b : E) : evI rec (.ix a b) env st = (rec (.ix a b) env st).bind fun d st1 => R.of (itemsOf d st1) st1 := (rfl)
@[simp] theorem evI_sl (rec : Ex) (a : E) (l h : Option E) : evI rec (.sl a l h) env st = (rec (.sl a l h) env st).bind fun d st1 => R.of (itemsOf d st1) st1 := (rfl)
@[simp] theorem evI_range1 (rec : Ex) (l : List E) : evI rec (.blt .range1 l) env st = (rec (.blt .range1 l) env st).bind fun d st1 => R.of (itemsOf d st1) st1 := (rfl)
@[simp] theorem evI_range2 (rec : Ex) (l : List E) : evI rec (.blt .range2 l) env st = (rec (.blt .range2 l) env st).bind fun d st1 => R.of (itemsOf d st1) st1 := (rfl)
@[simp] theorem evI_bin (rec : Ex) (op : PySem.Operator) (a b : E) : evI rec (.bin op a b) env st = (rec (.bin op a b) env st).bind fun d st1 => R.of (itemsOf d st1) st1 := (rfl)
@[simp] theorem evI_lc (rec : Ex) (a : E) (g : List G) (o : List Nat) : evI rec (.lc a g o) env st = (rec (.lc a g o) env st).bind fun d st1 => R.of (itemsOf d st1) st1 := (rfl)
@[simp] theorem evI_rev (rec : Ex) (a : E) : evI rec (.rev a) env st = (rec (.rev a) env st).bind fun d st1 => R.of (itemsOf d st1) st1 := (rfl)
@[simp] theorem items_tup (l : List D) : itemsOf (.tup l) st = some l := (rfl)
@[simp] theorem items_lst (l : List D) : itemsOf (.lst l) st = some l := (rfl)
theorem items_rng {lo hi : Int} (h : -1000000 ≤ lo ∧ lo ≤ 1000000 ∧ -1000000 ≤ hi ∧ hi ≤ 1000000) : itemsOf (.rng lo hi) st = some (rangeL lo (hi - lo).toNat) := if_pos h
@[simp] theorem tests_nil (rec : Ex) : tests rec [] env st = .ok true st := (rfl)
@[simp] theorem tests_one (rec : Ex) (e : E) : tests rec [e] env st = (rec e env st).bind fun d st1 => match truth d st1 with
    | some b => .ok b st1
    | none => .bad := (rfl)
@[simp] theorem lcOne_nil (rec : Ex) (elt : E) (t : T) (ifs : List E) (x : D) : lcOne rec elt [] t ifs x env st = match bindT t x env with
    | none => .bad
    | some env1 => (tests rec ifs env1 st).bind fun b st1 => if b = true then (rec elt env1 st1).bind fun y st2 => .ok [y] st2 else .ok [] st1 := (rfl)
@[simp] theorem lcOne_cons (rec : Ex) (elt : E) (t t2 : T) (it2 : E) (ifs ifs2 : List E) (gs : List G) (x : D) : lcOne rec elt (.mk t2 it2 ifs2 :: gs) t ifs x env st = match bindT t x env with
    | none => .bad
    | some env1 => (tests rec ifs env1 st).bind fun b st1 =>
      if b = true then (evI rec it2 env1 st1).bind fun xs st2 => lcItems (lcOne rec elt gs t2 ifs2) xs (wipeE env1 (slots t2)) st2 else .ok [] st1 := (rfl)
@[simp] theorem bindT_name (i : Nat) (d : D) : bindT (.name i) d env = if i < env.length then some (env.set i (some d)) else none := (rfl)
@[simp] theorem bindT_tup (ts : List T) (ds : List D) : bindT (.tup ts) (.tup ds) env = bindTs ts ds env := (rfl)
@[simp] theorem bindTs_nil : bindTs [] [] env = some env := (rfl)
@[simp] theorem bindTs_cons (t : T) (ts : List T) (d : D) (ds : List D) : bindTs (t :: ts) (d :: ds) env = match bindT t d env with
    | some env1 => bindTs ts ds env1
    | none => none := (rfl)
@[simp] theorem slots_name (i : Nat) : slots (.name i) = [i] := (rfl)
@[simp] theorem slots_tup (ts : List T) : slots (.tup ts) = slotss ts := (rfl)
@[simp] theorem slotss_nil : slotss [] = [] := (rfl)
@[simp] theorem slotss_cons (t : T) (ts : List T) : slotss (t :: ts) = slots t ++ slotss ts := (rfl)
@[simp] theorem wipeE_nil : wipeE env [] = env := (rfl)
@[simp] theorem wipeE_cons (v : Nat) (vs : List Nat) : wipeE env (v :: vs) = (wipeE env vs).set v none := (rfl)
/-! statements -/
variable {ee : Ex} {rec : Sx}
@[simp] theorem exs_nil : exs rec [] env st = .ok (.next env) st := (rfl)
def thenF (f : F) (st : Store) (g : Env → Store → R F) : R F := match f with
  | .next env1 => g env1 st
  | _ => .ok f st
@[simp] theorem then_next (e : Env) (g : Env → Store → R F) : thenF (.next e) st g = g e st := (rfl)
@[simp] theorem then_ret (d : D) (g : Env → Store → R F) : thenF (.ret d) st g = .ok (.ret d) st := (rfl)
@[simp] theorem then_brk (e : Env) (g : Env → Store → R F) : thenF (.brk e) st g = .ok (.brk e) st := (rfl)
@[simp] theorem then_cont (e : Env) (g : Env → Store → R F) : thenF (.cont e) st g = .ok (.cont e) st := (rfl)
@[simp] theorem exs_cons (s : S) (r : List S) : exs rec (s :: r) env st = (rec s env st).bind fun f st1 => thenF f st1 fun env1 st2 => exs rec r env1 st2 := (rfl)
@[simp] theorem ex_set (t : T) (e : E) : ex ee (n+1) (.set t e) env st = (ee e env st).bind fun d st1 => match bindT t d env with
    | some env1 => .ok (.next env1) st1
    | none => .bad := (rfl)
@[simp] theorem ex_sub (o i e : E) : ex ee (n+1) (.sub o i e) env st = (ee e env st).bind fun d st1 => (ee o env st1).bind fun x st2 => (ee i env st2).bind fun y st3 => match subop x y d st3 with
    | some st4 => .ok (.next env) st4
    | none => .bad := (rfl)
@[simp] theorem ex_ex (e : E) : ex ee (n+1) (.ex e) env st = (ee e env st).bind fun _ st1 => .ok (.next env) st1 := (rfl)
@[simp] theorem ex_ret (e : E) : ex ee (n+1) (.ret e) env st = (ee e env st).bind fun d st1 => .ok (.ret d) st1 := (rfl)
@[simp] theorem ex_retN : ex ee (n+1) .retN env st = .ok (.ret .non) st := (rfl)
@[simp] theorem ex_cond (c : E) (a b : List S) : ex ee (n+1) (.cond c a b) env st = (ee c env st).bind fun x st1 => match truth x st1 with
    | some k => if k = true then exs (ex ee n) a env st1 else exs (ex ee n) b env st1
    | none => .bad := (rfl)
@[simp] theorem ex_for (t : T) (it : E) (b : List S) : ex ee (n+1) (.for t it b) env st = (evI ee it env st).bind fun xs st1 => forGo (exs (ex ee n) b) t xs env st1 := (rfl)
@[simp] theorem ex_while (c : E) (b : List S) : ex ee (n+1) (.while c b) env st = whileGo (ee c) (exs (ex ee n) b) whileFuel env st := (rfl)
@[simp] theorem ex_raise (x : Str) : ex ee (n+1) (.raise x) env st = .exc x st := (rfl)
@[simp] theorem ex_pass : ex ee (n+1) .pass env st = .ok (.next env) st := (rfl)
@[simp] theorem ex_brk : ex ee (n+1) .brk env st = .ok (.brk env) st := (rfl)
@[simp] theorem ex_cont : ex ee (n+1) .cont env st = .ok (.cont env) st := (rfl)
@[simp] theorem trunc_same {v : D} {n : Nat} (h : st.length = n) : trunc n v st = .ok v st := by unfold trunc; rw [if_pos h]
@[simp] theorem end_ret (k : Nat) (d : D) : endF k (.ok (.ret d) st) = trunc k d st := (rfl)
@[simp] theorem end_next (k : Nat) (e : Env) : endF k (.ok (.next e) st) = trunc k .non st := (rfl)
@[simp] theorem end_exc (k : Nat) (x : Str) : endF k (.exc x st) = .exc x st := (rfl)
theorem runF_eq {d : FD} {args : List D} (h : args.length = d.ps.length) : runF Φ cs d args st = endF st.length (exs (ex (ev Φ cs d.fuel) d.fuel) d.body (startE d args) st) := if_pos h
end
/-! ### truth, isinstance, operators -/
section
variable {st : Store}
@[simp] theorem truth_non : truth .non st = some false := (rfl)
@[simp] theorem truth_bl (b : Bool) : truth (.bl b) st = some b := (rfl)
@[simp] theorem truth_int (i : Int) : truth (.int i) st = some (i != 0) := (rfl)
@[simp] theorem truth_tup (l : List D) : truth (.tup l) st = some (!l.isEmpty) := (rfl)
@[simp] theorem truth_lst (l : List D) : truth (.lst l) st = some (!l.isEmpty) := (rfl)
@[simp] theorem isin_non (ty : String) : isinop .non ty st = some (isinTy "NoneType" ty) := (rfl)
@[simp] theorem isin_bl (b : Bool) (ty : String) : isinop (.bl b) ty st = some (isinTy "bool" ty) := (rfl)
@[simp] theorem isin_int (i : Int) (ty : String) : isinop (.int i) ty st = some (isinTy "int" ty) := (rfl)
@[simp] theorem isin_str (x : Str) (ty : String) : isinop (.str x) ty st = some (isinTy "str" ty) := (rfl)
@[simp] theorem isin_tup (l : List D) (ty : String) : isinop (.tup l) ty st = some (isinTy "tuple" ty) := (rfl)
@[simp] theorem isin_lst (l : List D) (ty : String) : isinop (.lst l) ty st = some (isinTy "list" ty) := (rfl)
@[simp] theorem add_int (i j : Int) : binop .Add (.int i) (.int j) st = .ok (.int (i + j)) st := (rfl)
@[simp] theorem sub_int (i j : Int) : binop .Sub (.int i) (.int j) st = .ok (.int (i - j)) st := (rfl)
theorem add_tup {xs ys : List D} (h : xs.length + ys.length ≤ seqMax) : binop .Add (.tup xs) (.tup ys) st = .ok (.tup (xs ++ ys)) st := if_pos h
theorem add_lst {xs ys : List D} (h : xs.length + ys.length ≤ seqMax) : binop .Add (.lst xs) (.lst ys) st = .ok (.lst (xs ++ ys)) st := if_pos h
theorem mod_int {i j : Int} (h : 0 < j) : binop .Mod (.int i) (.int j) st = .ok (.int (i % j)) st := if_pos h
theorem div_int {i j : Int} (h : 0 < j) (h2 : j < 2 ^ 64) : binop .FloorDiv (.int i) (.int j) st = .ok (.int (i / j)) st := by
  refine if_pos ?_
  have h3 : j.natAbs.log2 < 9000 := by
    have h4 : j.natAbs ≠ 0 := by omega
    have : j.natAbs < 2 ^ 64 := by omega
    exact Nat.lt_trans ((Nat.log2_lt h4).mpr this) (by decide)
  simp [h, h3]
theorem mul_int {i j : Int} (h : -(2 ^ 64) < i ∧ i < 2 ^ 64) : binop .Mult (.int i) (.int j) st = .ok (.int (i * j)) st := by
  refine if_pos ?_
  have e : (decide (-(2 ^ 64) < i) && decide (i < 2 ^ 64)) = true := by simp only [h.1, h.2, decide_true, Bool.and_true]
  rw [e, Bool.true_or, Bool.true_or]
theorem mul_int' {i j : Int} (h : -(2 ^ 64) < j ∧ j < 2 ^ 64) : binop .Mult (.int i) (.int j) st = .ok (.int (i * j)) st := by
  refine if_pos ?_
  have e : (decide (-(2 ^ 64) < j) && decide (j < 2 ^ 64)) = true := by simp only [h.1, h.2, decide_true, Bool.and_true]
  rw [e, Bool.or_true, Bool.true_or]
@[simp] theorem lt_int' (i j : Int) : cmpop .Lt (.int i) (.int j) st = .ok (.bl (decide (i < j))) st := (rfl)
@[simp] theorem le_int' (i j : Int) : cmpop .LtE (.int i) (.int j) st = .ok (.bl (decide (i ≤ j))) st := (rfl)
@[simp] theorem gt_int' (i j : Int) : cmpop .Gt (.int i) (.int j) st = .ok (.bl (decide (j < i))) st := (rfl)
@[simp] theorem ge_int' (i j : Int) : cmpop .GtE (.int i) (.int j) st = .ok (.bl (decide (j ≤ i))) st := (rfl)
@[simp] theorem eq_int' (i j : Int) : cmpop .Eq (.int i) (.int j) st = .ok (.bl (i == j)) st := (rfl)
@[simp] theorem ne_int' (i j : Int) : cmpop .NotEq (.int i) (.int j) st = .ok (.bl (!(i == j))) st := (rfl)
@[simp] theorem is_bl (a b : Bool) : cmpop .Is (.bl a) (.bl b) st = .ok (.bl (decide (a = b))) st := (rfl)
@[simp] theorem isnot_bl (a b : Bool) : cmpop .IsNot (.bl a) (.bl b) st = .ok (.bl (!decide (a = b))) st := (rfl)
@[simp] theorem is_non : cmpop .Is .non .non st = .ok (.bl true) st := (rfl)
@[simp] theorem is_int_non (i : Int) : cmpop .Is (.int i) .non st = .ok (.bl false) st := (rfl)
@[simp] theorem is_bl_non (i : Bool) : cmpop .Is (.bl i) .non st = .ok (.bl false) st := (rfl)
@[simp] theorem is_tup_non (i : List D) : cmpop .Is (.tup i) .non st = .ok (.bl false) st := (rfl)
@[simp] theorem len_tup (l : List D) : bltop .len [.tup l] st = .ok (.int l.length) st := (rfl)
@[simp] theorem len_lst (l : List D) : bltop .len [.lst l] st = .ok (.int l.length) st := (rfl)
@[simp] theorem tuple_lst (l : List D) : bltop .tuple [.lst l] st = .ok (.tup l) st := (rfl)
@[simp] theorem tuple_tup (l : List D) : bltop .tuple [.tup l] st = .ok (.tup l) st := (rfl)
@[simp] theorem list_scr (l : List Int) : bltop .list [.scr l] st = .ok (.lst (l.map D.int)) st := (rfl)
@[simp] theorem abs_int (i : Int) : bltop .abs [.int i] st = .ok (.int (if i < 0 then -i else i)) st := (rfl)
@[simp] theorem int_int (i : Int) : bltop .int [.int i] st = .ok (.int i) st := (rfl)
@[simp] theorem range1_int (i : Int) : bltop .range1 [.int i] st = .ok (.rng 0 i) st := (rfl)
@[simp] theorem range2_int (i j : Int) : bltop .range2 [.int i, .int j] st = .ok (.rng i j) st := (rfl)
theorem boolsOf_map : ∀ l : List Bool, boolsOf (l.map D.bl) = some l
  | [] => rfl
  | b :: r => by rw [List.map_cons, boolsOf, boolsOf_map r]
theorem intsOf_map : ∀ l : List Int, intsOf (l.map D.int) = some l
  | [] => rfl
  | b :: r => by rw [List.map_cons, intsOf, intsOf_map r]
theorem all_bools (l : List Bool) : bltop .all [.lst (l.map D.bl)] st = .ok (.bl (l.all id)) st := by
  show (match boolsOf (l.map D.bl) with
    | some bs => R.ok (D.bl (bs.all id)) st
    | none => .bad) = _
  rw [boolsOf_map]
theorem any_bools (l : List Bool) : bltop .any [.lst (l.map D.bl)] st = .ok (.bl (l.any id)) st := by
  show (match boolsOf (l.map D.bl) with
    | some bs => R.ok (D.bl (bs.any id)) st
    | none => .bad) = _
  rw [boolsOf_map]
theorem sumTup (l : List Int) : bltop .sum [.tup (l.map D.int)] st = .ok (.int l.sum) st := by
  show (match intsOf (l.map D.int) with
    | some bs => R.ok (D.int bs.sum) st
    | none => .bad) = _
  rw [intsOf_map]
theorem sumLst (l : List Int) : bltop .sum [.lst (l.map D.int)] st = .ok (.int l.sum) st := by
  show (match intsOf (l.map D.int) with
    | some bs => R.ok (D.int bs.sum) st
    | none => .bad) = _
  rw [intsOf_map]
theorem ss_lst {l : List Int} (h : l.length < 1000) (h2 : (sortSet l).length < 64) : bltop .sortedSet [.lst (l.map D.int)] st = .ok (.lst ((sortSet l).map D.int)) st := by
  show (match intsOf (l.map D.int) with
    | some ns => if ns.length < 1000 ∧ (sortSet ns).length < 64 then R.ok (D.lst ((sortSet ns).map D.int)) st else .bad
    | none => .bad) = _
  rw [intsOf_map]
  exact if_pos ⟨h, h2⟩
theorem ix_tup {l : List D} {i : Nat} {d : D} (h : l[i]? = some d) : ixop (.tup l) (.int i) st = .ok d st := by
  have hl := (List.getElem?_eq_some_iff.mp h).1
  show R.of (atI l i) st = _
  unfold atI ixN
  rw [if_pos (by omega), if_pos (by omega)]
  simp [h]
theorem ix_lst {l : List D} {i : Nat} {d : D} (h : l[i]? = some d) : ixop (.lst l) (.int i) st = .ok d st := by
  have hl := (List.getElem?_eq_some_iff.mp h).1
  show R.of (atI l i) st = _
  unfold atI ixN
  rw [if_pos (by omega), if_pos (by omega)]
  simp [h]
end
/-! ### walks -/
/-- a comprehension whose turns change nothing -/
theorem lc_pure {one : D → Env → Store → R (List D)} {env : Env} {st : Store} (g : D → List D) : ∀ {xs : List D}, (∀ x ∈ xs, one x env st = .ok (g x) st) → lcItems one xs env st = .ok (xs.flatMap g) st
  | [], _ => rfl
  | x :: r, h => by
    unfold lcItems
    rw [h x List.mem_cons_self, R.bind_ok, lc_pure g (fun y hy => h y (List.mem_cons_of_mem _ hy))]
    rfl
theorem lc_map {one : D → Env → Store → R (List D)} {env : Env} {st : Store} {α : Type} (f : α → D) (g : α → List D) {xs : List α} (h : ∀ x ∈ xs, one (f x) env st = .ok (g x) st) : lcItems one (xs.map f) env st = .ok (xs.flatMap g) st := by
  induction xs with
  | nil => rfl
  | cons x r ih =>
    rw [List.map_cons]
    unfold lcItems
    rw [h x List.mem_cons_self, R.bind_ok, ih (fun y hy => h y (List.mem_cons_of_mem _ hy))]
    rfl
inductive All2 {α β : Type} (P : α → β → Prop) : List α → List β → Prop where
  | nil : All2 P [] []
  | cons {a : α} {b : β} {l : List α} {m : List β} (h : P a b) (r : All2 P l m) : All2 P (a :: l) (b :: m)
/-- a comprehension whose turns keep a word of the store -/
theorem lc_keep {one : D → Env → Store → R (List D)} {env : Env} {α : Type} (f : α → D) (I : Store → Prop) (P : α → List D → Prop) : ∀ {xs : List α} {st : Store}, I st → (∀ x ∈ xs, ∀ st, I st → ∃ ys st', one (f x) env st = .ok ys st' ∧ I st' ∧ P x ys) →
    ∃ (yss : List (List D)) (st' : Store), lcItems one (xs.map f) env st = .ok yss.flatten st' ∧ I st' ∧ All2 P xs yss
  | [], st, hI, _ => ⟨[], st, rfl, hI, .nil⟩
  | x :: r, st, hI, h => by
    obtain ⟨ys, st1, h1, h2, h3⟩ := h x List.mem_cons_self st hI
    obtain ⟨yss, st2, h4, h5, h6⟩ := lc_keep f I P h2 (fun y hy => h y (List.mem_cons_of_mem _ hy))
    refine ⟨ys :: yss, st2, ?_, h5, .cons h3 h6⟩
    rw [List.map_cons]
    unfold lcItems
    rw [h1, R.bind_ok, h4]
    rfl
theorem lc_keep1 {one : D → Env → Store → R (List D)} {env : Env} {α : Type} (f : α → D) (I : Store → Prop) (Q : α → D → Prop) : ∀ {xs : List α} {st : Store}, I st → (∀ x ∈ xs, ∀ st, I st → ∃ d st', one (f x) env st = .ok [d] st' ∧ I st' ∧ Q x d) →
    ∃ (ds : List D) (st' : Store), lcItems one (xs.map f) env st = .ok ds st' ∧ I st' ∧ All2 Q xs ds
  | [], st, hI, _ => ⟨[], st, rfl, hI, .nil⟩
  | x :: r, st, hI, h => by
    obtain ⟨d, st1, h1, h2, h3⟩ := h x List.mem_cons_self st hI
    obtain ⟨ds, st2, h4, h5, h6⟩ := lc_keep1 f I Q h2 (fun y hy => h y (List.mem_cons_of_mem _ hy))
    refine ⟨d :: ds, st2, ?_, h5, .cons h3 h6⟩
    rw [List.map_cons]
    unfold lcItems
    rw [h1, R.bind_ok, h4]
    rfl
theorem all2_map {α β : Type} {xs : List α} {ds : List D} (enc : β → D) (P : β → Prop) (h : All2 (fun _ d => ∃ b, d = enc b ∧ P b) xs ds) : ∃ r : List β, ds = r.map enc ∧ r.length = xs.length ∧ ∀ b ∈ r, P b := by
  induction h with
  | nil => exact ⟨[], rfl, rfl, fun _ h => absurd h (by simp)⟩
  | cons h r ih =>
    obtain ⟨b, rfl, hb⟩ := h
    obtain ⟨rs, rfl, h2, h3⟩ := ih
    exact ⟨b :: rs, rfl, by simp [h2], fun c hc => by
      rcases List.mem_cons.mp hc with z | z
      · rw [z]; exact hb
      · exact h3 c z⟩
theorem sum_pos : ∀ {l : List Int}, (∀ x ∈ l, 0 ≤ x) → (∃ x ∈ l, 0 < x) → 0 < l.sum
  | [], _, ⟨_, h, _⟩ => absurd h (by simp)
  | x :: r, h, ⟨y, hy, hp⟩ => by
    have h0 : ∀ {l : List Int}, (∀ x ∈ l, 0 ≤ x) → 0 ≤ l.sum := by
      intro l
      induction l with
      | nil => intro _; simp
      | cons a l ih =>
        intro h
        have := h a List.mem_cons_self
        have := ih fun x hx => h x (List.mem_cons_of_mem _ hx)
        rw [List.sum_cons]; omega
    rw [List.sum_cons]
    have h1 := h x List.mem_cons_self
    have h2 := h0 (l := r) fun z hz => h z (List.mem_cons_of_mem _ hz)
    rcases List.mem_cons.mp hy with z | z
    · rw [z] at hp; omega
    · have := sum_pos (l := r) (fun z hz => h z (List.mem_cons_of_mem _ hz)) ⟨y, z, hp⟩
      omega
theorem sum_has : ∀ {l : List Int}, 0 < l.sum → ∃ x ∈ l, 0 < x
  | [], h => by simp at h
  | x :: r, h => by
    by_cases hx : 0 < x
    · exact ⟨x, List.mem_cons_self, hx⟩
    · rw [List.sum_cons] at h
      obtain ⟨y, h1, h2⟩ := sum_has (l := r) (by omega)
      exact ⟨y, List.mem_cons_of_mem _ h1, h2⟩
theorem cut_tail (l : List D) : cut l (some 1) none = l.tail := by
  unfold cut sIx
  simp
  cases l with
  | nil => simp
  | cons x r => simp
theorem range_split {k x : Nat} {ys zs : List Nat} (h : List.range k = ys ++ x :: zs) : x = ys.length ∧ x < k := by
  have h1 : (List.range k)[ys.length]? = some x := by rw [h]; simp
  have h2 := (List.getElem?_eq_some_iff.mp h1)
  obtain ⟨h3, h4⟩ := h2
  simp at h3 h4
  omega
theorem exs_app {rec : Sx} : ∀ {l m : List S} {env : Env} {st : Store}, exs rec (l ++ m) env st = (exs rec l env st).bind fun f st1 => thenF f st1 fun env1 st2 => exs rec m env1 st2
  | [], m, env, st => rfl
  | s :: l, m, env, st => by
    rw [List.cons_append, exs_cons, exs_cons]
    cases rec s env st with
    | ok f st1 =>
      rw [R.bind_ok, R.bind_ok]
      cases f with
      | next env1 => rw [then_next, then_next, exs_app]
      | ret d => rfl
      | brk e => rfl
      | cont e => rfl
    | exc x st1 => rfl
    | bad => rfl
theorem range_map : ∀ (n : Nat) (lo : Int), rangeL lo n = (List.range n).map fun (i : Nat) => D.int (lo + i)
  | 0, _ => rfl
  | n + 1, lo => by
    rw [rangeL, range_map n, List.range_succ_eq_map, List.map_cons, List.map_map]
    congr 1
    · simp
    · refine List.map_congr_left fun i _ => ?_
      show D.int _ = D.int _
      congr 1
      push_cast
      omega
theorem range0 (n : Nat) : rangeL 0 n = (List.range n).map fun (i : Nat) => D.int i := by
  rw [range_map]
  refine List.map_congr_left fun i _ => ?_
  simp
theorem items_range (n : Nat) {st : Store} (h : n ≤ 1000000) : itemsOf (.rng 0 (n : Int)) st = some ((List.range n).map fun (i : Nat) => D.int i) := by
  rw [items_rng (by omega), show ((n : Int) - 0).toNat = n by omega, range0]
theorem tuple_rng {n : Nat} {st : Store} (h : n ≤ 1000000) : bltop .tuple [.rng 0 n] st = .ok (.tup ((List.range n).map fun (i : Nat) => D.int i)) st := by
  have := items_range (st := st) n h
  have e : itemsOf (.rng 0 (n : Int)) st = some (rangeL 0 ((n : Int) - 0).toNat) := items_rng (by omega)
  have e2 := Option.some.inj (e.symm.trans this)
  rw [← e2]
  exact if_pos (by omega)
/-- a for: a word of the turn, kept to the end -/
theorem for_keep0 {body : Env → Store → R F} {t : T} {α : Type} (f : α → D) (P : List α → Env → Store → Prop) (all : List α) : ∀ {xs ys : List α} {env : Env} {st : Store}, all = ys ++ xs → P ys env st →
    (∀ ys x zs env st, all = ys ++ x :: zs → P ys env st → ∃ env1 env2 st2, bindT t (f x) env = some env1 ∧ (body env1 st = .ok (.next env2) st2 ∨ body env1 st = .ok (.cont env2) st2) ∧ P (ys ++ [x]) env2 st2) →
    ∃ env' st', forGo body t (xs.map f) env st = .ok (.next env') st' ∧ P all env' st'
  | [], ys, env, st, e, h0, _ => ⟨env, st, rfl, by rw [e, List.append_nil]; exact h0⟩
  | x :: r, ys, env, st, e, h0, h => by
    obtain ⟨env1, env2, st2, h1, h2, h3⟩ := h ys x r env st e h0
    obtain ⟨env3, st3, h4, h5⟩ := for_keep0 f P all (xs := r) (by rw [e]; simp) h3 h
    refine ⟨env3, st3, ?_, h5⟩
    rw [List.map_cons]
    unfold forGo
    rw [h1]
    rcases h2 with h2 | h2
    · show (body env1 st).bind _ = _
      rw [h2]
      exact h4
    · show (body env1 st).bind _ = _
      rw [h2]
      exact h4
theorem for_keep {body : Env → Store → R F} {t : T} {α : Type} (f : α → D) (P : List α → Env → Store → Prop) {xs : List α} {env : Env} {st : Store} (h0 : P [] env st)
    (h : ∀ ys x zs env st, xs = ys ++ x :: zs → P ys env st → ∃ env1 env2 st2, bindT t (f x) env = some env1 ∧ (body env1 st = .ok (.next env2) st2 ∨ body env1 st = .ok (.cont env2) st2) ∧ P (ys ++ [x]) env2 st2) :
    ∃ env' st', forGo body t (xs.map f) env st = .ok (.next env') st' ∧ P xs env' st' := for_keep0 f P xs (by simp) h0 h
theorem lc_map1 {one : D → Env → Store → R (List D)} {env : Env} {st : Store} {α : Type} (f : α → D) (g : α → D) {xs : List α} (h : ∀ x ∈ xs, one (f x) env st = .ok [g x] st) : lcItems one (xs.map f) env st = .ok (xs.map g) st := by
  rw [lc_map f (fun x => [g x]) h]
  congr 1
  clear h
  induction xs with
  | nil => rfl
  | cons x r ih => rw [List.flatMap_cons, ih]; rfl
theorem lc_filter1 {one : D → Env → Store → R (List D)} {env : Env} {st : Store} {α : Type} (f : α → D) (p : α → Bool) (g : α → D) {xs : List α} (h : ∀ x ∈ xs, one (f x) env st = .ok (if p x = true then [g x] else []) st) : lcItems one (xs.map f) env st = .ok ((xs.filter p).map g) st := by
  rw [lc_map f (fun x => if p x = true then [g x] else []) h]
  congr 1
  clear h
  induction xs with
  | nil => rfl
  | cons x r ih =>
    rw [List.flatMap_cons, ih, List.filter_cons]
    split <;> simp
theorem lcEnd_ok {ys : List D} {st : Store} (h : ys.length ≤ 1000000) : lcEnd ys st = .ok (.lst ys) st := if_pos h
theorem lcE1 {one : D → Env → Store → R (List D)} {env : Env} {st : Store} {α : Type} (f : α → D) (g : α → D) {xs : List α} (hl : xs.length ≤ 1000000) (h : ∀ x ∈ xs, one (f x) env st = .ok [g x] st) : (lcItems one (xs.map f) env st).calm.bind lcEnd = .ok (.lst (xs.map g)) st := by
  rw [lc_map1 f g h, R.calm_ok, R.bind_ok, lcEnd_ok (by rw [List.length_map]; exact hl)]
theorem lcEF {one : D → Env → Store → R (List D)} {env : Env} {st : Store} {α : Type} (f : α → D) (p : α → Bool) (g : α → D) {xs : List α} (hl : xs.length ≤ 1000000) (h : ∀ x ∈ xs, one (f x) env st = .ok (if p x = true then [g x] else []) st) : (lcItems one (xs.map f) env st).calm.bind lcEnd = .ok (.lst ((xs.filter p).map g)) st := by
  rw [lc_filter1 f p g h, R.calm_ok, R.bind_ok, lcEnd_ok (by rw [List.length_map]; exact Nat.le_trans (List.length_filter_le _ _) hl)]
theorem lcEM {one : D → Env → Store → R (List D)} {env : Env} {st : Store} {α : Type} (f : α → D) (g : α → List D) {xs : List α} (hl : (xs.flatMap g).length ≤ 1000000) (h : ∀ x ∈ xs, one (f x) env st = .ok (g x) st) : (lcItems one (xs.map f) env st).calm.bind lcEnd = .ok (.lst (xs.flatMap g)) st := by
  rw [lc_map f g h, R.calm_ok, R.bind_ok, lcEnd_ok hl]
theorem all_map {α : Type} {st : Store} (p : α → Bool) (xs : List α) : bltop .all [.lst (xs.map fun x => D.bl (p x))] st = .ok (.bl (xs.all p)) st := by
  have := all_bools (st := st) (xs.map p)
  rw [List.map_map, List.all_map] at this
  exact this
theorem any_map {α : Type} {st : Store} (p : α → Bool) (xs : List α) : bltop .any [.lst (xs.map fun x => D.bl (p x))] st = .ok (.bl (xs.any p)) st := by
  have := any_bools (st := st) (xs.map p)
  rw [List.map_map, List.any_map] at this
  exact this
theorem all_true {α : Type} {st : Store} (xs : List α) : bltop .all [.lst (xs.map fun _ => D.bl true)] st = .ok (.bl true) st := by
  rw [all_map (fun _ => true)]; simp
theorem ix_map {α : Type} {f : α → D} {l : List α} {i : Nat} {st : Store} (d : α) (h : i < l.length) : ixop (.tup (l.map f)) (.int i) st = .ok (f (l[i]?.getD d)) st :=
  ix_tup (by rw [List.getElem?_map, List.getElem?_eq_getElem h]; simp [List.getD, List.getElem?_eq_getElem h])
theorem ix_mapL {α : Type} {f : α → D} {l : List α} {i : Nat} {st : Store} (d : α) (h : i < l.length) : ixop (.lst (l.map f)) (.int i) st = .ok (f (l[i]?.getD d)) st :=
  ix_lst (by rw [List.getElem?_map, List.getElem?_eq_getElem h]; simp [List.getD, List.getElem?_eq_getElem h])
theorem enum_map {α : Type} {f : α → D} (d : α) : ∀ (l : List α) (k : Int), enumL k (l.map f) = (List.range l.length).map fun (i : Nat) => D.tup [.int (k + i), f (l[i]?.getD d)]
  | [], _ => rfl
  | x :: r, k => by
    rw [List.map_cons, enumL, enum_map d r (k + 1), List.length_cons, List.range_succ_eq_map, List.map_cons, List.map_map]
    congr 1
    · simp
    · refine List.map_congr_left fun i _ => ?_
      show D.tup _ = D.tup _
      congr 2
      · congr 1; push_cast; omega
theorem zip_map {α β : Type} {f : α → D} {g : β → D} : ∀ (l : List α) (m : List β), zipL (l.map f) (m.map g) = (l.zip m).map fun p => D.tup [f p.1, g p.2]
  | [], _ => by simp [zipL]
  | _ :: _, [] => by simp [zipL]
  | x :: r, y :: q => by simp [zipL, zip_map r q]
end Lw

set_option Elab.async false
set_option linter.all false
set_option maxRecDepth 100000
set_option maxHeartbeats 2000000
namespace K01
open Ev Lw
abbrev prog : PySem.Program := PySem.Challenge.pw_setbyothers_k01_whole_whom_members_hear
def top (i : Nat) : PySem.Stmt := prog.main.body.getD i (.Pass ⟨0, 0, 0, 0⟩)
def f_is_whole : FD where
  ps := ["value", "low", "high"]
  N := ["value", "low", "high"]
  body := [.ret (.and (.isin (.var 0) "int") (.and (.not (.isin (.var 0) "bool")) (.cmp2 .LtE .LtE (.var 1) (.var 0) (.var 2))))]
def f_is_tuple_of : FD where
  ps := ["value", "low", "high"]
  N := ["value", "low", "high"]
  body := [.ret (.and (.isin (.var 0) "tuple") (.cmp2 .LtE .LtE (.var 1) (.blt .len [(.var 0)]) (.var 2)))]
def f_is_rising : FD where
  ps := ["values"]
  N := ["values", "one", "other"]
  body := [.ret (.blt .all [(.lc (.cmp .Lt (.var 1) (.var 2)) [.mk (.tup [(.name 1), (.name 2)]) (.blt .zip [(.var 0), (.sl (.var 0) (some (.con (.int 1))) none)]) []] [1, 2])])]
def f_fits_meeting : FD where
  ps := ["value"]
  N := ["value", "many", "row", "own"]
  body := [.cond (.not (.call "is_tuple_of" [(.var 0), (.con (.int 1)), (.glob "MEMBERS")]))
    [.ret (.con (.bl false))]
    [],
  .set (.name 1) (.blt .len [(.var 0)]),
  .cond (.not (.blt .all [(.lc (.and (.call "is_tuple_of" [(.var 2), (.var 1), (.var 1)]) (.blt .all [(.lc (.call "is_whole" [(.var 3), (.con (.int 0)), (.glob "WEIGHT")]) [.mk (.name 3) (.var 2) []] [3])])) [.mk (.name 2) (.var 0) []] [2])]))
    [.ret (.con (.bl false))]
    [],
  .ret (.blt .all [(.lc (.cmp .Gt (.blt .sum [(.var 2)]) (.con (.int 0))) [.mk (.name 2) (.var 0) []] [2])])]
def f_need_meeting : FD where
  ps := ["meeting"]
  N := ["meeting"]
  body := [.cond (.not (.call "fits_meeting" [(.var 0)]))
    [.raise "InvalidMeeting"]
    []]
def f_fits_book : FD where
  ps := ["value"]
  N := ["value", "own"]
  body := [.cond (.or (.not (.call "is_tuple_of" [(.var 0), (.con (.int 1)), (.glob "MEETINGS")])) (.not (.blt .all [(.lc (.call "fits_meeting" [(.var 1)]) [.mk (.name 1) (.var 0) []] [1])])))
    [.ret (.con (.bl false))]
    [],
  .ret (.blt .all [(.lc (.cmp .Eq (.blt .len [(.var 1)]) (.blt .len [(.ix (.var 0) (.con (.int 0)))])) [.mk (.name 1) (.var 0) []] [1])])]
def f_need_book : FD where
  ps := ["book"]
  N := ["book"]
  body := [.cond (.not (.call "fits_book" [(.var 0)]))
    [.raise "InvalidMeeting"]
    []]
def f_fits_word : FD where
  ps := ["book", "value"]
  N := ["book", "value", "own"]
  body := [.ret (.and (.call "is_tuple_of" [(.var 1), (.con (.int 0)), (.glob "LONG")]) (.blt .all [(.lc (.call "is_whole" [(.var 2), (.con (.int 0)), (.bin .Sub (.blt .len [(.var 0)]) (.con (.int 1)))]) [.mk (.name 2) (.var 1) []] [2])]))]
def f_need_word : FD where
  ps := ["book", "word"]
  N := ["book", "word"]
  body := [.ex (.call "need_book" [(.var 0)]),
  .cond (.not (.call "fits_word" [(.var 0), (.var 1)]))
    [.raise "InvalidMeeting"]
    []]
def f_fits_lot : FD where
  ps := ["many", "value"]
  N := ["many", "value", "own"]
  body := [.cond (.or (.not (.call "is_tuple_of" [(.var 1), (.con (.int 1)), (.var 0)])) (.not (.blt .all [(.lc (.call "is_whole" [(.var 2), (.con (.int 0)), (.bin .Sub (.var 0) (.con (.int 1)))]) [.mk (.name 2) (.var 1) []] [2])])))
    [.ret (.con (.bl false))]
    [],
  .ret (.call "is_rising" [(.var 1)])]
def f_need_lot : FD where
  ps := ["many", "lot"]
  N := ["many", "lot"]
  body := [.cond (.not (.call "fits_lot" [(.var 0), (.var 1)]))
    [.raise "InvalidMember"]
    []]
def f_need_member : FD where
  ps := ["many", "member"]
  N := ["many", "member"]
  body := [.cond (.not (.call "is_whole" [(.var 1), (.con (.int 0)), (.bin .Sub (.var 0) (.con (.int 1)))]))
    [.raise "InvalidMember"]
    []]
def f_heard_in : FD where
  ps := ["meeting", "lot"]
  N := ["meeting", "lot", "at", "own"]
  body := [.ret (.blt .tuple [(.lc (.var 2) [.mk (.name 2) (.blt .range1 [(.blt .len [(.var 0)])]) [(.blt .any [(.lc (.cmp .Gt (.ix (.ix (.var 0) (.var 3)) (.var 2)) (.con (.int 0))) [.mk (.name 3) (.var 1) []] [3])])]] [2])])]
def f_through_b0 : List S := [.set (.name 2) (.call "heard_in" [(.ix (.var 0) (.var 3)), (.var 2)])]
def f_through : FD where
  ps := ["book", "word", "lot"]
  N := ["book", "word", "lot", "at"]
  body := [.for (.name 3) (.rev (.var 1)) f_through_b0,
  .ret (.var 2)]
def f_is_word : FD where
  ps := ["book", "value"]
  N := ["book", "value"]
  body := [.ex (.call "need_book" [(.var 0)]),
  .ret (.call "fits_word" [(.var 0), (.var 1)])]
def f_heard_by : FD where
  ps := ["meeting", "lot"]
  N := ["meeting", "lot"]
  body := [.ex (.call "need_meeting" [(.var 0)]),
  .ex (.call "need_lot" [(.blt .len [(.var 0)]), (.var 1)]),
  .ret (.call "heard_in" [(.var 0), (.var 1)])]
def f_heard_through : FD where
  ps := ["book", "word", "lot"]
  N := ["book", "word", "lot"]
  body := [.ex (.call "need_word" [(.var 0), (.var 1)]),
  .ex (.call "need_lot" [(.blt .len [(.ix (.var 0) (.con (.int 0)))]), (.var 2)]),
  .ret (.call "through" [(.var 0), (.var 1), (.var 2)])]
def f_are_apart : FD where
  ps := ["book", "word", "one", "other"]
  N := ["book", "word", "one", "other", "lots", "own"]
  body := [.ex (.call "need_word" [(.var 0), (.var 1)]),
  .ex (.call "need_member" [(.blt .len [(.ix (.var 0) (.con (.int 0)))]), (.var 2)]),
  .ex (.call "need_member" [(.blt .len [(.ix (.var 0) (.con (.int 0)))]), (.var 3)]),
  .set (.name 4) (.tup [(.call "through" [(.var 0), (.var 1), (.tup [(.var 2)])]), (.call "through" [(.var 0), (.var 1), (.tup [(.var 3)])])]),
  .ret (.not (.blt .any [(.lc (.cmp .In (.var 5) (.ix (.var 4) (.con (.int 1)))) [.mk (.name 5) (.ix (.var 4) (.con (.int 0))) []] [5])]))]
def f_apart_in : FD where
  ps := ["book", "word"]
  N := ["book", "word", "many", "lots", "own", "rows", "one", "other"]
  body := [.set (.name 2) (.blt .len [(.ix (.var 0) (.con (.int 0)))]),
  .set (.name 3) (.lc (.call "through" [(.var 0), (.var 1), (.tup [(.var 4)])]) [.mk (.name 4) (.blt .range1 [(.var 2)]) []] [4]),
  .set (.name 5) (.lc (.tup [(.var 6), (.var 7)]) [.mk (.name 6) (.blt .range1 [(.var 2)]) [], .mk (.name 7) (.blt .range2 [(.bin .Add (.var 6) (.con (.int 1))), (.var 2)]) []] [6, 7]),
  .ret (.lc (.tup [(.var 6), (.var 7)]) [.mk (.tup [(.name 6), (.name 7)]) (.var 5) [(.not (.blt .any [(.lc (.cmp .In (.var 4) (.ix (.var 3) (.var 7))) [.mk (.name 4) (.ix (.var 3) (.var 6)) []] [4])]))]] [6, 7])]
def f_apart_pairs : FD where
  ps := ["book", "word"]
  N := ["book", "word"]
  body := [.ex (.call "need_word" [(.var 0), (.var 1)]),
  .ret (.blt .tuple [(.call "apart_in" [(.var 0), (.var 1)])])]
def f_is_joining : FD where
  ps := ["book", "word"]
  N := ["book", "word"]
  body := [.ex (.call "need_word" [(.var 0), (.var 1)]),
  .ret (.cmp .Eq (.call "apart_in" [(.var 0), (.var 1)]) (.lst []))]
def f__law_cup : FD where
  ps := ["script"]
  N := ["script", "cell"]
  body := [.set (.name 1) (.blt .abs [(.ix (.bin .Add (.blt .list [(.var 0)]) (.lst [(.con (.int 0))])) (.con (.int 0)))]),
  .ret (.cel [(.ite (.cmp .GtE (.var 1) (.bin .Pow (.con (.int 10)) (.con (.int 18)))) (.bin .FloorDiv (.var 1) (.con (.int 97))) (.con (.int 0))), (.bin .Add (.bin .Mod (.blt .int [(.bin .Add (.bin .Mult (.var 1) (.con (.int 337))) (.con (.int 4051)))]) (.con (.int 2077496497))) (.con (.int 179)))])]
def f__law_roll : FD where
  ps := ["cup", "many"]
  N := ["cup", "many", "found", "deep"]
  body := [.cond (.cmp .Gt (.ix (.var 0) (.con (.int 0))) (.con (.int 0)))
    [.set (.name 2) (.bin .Mod (.blt .int [(.ix (.var 0) (.con (.int 0)))]) (.var 1)),
    .sub (.var 0) (.con (.int 0)) (.bin .FloorDiv (.ix (.var 0) (.con (.int 0))) (.var 1)),
    .ret (.var 2)]
    [],
  .sub (.var 0) (.con (.int 1)) (.bin .Mod (.blt .int [(.bin .Add (.bin .Mult (.ix (.var 0) (.con (.int 1))) (.con (.int 30931))) (.con (.int 7907)))]) (.con (.int 2147483399))),
  .set (.name 3) (.bin .Mod (.blt .int [(.bin .Mult (.ix (.var 0) (.con (.int 1))) (.bin .Add (.ix (.var 0) (.con (.int 1))) (.con (.int 251))))]) (.con (.int 2147483563))),
  .ret (.bin .Mod (.blt .int [(.bin .FloorDiv (.var 3) (.con (.int 829)))]) (.var 1))]
def f__law_some : FD where
  ps := ["cup", "things"]
  N := ["cup", "things"]
  body := [.ret (.ix (.var 1) (.call "_law_roll" [(.var 0), (.blt .len [(.var 1)])]))]
def f__law_same : FD where
  ps := ["told", "due"]
  N := ["told", "due", "at"]
  body := [.cond (.isin (.var 1) "tuple")
    [.cond (.or (.not (.isin (.var 0) "tuple")) (.cmp .NotEq (.blt .len [(.var 0)]) (.blt .len [(.var 1)])))
      [.ret (.con (.bl false))]
      [],
    .ret (.blt .all [(.lc (.call "_law_same" [(.ix (.var 0) (.var 2)), (.ix (.var 1) (.var 2))]) [.mk (.name 2) (.blt .range1 [(.blt .len [(.var 1)])]) []] [2])])]
    [],
  .cond (.cmp .Is (.var 1) (.con .non))
    [.ret (.cmp .Is (.var 0) (.con .non))]
    [],
  .cond (.isin (.var 1) "bool")
    [.ret (.ite (.var 1) (.cmp .Is (.var 0) (.con (.bl true))) (.cmp .Is (.var 0) (.con (.bl false))))]
    [],
  .cond (.isin (.var 1) "int")
    [.ret (.and (.isin (.var 0) "int") (.and (.not (.isin (.var 0) "bool")) (.cmp .Eq (.blt .int [(.var 0)]) (.var 1))))]
    [],
  .ret (.and (.isin (.var 0) "str") (.cmp .Eq .bad (.var 1)))]
def f__law_meeting_b0 : List S := [.set (.name 5) (.blt .tuple [(.lc (.call "_law_some" [(.var 0), (.lst [(.con (.int 0)), (.con (.int 0)), (.bin .Add (.con (.int 1)) (.call "_law_roll" [(.var 0), (.var 2)]))])]) [.mk (.name 7) (.blt .range1 [(.var 1)]) []] [7])]),
  .set (.name 6) (.call "_law_roll" [(.var 0), (.var 1)]),
  .set (.name 3) (.bin .Add (.var 3) (.tup [(.ite (.cmp .Gt (.blt .sum [(.var 5)]) (.con (.int 0))) (.var 5) (.blt .tuple [(.lc (.ite (.cmp .Eq (.var 7) (.var 6)) (.con (.int 1)) (.con (.int 0))) [.mk (.name 7) (.blt .range1 [(.var 1)]) []] [7])]))]))]
def f__law_meeting : FD where
  ps := ["cup", "many", "high"]
  N := ["cup", "many", "high", "rows", "at", "row", "own", "by"]
  body := [.set (.name 3) (.tup []),
  .for (.name 4) (.blt .range1 [(.var 1)]) f__law_meeting_b0,
  .ret (.var 3)]
def f__law_book : FD where
  ps := ["cup", "many", "size", "high"]
  N := ["cup", "many", "size", "high", "turn"]
  body := [.ret (.blt .tuple [(.lc (.call "_law_meeting" [(.var 0), (.var 1), (.var 3)]) [.mk (.name 4) (.blt .range1 [(.bin .Add (.con (.int 1)) (.call "_law_roll" [(.var 0), (.var 2)]))]) []] [4])])]
def f__law_word_of : FD where
  ps := ["cup", "book", "long"]
  N := ["cup", "book", "long", "turn"]
  body := [.ret (.blt .tuple [(.lc (.call "_law_roll" [(.var 0), (.blt .len [(.var 1)])]) [.mk (.name 3) (.blt .range1 [(.call "_law_roll" [(.var 0), (.bin .Add (.var 2) (.con (.int 1)))])]) []] [3])])]
def f__law_heard_b0 : List S := [.set (.name 2) (.bin .Add (.var 2) (.lc (.var 4) [.mk (.tup [(.name 4), (.name 5)]) (.blt .enumerate [(.ix (.var 0) (.var 3))]) [(.cmp .Gt (.var 5) (.con (.int 0)))]] [4, 5]))]
def f__law_heard : FD where
  ps := ["meeting", "lot"]
  N := ["meeting", "lot", "found", "at", "by", "weight"]
  body := [.set (.name 2) (.lst []),
  .for (.name 3) (.var 1) f__law_heard_b0,
  .ret (.blt .tuple [(.blt .sortedSet [(.var 2)])])]
def f__law_through_b0 : List S := [.set (.name 2) (.call "_law_heard" [(.ix (.var 0) (.var 3)), (.var 2)])]
def f__law_through : FD where
  ps := ["book", "word", "lot"]
  N := ["book", "word", "lot", "at"]
  body := [.for (.name 3) (.rev (.var 1)) f__law_through_b0,
  .ret (.var 2)]
def f__law_right_b1 : List S := [.set (.name 11) (.cmp .Eq (.lc (.var 7) [.mk (.name 7) (.ix (.var 6) (.var 9)) [(.cmp .In (.var 7) (.ix (.var 6) (.var 10)))]] [7]) (.lst [])),
  .cond (.not (.call "_law_same" [(.call "are_apart" [(.var 4), (.var 5), (.var 9), (.var 10)]), (.var 11)]))
    [.ret (.con (.bl false))]
    [],
  .set (.name 8) (.bin .Add (.var 8) (.ite (.and (.var 11) (.cmp .Lt (.var 9) (.var 10))) (.lst [(.tup [(.var 9), (.var 10)])]) (.lst [])))]
def f__law_right_b0 : List S := [.cond (.not (.call "_law_same" [(.call "heard_through" [(.var 4), (.var 5), (.tup [(.var 9)])]), (.ix (.var 6) (.var 9))]))
    [.ret (.con (.bl false))]
    [],
  .for (.name 10) (.blt .range1 [(.var 1)]) f__law_right_b1]
def f__law_right : FD where
  ps := ["cup", "many", "size", "long"]
  N := ["cup", "many", "size", "long", "book", "word", "lots", "own", "apart", "one", "other", "is_so", "at", "lot", "longer", "pair", "whole"]
  body := [.set (.name 4) (.call "_law_book" [(.var 0), (.var 1), (.var 2), (.con (.int 9))]),
  .set (.name 5) (.call "_law_word_of" [(.var 0), (.var 4), (.var 3)]),
  .cond (.cmp .IsNot (.call "is_word" [(.var 4), (.var 5)]) (.con (.bl true)))
    [.ret (.con (.bl false))]
    [],
  .set (.name 6) (.lc (.call "_law_through" [(.var 4), (.var 5), (.tup [(.var 7)])]) [.mk (.name 7) (.blt .range1 [(.var 1)]) []] [7]),
  .set (.name 8) (.lst []),
  .for (.name 9) (.blt .range1 [(.var 1)]) f__law_right_b0,
  .cond (.not (.call "_law_same" [(.tup [(.call "apart_pairs" [(.var 4), (.var 5)]), (.call "is_joining" [(.var 4), (.var 5)])]), (.tup [(.blt .tuple [(.var 8)]), (.cmp .Eq (.var 8) (.lst []))])]))
    [.ret (.con (.bl false))]
    [],
  .set (.name 12) (.call "_law_roll" [(.var 0), (.bin .Add (.blt .len [(.var 5)]) (.con (.int 1)))]),
  .set (.name 13) (.blt .tuple [(.lc (.var 7) [.mk (.name 7) (.blt .range1 [(.var 1)]) [(.cmp .Eq (.call "_law_roll" [(.var 0), (.con (.int 2))]) (.con (.int 0)))]] [7])]),
  .cond (.and (.cmp .NotEq (.var 13) (.tup [])) (.cmp .NotEq (.call "heard_through" [(.var 4), (.sl (.var 5) none (some (.var 12))), (.call "heard_through" [(.var 4), (.sl (.var 5) (some (.var 12)) none), (.var 13)])]) (.call "heard_through" [(.var 4), (.var 5), (.var 13)])))
    [.ret (.con (.bl false))]
    [],
  .set (.name 14) (.bin .Add (.tup [(.call "_law_roll" [(.var 0), (.blt .len [(.var 4)])])]) (.var 5)),
  .cond (.and (.cmp .Lt (.blt .len [(.var 14)]) (.con (.int 25))) (.cmp .NotEq (.lc (.var 15) [.mk (.name 15) (.call "apart_pairs" [(.var 4), (.var 14)]) [(.cmp .NotIn (.var 15) (.var 8))]] [15]) (.lst [])))
    [.ret (.con (.bl false))]
    [],
  .set (.name 16) (.blt .tuple [(.blt .range1 [(.var 1)])]),
  .ret (.or (.cmp .NotEq (.blt .len [(.var 5)]) (.con (.int 1))) (.cmp .Eq (.call "heard_through" [(.var 4), (.var 5), (.var 16)]) (.call "heard_by" [(.ix (.var 4) (.ix (.var 5) (.con (.int 0)))), (.var 16)])))]
def f_law_b0 : List S := [.cond (.not (.call "_law_right" [(.var 1), (.var 6), (.var 7), (.var 8)]))
    [.ret (.con (.bl false))]
    []]
def f_law : FD where
  ps := ["script"]
  N := ["script", "cup", "one", "other", "book", "told", "many", "size", "long", "odd"]
  body := [.set (.name 1) (.call "_law_cup" [(.var 0)]),
  .set (.tup [(.name 2), (.name 3)]) (.tup [(.tup [(.tup [(.con (.int 1)), (.con (.int 1)), (.con (.int 0))]), (.tup [(.con (.int 0)), (.con (.int 1)), (.con (.int 0))]), (.tup [(.con (.int 0)), (.con (.int 3)), (.con (.int 1))])]), (.tup [(.tup [(.con (.int 0)), (.con (.int 1)), (.con (.int 0))]), (.tup [(.con (.int 0)), (.con (.int 0)), (.con (.int 1))]), (.tup [(.con (.int 1)), (.con (.int 0)), (.con (.int 0))])])]),
  .set (.name 4) (.tup [(.var 2), (.var 3)]),
  .set (.name 5) (.tup [(.call "heard_through" [(.var 4), (.tup [(.con (.int 1)), (.con (.int 0))]), (.tup [(.con (.int 0))])]), (.call "heard_through" [(.var 4), (.tup [(.con (.int 0)), (.con (.int 1))]), (.tup [(.con (.int 0))])]), (.call "heard_through" [(.var 4), (.tup []), (.tup [(.con (.int 0)), (.con (.int 2))])]), (.call "are_apart" [(.var 4), (.tup [(.con (.int 1))]), (.con (.int 0)), (.con (.int 2))]), (.call "are_apart" [(.var 4), (.tup [(.con (.int 0))]), (.con (.int 0)), (.con (.int 2))]), (.call "are_apart" [(.var 4), (.tup []), (.con (.int 1)), (.con (.int 1))])]),
  .cond (.not (.call "_law_same" [(.var 5), (.tup [(.tup [(.con (.int 1)), (.con (.int 2))]), (.tup [(.con (.int 1))]), (.tup [(.con (.int 0)), (.con (.int 2))]), (.con (.bl true)), (.con (.bl false)), (.con (.bl false))])]))
    [.ret (.con (.bl false))]
    [],
  .set (.name 5) (.tup [(.call "apart_pairs" [(.var 4), (.tup [])]), (.call "apart_pairs" [(.var 4), (.tup [(.con (.int 0))])]), (.call "is_joining" [(.var 4), (.tup [(.con (.int 0))])]), (.call "is_joining" [(.var 4), (.tup [(.con (.int 1)), (.con (.int 1)), (.con (.int 1))])])]),
  .set (.name 5) (.bin .Add (.var 5) (.tup [(.call "is_joining" [(.var 4), (.tup [(.con (.int 1)), (.con (.int 0))])]), (.call "is_joining" [(.tup [(.tup [(.tup [(.con (.int 1))])])]), (.tup [])]), (.call "apart_pairs" [(.tup [(.var 3), (.var 2)]), (.tup [(.con (.int 0)), (.con (.int 0))])])])),
  .cond (.not (.call "_law_same" [(.var 5), (.tup [(.tup [(.tup [(.con (.int 0)), (.con (.int 1))]), (.tup [(.con (.int 0)), (.con (.int 2))]), (.tup [(.con (.int 1)), (.con (.int 2))])]), (.tup []), (.con (.bl true)), (.con (.bl false)), (.con (.bl true)), (.con (.bl true)), (.tup [(.tup [(.con (.int 0)), (.con (.int 1))]), (.tup [(.con (.int 0)), (.con (.int 2))]), (.tup [(.con (.int 1)), (.con (.int 2))])])])]))
    [.ret (.con (.bl false))]
    [],
  .for (.tup [(.name 6), (.name 7), (.name 8)]) (.tup [(.tup [(.con (.int 1)), (.con (.int 1)), (.con (.int 2))]), (.tup [(.con (.int 2)), (.con (.int 2)), (.con (.int 3))]), (.tup [(.con (.int 4)), (.con (.int 3)), (.con (.int 6))]), (.tup [(.con (.int 6)), (.con (.int 4)), (.con (.int 24))])]) f_law_b0,
  .ret (.and (.cmp .Eq (.lc (.var 9) [.mk (.name 9) (.tup [(.con .non), (.lst [(.con (.int 0))]), (.tup [(.con (.int 2))]), (.tup [(.neg (.con (.int 1)))]), (.tup [(.con (.bl true))]), (.tup [(.con .non)]), (.bin .Mult (.tup [(.con (.int 0))]) (.con (.int 25))), (.con (.int 0))]) [(.cmp .IsNot (.call "is_word" [(.var 4), (.var 9)]) (.con (.bl false)))]] [9]) (.lst [])) (.cmp .Is (.call "is_word" [(.var 4), (.bin .Mult (.tup [(.con (.int 1))]) (.con (.int 24)))]) (.con (.bl true))))]
def defs : List Df := [⟨"is_whole", top 9, f_is_whole⟩, ⟨"is_tuple_of", top 10, f_is_tuple_of⟩, ⟨"is_rising", top 11, f_is_rising⟩, ⟨"fits_meeting", top 12, f_fits_meeting⟩, ⟨"need_meeting", top 13, f_need_meeting⟩, ⟨"fits_book", top 14, f_fits_book⟩, ⟨"need_book", top 15, f_need_book⟩, ⟨"fits_word", top 16, f_fits_word⟩, ⟨"need_word", top 17, f_need_word⟩, ⟨"fits_lot", top 18, f_fits_lot⟩, ⟨"need_lot", top 19, f_need_lot⟩, ⟨"need_member", top 20, f_need_member⟩, ⟨"heard_in", top 21, f_heard_in⟩, ⟨"through", top 22, f_through⟩, ⟨"is_word", top 23, f_is_word⟩, ⟨"heard_by", top 24, f_heard_by⟩, ⟨"heard_through", top 25, f_heard_through⟩, ⟨"are_apart", top 26, f_are_apart⟩, ⟨"apart_in", top 27, f_apart_in⟩, ⟨"apart_pairs", top 28, f_apart_pairs⟩, ⟨"is_joining", top 29, f_is_joining⟩, ⟨"_law_cup", top 31, f__law_cup⟩, ⟨"_law_roll", top 32, f__law_roll⟩, ⟨"_law_some", top 33, f__law_some⟩, ⟨"_law_same", top 34, f__law_same⟩, ⟨"_law_meeting", top 35, f__law_meeting⟩, ⟨"_law_book", top 36, f__law_book⟩, ⟨"_law_word_of", top 37, f__law_word_of⟩, ⟨"_law_heard", top 38, f__law_heard⟩, ⟨"_law_through", top 39, f__law_through⟩, ⟨"_law_right", top 40, f__law_right⟩, ⟨"law", top 41, f_law⟩]
def exc : List PySem.Str := ["InvalidMeeting", "InvalidMember"]
def nums : Ints := [("MEMBERS", 6), ("WEIGHT", 99), ("MEETINGS", 6), ("LONG", 24)]
abbrev tab : Tab := tabOf defs
abbrev cs : Consts := csOf nums
abbrev ph (n : Nat) : Fns := phi tab cs n
theorem b_is_whole : BindOk (L2.defArgs (top 9)) f_is_whole.ps := fun _ _ _ _ _ _ _ _ _ _ us hl => match us, hl with | [_, _, _], _ => rfl
theorem b_is_tuple_of : BindOk (L2.defArgs (top 10)) f_is_tuple_of.ps := fun _ _ _ _ _ _ _ _ _ _ us hl => match us, hl with | [_, _, _], _ => rfl
theorem b_is_rising : BindOk (L2.defArgs (top 11)) f_is_rising.ps := fun _ _ _ _ _ _ _ _ _ _ us hl => match us, hl with | [_], _ => rfl
theorem b_fits_meeting : BindOk (L2.defArgs (top 12)) f_fits_meeting.ps := fun _ _ _ _ _ _ _ _ _ _ us hl => match us, hl with | [_], _ => rfl
theorem b_need_meeting : BindOk (L2.defArgs (top 13)) f_need_meeting.ps := fun _ _ _ _ _ _ _ _ _ _ us hl => match us, hl with | [_], _ => rfl
theorem b_fits_book : BindOk (L2.defArgs (top 14)) f_fits_book.ps := fun _ _ _ _ _ _ _ _ _ _ us hl => match us, hl with | [_], _ => rfl
theorem b_need_book : BindOk (L2.defArgs (top 15)) f_need_book.ps := fun _ _ _ _ _ _ _ _ _ _ us hl => match us, hl with | [_], _ => rfl
theorem b_fits_word : BindOk (L2.defArgs (top 16)) f_fits_word.ps := fun _ _ _ _ _ _ _ _ _ _ us hl => match us, hl with | [_, _], _ => rfl
theorem b_need_word : BindOk (L2.defArgs (top 17)) f_need_word.ps := fun _ _ _ _ _ _ _ _ _ _ us hl => match us, hl with | [_, _], _ => rfl
theorem b_fits_lot : BindOk (L2.defArgs (top 18)) f_fits_lot.ps := fun _ _ _ _ _ _ _ _ _ _ us hl => match us, hl with | [_, _], _ => rfl
theorem b_need_lot : BindOk (L2.defArgs (top 19)) f_need_lot.ps := fun _ _ _ _ _ _ _ _ _ _ us hl => match us, hl with | [_, _], _ => rfl
theorem b_need_member : BindOk (L2.defArgs (top 20)) f_need_member.ps := fun _ _ _ _ _ _ _ _ _ _ us hl => match us, hl with | [_, _], _ => rfl
theorem b_heard_in : BindOk (L2.defArgs (top 21)) f_heard_in.ps := fun _ _ _ _ _ _ _ _ _ _ us hl => match us, hl with | [_, _], _ => rfl
theorem b_through : BindOk (L2.defArgs (top 22)) f_through.ps := fun _ _ _ _ _ _ _ _ _ _ us hl => match us, hl with | [_, _, _], _ => rfl
theorem b_is_word : BindOk (L2.defArgs (top 23)) f_is_word.ps := fun _ _ _ _ _ _ _ _ _ _ us hl => match us, hl with | [_, _], _ => rfl
theorem b_heard_by : BindOk (L2.defArgs (top 24)) f_heard_by.ps := fun _ _ _ _ _ _ _ _ _ _ us hl => match us, hl with | [_, _], _ => rfl
theorem b_heard_through : BindOk (L2.defArgs (top 25)) f_heard_through.ps := fun _ _ _ _ _ _ _ _ _ _ us hl => match us, hl with | [_, _, _], _ => rfl
theorem b_are_apart : BindOk (L2.defArgs (top 26)) f_are_apart.ps := fun _ _ _ _ _ _ _ _ _ _ us hl => match us, hl with | [_, _, _, _], _ => rfl
theorem b_apart_in : BindOk (L2.defArgs (top 27)) f_apart_in.ps := fun _ _ _ _ _ _ _ _ _ _ us hl => match us, hl with | [_, _], _ => rfl
theorem b_apart_pairs : BindOk (L2.defArgs (top 28)) f_apart_pairs.ps := fun _ _ _ _ _ _ _ _ _ _ us hl => match us, hl with | [_, _], _ => rfl
theorem b_is_joining : BindOk (L2.defArgs (top 29)) f_is_joining.ps := fun _ _ _ _ _ _ _ _ _ _ us hl => match us, hl with | [_, _], _ => rfl
theorem b__law_cup : BindOk (L2.defArgs (top 31)) f__law_cup.ps := fun _ _ _ _ _ _ _ _ _ _ us hl => match us, hl with | [_], _ => rfl
theorem b__law_roll : BindOk (L2.defArgs (top 32)) f__law_roll.ps := fun _ _ _ _ _ _ _ _ _ _ us hl => match us, hl with | [_, _], _ => rfl
theorem b__law_some : BindOk (L2.defArgs (top 33)) f__law_some.ps := fun _ _ _ _ _ _ _ _ _ _ us hl => match us, hl with | [_, _], _ => rfl
theorem b__law_same : BindOk (L2.defArgs (top 34)) f__law_same.ps := fun _ _ _ _ _ _ _ _ _ _ us hl => match us, hl with | [_, _], _ => rfl
theorem b__law_meeting : BindOk (L2.defArgs (top 35)) f__law_meeting.ps := fun _ _ _ _ _ _ _ _ _ _ us hl => match us, hl with | [_, _, _], _ => rfl
theorem b__law_book : BindOk (L2.defArgs (top 36)) f__law_book.ps := fun _ _ _ _ _ _ _ _ _ _ us hl => match us, hl with | [_, _, _, _], _ => rfl
theorem b__law_word_of : BindOk (L2.defArgs (top 37)) f__law_word_of.ps := fun _ _ _ _ _ _ _ _ _ _ us hl => match us, hl with | [_, _, _], _ => rfl
theorem b__law_heard : BindOk (L2.defArgs (top 38)) f__law_heard.ps := fun _ _ _ _ _ _ _ _ _ _ us hl => match us, hl with | [_, _], _ => rfl
theorem b__law_through : BindOk (L2.defArgs (top 39)) f__law_through.ps := fun _ _ _ _ _ _ _ _ _ _ us hl => match us, hl with | [_, _, _], _ => rfl
theorem b__law_right : BindOk (L2.defArgs (top 40)) f__law_right.ps := fun _ _ _ _ _ _ _ _ _ _ us hl => match us, hl with | [_, _, _, _], _ => rfl
theorem b_law : BindOk (L2.defArgs (top 41)) f_law.ps := fun _ _ _ _ _ _ _ _ _ _ us hl => match us, hl with | [_], _ => rfl
def loose : List PySem.Str := (["SetError", "InvalidMeeting", "InvalidMember", "is_whole", "is_tuple_of", "is_rising", "fits_meeting", "need_meeting", "fits_book", "need_book", "fits_word", "need_word", "fits_lot", "need_lot", "need_member", "heard_in", "through", "is_word", "heard_by", "heard_through", "are_apart", "apart_in", "apart_pairs", "is_joining"] : List PySem.Str) ++ (["_law_cup", "_law_roll", "_law_some", "_law_same", "_law_meeting", "_law_book", "_law_word_of", "_law_heard", "_law_through", "_law_right", "MEMBERS", "WEIGHT", "MEETINGS", "LONG"] : List PySem.Str)
theorem chk_all : defs.all (dfB defs exc) = true := by decide +kernel
theorem bnd_all : ∀ d ∈ defs, BindOk (L2.defArgs d.st) d.fd.ps := by
  unfold defs
  simp only [List.forall_mem_cons]
  exact ⟨b_is_whole, b_is_tuple_of, b_is_rising, b_fits_meeting, b_need_meeting, b_fits_book, b_need_book, b_fits_word, b_need_word, b_fits_lot, b_need_lot, b_need_member, b_heard_in, b_through, b_is_word, b_heard_by, b_heard_through, b_are_apart, b_apart_in, b_apart_pairs, b_is_joining, b__law_cup, b__law_roll, b__law_some, b__law_same, b__law_meeting, b__law_book, b__law_word_of, b__law_heard, b__law_through, b__law_right, b_law, fun _ h => absurd h (by simp)⟩
@[simp] theorem c_MEMBERS : cs.lookup ("MEMBERS" : PySem.Str) = some (D.int 6) := by kernel_rfl
@[simp] theorem c_WEIGHT : cs.lookup ("WEIGHT" : PySem.Str) = some (D.int 99) := by kernel_rfl
@[simp] theorem c_MEETINGS : cs.lookup ("MEETINGS" : PySem.Str) = some (D.int 6) := by kernel_rfl
@[simp] theorem c_LONG : cs.lookup ("LONG" : PySem.Str) = some (D.int 24) := by kernel_rfl
theorem u_is_whole (n : Nat) (args : List D) (st : Store) : ph (n+1) "is_whole" args st = runF (ph n) cs f_is_whole args st := by kernel_rfl
theorem u_is_tuple_of (n : Nat) (args : List D) (st : Store) : ph (n+1) "is_tuple_of" args st = runF (ph n) cs f_is_tuple_of args st := by kernel_rfl
theorem u_is_rising (n : Nat) (args : List D) (st : Store) : ph (n+1) "is_rising" args st = runF (ph n) cs f_is_rising args st := by kernel_rfl
theorem u_fits_meeting (n : Nat) (args : List D) (st : Store) : ph (n+1) "fits_meeting" args st = runF (ph n) cs f_fits_meeting args st := by kernel_rfl
theorem u_need_meeting (n : Nat) (args : List D) (st : Store) : ph (n+1) "need_meeting" args st = runF (ph n) cs f_need_meeting args st := by kernel_rfl
theorem u_fits_book (n : Nat) (args : List D) (st : Store) : ph (n+1) "fits_book" args st = runF (ph n) cs f_fits_book args st := by kernel_rfl
theorem u_need_book (n : Nat) (args : List D) (st : Store) : ph (n+1) "need_book" args st = runF (ph n) cs f_need_book args st := by kernel_rfl
theorem u_fits_word (n : Nat) (args : List D) (st : Store) : ph (n+1) "fits_word" args st = runF (ph n) cs f_fits_word args st := by kernel_rfl
theorem u_need_word (n : Nat) (args : List D) (st : Store) : ph (n+1) "need_word" args st = runF (ph n) cs f_need_word args st := by kernel_rfl
theorem u_fits_lot (n : Nat) (args : List D) (st : Store) : ph (n+1) "fits_lot" args st = runF (ph n) cs f_fits_lot args st := by kernel_rfl
theorem u_need_lot (n : Nat) (args : List D) (st : Store) : ph (n+1) "need_lot" args st = runF (ph n) cs f_need_lot args st := by kernel_rfl
theorem u_need_member (n : Nat) (args : List D) (st : Store) : ph (n+1) "need_member" args st = runF (ph n) cs f_need_member args st := by kernel_rfl
theorem u_heard_in (n : Nat) (args : List D) (st : Store) : ph (n+1) "heard_in" args st = runF (ph n) cs f_heard_in args st := by kernel_rfl
theorem u_through (n : Nat) (args : List D) (st : Store) : ph (n+1) "through" args st = runF (ph n) cs f_through args st := by kernel_rfl
theorem u_is_word (n : Nat) (args : List D) (st : Store) : ph (n+1) "is_word" args st = runF (ph n) cs f_is_word args st := by kernel_rfl
theorem u_heard_by (n : Nat) (args : List D) (st : Store) : ph (n+1) "heard_by" args st = runF (ph n) cs f_heard_by args st := by kernel_rfl
theorem u_heard_through (n : Nat) (args : List D) (st : Store) : ph (n+1) "heard_through" args st = runF (ph n) cs f_heard_through args st := by kernel_rfl
theorem u_are_apart (n : Nat) (args : List D) (st : Store) : ph (n+1) "are_apart" args st = runF (ph n) cs f_are_apart args st := by kernel_rfl
theorem u_apart_in (n : Nat) (args : List D) (st : Store) : ph (n+1) "apart_in" args st = runF (ph n) cs f_apart_in args st := by kernel_rfl
theorem u_apart_pairs (n : Nat) (args : List D) (st : Store) : ph (n+1) "apart_pairs" args st = runF (ph n) cs f_apart_pairs args st := by kernel_rfl
theorem u_is_joining (n : Nat) (args : List D) (st : Store) : ph (n+1) "is_joining" args st = runF (ph n) cs f_is_joining args st := by kernel_rfl
theorem u__law_cup (n : Nat) (args : List D) (st : Store) : ph (n+1) "_law_cup" args st = runF (ph n) cs f__law_cup args st := by kernel_rfl
theorem u__law_roll (n : Nat) (args : List D) (st : Store) : ph (n+1) "_law_roll" args st = runF (ph n) cs f__law_roll args st := by kernel_rfl
theorem u__law_some (n : Nat) (args : List D) (st : Store) : ph (n+1) "_law_some" args st = runF (ph n) cs f__law_some args st := by kernel_rfl
theorem u__law_same (n : Nat) (args : List D) (st : Store) : ph (n+1) "_law_same" args st = runF (ph n) cs f__law_same args st := by kernel_rfl
theorem u__law_meeting (n : Nat) (args : List D) (st : Store) : ph (n+1) "_law_meeting" args st = runF (ph n) cs f__law_meeting args st := by kernel_rfl
theorem u__law_book (n : Nat) (args : List D) (st : Store) : ph (n+1) "_law_book" args st = runF (ph n) cs f__law_book args st := by kernel_rfl
theorem u__law_word_of (n : Nat) (args : List D) (st : Store) : ph (n+1) "_law_word_of" args st = runF (ph n) cs f__law_word_of args st := by kernel_rfl
theorem u__law_heard (n : Nat) (args : List D) (st : Store) : ph (n+1) "_law_heard" args st = runF (ph n) cs f__law_heard args st := by kernel_rfl
theorem u__law_through (n : Nat) (args : List D) (st : Store) : ph (n+1) "_law_through" args st = runF (ph n) cs f__law_through args st := by kernel_rfl
theorem u__law_right (n : Nat) (args : List D) (st : Store) : ph (n+1) "_law_right" args st = runF (ph n) cs f__law_right args st := by kernel_rfl
theorem u_law (n : Nat) (args : List D) (st : Store) : ph (n+1) "law" args st = runF (ph n) cs f_law args st := by kernel_rfl
end K01

set_option Elab.async false
set_option linter.all false
set_option maxRecDepth 100000
set_option maxHeartbeats 2000000
namespace K01
open Ev Lw
variable {n : Nat} {st : Store}
theorem is_whole_ok {i lo hi : Int} (h1 : lo ≤ i) (h2 : i ≤ hi) : ph (n+1) "is_whole" [.int i, .int lo, .int hi] st = .ok (.bl true) st := by
  rw [u_is_whole]
  simp [runF, f_is_whole, startE, okTy, isinTy, h1, h2]
theorem is_tuple_of_ok {l : List D} {lo hi : Int} (h1 : lo ≤ l.length) (h2 : (l.length : Int) ≤ hi) : ph (n+1) "is_tuple_of" [.tup l, .int lo, .int hi] st = .ok (.bl true) st := by
  rw [u_is_tuple_of]
  simp [runF, f_is_tuple_of, startE, okTy, isinTy, h1, h2]
abbrev encR (r : List Int) : D := .tup (r.map D.int)
abbrev enc (m : List (List Int)) : D := .tup (m.map encR)
structure Row (k : Nat) (r : List Int) : Prop where
  len : r.length = k
  lo : ∀ x ∈ r, 0 ≤ x
  hi : ∀ x ∈ r, x ≤ 99
  pos : 0 < r.sum
structure Meet (k : Nat) (m : List (List Int)) : Prop where
  k1 : 1 ≤ k
  k6 : k ≤ 6
  len : m.length = k
  rows : ∀ r ∈ m, Row k r
theorem fits_meeting_ok {k : Nat} {m : List (List Int)} (h : Meet k m) : ph (n+2) "fits_meeting" [enc m] st = .ok (.bl true) st := by
  have h1 := h.k1
  have h6 := h.k6
  have hl := h.len
  rw [u_fits_meeting]
  have e1 : ph (n+1) "is_tuple_of" [enc m, .int 1, .int 6] st = .ok (.bl true) st := is_tuple_of_ok (by simp [hl]; omega) (by simp [hl]; omega)
  simp [runF, f_fits_meeting, startE, okTy, isinTy, e1]
  rw [lcE1 (f := encR) (g := fun _ => .bl true) (hl := by omega) (h := ?_)]
  · simp [all_true]
    rw [lcE1 (f := encR) (g := fun _ => .bl true) (hl := by omega) (h := ?_)]
    · simp [all_true]
    · intro r hr
      have hp := (h.rows r hr).pos
      simp [sumTup, hp]
  · intro r hr
    have hR := h.rows r hr
    have hrl := hR.len
    have e2 : ph (n+1) "is_tuple_of" [encR r, .int m.length, .int m.length] st = .ok (.bl true) st := is_tuple_of_ok (by simp [hl, hrl]) (by simp [hl, hrl])
    simp [e2]
    rw [lcE1 (f := D.int) (g := fun _ => .bl true) (hl := by omega) (h := ?_)]
    · simp [all_true]
    · intro x hx
      have e3 : ph (n+1) "is_whole" [.int x, .int 0, .int 99] st = .ok (.bl true) st := is_whole_ok (hR.lo x hx) (hR.hi x hx)
      simp [e3]
theorem need_meeting_ok {k : Nat} {m : List (List Int)} (h : Meet k m) : ph (n+3) "need_meeting" [enc m] st = .ok .non st := by
  rw [u_need_meeting]
  have e1 : ph (n+2) "fits_meeting" [enc m] st = .ok (.bl true) st := fits_meeting_ok h
  simp [runF, f_need_meeting, startE, e1]
structure Book (k : Nat) (b : List (List (List Int))) : Prop where
  b1 : 1 ≤ b.length
  b6 : b.length ≤ 6
  all : ∀ m ∈ b, Meet k m
abbrev encB (b : List (List (List Int))) : D := .tup (b.map enc)
theorem fits_book_ok {k : Nat} {b : List (List (List Int))} (h : Book k b) : ph (n+3) "fits_book" [encB b] st = .ok (.bl true) st := by
  have h1 := h.b1
  have h6 := h.b6
  have e1 : ph (n+2) "is_tuple_of" [encB b, .int 1, .int 6] st = .ok (.bl true) st := is_tuple_of_ok (by simp; omega) (by simp; omega)
  rw [u_fits_book]
  simp [runF, f_fits_book, startE, e1]
  rw [lcE1 (f := enc) (g := fun _ => .bl true) (hl := by omega) (h := ?_)]
  · simp [all_true]
    rw [lcE1 (f := enc) (g := fun _ => .bl true) (hl := by omega) (h := ?_)]
    · simp [all_true]
    · intro m hm
      have e0 : ixop (encB b) (.int 0) st = .ok (enc (b[0]?.getD [])) st := ix_map (i := 0) [] (by omega)
      have hl := (h.all m hm).len
      have hl0 : (b[0]?.getD []).length = k := by
        have : b[0]?.getD [] ∈ b := by
          cases b with
          | nil => simp at h1
          | cons x r => simp
        exact (h.all _ this).len
      simp [e0, hl, hl0]
  · intro m hm
    have e2 : ph (n+2) "fits_meeting" [enc m] st = .ok (.bl true) st := fits_meeting_ok (h.all m hm)
    simp [e2]
/-! lots -/
abbrev nI (i : Nat) : D := .int i
abbrev encL (l : List Nat) : D := .tup (l.map nI)
structure Lot (k : Nat) (l : List Nat) : Prop where
  ne : 1 ≤ l.length
  le : l.length ≤ k
  lt : ∀ x ∈ l, x < k
  up : l.Pairwise (· < ·)
theorem pw_zip : ∀ {l : List Nat}, l.Pairwise (· < ·) → ∀ p ∈ l.zip l.tail, p.1 < p.2
  | [], _, p, h => by simp at h
  | [x], _, p, h => by simp at h
  | x :: y :: r, hp, p, h => by
    simp only [List.tail_cons, List.zip_cons_cons, List.mem_cons] at h
    rcases h with rfl | h
    · exact (List.pairwise_cons.mp hp).1 y List.mem_cons_self
    · exact pw_zip (List.pairwise_cons.mp hp).2 p h
theorem is_rising_ok {l : List Nat} (h : l.Pairwise (· < ·)) (hl : l.length ≤ 1000) : ph (n+1) "is_rising" [encL l] st = .ok (.bl true) st := by
  rw [u_is_rising]
  have e : cut (l.map nI) (some 1) none = (l.drop 1).map nI := by
    unfold cut sIx
    simp
    cases l with
    | nil => simp
    | cons x r =>
      simp
      rw [List.take_of_length_le (by simp)]
  simp [runF, f_is_rising, startE, slop, e]
  rw [← List.map_tail, zip_map, lcE1 (f := fun p : Nat × Nat => D.tup [nI p.1, nI p.2]) (g := fun _ => .bl true) (hl := by simp; omega) (h := ?_)]
  · simp [all_true]
  · intro p hp
    have := pw_zip h p hp
    simp
    omega
theorem fits_lot_ok {k : Nat} {l : List Nat} (h : Lot k l) (hk : k ≤ 6) : ph (n+2) "fits_lot" [nI k, encL l] st = .ok (.bl true) st := by
  have h1 := h.ne
  have h2 := h.le
  have e1 : ph (n+1) "is_tuple_of" [encL l, .int 1, nI k] st = .ok (.bl true) st := is_tuple_of_ok (by simp; omega) (by simp; omega)
  have e2 : ph (n+1) "is_rising" [encL l] st = .ok (.bl true) st := is_rising_ok h.up (by omega)
  rw [u_fits_lot]
  simp [runF, f_fits_lot, startE, e1, e2]
  rw [lcE1 (f := nI) (g := fun _ => .bl true) (hl := by omega) (h := ?_)]
  · simp [all_true, e2]
  · intro x hx
    have hx := h.lt x hx
    have e3 : ph (n+1) "is_whole" [nI x, .int 0, .int ((k : Int) - 1)] st = .ok (.bl true) st := is_whole_ok (by omega) (by omega)
    simp [e3]
theorem need_lot_ok {k : Nat} {l : List Nat} (h : Lot k l) (hk : k ≤ 6) : ph (n+3) "need_lot" [nI k, encL l] st = .ok .non st := by
  have e1 : ph (n+2) "fits_lot" [nI k, encL l] st = .ok (.bl true) st := fits_lot_ok h hk
  rw [u_need_lot]
  simp [runF, f_need_lot, startE, e1]
theorem need_member_ok {k j : Nat} (h : j < k) : ph (n+2) "need_member" [nI k, nI j] st = .ok .non st := by
  have e1 : ph (n+1) "is_whole" [nI j, .int 0, .int ((k : Int) - 1)] st = .ok (.bl true) st := is_whole_ok (by omega) (by omega)
  rw [u_need_member]
  simp [runF, f_need_member, startE, e1]
end K01

set_option Elab.async false
set_option linter.all false
set_option maxRecDepth 100000
set_option maxHeartbeats 2000000
namespace K01
open Ev Lw
variable {n : Nat} {st : Store}
def mg (m : List (List Int)) (i j : Nat) : Int := (m[i]?.getD [])[j]?.getD 0
theorem Meet.row {k i : Nat} {m : List (List Int)} (h : Meet k m) (hi : i < k) : (m[i]?.getD []).length = k := by
  have : m[i]?.getD [] ∈ m := by
    rw [List.getElem?_eq_getElem (by rw [h.len]; exact hi)]
    exact List.getElem_mem _
  exact (h.rows _ this).len
theorem ix2 {k i j : Nat} {m : List (List Int)} (h : Meet k m) (hi : i < k) (hj : j < k) : ixop (encR (m[i]?.getD [])) (nI j) st = .ok (.int (mg m i j)) st :=
  ix_map (f := D.int) 0 (by rw [h.row hi]; exact hj)
theorem ix1 {k i : Nat} {m : List (List Int)} (h : Meet k m) (hi : i < k) : ixop (enc m) (nI i) st = .ok (encR (m[i]?.getD [])) st :=
  ix_map (f := encR) [] (by rw [h.len]; exact hi)
def heard (k : Nat) (m : List (List Int)) (l : List Nat) : List Nat := (List.range k).filter fun at_ => l.any fun own => decide (0 < mg m own at_)
theorem heard_in_ok {k : Nat} {m : List (List Int)} {l : List Nat} (h : Meet k m) (hl : Lot k l) : ph (n+1) "heard_in" [enc m, encL l] st = .ok (encL (heard k m l)) st := by
  have hk := h.k6
  have hlen := h.len
  have hle := hl.le
  rw [u_heard_in]
  simp [runF, f_heard_in, startE]
  rw [items_range _ (by omega)]
  simp
  rw [lcEF (f := nI) (p := fun at_ => l.any fun own => decide (0 < mg m own at_)) (g := nI) (hl := by simp; omega) (h := ?_)]
  · simp [hlen, heard]
  · intro at_ hat
    have hat : at_ < k := by simpa [hlen] using hat
    simp
    rw [lcE1 (f := nI) (g := fun own => .bl (decide (0 < mg m own at_))) (hl := by omega) (h := ?_)]
    · simp [any_map]
      split <;> rfl
    · intro own ho
      have ho := hl.lt own ho
      simp [ix1 h ho, ix2 h ho hat]
theorem heard_by_ok {k : Nat} {m : List (List Int)} {l : List Nat} (h : Meet k m) (hl : Lot k l) : ph (n+4) "heard_by" [enc m, encL l] st = .ok (encL (heard k m l)) st := by
  have e1 : ph (n+3) "need_meeting" [enc m] st = .ok .non st := need_meeting_ok h
  have e2 : ph (n+3) "need_lot" [nI k, encL l] st = .ok .non st := need_lot_ok hl h.k6
  have e3 : ph (n+3) "heard_in" [enc m, encL l] st = .ok (encL (heard k m l)) st := heard_in_ok h hl
  have hlen := h.len
  rw [u_heard_by]
  simp [runF, f_heard_by, startE, e1, e2, e3, hlen]
abbrev encP (p : Nat × Nat) : D := .tup [nI p.1, nI p.2]
abbrev encPs (l : List (Nat × Nat)) : D := .tup (l.map encP)
def earsAt (k : Nat) (m : List (List Int)) (i : Nat) : List (Nat × Nat) := ((List.range k).filter fun j => decide (0 < mg m i j)).map fun j => (i, j)
def ears (k : Nat) (m : List (List Int)) : List (Nat × Nat) := (List.range k).flatMap (earsAt k m)
theorem flat_le {α β : Type} (f : α → List β) (c : Nat) : ∀ (l : List α), (∀ x ∈ l, (f x).length ≤ c) → (l.flatMap f).length ≤ l.length * c
  | [], _ => by simp
  | x :: r, h => by
    rw [List.flatMap_cons, List.length_append, List.length_cons, Nat.succ_mul]
    have := h x List.mem_cons_self
    have := flat_le f c r (fun y hy => h y (List.mem_cons_of_mem _ hy))
    omega
theorem earsAt_len {k i : Nat} {m : List (List Int)} : (earsAt k m i).length ≤ k := by
  unfold earsAt
  rw [List.length_map]
  exact Nat.le_trans (List.length_filter_le _ _) (by simp)
theorem ears_len {k : Nat} {m : List (List Int)} (hk : k ≤ 6) : (ears k m).length ≤ 36 := by
  have := flat_le (earsAt k m) k (List.range k) (fun x _ => earsAt_len)
  unfold ears
  rw [List.length_range] at this
  exact Nat.le_trans this (Nat.mul_le_mul hk hk)
end K01

set_option Elab.async false
set_option linter.all false
set_option maxRecDepth 100000
set_option maxHeartbeats 2000000
namespace K01
open Ev Lw
variable {n : Nat} {st : Store}
/-! the same -/
def Same (k : Nat) (d : D) : Prop := ∀ n st, ph (n + k) "_law_same" [d, d] st = .ok (.bl true) st
theorem Same.up {k j : Nat} {d : D} (h : Same k d) (hj : k ≤ j) : Same j d := fun n st => by
  have := h (n + (j - k)) st
  rw [show n + (j - k) + k = n + j by omega] at this
  exact this
theorem same_int (i : Int) : Same 1 (.int i) := fun n st => by
  rw [u__law_same]
  simp [runF, f__law_same, startE, okTy, isinTy]
theorem same_bl (b : Bool) : Same 1 (.bl b) := fun n st => by
  rw [u__law_same]
  cases b <;> simp [runF, f__law_same, startE, okTy, isinTy]
theorem same_tup {k : Nat} {l : List D} (hl : l.length ≤ 1000) (h : ∀ d ∈ l, Same k d) : Same (k + 1) (.tup l) := fun n st => by
  rw [show n + (k + 1) = (n + k) + 1 by omega, u__law_same]
  simp [runF, f__law_same, startE, okTy, isinTy]
  rw [items_range _ (by omega)]
  simp
  rw [lcE1 (f := nI) (g := fun _ => .bl true) (hl := by simp; omega) (h := ?_)]
  · simp [all_true]
  · intro i hi
    have hi : i < l.length := by simpa using hi
    have e : ∀ st, ixop (.tup l) (nI i) st = .ok l[i] st := fun st => ix_tup (by simp [hi])
    simp [e, h l[i] (List.getElem_mem hi) n st]
theorem same_map {α : Type} {k : Nat} {f : α → D} {l : List α} (hl : l.length ≤ 1000) (h : ∀ a ∈ l, Same k (f a)) : Same (k + 1) (.tup (l.map f)) :=
  same_tup (by simpa using hl) fun d hd => by
    obtain ⟨a, ha, rfl⟩ := List.mem_map.mp hd
    exact h a ha
theorem same_L {l : List Nat} (hl : l.length ≤ 1000) : Same 2 (encL l) := same_map hl fun a _ => same_int a
theorem same_Ps {l : List (Nat × Nat)} (hl : l.length ≤ 1000) : Same 3 (encPs l) := same_map hl fun p _ => same_tup (by simp) fun d hd => by
  simp at hd
  rcases hd with rfl | rfl <;> exact same_int _
/-! draws -/
abbrev C (a b : Int) : Store := [.lst [.int a, .int b]]
theorem c0 {a b : Int} : ixop (.ref 0) (.int 0) (C a b) = .ok (.int a) (C a b) := rfl
theorem c1 {a b : Int} : ixop (.ref 0) (.int 1) (C a b) = .ok (.int b) (C a b) := rfl
theorem s0 {a b : Int} {d : Int} : subop (.ref 0) (.int 0) (.int d) (C a b) = some (C d b) := rfl
theorem s1 {a b : Int} {d : Int} : subop (.ref 0) (.int 1) (.int d) (C a b) = some (C a d) := rfl
theorem roll_ok (a b : Int) {k : Nat} (h1 : 1 ≤ k) (h2 : k ≤ 1000) : ∃ (r : Nat) (a' b' : Int), r < k ∧ ph (n+1) "_law_roll" [.ref 0, nI k] (C a b) = .ok (nI r) (C a' b') := by
  have hk : (0 : Int) < k := by omega
  have hm : ∀ i : Int, ∃ r : Nat, r < k ∧ (r : Int) = i % k := fun i => by
    have h3 := Int.emod_nonneg i (show (k : Int) ≠ 0 by omega)
    have h4 := Int.emod_lt_of_pos i hk
    exact ⟨(i % k).toNat, by omega, by omega⟩
  rw [u__law_roll]
  by_cases ha : 0 < a
  · obtain ⟨r, hr, e⟩ := hm a
    refine ⟨r, a / k, b, hr, ?_⟩
    simp [runF, f__law_roll, startE, c0, ha, mod_int hk, div_int hk (show (k : Int) < 2 ^ 64 by omega), s0, ← e]
  · have m1 : ∀ st, binop .Mult (.int b) (.int 30931) st = .ok (.int (b * 30931)) st := fun st => mul_int' (by decide)
    have m2 : ∀ i st, binop .Mod (.int i) (.int 2147483399) st = .ok (.int (i % 2147483399)) st := fun i st => mod_int (by decide)
    have m3 : ∀ i st, binop .Mod (.int i) (.int 2147483563) st = .ok (.int (i % 2147483563)) st := fun i st => mod_int (by decide)
    have m4 : ∀ i st, binop .FloorDiv (.int i) (.int 829) st = .ok (.int (i / 829)) st := fun i st => div_int (by decide) (by decide)
    have hb := Int.emod_nonneg (b * 30931 + 7907) (show (2147483399 : Int) ≠ 0 by decide)
    have hb2 := Int.emod_lt_of_pos (b * 30931 + 7907) (show (0 : Int) < 2147483399 by decide)
    generalize hq : (b * 30931 + 7907) % 2147483399 = q at hb hb2
    have m5 : ∀ j st, binop .Mult (.int q) (.int j) st = .ok (.int (q * j)) st := fun j st => mul_int (by omega)
    obtain ⟨r, hr, e⟩ := hm (q * (q + 251) % 2147483563 / 829)
    refine ⟨r, a, q, hr, ?_⟩
    simp [runF, f__law_roll, startE, c0, c1, ha, m1, m2, hq, s1, m5, m3, m4, mod_int hk, ← e]
theorem some_ok (a b : Int) {l : List Int} (h1 : 1 ≤ l.length) (h2 : l.length ≤ 1000) : ∃ (x a' b' : Int), x ∈ l ∧ ph (n+2) "_law_some" [.ref 0, .lst (l.map D.int)] (C a b) = .ok (.int x) (C a' b') := by
  obtain ⟨r, a', b', hr, e⟩ := roll_ok (n := n) a b h1 h2
  refine ⟨l[r], a', b', List.getElem_mem hr, ?_⟩
  rw [u__law_some]
  have e2 : ∀ st, ixop (.lst (l.map D.int)) (nI r) st = .ok (.int l[r]) st := fun st => ix_lst (by simp [hr])
  simp [runF, f__law_some, startE, e, e2]
end K01

set_option Elab.async false
set_option linter.all false
set_option maxRecDepth 100000
set_option maxHeartbeats 2000000
namespace K01
open Ev Lw
variable {n : Nat} {st : Store}
def unit (k o : Nat) : List Int := (List.range k).map fun j => if j = o then 1 else 0
theorem unit_row {k o : Nat} (ho : o < k) : Row k (unit k o) where
  len := by simp [unit]
  lo := fun x hx => by
    obtain ⟨j, _, rfl⟩ := List.mem_map.mp hx
    split <;> decide
  hi := fun x hx => by
    obtain ⟨j, _, rfl⟩ := List.mem_map.mp hx
    split <;> decide
  pos := sum_pos (fun x hx => by
    obtain ⟨j, _, rfl⟩ := List.mem_map.mp hx
    split <;> decide) ⟨1, List.mem_map.mpr ⟨o, by simpa using ho, by simp⟩, by decide⟩
def PM (k high : Nat) (ys : List Nat) (env : Env) (st : Store) : Prop :=
  ∃ (m : List (List Int)) (a b : Int) (x4 x5 x6 x7 : Option D), m.length = ys.length ∧ (∀ r ∈ m, Row k r) ∧ env = [some (.ref 0), some (nI k), some (nI high), some (enc m), x4, x5, x6, x7] ∧ st = C a b
theorem meeting_turn {k high : Nat} (h1 : 1 ≤ k) (h6 : k ≤ 6) (g1 : 1 ≤ high) (g9 : high ≤ 99) (ys : List Nat) (x : Nat) (zs : List Nat) (env : Env) (st : Store) (hy : ys.length < 6) (h : PM k high ys env st) :
    ∃ env1 env2 st2, bindT (.name 4) (nI x) env = some env1 ∧ exs (ex (ev (ph (n+2)) cs 40) 39) f__law_meeting_b0 env1 st = .ok (.next env2) st2 ∧ PM k high (ys ++ [x]) env2 st2 := by
  obtain ⟨m, a, b, x4, x5, x6, x7, hm, hr, rfl, rfl⟩ := h
  have hrow : ∀ a b : Int, ∃ (r : List Int) (a' b' : Int), r.length = k ∧ (∀ x ∈ r, 0 ≤ x ∧ x ≤ 99) ∧
      (lcItems (lcOne (ev (ph (n+2)) cs 38) (.call "_law_some" [(.var 0), (.lst [(.con (.int 0)), (.con (.int 0)), (.bin .Add (.con (.int 1)) (.call "_law_roll" [(.var 0), (.var 2)]))])]) [] (.name 7) [])
        ((List.range k).map fun (i : Nat) => D.int i) [some (.ref 0), some (nI k), some (nI high), some (enc m), some (nI x), x5, x6, none] (C a b)).calm.bind lcEnd = .ok (.lst (r.map D.int)) (C a' b') := by
    intro a b
    obtain ⟨ds, st', e, ⟨a', b', rfl⟩, hq⟩ := lc_keep1 (one := lcOne (ev (ph (n+2)) cs 38) (.call "_law_some" [(.var 0), (.lst [(.con (.int 0)), (.con (.int 0)), (.bin .Add (.con (.int 1)) (.call "_law_roll" [(.var 0), (.var 2)]))])]) [] (.name 7) [])
      (env := [some (.ref 0), some (nI k), some (nI high), some (enc m), some (nI x), x5, x6, none]) (xs := List.range k) (st := C a b) nI (fun st => ∃ a b, st = C a b) (fun _ d => ∃ i : Int, d = .int i ∧ (0 ≤ i ∧ i ≤ 99)) ⟨a, b, rfl⟩ (by
        rintro j hj _ ⟨a, b, rfl⟩
        obtain ⟨r, a1, b1, hr, e1⟩ := roll_ok (n := n+1) a b g1 (show high ≤ 1000 by omega)
        obtain ⟨v, a2, b2, hv, e2⟩ := some_ok (n := n) a1 b1 (l := [0, 0, 1 + (r : Int)]) (by simp) (by simp)
        refine ⟨.int v, C a2 b2, ?_, ⟨a2, b2, rfl⟩, v, rfl, ?_⟩
        · simp at e2
          simp [e1, e2]
        · simp at hv
          omega)
    obtain ⟨r, rfl, hl, hb⟩ := all2_map D.int (fun i => 0 ≤ i ∧ i ≤ 99) hq
    refine ⟨r, a', b', by simpa using hl, hb, ?_⟩
    have hl' : r.length = k := by simpa using hl
    rw [e, R.calm_ok, R.bind_ok, lcEnd_ok (by simp; omega)]
  obtain ⟨r, a1, b1, hl, hb, e1⟩ := hrow a b
  obtain ⟨o, a2, b2, ho, e2⟩ := roll_ok (n := n+1) a1 b1 h1 (show k ≤ 1000 by omega)
  by_cases hs : 0 < r.sum
  · refine ⟨_, [some (.ref 0), some (nI k), some (nI high), some (enc (m ++ [r])), some (nI x), some (encR r), some (nI o), x7], C a2 b2, rfl, ?_, m ++ [r], a2, b2, _, _, _, _, by simp [hm], ?_, rfl, rfl⟩
    · simp [f__law_meeting_b0]
      rw [items_range _ (by omega)]
      simp [e1, e2, sumTup, hs]
      rw [add_tup (by simp [seqMax]; omega)]
      simp
    · intro r' hr'
      rcases List.mem_append.mp hr' with z | z
      · exact hr r' z
      · rw [List.mem_singleton.mp z]
        exact ⟨hl, fun x hx => (hb x hx).1, fun x hx => (hb x hx).2, hs⟩
  · refine ⟨_, [some (.ref 0), some (nI k), some (nI high), some (enc (m ++ [unit k o])), some (nI x), some (encR r), some (nI o), x7], C a2 b2, rfl, ?_, m ++ [unit k o], a2, b2, _, _, _, _, by simp [hm], ?_, rfl, rfl⟩
    · simp [f__law_meeting_b0]
      rw [items_range _ (by omega)]
      simp [e1, e2, sumTup, hs]
      rw [items_range _ (by omega)]
      simp
      rw [lcE1 (f := nI) (g := fun j => .int (if j = o then 1 else 0)) (hl := by simp; omega) (h := ?_)]
      · simp
        rw [add_tup (by simp [seqMax]; omega)]
        simp [unit]
      · intro j hj
        by_cases hjo : j = o
        · simp [hjo]
        · have : ¬ ((j : Int) = o) := by omega
          simp [hjo, this]
    · intro r' hr'
      rcases List.mem_append.mp hr' with z | z
      · exact hr r' z
      · rw [List.mem_singleton.mp z]
        exact unit_row ho
theorem meeting_ok (a b : Int) {k high : Nat} (h1 : 1 ≤ k) (h6 : k ≤ 6) (g1 : 1 ≤ high) (g9 : high ≤ 99) : ∃ (m : List (List Int)) (a' b' : Int), Meet k m ∧ ph (n+3) "_law_meeting" [.ref 0, nI k, nI high] (C a b) = .ok (enc m) (C a' b') := by
  have key := for_keep (body := exs (ex (ev (ph (n+2)) cs 40) 39) f__law_meeting_b0) (t := .name 4) nI (PM k high) (xs := List.range k) (env := [some (.ref 0), some (nI k), some (nI high), some (.tup []), none, none, none, none]) (st := C a b)
    ⟨[], a, b, none, none, none, none, rfl, fun _ h => absurd h (by simp), rfl, rfl⟩ (fun ys x zs env st e h => by
      have hy : ys.length < 6 := by
        have := congrArg List.length e
        simp at this
        omega
      obtain ⟨env1, env2, st2, p, q, r⟩ := meeting_turn (n := n) h1 h6 g1 g9 ys x zs env st hy h
      exact ⟨env1, env2, st2, p, .inl q, r⟩)
  obtain ⟨env', st', e, m, a', b', x4, x5, x6, x7, hm, hr, rfl, rfl⟩ := key
  refine ⟨m, a', b', ⟨h1, h6, by simpa using hm, hr⟩, ?_⟩
  rw [u__law_meeting]
  simp [runF, f__law_meeting, startE]
  rw [items_range _ (by omega)]
  simp [e]
theorem book_ok (a b : Int) {k size high : Nat} (h1 : 1 ≤ k) (h6 : k ≤ 6) (s1 : 1 ≤ size) (s6 : size ≤ 6) (g1 : 1 ≤ high) (g9 : high ≤ 99) : ∃ (bk : List (List (List Int))) (a' b' : Int), Book k bk ∧ ph (n+4) "_law_book" [.ref 0, nI k, nI size, nI high] (C a b) = .ok (encB bk) (C a' b') := by
  obtain ⟨r, a1, b1, hr, e1⟩ := roll_ok (n := n+2) a b s1 (show size ≤ 1000 by omega)
  obtain ⟨ds, st', e, ⟨a', b', rfl⟩, hq⟩ := lc_keep1 (one := lcOne (ev (ph (n+3)) cs 38) (.call "_law_meeting" [(.var 0), (.var 1), (.var 3)]) [] (.name 4) [])
    (env := [some (.ref 0), some (nI k), some (nI size), some (nI high), none]) (xs := List.range (1 + r)) (st := C a1 b1) nI (fun st => ∃ a b, st = C a b) (fun _ d => ∃ m : List (List Int), d = enc m ∧ Meet k m) ⟨a1, b1, rfl⟩ (by
      rintro j hj _ ⟨a, b, rfl⟩
      obtain ⟨m, a2, b2, hm, e2⟩ := meeting_ok (n := n) a b h1 h6 g1 g9
      exact ⟨enc m, C a2 b2, by simp [e2], ⟨a2, b2, rfl⟩, m, rfl, hm⟩)
  obtain ⟨bk, rfl, hl, hb⟩ := all2_map enc (Meet k) hq
  have hl' : bk.length = 1 + r := by simpa using hl
  refine ⟨bk, a', b', ⟨by omega, by omega, hb⟩, ?_⟩
  rw [u__law_book]
  simp [runF, f__law_book, startE, e1]
  have e3 : itemsOf (.rng 0 (1 + (r : Int))) (C a1 b1) = some ((List.range (1 + r)).map fun (i : Nat) => D.int i) := by
    have := items_range (st := C a1 b1) (1 + r) (by omega)
    rw [← this]
    push_cast
    rfl
  rw [e3]
  simp
  rw [e, R.calm_ok, R.bind_ok, lcEnd_ok (by simp; omega)]
  simp
/-! what the law itself finds -/
def PH (k : Nat) (m : List (List Int)) (l : List Nat) (st0 : Store) (ys : List Nat) (env : Env) (st : Store) : Prop :=
  ∃ (x3 x4 x5 : Option D), env = [some (enc m), some (encL l), some (.lst ((ys.flatMap fun own => (List.range k).filter fun j => decide (0 < mg m own j)).map nI)), x3, x4, x5] ∧ st = st0
theorem lt_pw_ints {l : List Nat} (h : l.Pairwise (· < ·)) : (l.map fun (i : Nat) => (i : Int)).Pairwise (· < ·) := by
  rw [List.pairwise_map]
  exact h.imp fun h => by omega
theorem heard_sort {k : Nat} {m : List (List Int)} {l : List Nat} : sortSet ((l.flatMap fun own => (List.range k).filter fun j => decide (0 < mg m own j)).map fun (i : Nat) => (i : Int)) = (heard k m l).map fun (i : Nat) => (i : Int) := by
  refine lt_unique (sortSet_lt _) (lt_pw_ints ?_) fun i => ?_
  · exact (List.pairwise_lt_range).filter _
  · rw [sortSet_mem]
    simp only [List.mem_map, List.mem_flatMap, List.mem_filter, List.mem_range, heard, List.any_eq_true]
    constructor
    · rintro ⟨j, ⟨own, h1, h2, h3⟩, rfl⟩
      exact ⟨j, ⟨h2, own, h1, h3⟩, rfl⟩
    · rintro ⟨j, ⟨h2, own, h1, h3⟩, rfl⟩
      exact ⟨j, ⟨own, h1, h2, h3⟩, rfl⟩
theorem law_heard_ok {k : Nat} {m : List (List Int)} {l : List Nat} (h : Meet k m) (hl : Lot k l) : ph (n+1) "_law_heard" [enc m, encL l] st = .ok (encL (heard k m l)) st := by
  have hk := h.k6
  have hle := hl.le
  have key := for_keep (body := exs (ex (ev (ph n) cs 40) 39) f__law_heard_b0) (t := .name 3) nI (PH k m l st) (xs := l) (env := [some (enc m), some (encL l), some (.lst []), none, none, none]) (st := st)
    ⟨none, none, none, rfl, rfl⟩ (by
      rintro ys x zs env _ e ⟨x3, x4, x5, rfl, rfl⟩
      have hx : x < k := hl.lt x (by rw [e]; simp)
      have hy : ys.length < k := by
        have := congrArg List.length e
        simp at this
        omega
      have hf := flat_le (fun own => (List.range k).filter fun j => decide (0 < mg m own j)) k ys (fun x _ => Nat.le_trans (List.length_filter_le _ _) (by simp))
      have hf2 : ys.length * k ≤ 6 * 6 := Nat.mul_le_mul (by omega) hk
      have hx2 : ((List.range k).filter fun j => decide (0 < mg m x j)).length ≤ k := Nat.le_trans (List.length_filter_le _ _) (by simp)
      refine ⟨_, [some (enc m), some (encL l), some (.lst (((ys ++ [x]).flatMap fun own => (List.range k).filter fun j => decide (0 < mg m own j)).map nI)), some (nI x), x4, x5], _, rfl, .inl ?_, some (nI x), x4, x5, rfl, rfl⟩
      simp [f__law_heard_b0, ix1 h hx]
      rw [enum_map 0]
      rw [lcEF (f := fun (j : Nat) => D.tup [.int (0 + (j : Int)), .int ((m[x]?.getD [])[j]?.getD 0)]) (p := fun j => decide (0 < mg m x j)) (g := nI) (hl := by rw [List.length_range, h.row hx]; omega) (h := ?_)]
      · simp
        rw [h.row hx, add_lst (by simp only [List.length_map, seqMax]; omega)]
        simp
      · intro j hj
        simp [mg]
        split <;> simp_all)
  obtain ⟨env', st', e, x3, x4, x5, rfl, rfl⟩ := key
  have hf := flat_le (fun own => (List.range k).filter fun j => decide (0 < mg m own j)) k l (fun x _ => Nat.le_trans (List.length_filter_le _ _) (by simp))
  have hf2 : l.length * k ≤ 6 * 6 := Nat.mul_le_mul (by omega) hk
  have hh : (heard k m l).length ≤ k := Nat.le_trans (List.length_filter_le _ _) (by simp)
  have e2 := ss_lst (st := st') (l := (l.flatMap fun own => (List.range k).filter fun j => decide (0 < mg m own j)).map fun (i : Nat) => (i : Int)) (by rw [List.length_map]; omega) (by rw [heard_sort, List.length_map]; omega)
  rw [heard_sort] at e2
  simp only [List.map_map] at e2
  have e3 : bltop .sortedSet [.lst ((l.flatMap fun own => (List.range k).filter fun j => decide (0 < mg m own j)).map nI)] st' = .ok (.lst ((heard k m l).map nI)) st' := e2
  rw [u__law_heard]
  simp [runF, f__law_heard, startE]
  simp only [List.map_flatMap] at e e3
  simp [e]
  rw [e3]
  simp
end K01

set_option Elab.async false
set_option linter.all false
set_option maxRecDepth 100000
set_option maxHeartbeats 2000000
namespace K01
open Ev Lw
variable {n : Nat} {st : Store}
theorem Meet.has {k i : Nat} {m : List (List Int)} (h : Meet k m) (hi : i < k) : ∃ j, j < k ∧ 0 < mg m i j := by
  have hr : m[i]?.getD [] ∈ m := by
    rw [List.getElem?_eq_getElem (by rw [h.len]; exact hi)]
    exact List.getElem_mem _
  obtain ⟨x, hx, hp⟩ := sum_has (h.rows _ hr).pos
  obtain ⟨j, hj, e⟩ := List.mem_iff_getElem.mp hx
  have hl := (h.rows _ hr).len
  refine ⟨j, by omega, ?_⟩
  unfold mg
  rw [List.getElem?_eq_getElem hj, e]
  exact hp
theorem mem_heard {k x : Nat} {m : List (List Int)} {l : List Nat} : x ∈ heard k m l ↔ x < k ∧ ∃ own ∈ l, 0 < mg m own x := by
  simp [heard]
theorem Lot.heard {k : Nat} {m : List (List Int)} {l : List Nat} (h : Meet k m) (hl : Lot k l) : Lot k (heard k m l) where
  ne := by
    have hne := hl.ne
    cases l with
    | nil => simp at hne
    | cons a r =>
      obtain ⟨j, hj, hp⟩ := h.has (hl.lt a List.mem_cons_self)
      have : j ∈ K01.heard k m (a :: r) := mem_heard.mpr ⟨hj, a, List.mem_cons_self, hp⟩
      exact List.length_pos_of_mem this
  le := Nat.le_trans (List.length_filter_le _ _) (by simp)
  lt := fun x hx => (mem_heard.mp hx).1
  up := (List.pairwise_lt_range).filter _
/-- a lot gone through a word, the last meeting first -/
def thr (k : Nat) (bk : List (List (List Int))) (w : List Nat) (l : List Nat) : List Nat := w.reverse.foldl (fun l at_ => heard k (bk[at_]?.getD []) l) l
theorem thr_nil {k : Nat} {bk : List (List (List Int))} {l : List Nat} : thr k bk [] l = l := rfl
theorem thr_cons {k a : Nat} {bk : List (List (List Int))} {w l : List Nat} : thr k bk (a :: w) l = heard k (bk[a]?.getD []) (thr k bk w l) := by
  unfold thr
  rw [List.reverse_cons, List.foldl_append]
  rfl
theorem thr_app {k : Nat} {bk : List (List (List Int))} {l : List Nat} : ∀ {u w : List Nat}, thr k bk (u ++ w) l = thr k bk u (thr k bk w l)
  | [], w => rfl
  | a :: u, w => by rw [List.cons_append, thr_cons, thr_cons, thr_app]
structure Wd (bk : List (List (List Int))) (w : List Nat) : Prop where
  le : w.length ≤ 24
  lt : ∀ x ∈ w, x < bk.length
theorem Book.at_ {k a : Nat} {bk : List (List (List Int))} (h : Book k bk) (ha : a < bk.length) : Meet k (bk[a]?.getD []) := by
  rw [List.getElem?_eq_getElem ha]
  exact h.all _ (List.getElem_mem _)
theorem Lot.thr {k : Nat} {bk : List (List (List Int))} {l : List Nat} (h : Book k bk) (hl : Lot k l) : ∀ {w : List Nat}, (∀ x ∈ w, x < bk.length) → Lot k (thr k bk w l)
  | [], _ => hl
  | a :: w, hw => by
    rw [thr_cons]
    exact Lot.heard (h.at_ (hw a List.mem_cons_self)) (Lot.thr h hl fun x hx => hw x (List.mem_cons_of_mem _ hx))
theorem ixB {k a : Nat} {bk : List (List (List Int))} (ha : a < bk.length) : ixop (encB bk) (nI a) st = .ok (enc (bk[a]?.getD [])) st := ix_map (f := enc) [] ha
theorem need_book_ok {k : Nat} {bk : List (List (List Int))} (h : Book k bk) : ph (n+4) "need_book" [encB bk] st = .ok .non st := by
  rw [u_need_book]
  have e1 : ph (n+3) "fits_book" [encB bk] st = .ok (.bl true) st := fits_book_ok h
  simp [runF, f_need_book, startE, e1]
theorem fits_word_ok {bk : List (List (List Int))} {w : List Nat} (hw : Wd bk w) : ph (n+2) "fits_word" [encB bk, encL w] st = .ok (.bl true) st := by
  have h1 := hw.le
  have e1 : ph (n+1) "is_tuple_of" [encL w, .int 0, .int 24] st = .ok (.bl true) st := is_tuple_of_ok (by simp) (by simp; omega)
  rw [u_fits_word]
  simp [runF, f_fits_word, startE, e1]
  rw [lcE1 (f := nI) (g := fun _ => .bl true) (hl := by omega) (h := ?_)]
  · simp [all_true]
  · intro x hx
    have hx := hw.lt x hx
    have e3 : ph (n+1) "is_whole" [nI x, .int 0, .int ((bk.length : Int) - 1)] st = .ok (.bl true) st := is_whole_ok (by omega) (by omega)
    simp [e3]
theorem need_word_ok {k : Nat} {bk : List (List (List Int))} {w : List Nat} (h : Book k bk) (hw : Wd bk w) : ph (n+5) "need_word" [encB bk, encL w] st = .ok .non st := by
  have e1 : ph (n+4) "need_book" [encB bk] st = .ok .non st := need_book_ok h
  have e2 : ph (n+4) "fits_word" [encB bk, encL w] st = .ok (.bl true) st := fits_word_ok (n := n+2) hw
  rw [u_need_word]
  simp [runF, f_need_word, startE, e1, e2]
theorem is_word_ok {k : Nat} {bk : List (List (List Int))} {w : List Nat} (h : Book k bk) (hw : Wd bk w) : ph (n+5) "is_word" [encB bk, encL w] st = .ok (.bl true) st := by
  have e1 : ph (n+4) "need_book" [encB bk] st = .ok .non st := need_book_ok h
  have e2 : ph (n+4) "fits_word" [encB bk, encL w] st = .ok (.bl true) st := fits_word_ok (n := n+2) hw
  rw [u_is_word]
  simp [runF, f_is_word, startE, e1, e2]
theorem thr_snoc {k x : Nat} {bk : List (List (List Int))} {l ys : List Nat} : thr k bk (ys ++ [x]).reverse l = heard k (bk[x]?.getD []) (thr k bk ys.reverse l) := by
  rw [List.reverse_append]
  show thr k bk (x :: ys.reverse) l = _
  rw [thr_cons]
theorem rev_nat (w : List Nat) : revop (encL w) st = .ok (encL w.reverse) st := by
  show R.ok (D.tup (w.map nI).reverse) st = _
  rw [← List.map_reverse]
theorem through_ok {k : Nat} {bk : List (List (List Int))} {w l : List Nat} (h : Book k bk) (hw : ∀ x ∈ w, x < bk.length) (hl : Lot k l) : ph (n+2) "through" [encB bk, encL w, encL l] st = .ok (encL (thr k bk w l)) st := by
  have key := for_keep (body := exs (ex (ev (ph (n+1)) cs 40) 39) f_through_b0) (t := .name 3) nI
    (fun ys env st' => ∃ x3, env = [some (encB bk), some (encL w), some (encL (thr k bk ys.reverse l)), x3] ∧ st' = st) (xs := w.reverse) (env := [some (encB bk), some (encL w), some (encL l), none]) (st := st)
    ⟨none, rfl, rfl⟩ (by
      rintro ys x zs env st' e ⟨x3, rfl, rfl⟩
      have hm : ∀ y ∈ ys ++ x :: zs, y < bk.length := fun y hy => hw y (by rw [← e] at hy; exact List.mem_reverse.mp hy)
      have hx := hm x (by simp)
      have hl2 : Lot k (thr k bk ys.reverse l) := Lot.thr h hl fun y hy => hm y (by simp [List.mem_reverse.mp hy])
      have e1 : ph (n+1) "heard_in" [enc (bk[x]?.getD []), encL (thr k bk ys.reverse l)] st' = .ok (encL (heard k (bk[x]?.getD []) (thr k bk ys.reverse l))) st' := heard_in_ok (h.at_ hx) hl2
      refine ⟨_, [some (encB bk), some (encL w), some (encL (thr k bk (ys ++ [x]).reverse l)), some (nI x)], st', rfl, .inl ?_, some (nI x), rfl, rfl⟩
      rw [thr_snoc]
      simp [f_through_b0, ixB (k := k) hx, e1])
  obtain ⟨env', st', e, x3, rfl, rfl⟩ := key
  rw [List.reverse_reverse] at e
  rw [u_through]
  simp [runF, f_through, startE, rev_nat]
  rw [← List.map_reverse, e]
  simp
theorem law_through_ok {k : Nat} {bk : List (List (List Int))} {w l : List Nat} (h : Book k bk) (hw : ∀ x ∈ w, x < bk.length) (hl : Lot k l) : ph (n+2) "_law_through" [encB bk, encL w, encL l] st = .ok (encL (thr k bk w l)) st := by
  have key := for_keep (body := exs (ex (ev (ph (n+1)) cs 40) 39) f__law_through_b0) (t := .name 3) nI
    (fun ys env st' => ∃ x3, env = [some (encB bk), some (encL w), some (encL (thr k bk ys.reverse l)), x3] ∧ st' = st) (xs := w.reverse) (env := [some (encB bk), some (encL w), some (encL l), none]) (st := st)
    ⟨none, rfl, rfl⟩ (by
      rintro ys x zs env st' e ⟨x3, rfl, rfl⟩
      have hm : ∀ y ∈ ys ++ x :: zs, y < bk.length := fun y hy => hw y (by rw [← e] at hy; exact List.mem_reverse.mp hy)
      have hx := hm x (by simp)
      have hl2 : Lot k (thr k bk ys.reverse l) := Lot.thr h hl fun y hy => hm y (by simp [List.mem_reverse.mp hy])
      have e1 : ph (n+1) "_law_heard" [enc (bk[x]?.getD []), encL (thr k bk ys.reverse l)] st' = .ok (encL (heard k (bk[x]?.getD []) (thr k bk ys.reverse l))) st' := law_heard_ok (h.at_ hx) hl2
      refine ⟨_, [some (encB bk), some (encL w), some (encL (thr k bk (ys ++ [x]).reverse l)), some (nI x)], st', rfl, .inl ?_, some (nI x), rfl, rfl⟩
      rw [thr_snoc]
      simp [f__law_through_b0, ixB (k := k) hx, e1])
  obtain ⟨env', st', e, x3, rfl, rfl⟩ := key
  rw [List.reverse_reverse] at e
  rw [u__law_through]
  simp [runF, f__law_through, startE, rev_nat]
  rw [← List.map_reverse, e]
  simp
theorem ix0 {k : Nat} {bk : List (List (List Int))} (h : Book k bk) : ∃ m, Meet k m ∧ ∀ st, ixop (encB bk) (.int 0) st = .ok (enc m) st :=
  ⟨_, h.at_ (show 0 < bk.length from h.b1), fun st => ixB (k := k) (a := 0) h.b1⟩
theorem lot1 {k i : Nat} (hi : i < k) : Lot k [i] := ⟨by simp, by simp; omega, fun x hx => by simp at hx; omega, by simp⟩
theorem heard_through_ok {k : Nat} {bk : List (List (List Int))} {w l : List Nat} (h : Book k bk) (hw : Wd bk w) (hl : Lot k l) (hk : k ≤ 6) : ph (n+6) "heard_through" [encB bk, encL w, encL l] st = .ok (encL (thr k bk w l)) st := by
  obtain ⟨m, hm, e0⟩ := ix0 h
  have hml := hm.len
  have e1 : ph (n+5) "need_word" [encB bk, encL w] st = .ok .non st := need_word_ok h hw
  have e2 : ph (n+5) "need_lot" [nI k, encL l] st = .ok .non st := need_lot_ok (n := n+2) hl hk
  have e3 : ph (n+5) "through" [encB bk, encL w, encL l] st = .ok (encL (thr k bk w l)) st := through_ok (n := n+3) h hw.lt hl
  rw [u_heard_through]
  simp [runF, f_heard_through, startE, e1, e0, hml, e2, e3]
def isec (a b : List Nat) : Bool := a.any fun x => decide (x ∈ b)
theorem in_nat {x : Nat} {l : List Nat} : cmpop .In (nI x) (encL l) st = .ok (.bl (decide (x ∈ l))) st := by
  have h1 : (l.map nI).all (isData 50) = true := by
    rw [List.all_map]
    exact List.all_eq_true.mpr fun p _ => by simp [isData]
  have h2 : ((l.map nI).any fun z => eqv z (nI x)) = decide (x ∈ l) := by
    rw [List.any_map, Bool.eq_iff_iff, List.any_eq_true]
    simp only [Function.comp, eqv, beq_iff_eq, decide_eq_true_eq]
    constructor
    · rintro ⟨p, hp, h3⟩
      have e1 : p = x := by omega
      rw [← e1]; exact hp
    · exact fun h => ⟨x, h, rfl⟩
  show (if isData 50 (nI x) && (l.map nI).all (isData 50) then R.ok (D.bl ((l.map nI).any fun z => eqv z (nI x))) st else .bad) = _
  rw [h1, h2]
  simp [isData]
theorem are_apart_ok {k i j : Nat} {bk : List (List (List Int))} {w : List Nat} (h : Book k bk) (hw : Wd bk w) (hi : i < k) (hj : j < k) : ph (n+6) "are_apart" [encB bk, encL w, nI i, nI j] st = .ok (.bl (!isec (thr k bk w [i]) (thr k bk w [j]))) st := by
  obtain ⟨m, hm, e0⟩ := ix0 h
  have hml := hm.len
  have e1 : ph (n+5) "need_word" [encB bk, encL w] st = .ok .non st := need_word_ok h hw
  have e2 : ph (n+5) "need_member" [nI k, nI i] st = .ok .non st := need_member_ok (n := n+3) hi
  have e3 : ph (n+5) "need_member" [nI k, nI j] st = .ok .non st := need_member_ok (n := n+3) hj
  have e4 : ph (n+5) "through" [encB bk, encL w, .tup [nI i]] st = .ok (encL (thr k bk w [i])) st := through_ok (n := n+3) h hw.lt (lot1 hi)
  have e5 : ph (n+5) "through" [encB bk, encL w, .tup [nI j]] st = .ok (encL (thr k bk w [j])) st := through_ok (n := n+3) h hw.lt (lot1 hj)
  have hl4 := (Lot.thr (w := w) h (lot1 hi) hw.lt).le
  have hk := hm.k6
  have i0 : ∀ (a b : D) st, ixop (.tup [a, b]) (.int 0) st = .ok a st := fun _ _ _ => rfl
  have i1 : ∀ (a b : D) st, ixop (.tup [a, b]) (.int 1) st = .ok b st := fun _ _ _ => rfl
  rw [u_are_apart]
  simp [runF, f_are_apart, startE, e1, e0, hml, e2, e3, e4, e5, i0]
  rw [lcE1 (f := nI) (g := fun own => .bl (decide (own ∈ thr k bk w [j]))) (hl := by omega) (h := ?_)]
  · simp [any_map, isec]
  · intro own ho
    simp [i1, in_nat]
end K01

set_option Elab.async false
set_option linter.all false
set_option maxRecDepth 100000
set_option maxHeartbeats 2000000
namespace K01
open Ev Lw
variable {n : Nat} {st : Store}
def pairsAt (k i : Nat) : List (Nat × Nat) := (List.range (k - (i + 1))).map fun j => (i, i + 1 + j)
def pairs (k : Nat) : List (Nat × Nat) := (List.range k).flatMap (pairsAt k)
theorem flat_le' {α β : Type} (f : α → List β) (c : Nat) (l : List α) (h : ∀ x ∈ l, (f x).length ≤ c) : (l.flatMap f).length ≤ l.length * c := flat_le f c l h
theorem pairsAt_len {k i : Nat} : (pairsAt k i).length ≤ k := by simp [pairsAt]
theorem pairs_len {k : Nat} (hk : k ≤ 6) : (pairs k).length ≤ 36 := by
  have := flat_le (pairsAt k) k (List.range k) (fun x _ => pairsAt_len)
  unfold pairs
  rw [List.length_range] at this
  exact Nat.le_trans this (Nat.mul_le_mul hk hk)
theorem mem_pairs {k : Nat} {p : Nat × Nat} : p ∈ pairs k ↔ p.1 < p.2 ∧ p.2 < k := by
  obtain ⟨i, j⟩ := p
  unfold pairs pairsAt
  simp only [List.mem_flatMap, List.mem_map, List.mem_range, Prod.mk.injEq]
  constructor
  · rintro ⟨a, ha, b, hb, rfl, rfl⟩
    omega
  · rintro ⟨h1, h2⟩
    exact ⟨i, by omega, j - (i + 1), by omega, rfl, by omega⟩
def apB (k : Nat) (bk : List (List (List Int))) (w : List Nat) (p : Nat × Nat) : Bool := !isec (thr k bk w [p.1]) (thr k bk w [p.2])
def aparts (k : Nat) (bk : List (List (List Int))) (w : List Nat) : List (Nat × Nat) := (pairs k).filter (apB k bk w)
theorem items_range2 {i k : Nat} (hk : k ≤ 6) (hi : i < k) : itemsOf (.rng ((i : Int) + 1) (k : Int)) st = some ((List.range (k - (i + 1))).map fun (j : Nat) => D.int ((i : Int) + 1 + j)) := by
  rw [items_rng (by omega), range_map]
  have e : ((k : Int) - ((i : Int) + 1)).toNat = k - (i + 1) := by omega
  rw [e]
theorem apart_in_ok {k : Nat} {bk : List (List (List Int))} {w : List Nat} (h : Book k bk) (hw : Wd bk w) : ph (n+3) "apart_in" [encB bk, encL w] st = .ok (.lst ((aparts k bk w).map encP)) st := by
  obtain ⟨m, hm, e0⟩ := ix0 h
  have hml := hm.len
  have hk := hm.k6
  rw [u_apart_in]
  simp [runF, f_apart_in, startE, e0, hml]
  rw [items_range _ (by omega)]
  simp
  rw [lcE1 (f := nI) (g := fun i => encL (thr k bk w [i])) (hl := by simp; omega) (h := ?_)]
  · simp
    rw [items_range _ (by omega)]
    simp
    rw [lcEM (f := nI) (g := fun i => (pairsAt k i).map encP) (hl := ?_) (h := ?_)]
    · rw [← List.map_flatMap]
      simp
      have hp := pairs_len hk
      rw [show (List.range k).flatMap (pairsAt k) = pairs k from rfl]
      rw [lcEF (f := encP) (p := apB k bk w) (g := encP) (hl := by omega) (h := ?_)]
      · simp [aparts]
      · intro p hp
        obtain ⟨h1, h2⟩ := mem_pairs.mp hp
        have hl4 := (Lot.thr (w := w) h (lot1 (show p.1 < k by omega)) hw.lt).le
        have ix : ∀ (i : Nat) st, i < k → ixop (.lst ((List.range k).map fun i => encL (thr k bk w [i]))) (nI i) st = .ok (encL (thr k bk w [i])) st := fun i st hi => by
          have := ix_mapL (f := fun i => encL (thr k bk w [i])) (l := List.range k) (i := i) (st := st) 0 (by simpa using hi)
          rw [this]
          simp [hi]
        simp [ix p.1 _ (by omega)]
        rw [lcE1 (f := nI) (g := fun own => .bl (decide (own ∈ thr k bk w [p.2]))) (hl := by omega) (h := ?_)]
        · simp [any_map]
          have e : (thr k bk w [p.1]).any (fun own => decide (own ∈ thr k bk w [p.2])) = isec (thr k bk w [p.1]) (thr k bk w [p.2]) := rfl
          by_cases hs : isec (thr k bk w [p.1]) (thr k bk w [p.2]) = true
          · have hs' := hs
            rw [← e] at hs'
            simp at hs'
            simp [apB, hs, hs']
          · have hs' := hs
            rw [← e] at hs'
            simp at hs'
            simp [apB, hs]
            exact fun x hx hy => absurd hy (hs' x hx)
        · intro own ho
          simp [ix p.2 _ h2, in_nat]
    · rw [← List.map_flatMap, List.length_map]
      have := pairs_len hk
      unfold pairs at this
      omega
    · intro i hi
      have hi : i < k := by simpa using hi
      simp
      rw [items_range2 hk hi]
      simp
      rw [lc_map1 (f := fun (j : Nat) => D.int ((i : Int) + 1 + j)) (g := fun j => encP (i, i + 1 + j)) (h := ?_)]
      · simp [pairsAt]
      · intro j hj
        simp
  · intro i hi
    have hi : i < k := by simpa using hi
    have e4 : ph (n+2) "through" [encB bk, encL w, .tup [nI i]] st = .ok (encL (thr k bk w [i])) st := through_ok h hw.lt (lot1 hi)
    simp [e4]
theorem apart_pairs_ok {k : Nat} {bk : List (List (List Int))} {w : List Nat} (h : Book k bk) (hw : Wd bk w) : ph (n+6) "apart_pairs" [encB bk, encL w] st = .ok (.tup ((aparts k bk w).map encP)) st := by
  have e1 : ph (n+5) "need_word" [encB bk, encL w] st = .ok .non st := need_word_ok h hw
  have e2 : ph (n+5) "apart_in" [encB bk, encL w] st = .ok (.lst ((aparts k bk w).map encP)) st := apart_in_ok (n := n+2) h hw
  rw [u_apart_pairs]
  simp [runF, f_apart_pairs, startE, e1, e2]
theorem data_Ps {l : List (Nat × Nat)} : isData 50 (.lst (l.map encP)) = true := by
  unfold isData
  rw [List.all_map]
  exact List.all_eq_true.mpr fun p _ => by simp [isData]
theorem eq_nil {l : List D} (h : isData 50 (.lst l) = true) : cmpop .Eq (.lst l) (.lst []) st = .ok (.bl l.isEmpty) st := by
  show (if isData 50 (.lst l) && isData 50 (.lst []) then R.ok (D.bl (eqv (.lst l) (.lst []))) st else .bad) = _
  rw [h]
  cases l <;> rfl
theorem is_joining_ok {k : Nat} {bk : List (List (List Int))} {w : List Nat} (h : Book k bk) (hw : Wd bk w) : ph (n+6) "is_joining" [encB bk, encL w] st = .ok (.bl (aparts k bk w).isEmpty) st := by
  have e1 : ph (n+5) "need_word" [encB bk, encL w] st = .ok .non st := need_word_ok h hw
  have e2 : ph (n+5) "apart_in" [encB bk, encL w] st = .ok (.lst ((aparts k bk w).map encP)) st := apart_in_ok (n := n+2) h hw
  rw [u_is_joining]
  simp [runF, f_is_joining, startE, e1, e2, eq_nil data_Ps]
/-- a longer word holds no more apart -/
theorem apart_less {k a : Nat} {bk : List (List (List Int))} {w : List Nat} (h : Book k bk) (ha : a < bk.length) (hw : ∀ x ∈ w, x < bk.length) {p : Nat × Nat} (hp : p ∈ aparts k bk (a :: w)) : p ∈ aparts k bk w := by
  unfold aparts at hp ⊢
  rw [List.mem_filter] at hp ⊢
  refine ⟨hp.1, ?_⟩
  obtain ⟨h1, h2⟩ := mem_pairs.mp hp.1
  by_cases hs : apB k bk w p = true
  · exact hs
  · exfalso
    have hs : isec (thr k bk w [p.1]) (thr k bk w [p.2]) = true := by simpa [apB] using hs
    unfold isec at hs
    obtain ⟨x, hx, hy⟩ := List.any_eq_true.mp hs
    have hy : x ∈ thr k bk w [p.2] := by simpa using hy
    have hxk := (Lot.thr (w := w) h (lot1 (show p.1 < k by omega)) hw).lt x hx
    obtain ⟨j, hj, hpj⟩ := (h.at_ ha).has hxk
    have hq : apB k bk (a :: w) p = true := hp.2
    unfold apB isec at hq
    rw [thr_cons, thr_cons] at hq
    have c1 : j ∈ heard k (bk[a]?.getD []) (thr k bk w [p.1]) := mem_heard.mpr ⟨hj, x, hx, hpj⟩
    have c2 : j ∈ heard k (bk[a]?.getD []) (thr k bk w [p.2]) := mem_heard.mpr ⟨hj, x, hy, hpj⟩
    have : ((heard k (bk[a]?.getD []) (thr k bk w [p.1])).any fun x => decide (x ∈ heard k (bk[a]?.getD []) (thr k bk w [p.2]))) = true := List.any_eq_true.mpr ⟨j, c1, by simpa using c2⟩
    rw [this] at hq
    cases hq
end K01

set_option Elab.async false
set_option linter.all false
set_option maxRecDepth 100000
set_option maxHeartbeats 2000000
namespace K01
open Ev Lw
variable {n : Nat} {st : Store}
theorem nat_lt_unique {l m : List Nat} (hl : l.Pairwise (· < ·)) (hm : m.Pairwise (· < ·)) (h : ∀ x, x ∈ l ↔ x ∈ m) : l = m := by
  have := lt_unique (lt_pw_ints hl) (lt_pw_ints hm) fun x => by
    simp only [List.mem_map]
    exact ⟨fun ⟨a, h1, h2⟩ => ⟨a, (h a).mp h1, h2⟩, fun ⟨a, h1, h2⟩ => ⟨a, (h a).mpr h1, h2⟩⟩
  exact List.map_inj_right (fun a b h => by omega) |>.mp this
theorem pairsAt_eq {k i : Nat} : pairsAt k i = ((List.range k).filter fun j => decide (i < j)).map fun j => (i, j) := by
  unfold pairsAt
  have e : (List.range (k - (i + 1))).map (fun j => i + 1 + j) = (List.range k).filter fun j => decide (i < j) := by
    refine nat_lt_unique ?_ ((List.pairwise_lt_range).filter _) fun x => ?_
    · rw [List.pairwise_map]
      exact (List.pairwise_lt_range).imp fun h => by omega
    · simp only [List.mem_map, List.mem_range, List.mem_filter, decide_eq_true_eq]
      exact ⟨fun ⟨a, h1, h2⟩ => by omega, fun ⟨h1, h2⟩ => ⟨x - (i + 1), by omega, by omega⟩⟩
  rw [← e, List.map_map]
  rfl
def apAt (k : Nat) (bk : List (List (List Int))) (w : List Nat) (i : Nat) : List (Nat × Nat) := ((List.range k).filter fun j => apB k bk w (i, j) && decide (i < j)).map fun j => (i, j)
theorem aparts_eq {k : Nat} {bk : List (List (List Int))} {w : List Nat} : (List.range k).flatMap (apAt k bk w) = aparts k bk w := by
  unfold aparts pairs
  rw [List.filter_flatMap]
  congr 1
  funext i
  rw [pairsAt_eq, List.filter_map, List.filter_filter]
  rfl
theorem apAt_len {k i : Nat} {bk : List (List (List Int))} {w : List Nat} : (apAt k bk w i).length ≤ k := by
  unfold apAt
  rw [List.length_map]
  exact Nat.le_trans (List.length_filter_le _ _) (by simp)
theorem word_of_ok (a b : Int) {k long : Nat} {bk : List (List (List Int))} (h : Book k bk) (hl : long ≤ 24) : ∃ (w : List Nat) (a' b' : Int), Wd bk w ∧ ph (n+2) "_law_word_of" [.ref 0, encB bk, nI long] (C a b) = .ok (encL w) (C a' b') := by
  have h1 := h.b1
  have h6 := h.b6
  obtain ⟨r, a1, b1, hr, e1⟩ := roll_ok (n := n) a b (k := long + 1) (by omega) (by omega)
  obtain ⟨ds, st', e, ⟨a', b', rfl⟩, hq⟩ := lc_keep1 (one := lcOne (ev (ph (n+1)) cs 38) (.call "_law_roll" [(.var 0), (.blt .len [(.var 1)])]) [] (.name 3) [])
    (env := [some (.ref 0), some (encB bk), some (nI long), none]) (xs := List.range r) (st := C a1 b1) nI (fun st => ∃ a b, st = C a b) (fun _ d => ∃ x : Nat, d = nI x ∧ x < bk.length) ⟨a1, b1, rfl⟩ (by
      rintro j hj _ ⟨a, b, rfl⟩
      obtain ⟨x, a2, b2, hx, e2⟩ := roll_ok (n := n) a b h1 (by omega)
      exact ⟨nI x, C a2 b2, by simp [e2], ⟨a2, b2, rfl⟩, x, rfl, hx⟩)
  obtain ⟨w, rfl, hwl, hwb⟩ := all2_map nI (fun x => x < bk.length) hq
  have hwl' : w.length = r := by simpa using hwl
  refine ⟨w, a', b', ⟨by omega, hwb⟩, ?_⟩
  have e1' : ph (n+1) "_law_roll" [.ref 0, .int ((long : Int) + 1)] (C a b) = .ok (nI r) (C a1 b1) := by
    have : (((long + 1 : Nat) : Int)) = (long : Int) + 1 := by omega
    rw [← this]; exact e1
  rw [u__law_word_of]
  simp [runF, f__law_word_of, startE, e1']
  rw [items_range _ (by omega)]
  simp
  rw [e, R.calm_ok, R.bind_ok, lcEnd_ok (by simp; omega)]
  simp
theorem eqvs_nat : ∀ (l : List Nat), eqvs (l.map nI) (l.map nI) = true
  | [] => rfl
  | x :: r => by
    show (eqv (nI x) (nI x) && eqvs (r.map nI) (r.map nI)) = true
    rw [eqvs_nat r]
    simp [eqv]
theorem data_L {l : List Nat} : isData 50 (encL l) = true := by
  unfold isData
  rw [List.all_map]
  exact List.all_eq_true.mpr fun p _ => by simp [isData]
theorem data_lst {l : List Nat} : isData 50 (.lst (l.map nI)) = true := by
  unfold isData
  rw [List.all_map]
  exact List.all_eq_true.mpr fun p _ => by simp [isData]
theorem ne_same {l : List Nat} : cmpop .NotEq (encL l) (encL l) st = .ok (.bl false) st := by
  show (if isData 50 (encL l) && isData 50 (encL l) then R.ok (D.bl (!eqvs (l.map nI) (l.map nI))) st else .bad) = _
  rw [data_L, eqvs_nat]
  rfl
theorem eq_same {l : List Nat} : cmpop .Eq (encL l) (encL l) st = .ok (.bl true) st := by
  show (if isData 50 (encL l) && isData 50 (encL l) then R.ok (D.bl (eqvs (l.map nI) (l.map nI))) st else .bad) = _
  rw [data_L, eqvs_nat]
  rfl
theorem ne_nilT {l : List Nat} : cmpop .NotEq (encL l) (.tup []) st = .ok (.bl (!l.isEmpty)) st := by
  show (if isData 50 (encL l) && isData 50 (.tup []) then R.ok (D.bl (!eqvs (l.map nI) [])) st else .bad) = _
  rw [data_L]
  cases l <;> rfl
theorem ne_nil0 : cmpop .NotEq (.lst []) (.lst []) st = .ok (.bl false) st := rfl
theorem cut_take {l : List D} {r : Nat} (h : r ≤ l.length) : cut l none (some (r : Int)) = l.take r := by
  have h0 : ¬ ((r : Int) < 0) := by omega
  show (l.drop 0).take ((if (r : Int) < 0 then ((r : Int) + l.length).toNat else min (r : Int).toNat l.length) - 0) = _
  rw [if_neg h0, Int.toNat_natCast, Nat.min_eq_left h, Nat.sub_zero, List.drop_zero]
theorem cut_drop {l : List D} {r : Nat} (h : r ≤ l.length) : cut l (some (r : Int)) none = l.drop r := by
  have h0 : ¬ ((r : Int) < 0) := by omega
  show (l.drop (if (r : Int) < 0 then ((r : Int) + l.length).toNat else min (r : Int).toNat l.length)).take (l.length - (if (r : Int) < 0 then ((r : Int) + l.length).toNat else min (r : Int).toNat l.length)) = _
  rw [if_neg h0, Int.toNat_natCast, Nat.min_eq_left h, List.take_of_length_le (by simp)]
/-! the law's own loops -/
abbrev LOTS (k : Nat) (bk : List (List (List Int))) (w : List Nat) : D := .lst ((List.range k).map fun i => encL (thr k bk w [i]))
abbrev EW (k size long : Nat) (bk : List (List (List Int))) (w : List Nat) (acc : List (Nat × Nat)) (x9 x10 x11 : Option D) : Env :=
  [some (.ref 0), some (nI k), some (nI size), some (nI long), some (encB bk), some (encL w), some (LOTS k bk w), none, some (.lst (acc.map encP)), x9, x10, x11, none, none, none, none, none]
theorem ixLots {k i : Nat} {bk : List (List (List Int))} {w : List Nat} (hi : i < k) : ixop (LOTS k bk w) (nI i) st = .ok (encL (thr k bk w [i])) st := by
  have := ix_mapL (f := fun i => encL (thr k bk w [i])) (l := List.range k) (i := i) (st := st) 0 (by simpa using hi)
  rw [this]
  simp [hi]
theorem filt_empty {a b : List Nat} : (a.filter fun x => decide (x ∈ b)).isEmpty = !isec a b := by
  unfold isec
  induction a with
  | nil => rfl
  | cons x r ih =>
    rw [List.filter_cons, List.any_cons]
    by_cases h : x ∈ b
    · simp [h]
    · simp only [h, decide_false, Bool.false_eq_true, if_false, Bool.false_or]
      exact ih
section
variable {k size long : Nat} {bk : List (List (List Int))} {w : List Nat}
theorem in_turn (h : Book k bk) (hw : Wd bk w) (hk : k ≤ 6) {i : Nat} (hi : i < k) (acc : List (Nat × Nat)) (ha : acc.length ≤ 100) (x10 x11 : Option D) (st : Store) :
    ∃ y10 y11, forGo (exs (ex (ev (ph (n+7)) cs 40) 38) f__law_right_b1) (.name 10) ((List.range k).map nI) (EW k size long bk w acc (some (nI i)) x10 x11) st = .ok (.next (EW k size long bk w (acc ++ apAt k bk w i) (some (nI i)) y10 y11)) st := by
  have key := for_keep (body := exs (ex (ev (ph (n+7)) cs 40) 38) f__law_right_b1) (t := .name 10) nI
    (fun ys env st' => ∃ y10 y11, env = EW k size long bk w (acc ++ (ys.filter fun j => apB k bk w (i, j) && decide (i < j)).map fun j => (i, j)) (some (nI i)) y10 y11 ∧ st' = st) (xs := List.range k) (env := EW k size long bk w acc (some (nI i)) x10 x11) (st := st)
    ⟨x10, x11, by simp, rfl⟩ (by
      rintro ys j zs env st' e ⟨y10, y11, rfl, rfl⟩
      obtain ⟨h1, h2⟩ := range_split e
      have hf : (ys.filter fun j => apB k bk w (i, j) && decide (i < j)).length ≤ ys.length := List.length_filter_le _ _
      have e1 : ph (n+7) "are_apart" [encB bk, encL w, nI i, nI j] st' = .ok (.bl (!isec (thr k bk w [i]) (thr k bk w [j]))) st' := are_apart_ok (n := n+1) h hw hi h2
      have e2 : ph (n+7) "_law_same" [.bl (!isec (thr k bk w [i]) (thr k bk w [j])), .bl (!isec (thr k bk w [i]) (thr k bk w [j]))] st' = .ok (.bl true) st' := same_bl _ (n+6) st'
      have hl4 := (Lot.thr (w := w) h (lot1 hi) hw.lt).le
      refine ⟨_, EW k size long bk w (acc ++ ((ys ++ [j]).filter fun j => apB k bk w (i, j) && decide (i < j)).map fun j => (i, j)) (some (nI i)) (some (nI j)) (some (.bl (!isec (thr k bk w [i]) (thr k bk w [j])))), _, rfl, .inl ?_, some (nI j), _, rfl, rfl⟩
      simp [f__law_right_b1, ixLots hi]
      rw [lcEF (f := nI) (p := fun x => decide (x ∈ thr k bk w [j])) (g := nI) (hl := by omega) (h := ?_)]
      · simp [eq_nil data_lst]
        have ee : ((thr k bk w [i]).filter fun x => decide (x ∈ thr k bk w [j])).isEmpty = !isec (thr k bk w [i]) (thr k bk w [j]) := filt_empty
        rw [ee, e1]
        simp [e2]
        have hap : apB k bk w (i, j) = !isec (thr k bk w [i]) (thr k bk w [j]) := rfl
        cases hs : isec (thr k bk w [i]) (thr k bk w [j]) with
        | true =>
          rw [hs] at hap
          simp [hap]
          rw [add_lst (by simp [seqMax]; omega)]
          simp
        | false =>
          rw [hs] at hap
          by_cases hij : i < j
          · have hij' : (i : Int) < j := by omega
            simp [hap, hij]
            rw [add_lst (by simp [seqMax]; omega)]
            simp
          · have hij' : ¬ (i : Int) < j := by omega
            simp [hap, hij]
            rw [add_lst (by simp [seqMax]; omega)]
            simp
      · intro x hx
        simp [ixLots h2, in_nat]
        split <;> rfl)
  obtain ⟨env', st', e, y10, y11, rfl, rfl⟩ := key
  exact ⟨y10, y11, by rw [e]; rfl⟩
theorem out_loop (h : Book k bk) (hw : Wd bk w) (hk : k ≤ 6) (st : Store) :
    ∃ y9 y10 y11, forGo (exs (ex (ev (ph (n+7)) cs 40) 39) f__law_right_b0) (.name 9) ((List.range k).map nI) (EW k size long bk w [] none none none) st = .ok (.next (EW k size long bk w (aparts k bk w) y9 y10 y11)) st := by
  have key := for_keep (body := exs (ex (ev (ph (n+7)) cs 40) 39) f__law_right_b0) (t := .name 9) nI
    (fun ys env st' => ∃ y9 y10 y11, env = EW k size long bk w (ys.flatMap (apAt k bk w)) y9 y10 y11 ∧ st' = st) (xs := List.range k) (env := EW k size long bk w [] none none none) (st := st)
    ⟨none, none, none, by simp, rfl⟩ (by
      rintro ys i zs env st' e ⟨y9, y10, y11, rfl, rfl⟩
      obtain ⟨h1, h2⟩ := range_split e
      have hf := flat_le (apAt k bk w) k ys (fun x _ => apAt_len)
      have hf2 : ys.length * k ≤ 6 * 6 := Nat.mul_le_mul (by omega) hk
      have hl := Lot.thr (w := w) h (lot1 h2) hw.lt
      have hle := hl.le
      have e0 : ph (n+7) "heard_through" [encB bk, encL w, .tup [nI i]] st' = .ok (encL (thr k bk w [i])) st' := heard_through_ok (n := n+1) h hw (lot1 h2) hk
      have e2 : ph (n+7) "_law_same" [encL (thr k bk w [i]), encL (thr k bk w [i])] st' = .ok (.bl true) st' := same_L (by omega) (n+5) st'
      obtain ⟨z10, z11, e1⟩ := in_turn (n := n) (size := size) (long := long) h hw hk h2 (ys.flatMap (apAt k bk w)) (by omega) y10 y11 st'
      refine ⟨_, EW k size long bk w ((ys ++ [i]).flatMap (apAt k bk w)) (some (nI i)) z10 z11, st', rfl, .inl ?_, some (nI i), z10, z11, rfl, rfl⟩
      simp [f__law_right_b0, e0, ixLots h2, e2]
      rw [items_range _ (by omega)]
      simp at e1 ⊢
      rw [e1]
      simp)
  obtain ⟨env', st', e, y9, y10, y11, rfl, rfl⟩ := key
  exact ⟨y9, y10, y11, by rw [e, aparts_eq]⟩
end
theorem sub_of {xs : List Nat} {yss : List (List D)} (h : All2 (fun x ys => ys = [] ∨ ys = [nI x]) xs yss) : ∃ l : List Nat, yss.flatten = l.map nI ∧ l.Sublist xs := by
  induction h with
  | nil => exact ⟨[], rfl, List.Sublist.refl _⟩
  | cons h r ih =>
    obtain ⟨l, h1, h2⟩ := ih
    rcases h with rfl | rfl
    · exact ⟨l, by simp [h1], h2.cons _⟩
    · exact ⟨_ :: l, by simp [h1], h2.cons₂ _⟩
theorem lot_sub {k : Nat} {l : List Nat} (h : l.Sublist (List.range k)) (hne : l ≠ []) : Lot k l where
  ne := by
    cases l with
    | nil => exact absurd rfl hne
    | cons => simp
  le := by
    have := h.length_le
    simpa using this
  lt := fun x hx => by simpa using h.subset hx
  up := (List.pairwise_lt_range).sublist h
end K01

set_option Elab.async false
set_option linter.all false
set_option maxRecDepth 100000
set_option maxHeartbeats 2000000
namespace K01
open Ev Lw
variable {n : Nat} {st : Store}
abbrev EZ (k size long : Nat) (bk : List (List (List Int))) (w : List Nat) (acc : List (Nat × Nat)) (x9 x10 x11 x12 x13 x14 x15 x16 : Option D) : Env :=
  [some (.ref 0), some (nI k), some (nI size), some (nI long), some (encB bk), some (encL w), some (LOTS k bk w), none, some (.lst (acc.map encP)), x9, x10, x11, x12, x13, x14, x15, x16]
section
variable {k size long : Nat} {bk : List (List (List Int))} {w : List Nat}
theorem lot_draw (a b : Int) (hk : k ≤ 6) (acc : List (Nat × Nat)) (y9 y10 y11 y12 : Option D) : ∃ (l : List Nat) (a' b' : Int), l.Sublist (List.range k) ∧
    (lcItems (lcOne (ev (ph (n+7)) cs 38) (.var 7) [] (.name 7) [(.cmp .Eq (.call "_law_roll" [(.var 0), (.con (.int 2))]) (.con (.int 0)))]) ((List.range k).map fun (i : Nat) => D.int i) (EZ k size long bk w acc y9 y10 y11 y12 none none none none) (C a b)).calm.bind lcEnd = .ok (.lst (l.map nI)) (C a' b') := by
  obtain ⟨yss, st', e, ⟨a', b', rfl⟩, hq⟩ := lc_keep (one := lcOne (ev (ph (n+7)) cs 38) (.var 7) [] (.name 7) [(.cmp .Eq (.call "_law_roll" [(.var 0), (.con (.int 2))]) (.con (.int 0)))])
    (env := EZ k size long bk w acc y9 y10 y11 y12 none none none none) (xs := List.range k) (st := C a b) nI (fun st => ∃ a b, st = C a b) (fun x ys => ys = [] ∨ ys = [nI x]) ⟨a, b, rfl⟩ (by
      rintro x hx _ ⟨a, b, rfl⟩
      obtain ⟨r, a1, b1, hr, e1⟩ := roll_ok (n := n+6) a b (k := 2) (by decide) (by decide)
      have e1 : ph (n+7) "_law_roll" [.ref 0, .int 2] (C a b) = .ok (nI r) (C a1 b1) := e1
      by_cases hr0 : r = 0
      · subst hr0
        exact ⟨[nI x], C a1 b1, by simp [e1], ⟨a1, b1, rfl⟩, .inr rfl⟩
      · have hr1 : ¬ ((r : Int) = 0) := by omega
        exact ⟨[], C a1 b1, by simp [e1, hr1, hr0], ⟨a1, b1, rfl⟩, .inl rfl⟩)
  obtain ⟨l, h1, h2⟩ := sub_of hq
  refine ⟨l, a', b', h2, ?_⟩
  have hl := h2.length_le
  simp at hl
  have e' : lcItems (lcOne (ev (ph (n+7)) cs 38) (.var 7) [] (.name 7) [(.cmp .Eq (.call "_law_roll" [(.var 0), (.con (.int 2))]) (.con (.int 0)))]) ((List.range k).map fun (i : Nat) => D.int i) (EZ k size long bk w acc y9 y10 y11 y12 none none none none) (C a b) = .ok yss.flatten (C a' b') := e
  rw [e', R.calm_ok, R.bind_ok, h1, lcEnd_ok (by simp; omega)]
theorem notin_ps {l : List (Nat × Nat)} {p : Nat × Nat} (hp : p ∈ l) : cmpop .NotIn (encP p) (.lst (l.map encP)) st = .ok (.bl false) st := by
  have h1 : (l.map encP).all (isData 50) = true := by
    rw [List.all_map]
    exact List.all_eq_true.mpr fun p _ => by simp [isData]
  have h2 : ((l.map encP).any fun z => eqv z (encP p)) = true := by
    rw [List.any_map, List.any_eq_true]
    exact ⟨p, hp, by simp [eqv, eqvs]⟩
  show (if isData 50 (encP p) && (l.map encP).all (isData 50) then R.ok (D.bl (!(l.map encP).any fun z => eqv z (encP p))) st else .bad) = _
  rw [h1, h2]
  simp [isData]
theorem whole_lot (hk1 : 1 ≤ k) : Lot k (List.range k) := lot_sub (List.Sublist.refl _) (fun e => by
  have := congrArg List.length e
  simp at this
  omega)
theorem sl_take {l : List Nat} {r : Nat} (h : r ≤ l.length) : slop (encL l) none (some (r : Int)) st = .ok (encL (l.take r)) st := by
  show R.ok (D.tup (cut (l.map nI) none (some (r : Int)))) st = _
  rw [cut_take (by simpa using h), ← List.map_take]
theorem sl_drop {l : List Nat} {r : Nat} (h : r ≤ l.length) : slop (encL l) (some (r : Int)) none st = .ok (encL (l.drop r)) st := by
  show R.ok (D.tup (cut (l.map nI) (some (r : Int)) none)) st = _
  rw [cut_drop (by simpa using h), ← List.map_drop]
theorem rest_ok (a b : Int) (h : Book k bk) (hw : Wd bk w) (hk1 : 1 ≤ k) (hk : k ≤ 6) (y9 y10 y11 : Option D) :
    ∃ a' b', exs (ex (ev (ph (n+7)) cs 40) 40) (f__law_right.body.drop 6) (EW k size long bk w (aparts k bk w) y9 y10 y11) (C a b) = .ok (.ret (.bl true)) (C a' b') := by
  have hw24 := hw.le
  have e1 : ∀ st, ph (n+7) "apart_pairs" [encB bk, encL w] st = .ok (.tup ((aparts k bk w).map encP)) st := fun st => apart_pairs_ok (n := n+1) h hw
  have e2 : ∀ st, ph (n+7) "is_joining" [encB bk, encL w] st = .ok (.bl (aparts k bk w).isEmpty) st := fun st => is_joining_ok (n := n+1) h hw
  have hal : (aparts k bk w).length ≤ 36 := Nat.le_trans (List.length_filter_le _ _) (pairs_len hk)
  have e3 : ∀ st, ph (n+7) "_law_same" [.tup [.tup ((aparts k bk w).map encP), .bl (aparts k bk w).isEmpty], .tup [.tup ((aparts k bk w).map encP), .bl (aparts k bk w).isEmpty]] st = .ok (.bl true) st := fun st =>
    same_tup (k := 3) (by simp) (fun d hd => by
      simp only [List.mem_cons, List.not_mem_nil, or_false] at hd
      rcases hd with rfl | rfl
      · exact same_Ps (by omega)
      · exact (same_bl _).up (by decide)) (n+3) st
  obtain ⟨r, a1, b1, hr, e4⟩ := roll_ok (n := n+6) a b (k := w.length + 1) (by omega) (by omega)
  have e4 : ph (n+7) "_law_roll" [.ref 0, .int ((w.length : Int) + 1)] (C a b) = .ok (nI r) (C a1 b1) := by
    have : (((w.length + 1 : Nat) : Int)) = (w.length : Int) + 1 := by omega
    rw [← this]; exact e4
  obtain ⟨l, a2, b2, hl, e5⟩ := lot_draw (n := n) (k := k) (size := size) (long := long) (bk := bk) (w := w) a1 b1 hk (aparts k bk w) y9 y10 y11 (some (nI r))
  obtain ⟨q, a3, b3, hq, e6⟩ := roll_ok (n := n+6) a2 b2 (k := bk.length) h.b1 (by have := h.b6; omega)
  have e6 : ph (n+7) "_law_roll" [.ref 0, .int (bk.length : Int)] (C a2 b2) = .ok (nI q) (C a3 b3) := e6
  have wt : Wd bk (w.take r) := ⟨by rw [List.length_take]; omega, fun x hx => hw.lt x (List.mem_of_mem_take hx)⟩
  have wd : Wd bk (w.drop r) := ⟨by rw [List.length_drop]; omega, fun x hx => hw.lt x (List.mem_of_mem_drop hx)⟩
  have key9 : ∀ st, (ev (ph (n+7)) cs 40 (.and (.cmp .NotEq (.var 13) (.tup [])) (.cmp .NotEq (.call "heard_through" [(.var 4), (.sl (.var 5) none (some (.var 12))), (.call "heard_through" [(.var 4), (.sl (.var 5) (some (.var 12)) none), (.var 13)])]) (.call "heard_through" [(.var 4), (.var 5), (.var 13)])))
      (EZ k size long bk w (aparts k bk w) y9 y10 y11 (some (nI r)) (some (encL l)) none none none) st) = .ok (.bl false) st := by
    intro st
    by_cases hle : l = []
    · subst hle
      have := ne_nilT (l := []) (st := st)
      simp at this
      simp [this]
    · have hL := lot_sub hl hle
      have t1 : ph (n+7) "heard_through" [encB bk, encL (w.drop r), encL l] st = .ok (encL (thr k bk (w.drop r) l)) st := heard_through_ok (n := n+1) h wd hL hk
      have hL2 := Lot.thr (w := w.drop r) h hL wd.lt
      have t2 : ph (n+7) "heard_through" [encB bk, encL (w.take r), encL (thr k bk (w.drop r) l)] st = .ok (encL (thr k bk (w.take r) (thr k bk (w.drop r) l))) st := heard_through_ok (n := n+1) h wt hL2 hk
      have t3 : ph (n+7) "heard_through" [encB bk, encL w, encL l] st = .ok (encL (thr k bk w l)) st := heard_through_ok (n := n+1) h hw hL hk
      have t4 : thr k bk (w.take r) (thr k bk (w.drop r) l) = thr k bk w l := by rw [← thr_app, List.take_append_drop]
      rw [t4] at t2
      have hr' : r ≤ w.length := by omega
      simp [ne_nilT, hle, sl_take hr', sl_drop hr', t1, t2, t3, ne_same]
  have key11 : ∀ st, (ev (ph (n+7)) cs 40 (.and (.cmp .Lt (.blt .len [(.var 14)]) (.con (.int 25))) (.cmp .NotEq (.lc (.var 15) [.mk (.name 15) (.call "apart_pairs" [(.var 4), (.var 14)]) [(.cmp .NotIn (.var 15) (.var 8))]] [15]) (.lst [])))
      (EZ k size long bk w (aparts k bk w) y9 y10 y11 (some (nI r)) (some (encL l)) (some (encL (q :: w))) none none) st) = .ok (.bl false) st := by
    intro st
    by_cases hlen : (q :: w).length < 25
    · have hw2 : Wd bk (q :: w) := ⟨by omega, fun x hx => by
        rcases List.mem_cons.mp hx with z | z
        · rw [z]; exact hq
        · exact hw.lt x z⟩
      have t1 : ph (n+7) "apart_pairs" [encB bk, encL (q :: w)] st = .ok (.tup ((aparts k bk (q :: w)).map encP)) st := apart_pairs_ok (n := n+1) h hw2
      have hlen' : (w.length : Int) + 1 < 25 := by simp at hlen; omega
      simp [hlen', t1]
      have hal2 : (aparts k bk (q :: w)).length ≤ 36 := Nat.le_trans (List.length_filter_le _ _) (pairs_len hk)
      rw [lcEF (f := encP) (p := fun _ => false) (g := encP) (xs := aparts k bk (q :: w)) (hl := by omega) (h := ?_)]
      · have fe : ∀ L : List (Nat × Nat), L.filter (fun _ => false) = [] := fun L => by induction L <;> simp_all
        rw [R.bind_ok, fe]
        exact ne_nil0
      · intro p hp
        have hp2 := apart_less h hq hw.lt hp
        simp [notin_ps hp2]
    · have hlen' : ¬ ((w.length : Int) + 1 < 25) := by simp at hlen; omega
      simp [hlen']
  have hwL := whole_lot hk1
  have hdec : f__law_right.body.drop 6 = [.cond (.not (.call "_law_same" [(.tup [(.call "apart_pairs" [(.var 4), (.var 5)]), (.call "is_joining" [(.var 4), (.var 5)])]), (.tup [(.blt .tuple [(.var 8)]), (.cmp .Eq (.var 8) (.lst []))])])) [.ret (.con (.bl false))] [],
      .set (.name 12) (.call "_law_roll" [(.var 0), (.bin .Add (.blt .len [(.var 5)]) (.con (.int 1)))]),
      .set (.name 13) (.blt .tuple [(.lc (.var 7) [.mk (.name 7) (.blt .range1 [(.var 1)]) [(.cmp .Eq (.call "_law_roll" [(.var 0), (.con (.int 2))]) (.con (.int 0)))]] [7])]),
      .cond (.and (.cmp .NotEq (.var 13) (.tup [])) (.cmp .NotEq (.call "heard_through" [(.var 4), (.sl (.var 5) none (some (.var 12))), (.call "heard_through" [(.var 4), (.sl (.var 5) (some (.var 12)) none), (.var 13)])]) (.call "heard_through" [(.var 4), (.var 5), (.var 13)]))) [.ret (.con (.bl false))] [],
      .set (.name 14) (.bin .Add (.tup [(.call "_law_roll" [(.var 0), (.blt .len [(.var 4)])])]) (.var 5)),
      .cond (.and (.cmp .Lt (.blt .len [(.var 14)]) (.con (.int 25))) (.cmp .NotEq (.lc (.var 15) [.mk (.name 15) (.call "apart_pairs" [(.var 4), (.var 14)]) [(.cmp .NotIn (.var 15) (.var 8))]] [15]) (.lst []))) [.ret (.con (.bl false))] [],
      .set (.name 16) (.blt .tuple [(.blt .range1 [(.var 1)])]),
      .ret (.or (.cmp .NotEq (.blt .len [(.var 5)]) (.con (.int 1))) (.cmp .Eq (.call "heard_through" [(.var 4), (.var 5), (.var 16)]) (.call "heard_by" [(.ix (.var 4) (.ix (.var 5) (.con (.int 0)))), (.var 16)])))] := by kernel_rfl
  have p1 : exs (ex (ev (ph (n+7)) cs 40) 40) (f__law_right.body.drop 6) (EW k size long bk w (aparts k bk w) y9 y10 y11) (C a b) =
      exs (ex (ev (ph (n+7)) cs 40) 40) [.set (.name 16) (.blt .tuple [(.blt .range1 [(.var 1)])]), .ret (.or (.cmp .NotEq (.blt .len [(.var 5)]) (.con (.int 1))) (.cmp .Eq (.call "heard_through" [(.var 4), (.var 5), (.var 16)]) (.call "heard_by" [(.ix (.var 4) (.ix (.var 5) (.con (.int 0)))), (.var 16)])))]
        (EZ k size long bk w (aparts k bk w) y9 y10 y11 (some (nI r)) (some (encL l)) (some (encL (q :: w))) none none) (C a3 b3) := by
    rw [hdec]
    rw [exs_cons]
    have s0 : ex (ev (ph (n+7)) cs 40) 40 (.cond (.not (.call "_law_same" [(.tup [(.call "apart_pairs" [(.var 4), (.var 5)]), (.call "is_joining" [(.var 4), (.var 5)])]), (.tup [(.blt .tuple [(.var 8)]), (.cmp .Eq (.var 8) (.lst []))])])) [.ret (.con (.bl false))] []) (EW k size long bk w (aparts k bk w) y9 y10 y11) (C a b) = .ok (.next (EW k size long bk w (aparts k bk w) y9 y10 y11)) (C a b) := by
      simp [e1, e2, eq_nil data_Ps, e3]
    rw [s0, R.bind_ok, then_next, exs_cons]
    have s1 : ex (ev (ph (n+7)) cs 40) 40 (.set (.name 12) (.call "_law_roll" [(.var 0), (.bin .Add (.blt .len [(.var 5)]) (.con (.int 1)))])) (EW k size long bk w (aparts k bk w) y9 y10 y11) (C a b) = .ok (.next (EZ k size long bk w (aparts k bk w) y9 y10 y11 (some (nI r)) none none none none)) (C a1 b1) := by
      simp [e4]
    rw [s1, R.bind_ok, then_next, exs_cons]
    have s2 : ex (ev (ph (n+7)) cs 40) 40 (.set (.name 13) (.blt .tuple [(.lc (.var 7) [.mk (.name 7) (.blt .range1 [(.var 1)]) [(.cmp .Eq (.call "_law_roll" [(.var 0), (.con (.int 2))]) (.con (.int 0)))]] [7])])) (EZ k size long bk w (aparts k bk w) y9 y10 y11 (some (nI r)) none none none none) (C a1 b1) = .ok (.next (EZ k size long bk w (aparts k bk w) y9 y10 y11 (some (nI r)) (some (encL l)) none none none)) (C a2 b2) := by
      simp
      rw [items_range _ (by omega)]
      simp [e5]
    rw [s2, R.bind_ok, then_next, exs_cons, ex_cond, key9, R.bind_ok]
    simp only [truth_bl, Bool.false_eq_true, if_false, exs_nil]
    rw [R.bind_ok, then_next, exs_cons]
    have s4 : ex (ev (ph (n+7)) cs 40) 40 (.set (.name 14) (.bin .Add (.tup [(.call "_law_roll" [(.var 0), (.blt .len [(.var 4)])])]) (.var 5))) (EZ k size long bk w (aparts k bk w) y9 y10 y11 (some (nI r)) (some (encL l)) none none none) (C a2 b2) = .ok (.next (EZ k size long bk w (aparts k bk w) y9 y10 y11 (some (nI r)) (some (encL l)) (some (encL (q :: w))) none none)) (C a3 b3) := by
      simp [e6]
      rw [add_tup (by simp [seqMax]; omega)]
      simp
    rw [s4, R.bind_ok, then_next, exs_cons, ex_cond, key11, R.bind_ok]
    simp only [truth_bl, Bool.false_eq_true, if_false, exs_nil]
    rw [R.bind_ok, then_next]
  refine ⟨a3, b3, ?_⟩
  rw [p1]
  have t5 : ∀ st, ph (n+7) "heard_through" [encB bk, encL w, encL (List.range k)] st = .ok (encL (thr k bk w (List.range k))) st := fun st => heard_through_ok (n := n+1) h hw hwL hk
  have t5 : ∀ st, ph (n+7) "heard_through" [encB bk, encL w, .tup ((List.range k).map fun (i : Nat) => D.int i)] st = .ok (encL (thr k bk w (List.range k))) st := t5
  simp
  rw [tuple_rng (by omega)]
  simp
  by_cases h1 : w.length = 1
  · obtain ⟨a0, rfl⟩ : ∃ a0, w = [a0] := List.length_eq_one_iff.mp h1
    have ha0 := hw.lt a0 (by simp)
    have t6 : ∀ st, ph (n+7) "heard_by" [enc (bk[a0]?.getD []), .tup ((List.range k).map fun (i : Nat) => D.int i)] st = .ok (encL (heard k (bk[a0]?.getD []) (List.range k))) st := fun st => heard_by_ok (n := n+3) (h.at_ ha0) hwL
    have t7 : thr k bk [a0] (List.range k) = heard k (bk[a0]?.getD []) (List.range k) := by rw [thr_cons, thr_nil]
    have i0 : ∀ st, ixop (encL [a0]) (.int 0) st = .ok (nI a0) st := fun _ => rfl
    rw [t7] at t5
    simp [t5, i0, ixB (k := k) ha0, t6, eq_same]
  · have h2 : ¬ ((w.length : Int) = 1) := by omega
    simp [h2, h1]
end
theorem right_ok (a b : Int) {k size long : Nat} (hk1 : 1 ≤ k) (hk : k ≤ 6) (s1 : 1 ≤ size) (s6 : size ≤ 6) (g9 : long ≤ 24) : ∃ a' b', ph (n+8) "_law_right" [.ref 0, nI k, nI size, nI long] (C a b) = .ok (.bl true) (C a' b') := by
  obtain ⟨bk, a1, b1, h, e1⟩ := book_ok (n := n+3) a b (k := k) (high := 9) hk1 hk s1 s6 (by decide) (by decide)
  have e1 : ph (n+7) "_law_book" [.ref 0, nI k, nI size, .int 9] (C a b) = .ok (encB bk) (C a1 b1) := e1
  obtain ⟨w, a2, b2, hw, e2⟩ := word_of_ok (n := n+5) a1 b1 h g9
  have e2 : ph (n+7) "_law_word_of" [.ref 0, encB bk, nI long] (C a1 b1) = .ok (encL w) (C a2 b2) := e2
  have e3 : ph (n+7) "is_word" [encB bk, encL w] (C a2 b2) = .ok (.bl true) (C a2 b2) := is_word_ok (n := n+2) h hw
  obtain ⟨y9, y10, y11, e5⟩ := out_loop (n := n) (size := size) (long := long) h hw hk (C a2 b2)
  obtain ⟨a3, b3, e6⟩ := rest_ok (n := n) (size := size) (long := long) a2 b2 h hw hk1 hk y9 y10 y11
  refine ⟨a3, b3, ?_⟩
  have es : f__law_right.body = f__law_right.body.take 6 ++ f__law_right.body.drop 6 := (List.take_append_drop 6 _).symm
  have e7 : exs (ex (ev (ph (n+7)) cs 40) 40) (f__law_right.body.take 6) [some (.ref 0), some (nI k), some (nI size), some (nI long), none, none, none, none, none, none, none, none, none, none, none, none, none] (C a b) = .ok (.next (EW k size long bk w (aparts k bk w) y9 y10 y11)) (C a2 b2) := by
    simp [f__law_right, e1, e2, e3]
    rw [items_range _ (by omega)]
    simp
    rw [lcE1 (f := nI) (g := fun i => encL (thr k bk w [i])) (hl := by simp; omega) (h := ?_)]
    · simp
      rw [items_range _ (by omega)]
      simp
      have e5 : forGo (exs (ex (ev (ph (n+7)) cs 40) 39) f__law_right_b0) (.name 9) ((List.range k).map fun (i : Nat) => D.int i) [some (.ref 0), some (nI k), some (nI size), some (nI long), some (encB bk), some (encL w), some (LOTS k bk w), none, some (.lst []), none, none, none, none, none, none, none, none] (C a2 b2) = _ := e5
      rw [e5]
      simp
    · intro i hi
      have hi : i < k := by simpa using hi
      have e8 : ph (n+7) "_law_through" [encB bk, encL w, .tup [nI i]] (C a2 b2) = .ok (encL (thr k bk w [i])) (C a2 b2) := law_through_ok (n := n+5) h hw.lt (lot1 hi)
      simp [e8]
  have e9 : runF (ph (n+7)) cs f__law_right [.ref 0, nI k, nI size, nI long] (C a b) = endF 1 (exs (ex (ev (ph (n+7)) cs 40) 40) f__law_right.body [some (.ref 0), some (nI k), some (nI size), some (nI long), none, none, none, none, none, none, none, none, none, none, none, none, none] (C a b)) := by kernel_rfl
  rw [u__law_right, e9, es, exs_app, e7, R.bind_ok, then_next, e6]
  rfl
end K01

set_option Elab.async false
set_option linter.all false
set_option maxRecDepth 100000
set_option maxHeartbeats 2000000
namespace K01
open Ev Lw
variable {n : Nat} {st : Store}
theorem cup_ok (ns : List Int) (h : ns.length ≤ 63) : ∃ a b, ph (n+1) "_law_cup" [.scr ns] [] = .ok (.ref 0) (C a b) := by
  have key : ∃ c : Int, ixop (.lst (ns.map D.int ++ [.int 0])) (.int 0) [] = .ok (.int c) [] := by
    cases ns with
    | nil => exact ⟨0, rfl⟩
    | cons x r => exact ⟨x, ix_lst (i := 0) rfl⟩
  obtain ⟨c, e⟩ := key
  have p : ∀ st, binop .Pow (.int 10) (.int 18) st = .ok (.int 1000000000000000000) st := fun st => by simp [binop]
  rw [u__law_cup]
  simp [runF, f__law_cup, startE]
  rw [add_lst (by simp [seqMax]; omega)]
  simp [e, p]
  generalize (if c < 0 then -c else c) = v
  have d1 : ∀ st, binop .FloorDiv (.int v) (.int 97) st = .ok (.int (v / 97)) st := fun st => div_int (by decide) (by decide)
  have d2 : ∀ st, binop .Mult (.int v) (.int 337) st = .ok (.int (v * 337)) st := fun st => mul_int' (by decide)
  have d3 : ∀ i st, binop .Mod (.int i) (.int 2077496497) st = .ok (.int (i % 2077496497)) st := fun i st => mod_int (by decide)
  simp [d1, d2, d3]
  by_cases hv : 1000000000000000000 ≤ v
  · exact ⟨_, _, by simp [hv, trunc, below]; exact ⟨rfl, rfl⟩⟩
  · exact ⟨_, _, by simp [hv, trunc, below]; exact ⟨rfl, rfl⟩⟩
abbrev ONE : D := .tup [.tup [.int 1, .int 1, .int 0], .tup [.int 0, .int 1, .int 0], .tup [.int 0, .int 3, .int 1]]
abbrev OTHER : D := .tup [.tup [.int 0, .int 1, .int 0], .tup [.int 0, .int 0, .int 1], .tup [.int 1, .int 0, .int 0]]
abbrev BOOK : D := .tup [ONE, OTHER]
abbrev PRS : D := .tup [.tup [.int 0, .int 1], .tup [.int 0, .int 2], .tup [.int 1, .int 2]]
abbrev TOLD : D := .tup [PRS, .tup [], .bl true, .bl false, .bl true, .bl true, PRS]
abbrev EL (ns : List Int) (x6 x7 x8 : Option D) : Env := [some (.scr ns), some (.ref 0), some ONE, some OTHER, some BOOK, some TOLD, x6, x7, x8, none]
theorem law_pre (ns : List Int) (a b : Int) : exs (ex (ev (ph 29) cs 40) 40) ((f_law.body.drop 1).take 7) [some (.scr ns), some (.ref 0), none, none, none, none, none, none, none, none] (C a b) =
    .ok (.next (EL ns none none none)) (C a b) := by kernel_rfl
theorem law_post (ns : List Int) (a b : Int) (x5 x6 x7 : Option D) : exs (ex (ev (ph 29) cs 40) 40) (f_law.body.drop 9) (EL ns x5 x6 x7) (C a b) =
    .ok (.ret (.bl true)) (C a b) := by kernel_rfl
def sizes : List (Nat × Nat × Nat) := [(1, 1, 2), (2, 2, 3), (4, 3, 6), (6, 4, 24)]
abbrev encS (p : Nat × Nat × Nat) : D := .tup [nI p.1, nI p.2.1, nI p.2.2]
theorem sizes_ok : ∀ p ∈ sizes, 1 ≤ p.1 ∧ p.1 ≤ 6 ∧ 1 ≤ p.2.1 ∧ p.2.1 ≤ 6 ∧ p.2.2 ≤ 24 := by decide
theorem law_loop (ns : List Int) (a b : Int) : ∃ (x5 x6 x7 : Option D) (a' b' : Int), forGo (exs (ex (ev (ph 29) cs 40) 39) f_law_b0) (.tup [.name 6, .name 7, .name 8]) (sizes.map encS) (EL ns none none none) (C a b) =
    .ok (.next (EL ns x5 x6 x7)) (C a' b') := by
  have key := for_keep (body := exs (ex (ev (ph 29) cs 40) 39) f_law_b0) (t := .tup [.name 6, .name 7, .name 8]) encS
    (fun ys env st' => ∃ (x5 x6 x7 : Option D) (a b : Int), env = EL ns x5 x6 x7 ∧ st' = C a b) (xs := sizes) (env := EL ns none none none) (st := C a b)
    ⟨none, none, none, a, b, rfl, rfl⟩ (by
      rintro ys p zs env st' e ⟨x5, x6, x7, a, b, rfl, rfl⟩
      obtain ⟨h0, h1, h2, h3, h4⟩ := sizes_ok p (by rw [e]; simp)
      obtain ⟨a', b', e1⟩ := right_ok (n := 21) a b h0 h1 h2 h3 h4
      have e1 : ph 29 "_law_right" [.ref 0, nI p.1, nI p.2.1, nI p.2.2] (C a b) = .ok (.bl true) (C a' b') := e1
      refine ⟨EL ns (some (nI p.1)) (some (nI p.2.1)) (some (nI p.2.2)), EL ns (some (nI p.1)) (some (nI p.2.1)) (some (nI p.2.2)), C a' b', rfl, .inl ?_, _, _, _, a', b', rfl, rfl⟩
      simp [f_law_b0, e1])
  obtain ⟨env', st', e, x5, x6, x7, a', b', rfl, rfl⟩ := key
  exact ⟨x5, x6, x7, a', b', e⟩
theorem body_split : f_law.body = f_law.body.take 1 ++ ((f_law.body.drop 1).take 7 ++ ((f_law.body.drop 8).take 1 ++ f_law.body.drop 9)) := by kernel_rfl
theorem law_true (ns : List Int) (h : ns.length ≤ 63) : ∃ st, ph 30 "law" [.scr ns] [] = .ok (.bl true) st := by
  obtain ⟨a, b, e1⟩ := cup_ok (n := 28) ns h
  obtain ⟨x5, x6, x7, a', b', e2⟩ := law_loop ns a b
  refine ⟨[], ?_⟩
  rw [u_law]
  have e0 : exs (ex (ev (ph 29) cs 40) 40) (f_law.body.take 1) [some (.scr ns), none, none, none, none, none, none, none, none, none] [] = .ok (.next [some (.scr ns), some (.ref 0), none, none, none, none, none, none, none, none]) (C a b) := by
    simp [f_law, e1]
  have e3 : exs (ex (ev (ph 29) cs 40) 40) ((f_law.body.drop 8).take 1) (EL ns none none none) (C a b) = .ok (.next (EL ns x5 x6 x7)) (C a' b') := by
    have e4 : exs (ex (ev (ph 29) cs 40) 40) ((f_law.body.drop 8).take 1) (EL ns none none none) (C a b) =
      ((forGo (exs (ex (ev (ph 29) cs 40) 39) f_law_b0) (.tup [.name 6, .name 7, .name 8]) (sizes.map encS) (EL ns none none none) (C a b)).bind fun f st1 => thenF f st1 fun env1 st2 => .ok (.next env1) st2) := by kernel_rfl
    rw [e4, e2]
    rfl
  have e5 : runF (ph 29) cs f_law [.scr ns] [] = endF 0 (exs (ex (ev (ph 29) cs 40) 40) f_law.body [some (.scr ns), none, none, none, none, none, none, none, none, none] []) := by kernel_rfl
  rw [e5, body_split, exs_app, e0, R.bind_ok, then_next, exs_app, law_pre, R.bind_ok, then_next, exs_app, e3, R.bind_ok, then_next, law_post]
  rfl
end K01

set_option Elab.async false
set_option linter.all false
set_option maxRecDepth 100000
set_option maxHeartbeats 0
namespace K01
open Ev
abbrev rw' : PySem.W.OpenLaw := PySem.Challenge.rw_setbyothers_k01_whole_whom_members_hear
abbrev R : PySem.W.OpenRow := PySem.W.OpenLaw.row rw'
abbrev fa : List He.Fa := faOf defs exc nums
abbrev fn : List He.DefD := defs.map dOf
abbrev hk : PySem.W.Hook := He.hookD 4 fa fn
def ob (s : PySem.W.SharedT) : He.AlD := He.obsDG 4 fa fn (HandSHeadRun.getT s)
theorem ob_eq (s : PySem.W.SharedT) : ob s = hk.obs s.abs := He.obsDG_eq (HandSHeadRun.getT_eq s)
theorem run (w : PySem.World) : HandSHeadRun.RunEq R (PySem.W.view R.prog [41]) hk ob 3000 loose w := by
  intro os
  kernel_rfl
end K01

set_option Elab.async false
set_option linter.all false
set_option maxRecDepth 100000
set_option maxHeartbeats 0
open PySem PySem.W PySem.Calls PyProof.Rows
theorem PySem.Challenge.cw_setbyothers_k01_whole_whom_members_hear_holds : PySem.Challenge.rw_setbyothers_k01_whole_whom_members_hear.Holds := by
  w_on; o_law
  refine HandSHeadRun.head_any (r := OpenLaw.row PySem.Challenge.rw_setbyothers_k01_whole_whom_members_hear) (q := view (OpenLaw.row PySem.Challenge.rw_setbyothers_k01_whole_whom_members_hear).prog [41]) (H := K01.hk) (ob := K01.ob) (M := 3000) (loose := K01.loose) (d := HandSHeadRun.topDef (OpenLaw.row PySem.Challenge.rw_setbyothers_k01_whole_whom_members_hear).prog 41) (kwd := []) K01.ob_eq
    (by kernel_rfl) (fun s => by kernel_rfl) K01.run (by kernel_rfl) (by kernel_rfl) (by kernel_rfl) (by rfl) (by first | assumption | decide +kernel) (by decide +kernel) ⟨rfl, rfl, rfl, rfl, rfl, by decide +kernel⟩ ?hw ?hc
  case hw => w_witness2
  case hc =>
    refine L2.walk_ofE (l := PySem.Challenge.rw_setbyothers_k01_whole_whom_members_hear) (n := 63) (k := 30) (x := "script") (CX := L2.CX0) rfl (by decide) (by kernel_rfl) ⟨rfl, by decide, by decide⟩ ?F (fun _ _ _ _ z => z)
    intro w mg fa h Y G hmg0
    obtain ⟨K, KX, c⟩ := Y
    have hmg : mg ("law" : PySem.Str) = some (.ref fa) := by
      have e : (HandSHeadRun.topDef (OpenLaw.row PySem.Challenge.rw_setbyothers_k01_whole_whom_members_hear).prog 41).name = ("law" : PySem.Str) := by kernel_rfl
      rw [← e]
      exact hmg0
    exact Ev.law_F (q := ⟨"law", K01.top 41, K01.f_law⟩) K01.chk_all K01.bnd_all KX G c (List.mem_of_getLast? rfl) rfl (by kernel_rfl) rfl hmg K01.law_true
