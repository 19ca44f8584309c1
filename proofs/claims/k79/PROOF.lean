import PyProof.Rows.All
import Wide.All
import OpenK.AllK
import Wide.FinOn
import HandS.ForMost
import HandS.ForExc
import HandS.Lambda
import HandS.HeadHook1
import KE.KDictKeyed
import HandS.Dict
import HandS.TupAny
import HandS.TupMul
import HandS.Wide
import HandS.Style
import HandS.Deep
import HandS.SortInts
import HandS.Conv
import HandS.Zip
import HandS.IsInst
import HandS.Sort
import HandS.SetFor
import HandS.Strs
import HandS.Flow
import HandS.ExcOwn
import HandS.ExcCtx
import HandS.CallLocal
import KE.GoesEnum
import HandS.Walk
import HandS.Iter
import KE.LtSeq
import HandS.NamedTupSort
import KE.KDictSum
import HandS.Comp
import HandS.Ends
import HandS.More
import HandS.Words
import HandS.WordsExc
import HandS.Defaults
import HandS.Head0
import HandS.Head1
import HandS.Head2
import HandS.HeadEnd
import HandS.HeadHook2
import HandS.HotCalls
import HandS.ExcIs
import HandS.HeadHook4
import HandS.HeadWalk
import HandS.NestedK
import PySem.Challenge.RW_setbyothers_k79_whole_errors_of_splits
set_option Elab.async false
set_option linter.all false
set_option maxRecDepth 100000
/-! A small language of values, its evaluator, and how it is run. -/
namespace Ev
open PySem (Str)

/-- texts compared by their code points, and looked up so: quick for the kernel -/
def eqL : List Nat → List Nat → Bool
  | [], [] => true
  | a :: as, b :: bs => match Nat.beq a b with
    | true => eqL as bs
    | false => false
  | _, _ => false
theorem eqL_iff : ∀ (a b : List Nat), eqL a b = true ↔ a = b
  | [], [] => by simp [eqL]
  | [], _ :: _ => by simp [eqL]
  | _ :: _, [] => by simp [eqL]
  | a :: as, b :: bs => by
    unfold eqL
    cases h : Nat.beq a b with
    | true =>
      have := Nat.eq_of_beq_eq_true h
      subst this
      simp [eqL_iff as bs]
    | false =>
      have : a ≠ b := Nat.ne_of_beq_eq_false h
      simp [this]
def eqS (a b : Str) : Bool := eqL a.cps.toList b.cps.toList
theorem eqS_eq (a b : Str) : eqS a b = (a == b) := by
  have h : eqS a b = true ↔ a = b := by
    unfold eqS
    rw [eqL_iff]
    constructor
    · intro e
      cases a; cases b
      simp at e
      rw [e]
    · intro e; rw [e]
  cases q : (a == b) with
  | true => exact h.mpr (eq_of_beq q)
  | false =>
    cases r : eqS a b with
    | false => rfl
    | true => rw [h.mp r] at q; simp at q
def lookS {α : Type} : List (Str × α) → Str → Option α
  | [], _ => none
  | (y, b) :: r, x => match eqS x y with
    | true => some b
    | false => lookS r x
theorem lookS_eq {α : Type} : ∀ (l : List (Str × α)) (x : Str), lookS l x = l.lookup x
  | [], _ => rfl
  | (y, b) :: r, x => by
    unfold lookS
    rw [eqS_eq, List.lookup_cons]
    cases h : (x == y) with
    | true => rfl
    | false => exact lookS_eq r x
/-- a text by its code points -/
abbrev sx (l : List Nat) : Str := ⟨Array.mk l⟩
/-- a value: refs name cells of the store, all else is plain data -/
inductive D where
  | non | bl (b : Bool) | int (i : Int) | str (s : Str) | tup (l : List D) | lst (l : List D) | ref (k : Nat) | rng (lo hi : Int) | scr (l : List Int) | fn (x : Str) | dic (ks vs : List D)
  deriving Inhabited

inductive Cell where
  | lst (l : List D)
  | dic (ks vs : List D)
  | gone
abbrev Store := List Cell
inductive R (α : Type) where
  | ok (a : α) (st : Store)
  | exc (x : Str) (st : Store)
  | bad
@[inline] def R.bind {α β : Type} (r : R α) (f : α → Store → R β) : R β :=
  match r with
  | .ok a st => f a st
  | .exc x st => .exc x st
  | .bad => .bad
/-- an exception is not told of -/
def R.calm {α : Type} (r : R α) : R α := match r with
  | .exc _ _ => .bad
  | r => r
def R.of {α : Type} (o : Option α) (st : Store) : R α := match o with
  | some a => .ok a st
  | none => .bad

/-! ### built-in functions -/
inductive Bf where
  | len | all | any | sum | tuple | list | listc | abs | int | str | sortedSet | sorted | max1 | min1 | max2 | min2 | range1 | range2 | zip | enumerate
  deriving DecidableEq, Inhabited

/-- methods of lists -/
inductive Mth where
  | append | pop | extend
  deriving DecidableEq, Inhabited
mutual
inductive E where
  | bad
  | con (d : D)
  | var (i : Nat)
  | glob (x : Str)
  | tup (l : List E) | lst (l : List E) | cel (l : List E)
  | bin (op : PySem.Operator) (a b : E)
  | neg (a : E) | not (a : E)
  | and (a b : E) | or (a b : E)
  | cmp (op : PySem.CmpOp) (a b : E)
  | cmp2 (op op2 : PySem.CmpOp) (a b c : E)
  | ite (c a b : E)
  | call (f : Str) (args : List E)
  | blt (f : Bf) (args : List E)
  | isin (a : E) (ty : String)
  | ix (a b : E)
  | sl (a : E) (lo hi : Option E)
  | slc (a : E) (lo hi : Option E)
  | rev (a : E)
  | lc (elt : E) (gens : List G) (own : List Nat)
  | meth (m : Mth) (o : E) (args : List E)
  | callv (i : Nat) (args : List E)
  | lam (f : Str) (b : E)
  | isE (c : Str)
  | lcc (elt : E) (gens : List G) (own : List Nat)
  | addc (a b : E)
  | dnew (c : Bool)
  | dic1 (c : Bool) (k v : E)
  | dget (o k : E) (x : Option E)
  | dzip (a b : E)
  | dof (a : E)
  | dc (c : Bool) (k v : E) (gens : List G) (own : List Nat)
  | froze (a : E)
  | keys (a : E) | items (a : E) | vals (a : E) | sitems (a : E) | lvals (a : E)
  | index (o x : E)
  | lcw (m elt : E) (t : T) (ifs : List E) (own : List Nat)
inductive G where
  | mk (t : T) (it : E) (ifs : List E)
inductive T where
  | name (i : Nat) | tup (l : List T)
end
instance : Inhabited E := ⟨.bad⟩
inductive S where
  | bad
  | set (t : T) (e : E)
  | sub (o i e : E)
  | sub2 (o1 i1 o2 i2 e1 e2 : E)
  | ex (e : E)
  | ret (e : E) | retN
  | cond (c : E) (a b : List S)
  | for (t : T) (it : E) (body : List S)
  | forw (t : T) (m : E) (body : List S)
  | while (c : E) (body : List S)
  | raise (x : Str)
  | pass | brk | cont
instance : Inhabited S := ⟨.bad⟩

abbrev Env := List (Option D)

/-! ### data -/
mutual
def eqv : D → D → Bool
  | .non, .non => true
  | .bl a, .bl b => a == b
  | .bl a, .int j => (if a then 1 else 0) == j
  | .int i, .bl b => i == (if b then 1 else 0)
  | .int i, .int j => i == j
  | .str x, .str y => eqS x y
  | .tup xs, .tup ys => eqvs xs ys
  | .lst xs, .lst ys => eqvs xs ys
  | _, _ => false
def eqvs : List D → List D → Bool
  | [], [] => true
  | x :: xs, y :: ys => eqv x y && eqvs xs ys
  | _, _ => false
end
/-- plain data: nothing but none, boolsOf, intsOf, texts, tuples and lists, at most so deep -/
def isData : Nat → D → Bool
  | _, .non => true
  | _, .bl _ => true
  | _, .int _ => true
  | _, .str s => s.cps.toList.all fun c => Nat.blt c 0x110000
  | n + 1, .tup l => l.all (isData n)
  | n + 1, .lst l => l.all (isData n)
  | _, _ => false
/-- no ref from n on -/
def below (n : Nat) : Nat → D → Bool
  | _, .non => true
  | _, .bl _ => true
  | _, .int _ => true
  | _, .str _ => true
  | _, .rng _ _ => true
  | _, .scr _ => true
  | _, .fn _ => true
  | _, .ref k => decide (k < n)
  | f + 1, .tup l => l.all (below n f)
  | f + 1, .lst l => l.all (below n f)
  | f + 1, .dic ks vs => ks.all (below n f) && vs.all (below n f)
  | 0, _ => false
def cellBelow (n : Nat) : Cell → Bool
  | .lst l => l.all (below n 40)
  | .dic ks vs => ks.all (below n 40) && vs.all (below n 40)
  | .gone => true

/-- the items of a list, pure or a cell -/
def seqL (d : D) (st : Store) : Option (List D) := match d with
  | .lst l => some l
  | .ref k => match st[k]? with
    | some (.lst l) => some l
    | _ => none
  | _ => none
/-- a cell read as the list that it is now -/
def deref (d : D) (st : Store) : D := match d with
  | .ref k => match st[k]? with
    | some (.lst l) => .lst l
    | _ => d
  | _ => d
def seqLT (d : D) (st : Store) : Option (List D) := match d with
  | .tup l => some l
  | _ => seqL d st
def truth (d : D) (st : Store) : Option Bool := match d with
  | .non => some false
  | .bl b => some b
  | .int i => some (i != 0)
  | .str s => if s.length ≤ 1000000 then some ((s.length : Int) != 0) else none
  | .tup l => some (!l.isEmpty)
  | .lst l => some (!l.isEmpty)
  | .ref k => match st[k]? with
    | some (.lst l) => some (!l.isEmpty)
    | _ => none
  | _ => none
def intsOf : List D → Option (List Int)
  | [] => some []
  | .int i :: r => match intsOf r with
    | some l => some (i :: l)
    | none => none
  | _ :: _ => none
def boolsOf : List D → Option (List Bool)
  | [] => some []
  | .bl i :: r => match boolsOf r with
    | some l => some (i :: l)
    | none => none
  | _ :: _ => none
def seqMax : Nat := 1000000

/-! ### dicts -/
def isNumK : D → Bool
  | .int _ => true
  | _ => false
def isTupK : D → Bool
  | .tup _ => true
  | _ => false
/-- what may be a key, so deep -/
def keyOk : Nat → D → Bool
  | _, .int _ => true
  | _, .non => true
  | n + 1, .tup l => l.all (keyOk n)
  | _, _ => false
def kindOk (k : D) (ks : List D) : Bool := match k with
  | .int _ => ks.all isNumK
  | .tup _ => keyOk 8 k && ks.all isTupK
  | _ => false
def dfind : List D → List D → D → Option D
  | x :: xs, y :: ys, k => if eqv x k = true then some y else dfind xs ys k
  | _, _, _ => none
def dputV : List D → List D → D → D → List D
  | x :: xs, y :: ys, k, v => if eqv x k = true then v :: ys else y :: dputV xs ys k v
  | _, _, _, v => [v]
def dputK (ks vs : List D) (k : D) : List D := if (dfind ks vs k).isSome = true then ks else ks ++ [k]
def dicOf (d : D) (st : Store) : Option (List D × List D) := match d with
  | .dic ks vs => some (ks, vs)
  | .ref k => match st[k]? with
    | some (.dic ks vs) => some (ks, vs)
    | _ => none
  | _ => none

/-! ### operators -/
def binop (op : PySem.Operator) (a b : D) (st : Store) : R D := match op, a, b with
  | .Add, .int i, .int j => .ok (.int (i + j)) st
  | .Add, .str x, .str y => if x.length + y.length ≤ seqMax then .ok (.str (x ++ y)) st else .bad
  | .Add, .tup xs, .tup ys => if xs.length + ys.length ≤ seqMax then .ok (.tup (xs ++ ys)) st else .bad
  | .Add, _, _ => match seqL a st, seqL b st with
    | some xs, some ys => if xs.length + ys.length ≤ seqMax then .ok (.lst (xs ++ ys)) st else .bad
    | _, _ => .bad
  | .Sub, .int i, .int j => .ok (.int (i - j)) st
  | .Mult, .int i, .int j => if (decide (-(2 ^ 64) < i) && decide (i < 2 ^ 64)) || (decide (-(2 ^ 64) < j) && decide (j < 2 ^ 64)) || decide (i.natAbs.log2 + j.natAbs.log2 < 1000000) then .ok (.int (i * j)) st else .bad
  | .Mult, .tup xs, .int k => if xs.length ≤ 1000 ∧ xs.isEmpty = false ∧ 2 ≤ k ∧ k ≤ 1000 then .ok (.tup (List.replicate k.toNat xs).flatten) st else .bad
  | .Mult, .lst xs, .int k => if xs.length ≤ 1000 ∧ 0 ≤ k ∧ k ≤ 1000 then .ok (.lst (List.replicate k.toNat xs).flatten) st else .bad
  | .FloorDiv, .int i, .int j => if decide (0 < j) && decide (j.natAbs.log2 < 9000) then .ok (.int (i / j)) st else .bad
  | .Mod, .int i, .int j => if 0 < j then .ok (.int (i % j)) st else .bad
  | .Pow, .int i, .int j => if 0 ≤ j ∧ j ≤ 1000000 ∧ i.natAbs < 2 ^ 64 then .ok (.int (i ^ j.toNat)) st else .bad
  | _, _, _ => .bad
def lexLt : List Int → List Int → Bool := HT.lexLt
def isOp (a b : D) (st : Store) : Option Bool := match a, b with
  | .bl x, .bl y => some (decide (x = y))
  | .non, .non => some true
  | .bl _, .non => some false
  | .int _, .non => some false
  | .str _, .non => some false
  | .tup _, .non => some false
  | .lst _, .non => some false
  | .ref k, .non => match st[k]? with
    | some (.lst _) => some false
    | _ => none
  | _, _ => none
def cmpop (op : PySem.CmpOp) (a b : D) (st : Store) : R D := match op with
  | .Eq => let a := deref a st; let b := deref b st
    if isData 50 a && isData 50 b then .ok (.bl (eqv a b)) st else .bad
  | .NotEq => let a := deref a st; let b := deref b st
    if isData 50 a && isData 50 b then .ok (.bl (!eqv a b)) st else .bad
  | .Is => match isOp a b st with
    | some k => .ok (.bl k) st
    | none => .bad
  | .IsNot => match isOp a b st with
    | some k => .ok (.bl (!k)) st
    | none => .bad
  | .In => match seqLT b st with
    | some l => if isData 50 a && l.all (isData 50) then .ok (.bl (l.any fun z => eqv z a)) st else .bad
    | none => match dicOf b st with
      | some (ks, vs) => if kindOk a ks = true then .ok (.bl (dfind ks vs a).isSome) st else .bad
      | none => .bad
  | .NotIn => match seqLT b st with
    | some l => if isData 50 a && l.all (isData 50) then .ok (.bl (!l.any fun z => eqv z a)) st else .bad
    | none => match dicOf b st with
      | some (ks, vs) => if kindOk a ks = true then .ok (.bl (!(dfind ks vs a).isSome)) st else .bad
      | none => .bad
  | .Lt => match a, b with
    | .int i, .int j => .ok (.bl (decide (i < j))) st
    | .tup xs, .tup ys => match intsOf xs, intsOf ys with
      | some ns, some ms => .ok (.bl (lexLt ns ms)) st
      | _, _ => .bad
    | _, _ => .bad
  | .LtE => match a, b with
    | .int i, .int j => .ok (.bl (decide (i ≤ j))) st
    | _, _ => .bad
  | .Gt => match a, b with
    | .int i, .int j => .ok (.bl (decide (j < i))) st
    | _, _ => .bad
  | .GtE => match a, b with
    | .int i, .int j => .ok (.bl (decide (j ≤ i))) st
    | _, _ => .bad
/-- insertion into a rising list without doubles -/
def insI (x : Int) : List Int → List Int
  | [] => [x]
  | y :: r => if x < y then x :: y :: r else if x = y then y :: r else y :: insI x r
def sortSet : List Int → List Int
  | [] => []
  | x :: r => insI x (sortSet r)
def insD (x : Int) : List Int → List Int
  | [] => [x]
  | y :: r => if x ≤ y then x :: y :: r else y :: insD x r
def sortI : List Int → List Int
  | [] => []
  | x :: r => insD x (sortI r)
def rangeL (lo : Int) : Nat → List D
  | 0 => []
  | n + 1 => .int lo :: rangeL (lo + 1) n
def enumL (i : Int) : List D → List D
  | [] => []
  | x :: r => .tup [.int i, x] :: enumL (i + 1) r
def zipL : List D → List D → List D
  | x :: r, y :: q => .tup [x, y] :: zipL r q
  | _, _ => []
/-- what a for walks -/
def itemsOf (d : D) (st : Store) : Option (List D) := match d with
  | .rng lo hi => if -1000000 ≤ lo ∧ lo ≤ 1000000 ∧ -1000000 ≤ hi ∧ hi ≤ 1000000 then some (rangeL lo (hi - lo).toNat) else none
  | .tup l => some l
  | .lst l => some l
  | _ => none
def int2 (g : Int → Int → D) (l : List D) (st : Store) : R D := match l with
  | [.int i, .int j] => .ok (g i j) st
  | _ => .bad
def maxI : List Int → Int
  | [] => 0
  | [x] => x
  | x :: y :: r => if x < maxI (y :: r) then maxI (y :: r) else x
def minI : List Int → Int
  | [] => 0
  | [x] => x
  | x :: y :: r => if minI (y :: r) < x then minI (y :: r) else x
/-! ### lists of tuples of ints in order -/
def flatT : D → Option (List Int)
  | .tup l => intsOf l
  | _ => none
def flats : List D → Option (List (List Int))
  | [] => some []
  | d :: r => match flatT d, flats r with
    | some n, some ns => some (n :: ns)
    | _, _ => none
def insL (x : List Int) : List (List Int) → List (List Int)
  | [] => [x]
  | y :: r => if lexLt y x = true then y :: insL x r else x :: y :: r
def sortL : List (List Int) → List (List Int)
  | [] => []
  | x :: r => insL x (sortL r)
/-! tuples of ints and of such tuples: each as a row of ints that is ordered as they are -/
mutual
def enc : D → List Int
  | .int i => [1, i]
  | .tup l => 2 :: encs l
  | _ => [3]
def encs : List D → List Int
  | [] => [0]
  | d :: r => enc d ++ encs r
end
def tOk : Nat → D → Bool
  | _, .int _ => true
  | n + 1, .tup l => l.all (tOk n)
  | _, _ => false
mutual
/-- item by item alike in kind -/
def cmpb : D → D → Bool
  | .int _, .int _ => true
  | .tup xs, .tup ys => cmpbs xs ys
  | _, _ => false
def cmpbs : List D → List D → Bool
  | [], _ => true
  | _, [] => true
  | x :: xs, y :: ys => cmpb x y && cmpbs xs ys
end
def headKind (isI : Bool) : D → Bool
  | .tup (.int _ :: _) => isI
  | .tup (.tup _ :: _) => !isI
  | _ => false
def insE (x : List Int × D) : List (List Int × D) → List (List Int × D)
  | [] => [x]
  | y :: r => if lexLt y.1 x.1 = true then y :: insE x r else x :: y :: r
def sortE : List (List Int × D) → List (List Int × D)
  | [] => []
  | x :: r => insE x (sortE r)
def sortN (l : List D) (st : Store) : R D :=
  if l.all (tOk 6) && ((l.all (headKind true) || l.all (headKind false)) && (l.all (fun a => l.all (cmpb a)) && decide (l.length ≤ seqMax))) then .ok (.lst ((sortE (l.map fun d => (enc d, d))).map Prod.snd)) st else .bad
def sortD (l : List D) (st : Store) : R D := match flats l with
  | some ns => if ns.all (fun n => !n.isEmpty) && decide (l.length ≤ seqMax) then .ok (.lst ((sortL ns).map fun n => .tup (n.map D.int))) st else .bad
  | none => sortN l st
/-- sorted of what is walked -/
def sortAny (l : List D) (st : Store) : R D := match intsOf l with
  | some ns => .ok (.lst ((sortI ns).map D.int)) st
  | none => sortD l st
def bltop (f : Bf) (args : List D) (st : Store) : R D := match f, args with
  | .len, [.str s] => if s.length ≤ seqMax then .ok (.int s.length) st else .bad
  | .len, [d] => match seqLT d st with
    | some l => .ok (.int l.length) st
    | none => match dicOf d st with
      | some (ks, _) => .ok (.int ks.length) st
      | none => .bad
  | .all, [d] => match seqL d st with
    | some l => match boolsOf l with
      | some bs => .ok (.bl (bs.all id)) st
      | none => .bad
    | none => .bad
  | .any, [d] => match seqL d st with
    | some l => match boolsOf l with
      | some bs => .ok (.bl (bs.any id)) st
      | none => .bad
    | none => .bad
  | .sum, [d] => match seqLT d st with
    | some l => match intsOf l with
      | some bs => .ok (.int bs.sum) st
      | none => .bad
    | none => .bad
  | .tuple, [.tup l] => .ok (.tup l) st
  | .tuple, [.rng lo hi] => if -1000000 ≤ lo ∧ lo ≤ 1000000 ∧ -1000000 ≤ hi ∧ hi ≤ 1000000 then .ok (.tup (rangeL lo (hi - lo).toNat)) st else .bad
  | .tuple, [d] => match seqL d st with
    | some l => .ok (.tup l) st
    | none => .bad
  | .list, [.scr l] => .ok (.lst (l.map D.int)) st
  | .list, [.rng lo hi] => if -1000000 ≤ lo ∧ lo ≤ 1000000 ∧ -1000000 ≤ hi ∧ hi ≤ 1000000 then .ok (.lst (rangeL lo (hi - lo).toNat)) st else .bad
  | .list, [d] => match seqLT d st with
    | some l => .ok (.lst l) st
    | none => match dicOf d st with
      | some (ks, _) => .ok (.lst ks) st
      | none => .bad
  | .listc, [d] => match seqLT d st with
    | some l => .ok (.ref st.length) (st ++ [.lst l])
    | none => match dicOf d st with
      | some (ks, _) => .ok (.ref st.length) (st ++ [.lst ks])
      | none => .bad
  | .abs, [.int i] => .ok (.int (if i < 0 then -i else i)) st
  | .int, [.int i] => .ok (.int i) st
  | .int, [.bl b] => .ok (.int (if b then 1 else 0)) st
  | .sortedSet, [d] => match seqLT d st with
    | some l => match intsOf l with
      | some ns => if ns.length < 1000 ∧ (sortSet ns).length < 64 then .ok (.lst ((sortSet ns).map D.int)) st else .bad
      | none => .bad
    | none => .bad
  | .sorted, [d] => match seqL d st with
    | some l => sortAny l st
    | none => match dicOf d st with
      | some (ks, _) => sortAny ks st
      | none => .bad
  | .max1, [d] => match seqL d st with
    | some l => match intsOf l with
      | some ns => if ns.isEmpty then .bad else .ok (.int (maxI ns)) st
      | none => .bad
    | none => .bad
  | .min1, [d] => match seqL d st with
    | some l => match intsOf l with
      | some ns => if ns.isEmpty then .bad else .ok (.int (minI ns)) st
      | none => .bad
    | none => .bad
  | .max2, l => int2 (fun i j => .int (if j > i then j else i)) l st
  | .min2, l => int2 (fun i j => .int (if j < i then j else i)) l st
  | .range1, [.int n] => .ok (.rng 0 n) st
  | .range2, l => int2 (fun m n => .rng m n) l st
  | _, _ => .bad
/-- isinstance -/
def isinTy (t ty : String) : Bool := ty == t || (t == "bool" && ty == "int")
def isinop (d : D) (ty : String) (st : Store) : Option Bool := match d with
  | .non => some (isinTy "NoneType" ty)
  | .bl _ => some (isinTy "bool" ty)
  | .int _ => some (isinTy "int" ty)
  | .str _ => some (isinTy "str" ty)
  | .tup _ => some (isinTy "tuple" ty)
  | .lst _ => some (isinTy "list" ty)
  | .ref k => match st[k]? with
    | some (.lst _) => some (isinTy "list" ty)
    | _ => none
  | _ => none
def okTy (ty : String) : Bool := ty == "bool" || ty == "int" || ty == "str" || ty == "tuple" || ty == "list"
def ixN (n : Nat) (i : Int) : Option Nat := if 0 ≤ i then (if i < n then some i.toNat else none) else if -(n : Int) ≤ i then some (i + n).toNat else none
def atI (xs : List D) (i : Int) : Option D := (ixN xs.length i).bind fun j => xs[j]?
def ixop (a b : D) (st : Store) : R D := match dicOf a st with
  | some (ks, vs) => if kindOk b ks = true then R.of (dfind ks vs b) st else .bad
  | none => match b with
    | .int i => match seqLT a st with
      | some l => R.of (atI l i) st
      | none => .bad
    | _ => .bad
def sIx (n : Nat) (dflt : Nat) : Option Int → Nat := fun o => match o with
  | none => dflt
  | some i => if i < 0 then (i + n).toNat else min i.toNat n
def cut (xs : List D) (lo hi : Option Int) : List D := (xs.drop (sIx xs.length 0 lo)).take (sIx xs.length xs.length hi - sIx xs.length 0 lo)
def slop (a : D) (lo hi : Option Int) (st : Store) : R D := match a with
  | .tup l => .ok (.tup (cut l lo hi)) st
  | _ => match seqL a st with
    | some l => .ok (.lst (cut l lo hi)) st
    | none => .bad
def slcop (a : D) (lo hi : Option Int) (st : Store) : R D := match seqL a st with
  | some l => .ok (.ref st.length) (st ++ [.lst (cut l lo hi)])
  | none => .bad
def revop (a : D) (st : Store) : R D := match a with
  | .tup l => .ok (.tup l.reverse) st
  | _ => match seqL a st with
    | some l => .ok (.lst l.reverse) st
    | none => .bad

def liveC (o : D) (st : Store) : Bool := match o with
  | .ref k => match st[k]? with
    | some (.lst _) => true
    | _ => false
  | _ => false
/-- o.append(x), o.pop(), o.extend(x), o a cell -/
def methop (m : Mth) (o : D) (args : List D) (st : Store) : R D := match o with
  | .ref k => match st[k]? with
    | some (.lst l) => match m, args with
      | .append, [d] => if l.length < seqMax then .ok .non (st.set k (.lst (l ++ [d]))) else .bad
      | .pop, [] => match l[l.length - 1]? with
        | some d => .ok d (st.set k (.lst l.dropLast))
        | none => .bad
      | .extend, [.lst m] => if l.length + m.length ≤ seqMax then .ok .non (st.set k (.lst (l ++ m))) else .bad
      | _, _ => .bad
    | _ => .bad
  | _ => .bad

/-! ### dicts made -/
def newD (c : Bool) (st : Store) : R D := if c = true then .ok (.ref st.length) (st ++ [.dic [] []]) else .ok (.dic [] []) st
def getD1 (d y : D) (st2 : Store) : R D := match dicOf d st2 with
  | some (ks, vs) => if kindOk y ks = true then .ok ((dfind ks vs y).getD .non) st2 else .bad
  | none => .bad
def getD2 (d y z : D) (st2 : Store) : R D := match dicOf d st2 with
  | some (ks, vs) => if kindOk y ks = true then .ok ((dfind ks vs y).getD z) st2 else .bad
  | none => .bad
def sealD (d : D) (st : Store) : R D := match d with
  | .ref k => match st[k]? with
    | some (.dic ks vs) => .ok (.dic ks vs) (st.set k .gone)
    | _ => .bad
  | _ => .bad
/-- pairs put in, one after another -/
def dfold : List D → List D → List D → Option (List D × List D)
  | [], ks, vs => some (ks, vs)
  | .tup [k, v] :: r, ks, vs => if kindOk k ks = true ∧ ks.length < seqMax then dfold r (dputK ks vs k) (dputV ks vs k v) else none
  | _ :: _, _, _ => none
def dictD (c : Bool) (ys : List D) (st : Store) : R D := match dfold ys [] [] with
  | some (ks, vs) => if c = true then .ok (.ref st.length) (st ++ [.dic ks vs]) else .ok (.dic ks vs) st
  | none => .bad
/-- the first place of an item -/
def idxL (y : D) : List D → Nat → Option Nat
  | [], _ => none
  | x :: r, i => if eqv x y = true then some i else idxL y r (i + 1)
def indexD (d y : D) (st : Store) : R D := match seqL d st with
  | some l => if isData 50 y && l.all (isData 50) then (match idxL y l 0 with
    | some i => .ok (.int i) st
    | none => .bad) else .bad
  | none => .bad

/-! ### a cell that is walked -/
mutual
def sameD : D → D → Bool
  | .non, .non => true
  | .bl a, .bl b => a == b
  | .int i, .int j => i == j
  | .str x, .str y => eqS x y
  | .tup a, .tup b => sameL a b
  | .lst a, .lst b => sameL a b
  | .ref a, .ref b => a == b
  | .rng a b, .rng c d => a == c && b == d
  | .scr a, .scr b => a == b
  | .fn x, .fn y => eqS x y
  | .dic a b, .dic c d => sameL a c && sameL b d
  | _, _ => false
def sameL : List D → List D → Bool
  | [], [] => true
  | x :: xs, y :: ys => sameD x y && sameL xs ys
  | _, _ => false
end
def heldCell (k : Nat) (l : List D) (st : Store) : Bool := match st[k]? with
  | some (.lst m) => sameL m l
  | _ => false
def grd {α β γ : Type} (g : Store → Bool) (one : α → β → Store → R γ) : α → β → Store → R γ := fun x env st => if g st = true then one x env st else .bad

/-! ### the evaluator -/
abbrev Fns := Str → List D → Store → R D
abbrev Ex := E → Env → Store → R D
/-- the module's constants -/
abbrev Consts := List (Str × D)
def evs (rec : Ex) : List E → Env → Store → R (List D)
  | [], _, st => .ok [] st
  | e :: r, env, st => (rec e env st).bind fun d st1 => (evs rec r env st1).bind fun ds st2 => .ok (d :: ds) st2
def tests (rec : Ex) : List E → Env → Store → R Bool
  | [], _, st => .ok true st
  | [e], env, st => (rec e env st).bind fun d st1 => match truth d st1 with
    | some b => .ok b st1
    | none => .bad
  | _, _, _ => .bad
def wipeE (env : Env) : List Nat → Env
  | [] => env
  | v :: vs => (wipeE env vs).set v none
mutual
def bindT : T → D → Env → Option Env
  | .name i, d, env => if i < env.length then some (env.set i (some d)) else none
  | .tup ts, .tup ds, env => bindTs ts ds env
  | _, _, _ => none
def bindTs : List T → List D → Env → Option Env
  | [], [], env => some env
  | t :: ts, d :: ds, env => match bindT t d env with
    | some env1 => bindTs ts ds env1
    | none => none
  | _, _, _ => none
end
mutual
def slots : T → List Nat
  | .name i => [i]
  | .tup ts => slotss ts
def slotss : List T → List Nat
  | [] => []
  | t :: ts => slots t ++ slotss ts
end
/-- what is walked: the items -/
def evI (rec : Ex) (e : E) (env : Env) (st : Store) : R (List D) := match e with
  | .blt .zip [a, b] => (rec a env st).bind fun x st1 => (rec b env st1).bind fun y st2 => match x, y with
    | .tup xs, .tup ys => .ok (zipL xs ys) st2
    | .lst xs, .lst ys => .ok (zipL xs ys) st2
    | _, _ => .bad
  | .blt .enumerate [a] => (rec a env st).bind fun x st1 => match x with
    | .tup xs => .ok (enumL 0 xs) st1
    | .lst xs => .ok (enumL 0 xs) st1
    | _ => .bad
  | .keys a => (rec a env st).bind fun x st1 => match x with
    | .dic ks _ => .ok ks st1
    | _ => .bad
  | .items a => (rec a env st).bind fun x st1 => match x with
    | .dic ks vs => .ok (zipL ks vs) st1
    | _ => .bad
  | .vals a => (rec a env st).bind fun x st1 => match x with
    | .dic _ vs => .ok vs st1
    | _ => .bad
  | _ => (rec e env st).bind fun d st1 => R.of (itemsOf d st1) st1
def lcItems (one : D → Env → Store → R (List D)) : List D → Env → Store → R (List D)
  | [], _, st => .ok [] st
  | x :: r, env, st => (one x env st).bind fun ys st1 => (lcItems one r env st1).bind fun zs st2 => .ok (ys ++ zs) st2
/-- the names bound by a generator and those behind it -/
def deepSlots : T → List G → List Nat
  | t, [] => slots t
  | t, .mk t2 _ _ :: gs => slots t ++ deepSlots t2 gs
/-- one turn of a comprehension's walk: what it adds -/
def lcOne (rec : Ex) (elt : E) : List G → T → List E → D → Env → Store → R (List D)
  | [], t, ifs, x, env, st => match bindT t x env with
    | none => .bad
    | some env1 => (tests rec ifs env1 st).bind fun b st1 =>
      if b = true then (rec elt env1 st1).bind fun y st2 => .ok [y] st2 else .ok [] st1
  | .mk t2 it2 ifs2 :: gs, t, ifs, x, env, st => match bindT t x env with
    | none => .bad
    | some env1 => (tests rec ifs env1 st).bind fun b st1 =>
      if b = true then (evI rec it2 env1 st1).bind fun xs st2 => lcItems (lcOne rec elt gs t2 ifs2) xs (wipeE env1 (deepSlots t2 gs)) st2 else .ok [] st1
/-- the same with any element -/
def lcOneP (rec : Ex) (ef : Env → Store → R D) : List G → T → List E → D → Env → Store → R (List D)
  | [], t, ifs, x, env, st => match bindT t x env with
    | none => .bad
    | some env1 => (tests rec ifs env1 st).bind fun b st1 =>
      if b = true then (ef env1 st1).bind fun y st2 => .ok [y] st2 else .ok [] st1
  | .mk t2 it2 ifs2 :: gs, t, ifs, x, env, st => match bindT t x env with
    | none => .bad
    | some env1 => (tests rec ifs env1 st).bind fun b st1 =>
      if b = true then (evI rec it2 env1 st1).bind fun xs st2 => lcItems (lcOneP rec ef gs t2 ifs2) xs (wipeE env1 (deepSlots t2 gs)) st2 else .ok [] st1
def pairF (fk fv : Env → Store → R D) : Env → Store → R D := fun env st => (fk env st).bind fun x st1 => (fv env st1).bind fun y st2 => .ok (.tup [x, y]) st2
def evStep (Φ : Fns) (cs : Consts) (rec : Ex) (e : E) (env : Env) (st : Store) : R D := match e with
  | .bad => .bad
  | .con d => .ok d st
  | .var i => match env[i]? with
    | some (some d) => .ok d st
    | _ => .bad
  | .glob x => R.of (lookS cs x) st
  | .tup l => (evs rec l env st).bind fun ds st1 => .ok (.tup ds) st1
  | .lst l => (evs rec l env st).bind fun ds st1 => .ok (.lst ds) st1
  | .cel l => (evs rec l env st).bind fun ds st1 => .ok (.ref st1.length) (st1 ++ [.lst ds])
  | .bin op a b => (rec a env st).bind fun x st1 => (rec b env st1).bind fun y st2 => binop op x y st2
  | .neg a => (rec a env st).bind fun x st1 => match x with
    | .int i => .ok (.int (-i)) st1
    | _ => .bad
  | .not a => (rec a env st).bind fun x st1 => match truth x st1 with
    | some b => .ok (.bl (!b)) st1
    | none => .bad
  | .and a b => (rec a env st).bind fun x st1 => match truth x st1 with
    | some k => if k = true then rec b env st1 else .ok x st1
    | none => .bad
  | .or a b => (rec a env st).bind fun x st1 => match truth x st1 with
    | some k => if k = true then .ok x st1 else rec b env st1
    | none => .bad
  | .cmp op a b => (rec a env st).bind fun x st1 => (rec b env st1).bind fun y st2 => cmpop op x y st2
  | .cmp2 op op2 a b c => (rec a env st).bind fun x st1 => (rec b env st1).bind fun y st2 => (cmpop op x y st2).bind fun k st3 => match k with
    | .bl true => (rec c env st3).bind fun z st4 => cmpop op2 y z st4
    | .bl false => .ok (.bl false) st3
    | _ => .bad
  | .ite c a b => (rec c env st).bind fun x st1 => match truth x st1 with
    | some k => if k = true then rec a env st1 else rec b env st1
    | none => .bad
  | .call f args => (evs rec args env st).bind fun ds st1 => Φ f ds st1
  | .blt f args => (evs rec args env st).bind fun ds st1 => bltop f ds st1
  | .isin a ty => (rec a env st).bind fun x st1 => if okTy ty = true then R.of ((isinop x ty st1).map D.bl) st1 else .bad
  | .ix a b => (rec a env st).bind fun x st1 => (rec b env st1).bind fun y st2 => ixop x y st2
  | .sl a lo hi => (rec a env st).bind fun x st1 => (part rec lo env st1).bind fun l st2 => (part rec hi env st2).bind fun h st3 => slop x l h st3
  | .slc a lo hi => (rec a env st).bind fun x st1 => (part rec lo env st1).bind fun l st2 => (part rec hi env st2).bind fun h st3 => slcop x l h st3
  | .rev a => (rec a env st).bind fun x st1 => revop x st1
  | .lc elt (.mk t it ifs :: gs) own => (evI rec it env st).bind fun xs st1 => (lcItems (lcOne rec elt gs t ifs) xs (wipeE env own) st1).calm.bind fun ys st2 =>
      if ys.length ≤ seqMax then .ok (.lst ys) st2 else .bad
  | .lc _ [] _ => .bad
  | .meth m o args => (rec o env st).bind fun x st1 => if liveC x st1 = true then (evs rec args env st1).bind fun ds st2 => methop m x ds st2 else .bad
  | .callv i args => match env[i]? with
    | some (some (.fn x)) => match lookS cs x with
      | some (.fn _) => (evs rec args env st).bind fun ds st1 => Φ x ds st1
      | _ => .bad
    | _ => .bad
  | .lam f b => match rec b env st with
    | .ok _ st1 => (Φ f [] st1).calm
    | .exc x st1 => (Φ f [.str x] st1).calm
    | .bad => .bad
  | .isE c => R.of (lookS cs c) st
  | .lcc elt (.mk t it ifs :: gs) own => (evI rec it env st).bind fun xs st1 => (lcItems (lcOne rec elt gs t ifs) xs (wipeE env own) st1).calm.bind fun ys st2 =>
      if ys.length ≤ seqMax then .ok (.ref st2.length) (st2 ++ [.lst ys]) else .bad
  | .lcc _ [] _ => .bad
  | .dnew c => newD c st
  | .dic1 c k v => (rec k env st).bind fun x st1 => (rec v env st1).bind fun y st2 => dictD c [.tup [x, y]] st2
  | .dget o k x => (rec o env st).bind fun d st1 => match dicOf d st1 with
    | some _ => (rec k env st1).bind fun y st2 => match x with
      | none => getD1 d y st2
      | some x => (rec x env st2).bind fun z st3 => getD2 d y z st3
    | none => .bad
  | .dzip _ _ => .bad
  | .dof a => (rec a env st).bind fun x st1 => match x with
    | .tup l => dictD false l st1
    | _ => .bad
  | .dc c k v (.mk t it ifs :: gs) own => (evI rec it env st).bind fun xs st1 => (lcItems (lcOneP rec (pairF (rec k) (rec v)) gs t ifs) xs (wipeE env own) st1).calm.bind fun ys st2 => dictD c ys st2
  | .dc _ _ _ [] _ => .bad
  | .froze a => (rec a env st).bind fun d st1 => sealD d st1
  | .keys _ => .bad
  | .items _ => .bad
  | .vals _ => .bad
  | .sitems a => (rec a env st).bind fun x st1 => match dicOf x st1 with
    | some (ks, vs) => sortD (zipL ks vs) st1
    | none => .bad
  | .lvals a => (rec a env st).bind fun x st1 => match dicOf x st1 with
    | some (_, vs) => .ok (.lst vs) st1
    | none => .bad
  | .index o x => (rec o env st).bind fun d st1 => match seqL d st1 with
    | some _ => (rec x env st1).bind fun y st2 => indexD d y st2
    | none => .bad
  | .lcw m elt t ifs own => (rec m env st).bind fun d st1 => match d with
    | .ref k => match st1[k]? with
      | some (.lst l) => (lcItems (grd (heldCell k l) (lcOne rec elt [] t ifs)) l (wipeE env own) st1).calm.bind fun ys st2 => if heldCell k l st2 = true ∧ ys.length ≤ seqMax then .ok (.lst ys) st2 else .bad
      | _ => .bad
    | _ => .bad
  | .addc a b => (rec a env st).bind fun x st1 => (rec b env st1).bind fun y st2 => match seqL x st2, seqL y st2 with
    | some xs, some ys => if xs.length + ys.length ≤ seqMax then .ok (.ref st2.length) (st2 ++ [.lst (xs ++ ys)]) else .bad
    | _, _ => .bad
where
  part (rec : Ex) (o : Option E) (env : Env) (st : Store) : R (Option Int) := match o with
    | none => .ok none st
    | some e => (rec e env st).bind fun d st1 => match d with
      | .int i => .ok (some i) st1
      | _ => .bad
def ev (Φ : Fns) (cs : Consts) : Nat → Ex
  | 0 => fun _ _ _ => .bad
  | n + 1 => evStep Φ cs (ev Φ cs n)

/-! ### statements -/
inductive F where
  | next (env : Env) | ret (d : D) | brk (env : Env) | cont (env : Env)
abbrev Sx := S → Env → Store → R F
def exs (rec : Sx) : List S → Env → Store → R F
  | [], env, st => .ok (.next env) st
  | s :: r, env, st => (rec s env st).bind fun f st1 => match f with
    | .next env1 => exs rec r env1 st1
    | _ => .ok f st1
def forGo (body : Env → Store → R F) (t : T) : List D → Env → Store → R F
  | [], env, st => .ok (.next env) st
  | x :: r, env, st => match bindT t x env with
    | none => .bad
    | some env1 => (body env1 st).bind fun f st1 => match f with
      | .next env2 => forGo body t r env2 st1
      | .cont env2 => forGo body t r env2 st1
      | .brk env2 => .ok (.next env2) st1
      | .ret d => .ok (.ret d) st1
def whileGo (test : Env → Store → R D) (body : Env → Store → R F) : Nat → Env → Store → R F
  | 0, _, _ => .bad
  | n + 1, env, st => (test env st).bind fun d st1 => match truth d st1 with
    | none => .bad
    | some b => if b = true then (body env st1).bind fun f st2 => (match f with
        | .next env2 => whileGo test body n env2 st2
        | .cont env2 => whileGo test body n env2 st2
        | .brk env2 => .ok (.next env2) st2
        | .ret d => .ok (.ret d) st2) else .ok (.next env) st1
def setCell (st : Store) (k : Nat) (l : List D) : Store := st.set k (.lst l)
def subop (o i v : D) (st : Store) : Option Store := match o with
  | .ref k => match st[k]? with
    | some (.lst l) => match i with
      | .int n => match ixN l.length n with
        | some j => some (setCell st k (l.set j v))
        | none => none
      | _ => none
    | some (.dic ks vs) => if kindOk i ks = true ∧ ks.length < seqMax then some (st.set k (.dic (dputK ks vs i) (dputV ks vs i v))) else none
    | _ => none
  | _ => none
def whileFuel : Nat := 1000000
def exStep (ee : Ex) (rec : Sx) (s : S) (env : Env) (st : Store) : R F := match s with
  | .bad => .bad
  | .set t e => (ee e env st).bind fun d st1 => match bindT t d env with
    | some env1 => .ok (.next env1) st1
    | none => .bad
  | .sub o i e => (ee e env st).bind fun d st1 => (ee o env st1).bind fun x st2 => (ee i env st2).bind fun y st3 => match subop x y d st3 with
    | some st4 => .ok (.next env) st4
    | none => .bad
  | .sub2 o1 i1 o2 i2 e1 e2 => (ee e1 env st).bind fun d1 st1 => (ee e2 env st1).bind fun d2 st2 => (ee o1 env st2).bind fun x1 st3 => (ee i1 env st3).bind fun y1 st4 => match subop x1 y1 d1 st4 with
    | some st5 => (ee o2 env st5).bind fun x2 st6 => (ee i2 env st6).bind fun y2 st7 => match subop x2 y2 d2 st7 with
      | some st8 => .ok (.next env) st8
      | none => .bad
    | none => .bad
  | .ex e => (ee e env st).bind fun _ st1 => .ok (.next env) st1
  | .ret e => (ee e env st).bind fun d st1 => .ok (.ret d) st1
  | .retN => .ok (.ret .non) st
  | .cond c a b => (ee c env st).bind fun x st1 => match truth x st1 with
    | some k => if k = true then exs rec a env st1 else exs rec b env st1
    | none => .bad
  | .for t it body => (evI ee it env st).bind fun xs st1 => forGo (exs rec body) t xs env st1
  | .forw t m body => (ee m env st).bind fun d st1 => match d with
    | .ref k => match st1[k]? with
      | some (.lst l) => (forGo (fun e st => grd (heldCell k l) (fun (_ : Unit) e st => exs rec body e st) () e st) t l env st1).bind fun f st2 => match f with
        | .next _ => if heldCell k l st2 = true then .ok f st2 else .bad
        | _ => .ok f st2
      | _ => .bad
    | _ => .bad
  | .while c body => whileGo (ee c) (exs rec body) whileFuel env st
  | .raise x => .exc x st
  | .pass => .ok (.next env) st
  | .brk => .ok (.brk env) st
  | .cont => .ok (.cont env) st
def ex (ee : Ex) : Nat → Sx
  | 0 => fun _ _ _ => .bad
  | n + 1 => exStep ee (ex ee n)

/-! ### defs -/
structure FD where
  ps : List Str
  N : List Str
  body : List S
  fuel : Nat := 40
  /-- of a def that calls what it is given: except clauses, the classes named there, each class with those it is of -/
  hd : List (Str × List S) := []
  cls : List Str := []
  sup : List (Str × List Str) := []
def startE (d : FD) (args : List D) : Env := args.map some ++ List.replicate (d.N.length - args.length) none
def trunc (n : Nat) (v : D) (st : Store) : R D :=
  if st.length = n then .ok v st
  else if below n 40 v && (st.take n).all (cellBelow n) then .ok v (st.take n) else .ok v st
def endF (n : Nat) (r : R F) : R D := r.bind fun f st => match f with
  | .ret d => trunc n d st
  | .next _ => trunc n .non st
  | _ => .bad
def runF (Φ : Fns) (cs : Consts) (d : FD) (args : List D) (st : Store) : R D :=
  if args.length = d.ps.length then endF st.length (exs (ex (ev Φ cs d.fuel) d.fuel) d.body (startE d args) st) else .bad
def FD.isOf (d : FD) (x c : Str) : Bool := ((d.sup.lookup x).getD []).contains c
def FD.isTab (d : FD) (x : Str) : Consts := d.cls.map fun c => (c, .bl (d.isOf x c))
/-- a suite returns -/
def endW (n : Nat) (r : R F) : R D := r.bind fun f st => match f with
  | .ret d => trunc n d st
  | _ => .bad
/-- a def that calls what it is given, by how that call ends -/
def runW (d : FD) (args : List D) (st : Store) : R D := match args with
  | [] => endW st.length (exs (ex (ev (fun _ _ _ => .bad) [] d.fuel) d.fuel) d.body (List.replicate d.N.length none) st)
  | [.str x] => match d.hd.find? fun q => d.isOf x q.1 with
    | some q => endW st.length (exs (ex (ev (fun _ _ _ => .bad) (d.isTab x) d.fuel) d.fuel) q.2 (List.replicate d.N.length none) st)
    | none => .bad
  | _ => .bad
abbrev Tab := List (Str × FD)
def lookF (tab : Tab) (f : Str) : Option FD := lookS tab f
def phi (tab : Tab) (cs : Consts) : Nat → Fns
  | 0 => fun _ _ _ => .bad
  | n + 1 => fun f args st => match lookF tab f with
    | some d => match d.hd with
      | [] => runF (phi tab cs n) cs d args st
      | _ :: _ => runW d args st
    | none => .bad
end Ev

set_option Elab.async false
set_option linter.all false
set_option maxRecDepth 100000
set_option maxHeartbeats 1000000
namespace Ev
open PySem PySem.Spec PyProof.Rows L2
/-- the tables of code objects that are told of -/
class TabsOf where
  T : List (Addr × Str)
variable [TabsOf]
/-- the cells' places, and the objects that a walk of the code at hand keeps for itself -/
structure Rho where
  cells : List (Option Addr)
  held : List Addr
variable {K : PySem.W.Frag}
def Rho.off (ρ : Rho) (a : Addr) : Prop := some a ∉ ρ.cells ∧ a ∉ ρ.held
/-- where the def x lies -/
def fnAd (K : PySem.W.Frag) (x : Str) : Addr := He.fAd K (x, none)
/-- no table of code objects -/
def NoT (o : HO) : Prop := ∀ ps, o ≠ .tbl ps
theorem NoT.tup (l : List V) : NoT (.tup l) := fun _ e => by cases e
theorem NoT.lst (l : List V) : NoT (.lst l) := fun _ e => by cases e
theorem NoT.rng (a b : Int) : NoT (.rng a b) := fun _ e => by cases e
theorem NoT.frz (o : Obj) (p : HO) : NoT (.frz o p) := fun _ e => by cases e
theorem NoT.ext (φ : Heap → Prop) : NoT (.ext φ) := fun _ e => by cases e
/-! ### dicts -/
mutual
def keyN : D → Option NestedKey
  | .int i => some (.num i)
  | .non => some .none
  | .tup l => (keyNs l).map NestedKey.tup
  | _ => none
def keyNs : List D → Option (List NestedKey)
  | [] => some []
  | d :: r => match keyN d, keyNs r with
    | some a, some b => some (a :: b)
    | _, _ => none
end
/-- the entries, by their keys and values -/
def EntR : List DictEntry → List NestedKey → List V → List V → Prop
  | [], [], [], [] => True
  | e :: es, k :: ks, x :: xs, y :: ys => (∀ w, e.hash = k.hash w) ∧ RelV x e.key ∧ RelV y e.val ∧ EntR es ks xs ys
  | _, _, _, _ => False
/-- the object at a, known whole -/
def DX (a : Addr) (o : Obj) : HO := .ext fun h => h.get? a = some o
/-- a dict stands at a -/
def DictAt (H : Hp) (a : Addr) (o : Obj) : Prop := H a = some (DX a o) ∧ (a == sysModules) = false ∧ (∃ es ep, o.data = .dict es ep) ∧ ∃ h : Heap, h.get? a = some o
/-- the dict o holds these keys and values -/
def DicO (o : Obj) (ks : List D) (kv vv : List V) : Prop := o.ExactDict ∧ ks.length ≤ seqMax ∧ (ks.all isNumK = true ∨ (ks.all isTupK = true ∧ ks.all (keyOk 8) = true)) ∧
  ∃ nk es ep, keyNs ks = some nk ∧ nk.Nodup ∧ o.data = .dict es ep ∧ EntR es.toList nk kv vv
def ScrR (K : PySem.W.Frag) (ρ : Rho) (H : Hp) (a : Addr) (l : List Int) : Prop :=
  (∃ o, H a = some o ∧ NoT o ∧ ρ.off a ∧ (o = .lst (l.map V.int) ∨ ∃ u, o = .frz u (.lst (l.map V.int)))) ∨ (∀ H, SqL K H a (l.map V.int))
mutual
def Rp (K : PySem.W.Frag) (ρ : Rho) (H : Hp) : D → V → Prop
  | .non, v => v = .non
  | .bl b, v => v = .bl b
  | .int i, v => v = .int i
  | .str s, v => v = .str s
  | .tup l, v => ∃ a vs, v = .ref a ∧ H a = some (.tup vs) ∧ ρ.off a ∧ Rps K ρ H l vs
  | .lst l, v => ∃ a vs, v = .ref a ∧ H a = some (.lst vs) ∧ ρ.off a ∧ Rps K ρ H l vs
  | .ref k, v => k < ρ.cells.length ∧ ∀ a, ρ.cells[k]? = some (some a) → v = .ref a
  | .rng lo hi, v => ∃ a, v = .ref a ∧ H a = some (.rng lo hi) ∧ ρ.off a
  | .scr l, v => ∃ a, v = .ref a ∧ ScrR K ρ H a l
  | .fn x, v => v = .ref (fnAd K x)
  | .dic ks vs, v => ∃ a o kv vv, v = .ref a ∧ DictAt H a o ∧ ρ.off a ∧ DicO o ks kv vv ∧ Rps K ρ H ks kv ∧ Rps K ρ H vs vv
def Rps (K : PySem.W.Frag) (ρ : Rho) (H : Hp) : List D → List V → Prop
  | [], vs => vs = []
  | d :: ds, vs => ∃ v r, vs = v :: r ∧ Rp K ρ H d v ∧ Rps K ρ H ds r
end
structure Ext (ρ : Rho) (H : Hp) (ρ' : Rho) (H' : Hp) : Prop where
  keep : ∀ a o, H a = some o → NoT o → some a ∉ ρ.cells → H' a = some o
  there : ∀ a o, H a = some o → NoT o → ∃ u, H' a = some u ∧ NoT u
  len : ρ.cells.length ≤ ρ'.cells.length
  old : ∀ k : Nat, k < ρ.cells.length → ρ'.cells[k]? = ρ.cells[k]? ∨ ρ'.cells[k]? = some none
  new : ∀ (k : Nat) a, ρ.cells.length ≤ k → ρ'.cells[k]? = some (some a) → ∀ o, H a = some o → ¬ NoT o
  held : ρ'.held = ρ.held
theorem mem_ix {α : Type} {l : List α} {x : α} (h : x ∈ l) : ∃ k : Nat, l[k]? = some x := List.getElem?_of_mem h
theorem Ext.out {ρ ρ' : Rho} {H H' : Hp} (e : Ext ρ H ρ' H') {a : Addr} {o : HO} (h : H a = some o) (t : NoT o) (n : some a ∉ ρ.cells) : some a ∉ ρ'.cells := fun hm => by
  obtain ⟨k, hk⟩ := mem_ix hm
  by_cases hl : k < ρ.cells.length
  · rcases e.old k hl with q | q
    · rw [q] at hk; exact n (List.mem_of_getElem? hk)
    · rw [q] at hk; cases hk
  · exact e.new k a (Nat.le_of_not_lt hl) hk o h t
theorem Ext.notin {ρ ρ' : Rho} {H H' : Hp} (e : Ext ρ H ρ' H') {a : Addr} {o : HO} (h : H a = some o) (t : NoT o) (n : ρ.off a) : ρ'.off a :=
  ⟨e.out h t n.1, by rw [e.held]; exact n.2⟩
theorem Ext.refl (ρ : Rho) (H : Hp) : Ext ρ H ρ H :=
  ⟨fun _ _ h _ _ => h, fun _ o h t => ⟨o, h, t⟩, Nat.le_refl _, fun _ _ => .inl rfl, fun k a hk h => (by rw [List.getElem?_eq_none hk] at h; cases h), rfl⟩
theorem Ext.trans {ρ ρ1 ρ2 : Rho} {H H1 H2 : Hp} (a : Ext ρ H ρ1 H1) (b : Ext ρ1 H1 ρ2 H2) : Ext ρ H ρ2 H2 := by
  refine ⟨fun x o h t n => b.keep x o (a.keep x o h t n) t (a.out h t n), fun x o h t => let ⟨u, h1, t1⟩ := a.there x o h t; b.there x u h1 t1, Nat.le_trans a.len b.len, fun k hk => ?_, fun k x hk h => ?_, b.held.trans a.held⟩
  · rcases b.old k (Nat.lt_of_lt_of_le hk a.len) with q | q
    · rcases a.old k hk with p | p
      · exact .inl (q.trans p)
      · exact .inr (q.trans p)
    · exact .inr q
  · by_cases hl : k < ρ1.cells.length
    · rcases b.old k hl with q | q
      · exact a.new k x hk (q.symm.trans h)
      · rw [q] at h; cases h
    · intro o ho to
      obtain ⟨u, h1, t1⟩ := a.there x o ho to
      exact b.new k x (Nat.le_of_not_lt hl) h u h1 t1
/-- what a value's relation needs of two states -/
structure Move (ρ : Rho) (H : Hp) (ρ' : Rho) (H' : Hp) : Prop where
  keep : ∀ a o, H a = some o → NoT o → ρ.off a → H' a = some o ∧ ρ'.off a
  len : ρ.cells.length ≤ ρ'.cells.length
  old : ∀ k : Nat, k < ρ.cells.length → ρ'.cells[k]? = ρ.cells[k]? ∨ ρ'.cells[k]? = some none
theorem Ext.move {ρ ρ' : Rho} {H H' : Hp} (e : Ext ρ H ρ' H') : Move ρ H ρ' H' := ⟨fun a o h t n => ⟨e.keep a o h t n.1, e.notin h t n⟩, e.len, e.old⟩
mutual
theorem Rp.move {ρ ρ' : Rho} {H H' : Hp} (e : Move ρ H ρ' H') : ∀ (d : D) (v : V), Rp K ρ H d v → Rp K ρ' H' d v
  | .non, _, h => h
  | .bl _, _, h => h
  | .int _, _, h => h
  | .str _, _, h => h
  | .fn _, _, h => h
  | .tup l, _, ⟨a, vs, h1, h2, h3, h4⟩ => ⟨a, vs, h1, (e.keep a _ h2 (.tup _) h3).1, (e.keep a _ h2 (.tup _) h3).2, Rps.move e l vs h4⟩
  | .lst l, _, ⟨a, vs, h1, h2, h3, h4⟩ => ⟨a, vs, h1, (e.keep a _ h2 (.lst _) h3).1, (e.keep a _ h2 (.lst _) h3).2, Rps.move e l vs h4⟩
  | .ref k, v, ⟨h1, h2⟩ => ⟨Nat.lt_of_lt_of_le h1 e.len, fun a ha => by
    rcases e.old k h1 with q | q
    · exact h2 a (q.symm.trans ha)
    · rw [q] at ha; cases ha⟩
  | .rng lo hi, _, ⟨a, h1, h2, h3⟩ => ⟨a, h1, (e.keep a _ h2 (.rng _ _) h3).1, (e.keep a _ h2 (.rng _ _) h3).2⟩
  | .dic ks vs, _, ⟨a, o, kv, vv, h1, h2, h3, h4, h5, h6⟩ => ⟨a, o, kv, vv, h1, ⟨(e.keep a _ h2.1 (.ext _) h3).1, h2.2⟩, (e.keep a _ h2.1 (.ext _) h3).2, h4, Rps.move e ks kv h5, Rps.move e vs vv h6⟩
  | .scr l, _, ⟨a, h1, h2⟩ => ⟨a, h1, by
    rcases h2 with ⟨o, q, t, n, r⟩ | q
    · exact .inl ⟨o, (e.keep a _ q t n).1, t, (e.keep a _ q t n).2, r⟩
    · exact .inr q⟩
theorem Rps.move {ρ ρ' : Rho} {H H' : Hp} (e : Move ρ H ρ' H') : ∀ (l : List D) (vs : List V), Rps K ρ H l vs → Rps K ρ' H' l vs
  | [], _, h => h
  | d :: ds, _, ⟨v, r, h1, h2, h3⟩ => ⟨v, r, h1, Rp.move e d v h2, Rps.move e ds r h3⟩
end
theorem Rp.ext {ρ ρ' : Rho} {H H' : Hp} (e : Ext ρ H ρ' H') (d : D) (v : V) (h : Rp K ρ H d v) : Rp K ρ' H' d v := h.move e.move
theorem Rps.ext {ρ ρ' : Rho} {H H' : Hp} (e : Ext ρ H ρ' H') (l : List D) (vs : List V) (h : Rps K ρ H l vs) : Rps K ρ' H' l vs := h.move e.move

/-! ### lists of related values -/
theorem Rps.length {ρ : Rho} {H : Hp} : ∀ {l : List D} {vs : List V}, Rps K ρ H l vs → l.length = vs.length
  | [], _, h => by cases (show _ = [] from h); rfl
  | d :: ds, _, ⟨v, r, h1, _, h3⟩ => by subst h1; simp [Rps.length h3]
theorem Rps.get {ρ : Rho} {H : Hp} : ∀ {l : List D} {vs : List V} {i : Nat} {d : D}, Rps K ρ H l vs → l[i]? = some d → ∃ v, vs[i]? = some v ∧ Rp K ρ H d v
  | [], _, _, _, _, e => by simp at e
  | d :: ds, _, 0, x, ⟨v, r, h1, h2, _⟩, e => by
    simp at e; subst e; subst h1
    exact ⟨v, rfl, h2⟩
  | d :: ds, _, i + 1, x, ⟨v, r, h1, _, h3⟩, e => by
    subst h1
    obtain ⟨w, h4, h5⟩ := Rps.get (i := i) h3 (by simpa using e)
    exact ⟨w, by simpa using h4, h5⟩
theorem Rps.append {ρ : Rho} {H : Hp} : ∀ {l m : List D} {vs ws : List V}, Rps K ρ H l vs → Rps K ρ H m ws → Rps K ρ H (l ++ m) (vs ++ ws)
  | [], _, _, _, h, k => by cases (show _ = [] from h); exact k
  | d :: ds, _, _, _, ⟨v, r, h1, h2, h3⟩, k => by
    subst h1
    exact ⟨v, r ++ _, rfl, h2, Rps.append h3 k⟩
theorem Rps.nil {ρ : Rho} {H : Hp} : Rps K ρ H [] [] := rfl
theorem Rps.cons {ρ : Rho} {H : Hp} {d : D} {ds : List D} {v : V} {vs : List V} (h : Rp K ρ H d v) (k : Rps K ρ H ds vs) : Rps K ρ H (d :: ds) (v :: vs) := ⟨v, vs, rfl, h, k⟩
theorem Rps.take {ρ : Rho} {H : Hp} : ∀ (n : Nat) {l : List D} {vs : List V}, Rps K ρ H l vs → Rps K ρ H (l.take n) (vs.take n)
  | 0, _, _, _ => by simp [Rps]
  | n + 1, [], _, h => by cases (show _ = [] from h); rfl
  | n + 1, d :: ds, _, ⟨v, r, h1, h2, h3⟩ => by
    subst h1
    exact ⟨v, r.take n, rfl, h2, Rps.take n h3⟩
theorem Rps.drop {ρ : Rho} {H : Hp} : ∀ (n : Nat) {l : List D} {vs : List V}, Rps K ρ H l vs → Rps K ρ H (l.drop n) (vs.drop n)
  | 0, _, _, h => h
  | n + 1, [], _, h => by cases (show _ = [] from h); rfl
  | n + 1, d :: ds, _, ⟨v, r, h1, h2, h3⟩ => by
    subst h1
    exact Rps.drop n h3
theorem Rps.reverse {ρ : Rho} {H : Hp} : ∀ {l : List D} {vs : List V}, Rps K ρ H l vs → Rps K ρ H l.reverse vs.reverse
  | [], _, h => by cases (show _ = [] from h); rfl
  | d :: ds, _, ⟨v, r, h1, h2, h3⟩ => by
    subst h1
    rw [List.reverse_cons, List.reverse_cons]
    exact Rps.append (Rps.reverse h3) (.cons h2 .nil)
theorem Rps.rep {ρ : Rho} {H : Hp} {l : List D} {vs : List V} (h : Rps K ρ H l vs) : ∀ n : Nat, Rps K ρ H (List.replicate n l).flatten (List.replicate n vs).flatten
  | 0 => rfl
  | n + 1 => by
    rw [List.replicate_succ, List.replicate_succ, List.flatten_cons, List.flatten_cons]
    exact Rps.append h (Rps.rep h n)
theorem Rps.set {ρ : Rho} {H : Hp} {d : D} {v : V} (hd : Rp K ρ H d v) : ∀ (i : Nat) {l : List D} {vs : List V}, Rps K ρ H l vs → Rps K ρ H (l.set i d) (vs.set i v)
  | _, [], _, h => by cases (show _ = [] from h); rfl
  | 0, x :: ds, _, ⟨w, r, h1, h2, h3⟩ => by subst h1; exact ⟨v, r, rfl, hd, h3⟩
  | i + 1, x :: ds, _, ⟨w, r, h1, h2, h3⟩ => by subst h1; exact ⟨w, _, rfl, h2, Rps.set hd i h3⟩
theorem intsOf_ok {ρ : Rho} {H : Hp} : ∀ {l : List D} {vs : List V} {ns : List Int}, Rps K ρ H l vs → intsOf l = some ns → vs = ns.map V.int
  | [], _, _, h, e => by cases (show _ = [] from h); cases e; rfl
  | .int i :: ds, _, ns, ⟨v, r, h1, h2, h3⟩, e => by
    unfold intsOf at e
    cases q : intsOf ds with
    | none => rw [q] at e; cases e
    | some ms =>
      rw [q] at e; cases e
      subst h1
      cases (show v = .int i from h2)
      rw [intsOf_ok h3 q]; rfl
  | .non :: _, _, _, _, e => by cases e
  | .bl _ :: _, _, _, _, e => by cases e
  | .str _ :: _, _, _, _, e => by cases e
  | .tup _ :: _, _, _, _, e => by cases e
  | .lst _ :: _, _, _, _, e => by cases e
  | .ref _ :: _, _, _, _, e => by cases e
  | .rng _ _ :: _, _, _, _, e => by cases e
  | .scr _ :: _, _, _, _, e => by cases e
  | .fn _ :: _, _, _, _, e => by cases e
  | .dic _ _ :: _, _, _, _, e => by cases e
theorem boolsOf_ok {ρ : Rho} {H : Hp} : ∀ {l : List D} {vs : List V} {ns : List Bool}, Rps K ρ H l vs → boolsOf l = some ns → vs = ns.map V.bl
  | [], _, _, h, e => by cases (show _ = [] from h); cases e; rfl
  | .bl i :: ds, _, ns, ⟨v, r, h1, h2, h3⟩, e => by
    unfold boolsOf at e
    cases q : boolsOf ds with
    | none => rw [q] at e; cases e
    | some ms =>
      rw [q] at e; cases e
      subst h1
      cases (show v = .bl i from h2)
      rw [boolsOf_ok h3 q]; rfl
  | .non :: _, _, _, _, e => by cases e
  | .int _ :: _, _, _, _, e => by cases e
  | .str _ :: _, _, _, _, e => by cases e
  | .tup _ :: _, _, _, _, e => by cases e
  | .lst _ :: _, _, _, _, e => by cases e
  | .ref _ :: _, _, _, _, e => by cases e
  | .rng _ _ :: _, _, _, _, e => by cases e
  | .scr _ :: _, _, _, _, e => by cases e
  | .fn _ :: _, _, _, _, e => by cases e
  | .dic _ _ :: _, _, _, _, e => by cases e
theorem Rps.ints {ρ : Rho} {H : Hp} : ∀ ns : List Int, Rps K ρ H (ns.map D.int) (ns.map V.int)
  | [] => rfl
  | n :: ns => ⟨.int n, _, rfl, rfl, Rps.ints ns⟩

/-! ### the store -/
/-- what a cell's place holds -/
def CellR (K : PySem.W.Frag) (ρ : Rho) (H : Hp) (a : Addr) : Cell → Prop
  | .lst l => ∃ vs, H a = some (.lst vs) ∧ Rps K ρ H l vs
  | .dic ks vs => ∃ o kv vv, DictAt H a o ∧ DicO o ks kv vv ∧ Rps K ρ H ks kv ∧ Rps K ρ H vs vv
  | .gone => False
/-- what is changed at all: lists and dicts -/
def Plain (H : Hp) (a : Addr) : Prop := (∃ vs, H a = some (.lst vs)) ∨ ∃ o, DictAt H a o
theorem Plain.some {H : Hp} {a : Addr} (p : Plain H a) : ∃ o, H a = some o ∧ NoT o := by
  rcases p with ⟨vs, h⟩ | ⟨o, h⟩
  · exact ⟨_, h, .lst _⟩
  · exact ⟨_, h.1, .ext _⟩
theorem Plain.same {H H' : Hp} {a : Addr} (p : Plain H a) (e : ∀ o, H a = Option.some o → NoT o → H' a = Option.some o) : Plain H' a := by
  rcases p with ⟨vs, h⟩ | ⟨o, h⟩
  · exact .inl ⟨vs, e _ h (.lst _)⟩
  · exact .inr ⟨o, e _ h.1 (.ext _), h.2⟩
theorem CellR.plain {ρ : Rho} {H : Hp} {a : Addr} {c : Cell} (h : CellR K ρ H a c) : Plain H a := by
  cases c with
  | lst l => obtain ⟨vs, h, _⟩ := h; exact .inl ⟨vs, h⟩
  | dic ks vs => obtain ⟨o, _, _, h, _⟩ := h; exact .inr ⟨o, h⟩
  | gone => cases h
theorem CellR.to {ρ ρ' : Rho} {H H' : Hp} {a : Addr} {c : Cell} (h : CellR K ρ H a c) (e : ∀ o, H a = some o → NoT o → H' a = some o) (m : Move ρ H ρ' H') : CellR K ρ' H' a c := by
  cases c with
  | lst l => obtain ⟨vs, h1, h2⟩ := h; exact ⟨vs, e _ h1 (.lst _), h2.move m⟩
  | dic ks vs => obtain ⟨o, kv, vv, h1, h2, h3, h4⟩ := h; exact ⟨o, kv, vv, ⟨e _ h1.1 (.ext _), h1.2⟩, h2, h3.move m, h4.move m⟩
  | gone => cases h
theorem CellR.some {ρ : Rho} {H : Hp} {a : Addr} {c : Cell} (h : CellR K ρ H a c) : H a ≠ none := by
  obtain ⟨o, q, _⟩ := h.plain.some
  rw [q]; simp
structure StR (K : PySem.W.Frag) (ρ : Rho) (H : Hp) (st : Store) : Prop where
  len : st.length = ρ.cells.length
  cell : ∀ (k : Nat) a, ρ.cells[k]? = some (some a) → ∃ c, st[k]? = some c ∧ CellR K ρ H a c
  inj : ∀ (j k : Nat) a, ρ.cells[j]? = some (some a) → ρ.cells[k]? = some (some a) → j = k
  back : ∀ (k : Nat) c, st[k]? = some c → c ≠ .gone → ∃ a, ρ.cells[k]? = some (some a)
  hold : ∀ a ∈ ρ.held, Plain H a ∧ some a ∉ ρ.cells
  tabs : LamX.Tabs TabsOf.T H
structure EnvR (K : PySem.W.Frag) (ρ : Rho) (H : Hp) (env : Env) (σ : L2.St) : Prop where
  len : env.length = σ.length
  get : ∀ (i : Nat) d, env[i]? = some (some d) → ∃ v, σ[i]? = some (some v) ∧ Rp K ρ H d v
theorem EnvR.move {ρ ρ' : Rho} {H H' : Hp} {env : Env} {σ : L2.St} (r : EnvR K ρ H env σ) (e : Move ρ H ρ' H') : EnvR K ρ' H' env σ :=
  ⟨r.len, fun i d h => let ⟨v, h1, h2⟩ := r.get i d h; ⟨v, h1, h2.move e⟩⟩
theorem EnvR.ext {ρ ρ' : Rho} {H H' : Hp} {env : Env} {σ : L2.St} (r : EnvR K ρ H env σ) (e : Ext ρ H ρ' H') : EnvR K ρ' H' env σ := r.move e.move
/-- an object written where no table and no code object stands -/
theorem tabs_upd {T : List (Addr × Str)} {H : Hp} {p : Addr} {o : HO} (t : LamX.Tabs T H) (h : H p = none ∨ Plain H p) : LamX.Tabs T (upd H p o) := fun q hq => by
  obtain ⟨ps, h1, h2, h3⟩ := t q hq
  have ne : ∀ (b : Addr) (u : HO), H b = some u → (∀ vs, u ≠ .lst vs) → (∀ o, DictAt H b o → u ≠ DX b o) → b ≠ p := fun b u e n n2 z => by
    rw [z] at e n2
    rcases h with h | ⟨vs, h⟩ | ⟨o, h⟩
    · rw [h] at e; cases e
    · rw [h] at e; exact n vs (Option.some.inj e).symm
    · have := h.1
      rw [this] at e; exact n2 o h (Option.some.inj e).symm
  refine ⟨ps, by rw [upd_ne (ne _ _ h1 (fun vs z => by cases z) fun o _ z => by cases z)]; exact h1, h2, fun pos cv hc => ?_⟩
  obtain ⟨c, e1, e2⟩ := h3 pos cv hc
  suffices nz : c ≠ p from ⟨c, e1, by rw [upd_ne nz]; exact e2⟩
  refine ne _ _ e2 (fun vs z => by unfold LamX.CodeO at z; cases z) fun o hd z => ?_
  unfold LamX.CodeO DX at z
  have z := HO.ext.inj z
  obtain ⟨_, _, ⟨es, ep, dd⟩, hp, hh⟩ := hd
  obtain ⟨oc, vs, t, g1, g2, _⟩ := (congrFun z hp).mpr hh
  rw [hh] at g1
  cases g1
  rw [dd] at g2
  cases g2
theorem StR.live {ρ : Rho} {H : Hp} {st : Store} (r : StR K ρ H st) {a : Addr} (h : some a ∈ ρ.cells) : H a ≠ none := by
  obtain ⟨k, hk⟩ := mem_ix h
  obtain ⟨_, _, e⟩ := r.cell k a hk
  exact e.some
theorem StR.free {ρ : Rho} {H : Hp} {st : Store} (r : StR K ρ H st) {p : Addr} (h : H p = none) : ρ.off p := ⟨fun hm => r.live hm h, fun hm => by obtain ⟨vs, q, _⟩ := (r.hold p hm).1.some; rw [h] at q; cases q⟩
theorem upd_there {H : Hp} {p : Addr} {o : HO} {a : Addr} (h : H a ≠ none) : upd H p o a ≠ none := by
  unfold upd; split
  · simp
  · exact h
/-- a new object that is no cell -/
theorem StR.laid {ρ : Rho} {H : Hp} {st : Store} {p : Addr} {o : HO} (r : StR K ρ H st) (h : H p = none) : Ext ρ H ρ (upd H p o) ∧ StR K ρ (upd H p o) st ∧ ρ.off p := by
  have e : Ext ρ H ρ (upd H p o) := by
    refine ⟨fun a x hx _ _ => ?_, fun a x hx t => ⟨x, by rw [upd_ne (ne_of_none hx h)]; exact hx, t⟩, Nat.le_refl _, fun _ _ => .inl rfl, fun k a hk hh => (by rw [List.getElem?_eq_none hk] at hh; cases hh), rfl⟩
    rw [upd_ne (ne_of_none hx h)]; exact hx
  refine ⟨e, ⟨r.len, fun k a hk => ?_, r.inj, r.back, fun a ha => ⟨(r.hold a ha).1.same fun vs q _ => by rw [upd_ne (ne_of_none q h)]; exact q, (r.hold a ha).2⟩, tabs_upd r.tabs (.inl h)⟩, r.free h⟩
  obtain ⟨c, h1, h2⟩ := r.cell k a hk
  exact ⟨c, h1, h2.to (fun o q _ => by rw [upd_ne (ne_of_none q h)]; exact q) e.move⟩
abbrev Rho.add (ρ : Rho) (p : Addr) : Rho := ⟨ρ.cells ++ [some p], ρ.held⟩
/-- a new cell -/
theorem StR.cellNew' {ρ : Rho} {H : Hp} {st : Store} {p : Addr} {c : Cell} {o : HO} (r : StR K ρ H st) (h : H p = none) (hl : Ext ρ H (ρ.add p) (upd H p o) → CellR K (ρ.add p) (upd H p o) p c) :
    Ext ρ H (ρ.add p) (upd H p o) ∧ StR K (ρ.add p) (upd H p o) (st ++ [c]) := by
  have e : Ext ρ H (ρ.add p) (upd H p o) := by
    refine ⟨fun a x hx _ _ => ?_, fun a x hx t => ⟨x, by rw [upd_ne (ne_of_none hx h)]; exact hx, t⟩, by simp, fun k hk => .inl (List.getElem?_append_left hk), fun k a hk hh => ?_, rfl⟩
    · rw [upd_ne (ne_of_none hx h)]; exact hx
    · rw [List.getElem?_append_right hk] at hh
      have : k - ρ.cells.length = 0 := by
        cases q : k - ρ.cells.length with
        | zero => rfl
        | succ n => rw [q] at hh; simp at hh
      rw [this] at hh; simp at hh
      intro o' ho
      rw [← hh, h] at ho; cases ho
  refine ⟨e, ⟨by simp [r.len], fun k a hk => ?_, fun j k a hj hk => ?_, fun k m hk hg => ?_, fun a ha => ⟨(r.hold a ha).1.same fun vs q _ => by rw [upd_ne (ne_of_none q h)]; exact q, fun hm => ?_⟩, tabs_upd r.tabs (.inl h)⟩⟩
  · by_cases hl' : k < ρ.cells.length
    · rw [List.getElem?_append_left hl'] at hk
      obtain ⟨m, h1, h2⟩ := r.cell k a hk
      refine ⟨m, ?_, h2.to (fun o q _ => by rw [upd_ne (ne_of_none q h)]; exact q) e.move⟩
      rw [List.getElem?_append_left (by rw [r.len]; exact hl')]; exact h1
    · have hk' := hk
      rw [List.getElem?_append_right (Nat.le_of_not_lt hl')] at hk'
      have q : k = ρ.cells.length := by
        cases q : k - ρ.cells.length with
        | zero => omega
        | succ n => rw [q] at hk'; simp at hk'
      subst q
      simp at hk'
      subst hk'
      refine ⟨c, ?_, hl e⟩
      rw [← r.len]; simp
  · have key : ∀ (i : Nat), (ρ.cells ++ [some p])[i]? = some (some a) → (i < ρ.cells.length ∧ ρ.cells[i]? = some (some a)) ∨ (i = ρ.cells.length ∧ a = p) := fun i hi => by
      by_cases hl' : i < ρ.cells.length
      · rw [List.getElem?_append_left hl'] at hi; exact .inl ⟨hl', hi⟩
      · rw [List.getElem?_append_right (Nat.le_of_not_lt hl')] at hi
        have q : i = ρ.cells.length := by
          cases q : i - ρ.cells.length with
          | zero => omega
          | succ n => rw [q] at hi; simp at hi
        subst q
        simp at hi
        exact .inr ⟨rfl, hi.symm⟩
    rcases key j hj with ⟨h1, h2⟩ | ⟨h1, h2⟩ <;> rcases key k hk with ⟨h3, h4⟩ | ⟨h3, h4⟩
    · exact r.inj j k a h2 h4
    · subst h4; exact absurd (List.mem_of_getElem? h2) (r.free h).1
    · subst h2; exact absurd (List.mem_of_getElem? h4) (r.free h).1
    · rw [h1, h3]
  · by_cases hl' : k < st.length
    · rw [List.getElem?_append_left hl'] at hk
      obtain ⟨a, ha⟩ := r.back k m hk hg
      exact ⟨a, by rw [List.getElem?_append_left (by rw [← r.len]; exact hl')]; exact ha⟩
    · rw [List.getElem?_append_right (Nat.le_of_not_lt hl')] at hk
      have q : k = st.length := by
        cases q : k - st.length with
        | zero => omega
        | succ n => rw [q] at hk; simp at hk
      exact ⟨p, by rw [q, r.len]; simp⟩
  · rcases List.mem_append.mp hm with z | z
    · exact (r.hold a ha).2 z
    · have : a = p := by simpa using z
      obtain ⟨vs, q, _⟩ := (r.hold a ha).1.some
      rw [this, h] at q; cases q
theorem StR.cellNew {ρ : Rho} {H : Hp} {st : Store} {p : Addr} {l : List D} {vs : List V} (r : StR K ρ H st) (h : H p = none) (hl : Rps K ρ H l vs) :
    Ext ρ H (ρ.add p) (upd H p (.lst vs)) ∧ StR K (ρ.add p) (upd H p (.lst vs)) (st ++ [.lst l]) := r.cellNew' h fun e => ⟨vs, upd_same, hl.ext e l vs⟩
/-- a cell written -/
theorem StR.write' {ρ : Rho} {H : Hp} {st : Store} {k : Nat} {a : Addr} {c : Cell} {o : HO} (r : StR K ρ H st) (hk : ρ.cells[k]? = some (some a)) (ho : NoT o) (hl : Ext ρ H ρ (upd H a o) → CellR K ρ (upd H a o) a c) :
    Ext ρ H ρ (upd H a o) ∧ StR K ρ (upd H a o) (st.set k c) := by
  have e : Ext ρ H ρ (upd H a o) := by
    refine ⟨fun b x hx _ hn => ?_, fun b x hx t => ?_, Nat.le_refl _, fun _ _ => .inl rfl, fun j b hj hh => (by rw [List.getElem?_eq_none hj] at hh; cases hh), rfl⟩
    · rw [upd_ne (fun z => hn (by rw [z]; exact List.mem_of_getElem? hk))]; exact hx
    · by_cases z : b = a
      · rw [z, upd_same]; exact ⟨_, rfl, ho⟩
      · exact ⟨x, by rw [upd_ne z]; exact hx, t⟩
  refine ⟨e, ⟨by simp [r.len], fun j b hj => ?_, r.inj, fun j m hj hg => ?_, fun b hb => ⟨(r.hold b hb).1.same fun ws q _ => by rw [upd_ne (fun z => (r.hold b hb).2 (by rw [z]; exact List.mem_of_getElem? hk))]; exact q, (r.hold b hb).2⟩, tabs_upd r.tabs (.inr ?_)⟩⟩
  rotate_left 2
  · obtain ⟨_, _, q⟩ := r.cell k a hk
    exact q.plain
  · by_cases q : j = k
    · subst q
      rw [hk] at hj; cases hj
      refine ⟨c, ?_, hl e⟩
      obtain ⟨m, h1, _⟩ := r.cell j a hk
      rw [List.getElem?_set_self (List.getElem?_eq_some_iff.mp h1).1]
    · obtain ⟨m, h1, h2⟩ := r.cell j b hj
      refine ⟨m, ?_, h2.to (fun o q' _ => by rw [upd_ne (fun z => q (r.inj j k b hj (by rw [z]; exact hk)))]; exact q') e.move⟩
      rw [List.getElem?_set_ne (fun z => q z.symm)]; exact h1
  · by_cases q : j = k
    · exact ⟨a, by rw [q]; exact hk⟩
    · rw [List.getElem?_set_ne (fun z => q z.symm)] at hj
      exact r.back j m hj hg
theorem StR.write {ρ : Rho} {H : Hp} {st : Store} {k : Nat} {a : Addr} {l : List D} {vs : List V} (r : StR K ρ H st) (hk : ρ.cells[k]? = some (some a)) (hl : Rps K ρ H l vs) :
    Ext ρ H ρ (upd H a (.lst vs)) ∧ StR K ρ (upd H a (.lst vs)) (setCell st k l) := r.write' hk (.lst _) fun e => ⟨vs, upd_same, hl.ext e l vs⟩
/-! ### an object held -/
abbrev Rho.take (ρ : Rho) (n : Nat) : Rho := ⟨ρ.cells.take n, ρ.held⟩
abbrev Rho.grip (ρ : Rho) (p : Addr) : Rho := ⟨ρ.cells, p :: ρ.held⟩
theorem Move.grip {ρ : Rho} {H : Hp} {p : Addr} {o : HO} (h : H p = none) : Move ρ H (ρ.grip p) (upd H p o) :=
  ⟨fun a x hx _ n => ⟨by rw [upd_ne (ne_of_none hx h)]; exact hx, n.1, fun hm => by
    rcases List.mem_cons.mp hm with z | z
    · rw [z] at hx; rw [h] at hx; cases hx
    · exact n.2 z⟩, Nat.le_refl _, fun _ _ => .inl rfl⟩
theorem Move.loose {ρ : Rho} {H : Hp} {p : Addr} : Move (ρ.grip p) H ρ H := ⟨fun a x hx _ n => ⟨hx, n.1, fun hm => n.2 (List.mem_cons_of_mem _ hm)⟩, Nat.le_refl _, fun _ _ => .inl rfl⟩
theorem Move.put {ρ : Rho} {H : Hp} {p : Addr} {o : HO} (hp : p ∈ ρ.held) : Move ρ H ρ (upd H p o) :=
  ⟨fun a x hx _ n => ⟨by rw [upd_ne (fun z => n.2 (by rw [z]; exact hp))]; exact hx, n⟩, Nat.le_refl _, fun _ _ => .inl rfl⟩
theorem StR.grip {ρ : Rho} {H : Hp} {st : Store} {p : Addr} {xs : List V} (r : StR K ρ H st) (h : H p = none) : StR K (ρ.grip p) (upd H p (.lst xs)) st := by
  refine ⟨r.len, fun k a hk => ?_, r.inj, r.back, fun a ha => ?_, tabs_upd r.tabs (.inl h)⟩
  · obtain ⟨c, h1, h2⟩ := r.cell k a hk
    exact ⟨c, h1, h2.to (fun o q _ => by rw [upd_ne (ne_of_none q h)]; exact q) (.grip h)⟩
  · rcases List.mem_cons.mp ha with z | z
    · rw [z]; exact ⟨.inl ⟨xs, upd_same⟩, (r.free h).1⟩
    · exact ⟨(r.hold a z).1.same fun vs q _ => by rw [upd_ne (ne_of_none q h)]; exact q, (r.hold a z).2⟩
theorem StR.loose {ρ : Rho} {H : Hp} {st : Store} {p : Addr} (r : StR K (ρ.grip p) H st) : StR K ρ H st :=
  ⟨r.len, fun k a hk => let ⟨c, h1, h2⟩ := r.cell k a hk; ⟨c, h1, h2.to (fun _ q _ => q) .loose⟩, r.inj, r.back, fun a ha => r.hold a (List.mem_cons_of_mem _ ha), r.tabs⟩
theorem StR.put {ρ : Rho} {H : Hp} {st : Store} {p : Addr} {xs : List V} (r : StR K ρ H st) (hp : p ∈ ρ.held) : StR K ρ (upd H p (.lst xs)) st := by
  refine ⟨r.len, fun k a hk => ?_, r.inj, r.back, fun a ha => ⟨?_, (r.hold a ha).2⟩, tabs_upd r.tabs (.inr (r.hold p hp).1)⟩
  rotate_left
  · by_cases q : a = p
    · rw [q]; exact .inl ⟨xs, upd_same⟩
    · exact (r.hold a ha).1.same fun o z _ => by rw [upd_ne q]; exact z
  obtain ⟨c, h1, h2⟩ := r.cell k a hk
  exact ⟨c, h1, h2.to (fun o q _ => by rw [upd_ne (fun z => (r.hold p hp).2 (by rw [← z]; exact List.mem_of_getElem? hk))]; exact q) (.put hp)⟩
/-- the held object out and in again: what stands at the walk's start holds at its end -/
theorem Ext.loose {ρ ρ' : Rho} {H H' : Hp} {p : Addr} {o : HO} (h : H p = none) (e : Ext (ρ.grip p) (upd H p o) (ρ'.grip p) H') : Ext ρ H ρ' H' :=
  ⟨fun a x hx t n => e.keep a x (by rw [upd_ne (ne_of_none hx h)]; exact hx) t n, fun a x hx t => e.there a x (by rw [upd_ne (ne_of_none hx h)]; exact hx) t, e.len, e.old, fun k a hk hh x hx => e.new k a hk hh x (by rw [upd_ne (ne_of_none hx h)]; exact hx), (List.cons.inj e.held).2⟩
/-! ### the store cut back -/
mutual
theorem Rp.cut {ρ : Rho} {H : Hp} {n : Nat} : ∀ (f : Nat) (d : D) (v : V), below n f d = true → n ≤ ρ.cells.length → Rp K ρ H d v → Rp K (ρ.take n) H d v
  | _, .non, _, _, _, h => h
  | _, .bl _, _, _, _, h => h
  | _, .int _, _, _, _, h => h
  | _, .str _, _, _, _, h => h
  | _, .fn _, _, _, _, h => h
  | f + 1, .tup l, _, b, hn, ⟨a, vs, h1, h2, h3, h4⟩ => ⟨a, vs, h1, h2, ⟨fun m => h3.1 (List.mem_of_mem_take m), h3.2⟩, Rps.cut f l vs (by simpa [below] using b) hn h4⟩
  | f + 1, .lst l, _, b, hn, ⟨a, vs, h1, h2, h3, h4⟩ => ⟨a, vs, h1, h2, ⟨fun m => h3.1 (List.mem_of_mem_take m), h3.2⟩, Rps.cut f l vs (by simpa [below] using b) hn h4⟩
  | f + 1, .dic ks vs, _, b, hn, ⟨a, o, kv, vv, h1, h2, h3, h4, h5, h6⟩ => by
    simp only [below, Bool.and_eq_true, List.all_eq_true] at b
    exact ⟨a, o, kv, vv, h1, h2, ⟨fun m => h3.1 (List.mem_of_mem_take m), h3.2⟩, h4, Rps.cut f ks kv b.1 hn h5, Rps.cut f vs vv b.2 hn h6⟩
  | 0, .dic ks vs, _, b, _, _ => by simp [below] at b
  | 0, .tup l, _, b, _, _ => by simp [below] at b
  | 0, .lst l, _, b, _, _ => by simp [below] at b
  | _, .ref k, _, b, hn, ⟨h1, h2⟩ => by
    have hk : k < n := by simpa [below] using b
    exact ⟨by rw [List.length_take]; omega, fun a ha => h2 a (by rw [List.getElem?_take_of_lt hk] at ha; exact ha)⟩
  | _, .rng _ _, _, _, _, ⟨a, h1, h2, h3⟩ => ⟨a, h1, h2, ⟨fun m => h3.1 (List.mem_of_mem_take m), h3.2⟩⟩
  | _, .scr _, _, _, _, ⟨a, h1, h2⟩ => ⟨a, h1, by
    rcases h2 with ⟨o, q, t, m, r⟩ | q
    · exact .inl ⟨o, q, t, ⟨fun z => m.1 (List.mem_of_mem_take z), m.2⟩, r⟩
    · exact .inr q⟩
theorem Rps.cut {ρ : Rho} {H : Hp} {n : Nat} : ∀ (f : Nat) (l : List D) (vs : List V), (∀ x ∈ l, below n f x = true) → n ≤ ρ.cells.length → Rps K ρ H l vs → Rps K (ρ.take n) H l vs
  | _, [], _, _, _, h => h
  | f, d :: ds, _, b, hn, ⟨v, r, h1, h2, h3⟩ => ⟨v, r, h1, Rp.cut f d v (b d List.mem_cons_self) hn h2, Rps.cut f ds r (fun x hx => b x (List.mem_cons_of_mem _ hx)) hn h3⟩
end
theorem StR.cut {ρ : Rho} {H : Hp} {st : Store} {n : Nat} (r : StR K ρ H st) (hn : n ≤ ρ.cells.length) (hb : (st.take n).all (cellBelow n) = true) : StR K (ρ.take n) H (st.take n) := by
  refine ⟨by rw [List.length_take, List.length_take, r.len], fun k a hk => ?_, fun j k a hj hk => ?_, fun k l hk hg => ?_, fun a ha => ⟨(r.hold a ha).1, fun m => (r.hold a ha).2 (List.mem_of_mem_take m)⟩, r.tabs⟩
  · have hl : k < n := by
      have := (List.getElem?_eq_some_iff.mp hk).1
      rw [List.length_take] at this; omega
    rw [List.getElem?_take_of_lt hl] at hk
    obtain ⟨c, h1, h2⟩ := r.cell k a hk
    have h4 : (st.take n)[k]? = some c := by rw [List.getElem?_take_of_lt hl]; exact h1
    have := List.all_eq_true.mp hb _ (List.mem_of_getElem? h4)
    refine ⟨c, h4, ?_⟩
    cases c with
    | lst l =>
      obtain ⟨vs, h2, h3⟩ := h2
      exact ⟨vs, h2, Rps.cut 40 l vs (by simpa [cellBelow] using this) hn h3⟩
    | dic ks vs =>
      obtain ⟨o, kv, vv, h5, h6, h7, h8⟩ := h2
      simp only [cellBelow, Bool.and_eq_true, List.all_eq_true] at this
      exact ⟨o, kv, vv, h5, h6, Rps.cut 40 ks kv this.1 hn h7, Rps.cut 40 vs vv this.2 hn h8⟩
    | gone => cases h2
  · have low : ∀ i : Nat, (ρ.cells.take n)[i]? = some (some a) → ρ.cells[i]? = some (some a) := fun i hi => by
      have := (List.getElem?_eq_some_iff.mp hi).1
      rw [List.length_take] at this
      rw [List.getElem?_take_of_lt (by omega)] at hi
      exact hi
    exact r.inj j k a (low j hj) (low k hk)
  · have hl : k < n := by
      have := (List.getElem?_eq_some_iff.mp hk).1
      rw [List.length_take] at this; omega
    rw [List.getElem?_take_of_lt hl] at hk
    obtain ⟨a, ha⟩ := r.back k l hk hg
    exact ⟨a, by rw [List.getElem?_take_of_lt hl]; exact ha⟩
theorem Ext.cut {ρ ρ' : Rho} {H H' : Hp} (e : Ext ρ H ρ' H') : Ext ρ H (ρ'.take ρ.cells.length) H' := by
  refine ⟨e.keep, e.there, by rw [List.length_take]; have := e.len; omega, fun k hk => ?_, fun k a hk h => ?_, e.held⟩
  · rw [List.getElem?_take_of_lt hk]; exact e.old k hk
  · rw [List.getElem?_eq_none (by rw [List.length_take]; omega)] at h; cases h

/-! ### reading a value -/
section
variable {ρ : Rho} {H : Hp} {st : Store} {d : D} {v : V} {l : List D}
theorem Rp.seqL (r : Rp K ρ H d v) (s : StR K ρ H st) (h : seqL d st = some l) : ∃ a vs, v = .ref a ∧ H a = some (.lst vs) ∧ Rps K ρ H l vs := by
  cases d with
  | lst m =>
    cases (show some m = some l from h)
    obtain ⟨a, vs, h1, h2, _, h4⟩ := r
    exact ⟨a, vs, h1, h2, h4⟩
  | ref k =>
    obtain ⟨h1, h2⟩ := r
    unfold Ev.seqL at h
    cases q : st[k]? with
    | none => simp [q] at h
    | some c =>
      cases c with
      | lst m =>
        simp [q] at h
        subst h
        obtain ⟨a, ha⟩ := s.back k _ q (by simp)
        obtain ⟨m', e1, e2⟩ := s.cell k a ha
        rw [q] at e1; cases e1
        obtain ⟨vs, e2, e3⟩ := e2
        exact ⟨a, vs, h2 a ha, e2, e3⟩
      | gone => simp [q] at h
      | dic _ _ => simp [q] at h
  | _ => cases h
theorem Rp.seqLT (r : Rp K ρ H d v) (s : StR K ρ H st) (h : seqLT d st = some l) : ∃ a vs, v = .ref a ∧ (H a = some (.lst vs) ∨ H a = some (.tup vs)) ∧ Rps K ρ H l vs := by
  cases d with
  | tup m =>
    cases (show some m = some l from h)
    obtain ⟨a, vs, h1, h2, _, h4⟩ := r
    exact ⟨a, vs, h1, .inr h2, h4⟩
  | lst m =>
    obtain ⟨a, vs, h1, h2, h3⟩ := r.seqL s (show Ev.seqL (.lst m) st = some l from h)
    exact ⟨a, vs, h1, .inl h2, h3⟩
  | ref k =>
    obtain ⟨a, vs, h1, h2, h3⟩ := r.seqL s (show Ev.seqL (.ref k) st = some l from h)
    exact ⟨a, vs, h1, .inl h2, h3⟩
  | _ => cases h
theorem Rp.dicOf {ks vs : List D} (r : Rp K ρ H d v) (s : StR K ρ H st) (h : dicOf d st = some (ks, vs)) : ∃ a o kv vv, v = .ref a ∧ DictAt H a o ∧ DicO o ks kv vv ∧ Rps K ρ H ks kv ∧ Rps K ρ H vs vv := by
  cases d with
  | dic ks' vs' =>
    cases (show some (ks', vs') = some (ks, vs) from h)
    obtain ⟨a, o, kv, vv, h1, h2, _, h4, h5, h6⟩ := r
    exact ⟨a, o, kv, vv, h1, h2, h4, h5, h6⟩
  | ref k =>
    obtain ⟨h1, h2⟩ := r
    unfold Ev.dicOf at h
    cases q : st[k]? with
    | none => simp [q] at h
    | some c =>
      cases c with
      | dic ks' vs' =>
        simp [q] at h
        obtain ⟨e1, e2⟩ := h
        subst e1 e2
        obtain ⟨a, ha⟩ := s.back k _ q (by simp)
        obtain ⟨m', e1, e2⟩ := s.cell k a ha
        rw [q] at e1; cases e1
        obtain ⟨o, kv, vv, e2, e3, e4, e5⟩ := e2
        exact ⟨a, o, kv, vv, h2 a ha, e2, e3, e4, e5⟩
      | gone => simp [q] at h
      | lst _ => simp [q] at h
  | _ => cases h
end
end Ev

set_option Elab.async false
set_option linter.all false
set_option maxRecDepth 100000
set_option maxHeartbeats 1000000
namespace Ev
open PySem PySem.Spec PyProof.Rows L2
variable [TabsOf]
variable {K : PySem.W.Frag}
/-! ### keys -/
mutual
theorem hash_free : ∀ (d : D) (k : NestedKey), keyN d = some k → ∀ w w', k.hash w = k.hash w'
  | .int i, _, h, _, _ => by cases h; rfl
  | .non, _, h, _, _ => by cases h; rfl
  | .tup l, _, h, w, w' => by
    simp only [keyN, Option.map_eq_some_iff] at h
    obtain ⟨ks, h1, h2⟩ := h
    subst h2
    simp only [NestedKey.hash]
    rw [hashes_free l ks h1 w w']
  | .bl _, _, h, _, _ => by cases h
  | .str _, _, h, _, _ => by cases h
  | .lst _, _, h, _, _ => by cases h
  | .ref _, _, h, _, _ => by cases h
  | .rng _ _, _, h, _, _ => by cases h
  | .scr _, _, h, _, _ => by cases h
  | .fn _, _, h, _, _ => by cases h
  | .dic _ _, _, h, _, _ => by cases h
theorem hashes_free : ∀ (l : List D) (ks : List NestedKey), keyNs l = some ks → ∀ w w', NestedKey.hashes w ks = NestedKey.hashes w' ks
  | [], _, h, _, _ => by cases h; rfl
  | d :: r, ks, h, w, w' => by
    unfold keyNs at h
    cases h1 : keyN d with
    | none => rw [h1] at h; cases h
    | some a =>
      cases h2 : keyNs r with
      | none => rw [h1, h2] at h; cases h
      | some b =>
        rw [h1, h2] at h
        cases h
        simp only [NestedKey.hashes]
        rw [hash_free d a h1 w w', hashes_free r b h2 w w']
end
theorem keyNs_cons {d : D} {r : List D} {ks : List NestedKey} (h : keyNs (d :: r) = some ks) : ∃ a b, ks = a :: b ∧ keyN d = some a ∧ keyNs r = some b := by
  unfold keyNs at h
  cases h1 : keyN d with
  | none => rw [h1] at h; cases h
  | some a =>
    cases h2 : keyNs r with
    | none => rw [h1, h2] at h; cases h
    | some b => rw [h1, h2] at h; cases h; exact ⟨a, b, rfl, rfl, rfl⟩
mutual
theorem keyOk_some : ∀ (n : Nat) (d : D), keyOk n d = true → ∃ k, keyN d = some k ∧ k.depth ≤ n
  | n, .int i, _ => ⟨_, rfl, by simp [NestedKey.depth]⟩
  | n, .non, _ => ⟨_, rfl, by simp [NestedKey.depth]⟩
  | 0, .tup l, h => by simp [keyOk] at h
  | n + 1, .tup l, h => by
    simp only [keyOk, List.all_eq_true] at h
    obtain ⟨ks, h1, h2⟩ := keysOk_some n l h
    exact ⟨.tup ks, by simp [keyN, h1], by simp only [NestedKey.depth]; omega⟩
  | n, .bl _, h => by cases n <;> simp [keyOk] at h
  | n, .str _, h => by cases n <;> simp [keyOk] at h
  | n, .lst _, h => by cases n <;> simp [keyOk] at h
  | n, .ref _, h => by cases n <;> simp [keyOk] at h
  | n, .rng _ _, h => by cases n <;> simp [keyOk] at h
  | n, .scr _, h => by cases n <;> simp [keyOk] at h
  | n, .fn _, h => by cases n <;> simp [keyOk] at h
  | n, .dic _ _, h => by cases n <;> simp [keyOk] at h
theorem keysOk_some : ∀ (n : Nat) (l : List D), (∀ d ∈ l, keyOk n d = true) → ∃ ks, keyNs l = some ks ∧ NestedKey.depthAll ks ≤ n
  | n, [], _ => ⟨[], rfl, by simp [NestedKey.depthAll]⟩
  | n, d :: r, h => by
    obtain ⟨a, h1, h2⟩ := keyOk_some n d (h d List.mem_cons_self)
    obtain ⟨b, h3, h4⟩ := keysOk_some n r fun x hx => h x (List.mem_cons_of_mem _ hx)
    exact ⟨a :: b, by unfold keyNs; rw [h1, h3], by simp only [NestedKey.depthAll]; omega⟩
end
mutual
/-- keys are equal as their readings are -/
theorem eqv_key : ∀ (a b : D) (x y : NestedKey), keyN a = some x → keyN b = some y → eqv a b = decide (x = y)
  | .int i, b, _, y, ha, hb => by
    cases ha
    cases b <;> simp [keyN] at hb
    · subst hb; simp [eqv]
    · subst hb; simp [eqv]; rfl
    · obtain ⟨_, _, hb⟩ := hb; subst hb; simp [eqv]
  | .non, b, _, y, ha, hb => by
    cases ha
    cases b <;> simp [keyN] at hb
    · subst hb; simp [eqv]
    · subst hb; simp [eqv]
    · obtain ⟨_, _, hb⟩ := hb; subst hb; simp [eqv]
  | .tup l, b, x, y, ha, hb => by
    simp only [keyN, Option.map_eq_some_iff] at ha
    obtain ⟨ks, h1, h2⟩ := ha
    subst h2
    cases b with
    | tup m =>
      simp only [keyN, Option.map_eq_some_iff] at hb
      obtain ⟨js, h3, h4⟩ := hb
      subst h4
      rw [eqv, eqvs_key l m ks js h1 h3]
      simp
    | int _ => simp only [keyN, Option.some.injEq] at hb; subst hb; simp [eqv]
    | non => simp only [keyN, Option.some.injEq] at hb; subst hb; simp [eqv]
    | _ => cases hb
  | .bl _, _, _, _, h, _ => by cases h
  | .str _, _, _, _, h, _ => by cases h
  | .lst _, _, _, _, h, _ => by cases h
  | .ref _, _, _, _, h, _ => by cases h
  | .rng _ _, _, _, _, h, _ => by cases h
  | .scr _, _, _, _, h, _ => by cases h
  | .fn _, _, _, _, h, _ => by cases h
  | .dic _ _, _, _, _, h, _ => by cases h
theorem eqvs_key : ∀ (a b : List D) (x y : List NestedKey), keyNs a = some x → keyNs b = some y → eqvs a b = decide (x = y)
  | [], [], _, _, ha, hb => by cases ha; cases hb; simp [eqvs]
  | [], d :: r, _, _, ha, hb => by
    cases ha
    obtain ⟨a, b, rfl, _, _⟩ := keyNs_cons hb
    simp [eqvs]
  | d :: r, [], _, _, ha, hb => by
    cases hb
    obtain ⟨a, b, rfl, _, _⟩ := keyNs_cons ha
    simp [eqvs]
  | d :: r, e :: q, _, _, ha, hb => by
    obtain ⟨a, b, rfl, h1, h2⟩ := keyNs_cons ha
    obtain ⟨a', b', rfl, h3, h4⟩ := keyNs_cons hb
    rw [eqvs, eqv_key d e a a' h1 h3, eqvs_key r q b b' h2 h4]
    simp
end
mutual
/-- a key lies as it is read -/
theorem key_at {P : Program} {w : World} {ρ : Rho} {H : Hp} {h : Heap} (ok : HOk P w H h) : ∀ (d : D) (k : NestedKey) (v : V) (u : Value), keyN d = some k → Rp K ρ H d v → RelV v u → NestedIs h k u
  | .int i, _, _, u, e, r, rv => by
    cases e
    cases (show _ = V.int i from r)
    obtain ⟨t, rfl⟩ := rv
    exact .int i t
  | .non, _, _, u, e, r, rv => by
    cases e
    cases (show _ = V.non from r)
    cases (show u = Value.none from rv)
    exact .none
  | .tup l, _, _, u, e, ⟨a, vs, h1, h2, _, h4⟩, rv => by
    simp only [keyN, Option.map_eq_some_iff] at e
    obtain ⟨ks, e1, e2⟩ := e
    subst e2 h1
    cases (show u = Value.ref a from rv)
    obtain ⟨_, its, rel, ob, g1, g2, n, g4⟩ := (show ObjOk P w H h a (.tup vs) from ok a _ h2)
    exact .tup g1 g2 g4 (keys_at ok l ks vs its e1 h4 rel)
  | .bl _, _, _, _, h, _, _ => by cases h
  | .str _, _, _, _, h, _, _ => by cases h
  | .lst _, _, _, _, h, _, _ => by cases h
  | .ref _, _, _, _, h, _, _ => by cases h
  | .rng _ _, _, _, _, h, _, _ => by cases h
  | .scr _, _, _, _, h, _, _ => by cases h
  | .fn _, _, _, _, h, _, _ => by cases h
  | .dic _ _, _, _, _, h, _, _ => by cases h
theorem keys_at {P : Program} {w : World} {ρ : Rho} {H : Hp} {h : Heap} (ok : HOk P w H h) : ∀ (l : List D) (ks : List NestedKey) (vs : List V) (us : List Value), keyNs l = some ks → Rps K ρ H l vs → Vals vs us → NestedAll h ks us
  | [], _, _, us, e, r, rv => by
    cases e
    cases (show _ = [] from r)
    cases rv
    exact .nil
  | d :: r, _, _, us, e, ⟨v, q, h1, h2, h3⟩, rv => by
    obtain ⟨a, b, rfl, e1, e2⟩ := keyNs_cons e
    subst h1
    cases rv with
    | cons r1 r2 => exact .cons (key_at ok d a v _ e1 h2 r1) (keys_at ok r b q _ e2 h3 r2)
end
/-! ### the entries by their kind -/
inductive DR {α : Type} (R : D → D → α → Prop) : List D → List D → List α → Prop
  | nil : DR R [] [] []
  | cons {k d : D} {x : α} {ks vs : List D} {xs : List α} : R k d x → DR R ks vs xs → DR R (k :: ks) (d :: vs) (x :: xs)
section
variable {α : Type} {R : D → D → α → Prop} {ks vs : List D} {xs : List α} {kd vd : D} {p : α → Bool}
theorem DR.find (h : DR R ks vs xs) (hp : ∀ k d x, R k d x → eqv k kd = p x) : (∃ x k d, xs.find? p = some x ∧ dfind ks vs kd = some d ∧ R k d x) ∨ (xs.find? p = none ∧ dfind ks vs kd = none) := by
  induction h with
  | nil => exact .inr ⟨rfl, rfl⟩
  | @cons k d x ks vs xs r _ ih =>
    unfold dfind
    rw [hp k d x r, List.find?_cons]
    cases q : p x with
    | true => exact .inl ⟨x, k, d, rfl, by simp, r⟩
    | false => simpa using ih
theorem DR.any (h : DR R ks vs xs) (hp : ∀ k d x, R k d x → eqv k kd = p x) : (dfind ks vs kd).isSome = xs.any p := by
  induction h with
  | nil => rfl
  | @cons k d x ks vs xs r _ ih =>
    unfold dfind
    rw [hp k d x r, List.any_cons]
    cases q : p x with
    | true => simp
    | false => simpa using ih
theorem DR.same (h : DR R ks vs xs) (hn : ∀ x ∈ xs, p x = false) (up : α → α) : (xs.map fun x => if p x = true then up x else x) = xs := by
  conv => rhs; rw [← List.map_id xs]
  exact List.map_congr_left fun x hx => by simp [hn x hx]
theorem DR.put (h : DR R ks vs xs) (hp : ∀ k d x, R k d x → eqv k kd = p x) (uniq : xs.Pairwise fun x y => p x = true → p y = false) (up : α → α) (hup : ∀ k d x, R k d x → p x = true → R k vd (up x)) (ha : xs.any p = true) :
    DR R ks (dputV ks vs kd vd) (xs.map fun x => if p x = true then up x else x) := by
  induction h with
  | nil => cases ha
  | @cons k d x ks vs xs r t ih =>
    rw [List.pairwise_cons] at uniq
    unfold dputV
    rw [hp k d x r, List.map_cons]
    cases q : p x with
    | true =>
      simp only [if_true]
      rw [DR.same t (fun y hy => uniq.1 y hy q) up]
      exact .cons (hup k d x r q) t
    | false =>
      rw [List.any_cons, q, Bool.false_or] at ha
      simp only [Bool.false_eq_true, if_false]
      exact .cons r (ih uniq.2 ha)
theorem DR.add (h : DR R ks vs xs) (hp : ∀ k d x, R k d x → eqv k kd = p x) {x0 : α} (r0 : R kd vd x0) (ha : xs.any p = false) : DR R (ks ++ [kd]) (dputV ks vs kd vd) (xs ++ [x0]) := by
  induction h with
  | nil => exact .cons r0 .nil
  | @cons k d x ks vs xs r t ih =>
    rw [List.any_cons, Bool.or_eq_false_iff] at ha
    unfold dputV
    rw [hp k d x r, ha.1]
    simp only [Bool.false_eq_true, if_false]
    exact .cons r (ih ha.2)
theorem DR.imp {R' : D → D → α → Prop} (h : DR R ks vs xs) (m : ∀ k d x, R k d x → R' k d x) : DR R' ks vs xs := by
  induction h with
  | nil => exact .nil
  | cons r _ ih => exact .cons (m _ _ _ r) ih
theorem DR.len (h : DR R ks vs xs) : ks.length = xs.length := by
  induction h with
  | nil => rfl
  | cons _ _ ih => simp [ih]
end
/-- a value in the heap -/
def RU (K : PySem.W.Frag) (ρ : Rho) (H : Hp) (d : D) (u : Value) : Prop := ∃ v, Rp K ρ H d v ∧ RelV v u
def RI (K : PySem.W.Frag) (ρ : Rho) (H : Hp) (k d : D) (x : Int × Value) : Prop := k = .int x.1 ∧ RU K ρ H d x.2
def RT (K : PySem.W.Frag) (ρ : Rho) (H : Hp) (k d : D) (x : NestedKey × Addr × Value) : Prop := isTupK k = true ∧ keyOk 8 k = true ∧ keyN k = some x.1 ∧ Rp K ρ H k (.ref x.2.1) ∧ RU K ρ H d x.2.2
section
variable {P : Program} {w : World} {ρ : Rho} {H : Hp} {h : Heap} {a : Addr} {o : Obj} {ks vs : List D} {kv vv : List V}
theorem ent_int : ∀ {es : List DictEntry} {nk : List NestedKey} {ks vs : List D} {kv vv : List V}, EntR es nk kv vv → keyNs ks = some nk → ks.all isNumK = true → Rps K ρ H ks kv → Rps K ρ H vs vv →
    ∃ kvs : List (Int × Value), Pairs (intKind P w) es kvs ∧ (∀ e ∈ es, ∃ k, (intKind P w).is k e.key = true ∧ e.hash = (intKind P w).hash k) ∧ nk = kvs.map (fun x => .num x.1) ∧ DR (RI K ρ H) ks vs kvs
  | [], [], [], vs, [], [], _, _, _, _, rv => by
    cases vs with
    | nil => exact ⟨[], .nil, by simp, rfl, .nil⟩
    | cons d r => obtain ⟨_, _, h, _⟩ := rv; cases h
  | e :: es, k :: nk, d :: ks, vs, x :: kv, y :: vv, en, hk, hn, rk, rv => by
    obtain ⟨a, b, e1, h1, h2⟩ := keyNs_cons hk
    cases e1
    rw [List.all_cons, Bool.and_eq_true] at hn
    obtain ⟨_, _, q, r1, r2⟩ := rk
    cases q
    cases vs with
    | nil => cases rv
    | cons z vs =>
      obtain ⟨_, _, q, r3, r4⟩ := rv
      cases q
      obtain ⟨f1, f2, f3, f4⟩ := en
      cases d with
      | int i =>
        cases h1
        cases (show x = V.int i from r1)
        obtain ⟨t, ht⟩ := f2
        obtain ⟨kvs, g1, g2, g3, g4⟩ := ent_int f4 h2 hn.2 r2 r4
        have his : (intKind P w).is i e.key = true := by rw [ht]; simp [intKind, Value.isInt]
        refine ⟨(i, e.val) :: kvs, .cons his rfl g1, fun e' he => ?_, by simp [g3], .cons ⟨rfl, y, r3, f3⟩ g4⟩
        rcases List.mem_cons.mp he with z | z
        · subst z; exact ⟨i, his, f1 w⟩
        · exact g2 e' z
      | _ => simp [isNumK] at hn
  | [], [], _ :: _, _, [], [], _, hk, _, _, _ => by obtain ⟨_, _, z, _⟩ := keyNs_cons hk; cases z
  | _ :: _, _ :: _, [], _, _ :: _, _ :: _, _, hk, _, _, _ => by cases hk
  | [], _ :: _, _, _, _, _, h, _, _, _, _ => h.elim
  | [], [], _, _, _ :: _, _, h, _, _, _, _ => h.elim
  | [], [], _, _, [], _ :: _, h, _, _, _, _ => h.elim
  | _ :: _, [], _, _, _, _, h, _, _, _, _ => h.elim
  | _ :: _, _ :: _, _, _, [], _, h, _, _, _, _ => h.elim
  | _ :: _, _ :: _, _, _, _ :: _, [], h, _, _, _, _ => h.elim
theorem ent_tup : ∀ {es : List DictEntry} {nk : List NestedKey} {ks vs : List D} {kv vv : List V}, EntR es nk kv vv → keyNs ks = some nk → ks.all isTupK = true → ks.all (keyOk 8) = true → Rps K ρ H ks kv → Rps K ρ H vs vv →
    ∃ xs : List (NestedKey × Addr × Value), es = xs.map (entryOfKey (nestedKind P w)) ∧ nk = xs.map (·.1) ∧ DR (RT K ρ H) ks vs xs
  | [], [], [], vs, [], [], _, _, _, _, _, rv => by
    cases vs with
    | nil => exact ⟨[], rfl, rfl, .nil⟩
    | cons d r => obtain ⟨_, _, h, _⟩ := rv; cases h
  | e :: es, k :: nk, d :: ks, vs, x :: kv, y :: vv, en, hk, hn, ho, rk, rv => by
    obtain ⟨a, b, e1, h1, h2⟩ := keyNs_cons hk
    cases e1
    rw [List.all_cons, Bool.and_eq_true] at hn ho
    obtain ⟨_, _, q, r1, r2⟩ := rk
    cases q
    cases vs with
    | nil => cases rv
    | cons z vs =>
      obtain ⟨_, _, q, r3, r4⟩ := rv
      cases q
      obtain ⟨f1, f2, f3, f4⟩ := en
      obtain ⟨xs, g1, g2, g3⟩ := ent_tup f4 h2 hn.2 ho.2 r2 r4
      have hd : ∃ b, x = .ref b := by
        cases d with
        | tup l => obtain ⟨b, _, z, _⟩ := r1; exact ⟨b, z⟩
        | _ => simp [isTupK] at hn
      obtain ⟨b, rfl⟩ := hd
      have f2 : e.key = .ref b := f2
      refine ⟨(k, b, e.val) :: xs, ?_, by simp [g2], .cons ⟨hn.1, ho.1, h1, r1, y, r3, f3⟩ g3⟩
      rw [List.map_cons, ← g1]
      congr 1
      obtain ⟨hs, ky, vl⟩ := e
      unfold entryOfKey
      simp only at f1 f2
      rw [f2, f1 w]
      rfl
  | [], [], _ :: _, _, [], [], _, hk, _, _, _, _ => by obtain ⟨_, _, z, _⟩ := keyNs_cons hk; cases z
  | _ :: _, _ :: _, [], _, _ :: _, _ :: _, _, hk, _, _, _, _ => by cases hk
  | [], _ :: _, _, _, _, _, h, _, _, _, _, _ => h.elim
  | [], [], _, _, _ :: _, _, h, _, _, _, _, _ => h.elim
  | [], [], _, _, [], _ :: _, h, _, _, _, _, _ => h.elim
  | _ :: _, [], _, _, _, _, h, _, _, _, _, _ => h.elim
  | _ :: _, _ :: _, _, _, [], _, h, _, _, _, _, _ => h.elim
  | _ :: _, _ :: _, _, _, _ :: _, [], h, _, _, _, _, _ => h.elim
end
end Ev

set_option Elab.async false
set_option linter.all false
set_option maxRecDepth 100000
set_option maxHeartbeats 1000000
namespace Ev
open PySem PySem.Spec PyProof.Rows L2
variable [TabsOf]
theorem DR.mem {α : Type} {R : D → D → α → Prop} {ks vs : List D} {xs : List α} (h : DR R ks vs xs) {x : α} (hx : x ∈ xs) : ∃ k d, R k d x := by
  induction h with
  | nil => cases hx
  | cons r _ ih =>
    rcases List.mem_cons.mp hx with z | z
    · exact ⟨_, _, z ▸ r⟩
    · exact ih z
section
variable {X : Cx} {pins : List (Addr × Obj)} {σ : L2.St} {H : Hp} {s : Shared} {ρ : Rho} {a : Addr} {o : Obj} {ks vs : List D} {kv vv : List V} {kd : D} {y : V} {u : Value}
theorem dict_here (I : Inv X pins σ H s) (d : DictAt H a o) : s.heap.get? a = some o := (I.hok a _ d.1).1
/-- the found value and the model's -/
def Fnd (K : PySem.W.Frag) (ρ : Rho) (H : Hp) : Option D → Option Value → Prop
  | some d, some u => RU K ρ H d u
  | none, none => True
  | _, _ => False
theorem dict_int (I : Inv X pins σ H s) (d : DictAt H a o) (c : DicO o ks kv vv) (rk : Rps X.K ρ H ks kv) (rv : Rps X.K ρ H vs vv) (hn : ks.all isNumK = true) :
    ∃ kvs : List (Int × Value), s.heap.DictOf (intKind X.prog X.w) a kvs ∧ DR (RI X.K ρ H) ks vs kvs := by
  obtain ⟨c1, _, _, nk, es, ep, c2, c3, c4, c5⟩ := c
  obtain ⟨kvs, g1, g2, g3, g4⟩ := ent_int (P := X.prog) (w := X.w) c5 c2 hn rk rv
  refine ⟨kvs, ⟨o, es, ep, dict_here I d, c1, c4, fun e he => g2 e (by simpa using he), g1, ?_⟩, g4⟩
  rw [g3] at c3
  have : (kvs.map fun x => NestedKey.num x.1) = (kvs.map (·.1)).map NestedKey.num := by simp
  rw [this] at c3
  exact (List.pairwise_map.mp c3).imp fun h e => h (by rw [e])
theorem dict_tup (I : Inv X pins σ H s) (d : DictAt H a o) (c : DicO o ks kv vv) (rk : Rps X.K ρ H ks kv) (rv : Rps X.K ρ H vs vv) (hn : ks.all isTupK = true) (hk : ks.all (keyOk 8) = true) :
    ∃ xs : List (NestedKey × Addr × Value), s.heap.DictOfH (nestedKind X.prog X.w) a xs ∧ DR (RT X.K ρ H) ks vs xs := by
  obtain ⟨c1, _, _, nk, es, ep, c2, c3, c4, c5⟩ := c
  obtain ⟨xs, g1, g2, g3⟩ := ent_tup (P := X.prog) (w := X.w) c5 c2 hn hk rk rv
  refine ⟨xs, ⟨o, es, ep, dict_here I d, c1, c4, g1, ?_, by rw [← g2]; exact c3⟩, g3⟩
  intro x hx
  obtain ⟨k, d, r1, r2, r3, r4, _⟩ := g3.mem hx
  obtain ⟨k', e1, e2⟩ := keyOk_some 8 k r2
  rw [r3] at e1
  cases e1
  exact ⟨key_at I.hok k _ _ _ r3 r4 rfl, e2⟩
theorem dict_look (I : Inv X pins σ H s) (d : DictAt H a o) (c : DicO o ks kv vv) (rk : Rps X.K ρ H ks kv) (rv : Rps X.K ρ H vs vv) (ry : Rp X.K ρ H kd y) (ru : RelV y u) (hk : kindOk kd ks = true) :
    (∃ (i : Int) (kvs : List (Int × Value)), kd = .int i ∧ (intKind X.prog X.w).is i u = true ∧ s.heap.DictOf (intKind X.prog X.w) a kvs ∧ DR (RI X.K ρ H) ks vs kvs ∧ Fnd X.K ρ H (dfind ks vs kd) (valueAt kvs i)) ∨
    (∃ (k : NestedKey) (b : Addr) (xs : List (NestedKey × Addr × Value)), u = .ref b ∧ y = .ref b ∧ keyN kd = some k ∧ isTupK kd = true ∧ keyOk 8 kd = true ∧ (nestedKind X.prog X.w).is s.heap k b ∧ s.heap.DictOfH (nestedKind X.prog X.w) a xs ∧ DR (RT X.K ρ H) ks vs xs ∧ Fnd X.K ρ H (dfind ks vs kd) ((atKey xs k).map (·.2))) := by
  cases kd with
  | int i =>
    refine .inl ?_
    cases (show y = V.int i from ry)
    obtain ⟨t, rfl⟩ := ru
    obtain ⟨kvs, g1, g2⟩ := dict_int I d c rk rv hk
    refine ⟨i, kvs, rfl, by simp [intKind, Value.isInt], g1, g2, ?_⟩
    have hp : ∀ k d x, RI X.K ρ H k d x → eqv k (.int i) = decide (x.1 = i) := fun k d x r => by rw [r.1]; simp [eqv]; rfl
    unfold valueAt
    rcases g2.find hp with ⟨x, k, d', e1, e2, r⟩ | ⟨e1, e2⟩
    · rw [e1, e2]; exact r.2
    · rw [e1, e2]; exact True.intro
  | tup l =>
    refine .inr ?_
    obtain ⟨b, ws, rfl, hb, off, rl⟩ := id ry
    cases (show u = Value.ref b from ru)
    simp only [kindOk, Bool.and_eq_true] at hk
    obtain ⟨k, e1, e2⟩ := keyOk_some 8 (.tup l) hk.1
    have hall : ks.all (keyOk 8) = true := by
      rcases c.2.2.1 with q | q
      · cases ks with
        | nil => rfl
        | cons z r =>
          simp only [List.all_cons, Bool.and_eq_true] at q hk
          cases z <;> simp [isNumK, isTupK] at q hk
      · exact q.2
    obtain ⟨xs, g1, g2⟩ := dict_tup I d c rk rv hk.2 hall
    refine ⟨k, b, xs, rfl, rfl, e1, rfl, hk.1, ⟨key_at I.hok _ _ _ _ e1 ry rfl, e2⟩, g1, g2, ?_⟩
    have hp : ∀ k' d x, RT X.K ρ H k' d x → eqv k' (.tup l) = decide (x.1 = k) := fun k' d x r => eqv_key _ _ _ _ r.2.2.1 e1
    unfold atKey
    rcases g2.find hp with ⟨x, k', d', q1, q2, r⟩ | ⟨q1, q2⟩
    · rw [q1, q2]; exact r.2.2.2.2
    · rw [q1, q2]; exact True.intro
  | _ => cases hk
variable {A : Around} {E : Value → Shared → Prop}
theorem fnd_some {d' : D} {m : Option Value} (h : Fnd X.K ρ H (some d') m) : ∃ w' v, m = some w' ∧ Rp X.K ρ H d' v ∧ RelV v w' := by
  cases m with
  | none => cases h
  | some w' => obtain ⟨v, h1, h2⟩ := h; exact ⟨w', v, rfl, h1, h2⟩
theorem fnd_is {o' : Option D} {m : Option Value} (h : Fnd X.K ρ H o' m) : m.isSome = o'.isSome := by
  cases o' <;> cases m <;> first | rfl | cases h
theorem fnd_getD {o' : Option D} {m : Option Value} (h : Fnd X.K ρ H o' m) {z : D} {v : V} {u' : Value} (r1 : Rp X.K ρ H z v) (r2 : RelV v u') : RU X.K ρ H (o'.getD z) (m.getD u') := by
  cases o' <;> cases m <;> first | exact h | exact ⟨v, r1, r2⟩ | cases h
/-- d[y], there -/
theorem dd_getItem {Q : Value → Shared → Prop} {d' : D} (hu : A.units + 9 < cLine) (I : Inv X pins σ H s) (d : DictAt H a o) (c : DicO o ks kv vv) (rk : Rps X.K ρ H ks kv) (rv : Rps X.K ρ H vs vv) (ry : Rp X.K ρ H kd y) (ru : RelV y u) (hk : kindOk kd ks = true)
    (hf : dfind ks vs kd = some d') (h : ∀ v w' s', Inv X pins σ H s' → Rp X.K ρ H d' v → RelV v w' → Q w' s') : wpAny (model X.prog X.w) A (getItem (.ref a) u) Q E s := by
  rcases dict_look I d c rk rv ry ru hk with ⟨i, kvs, _, g1, g2, _, g3⟩ | ⟨k, b, xs, rfl, _, _, _, _, g1, g2, _, g3⟩
  · rw [hf] at g3
    obtain ⟨w', v, e1, e2, e3⟩ := fnd_some g3
    exact wpAny_getItem_of g1 g2.mapOf e1 (h v w' _ (I.tok _) e2 e3)
  · rw [hf] at g3
    obtain ⟨w', v, e1, e2, e3⟩ := fnd_some g3
    obtain ⟨p, hp, hp2⟩ := Option.map_eq_some_iff.mp e1
    refine wpAny_getItem_heap (by show A.units + 1 + 8 < cLine; omega) g1 g2 hp ?_
    rw [hp2]
    exact h v w' _ (I.tok _) e2 e3
theorem dd_in {Q : Value → Shared → Prop} (hu : A.units + 9 < cLine) (I : Inv X pins σ H s) (d : DictAt H a o) (c : DicO o ks kv vv) (rk : Rps X.K ρ H ks kv) (rv : Rps X.K ρ H vs vv) (ry : Rp X.K ρ H kd y) (ru : RelV y u) (hk : kindOk kd ks = true)
    (neg : Bool) (h : ∀ s', Inv X pins σ H s' → Q (.bool (if neg then !(dfind ks vs kd).isSome else (dfind ks vs kd).isSome)) s') : wpAny (model X.prog X.w) A (compareOp (if neg then .NotIn else .In) u (.ref a)) Q E s := by
  rcases dict_look I d c rk rv ry ru hk with ⟨i, kvs, _, g1, g2, _, g3⟩ | ⟨k, b, xs, rfl, _, _, _, _, g1, g2, _, g3⟩
  · cases neg with
    | false => exact wpAny_in_of g1 d.2.1 g2.mapOf (by rw [fnd_is g3]; exact h _ (I.tok _))
    | true => exact wpAny_notIn_of g1 d.2.1 g2.mapOf (by rw [fnd_is g3]; exact h _ (I.tok _))
  · have e := fnd_is g3
    rw [Option.isSome_map] at e
    cases neg with
    | false => exact wpAny_in_heap (by show A.units + 1 + 8 < cLine; omega) g1 d.2.1 g2 (by rw [e]; exact h _ (I.tok _))
    | true => exact wpAny_notIn_heap (by show A.units + 1 + 8 < cLine; omega) g1 d.2.1 g2 (by rw [e]; exact h _ (I.tok _))
theorem dd_get1 {Q : Value → Shared → Prop} (hu : A.units + 9 < cLine) (I : Inv X pins σ H s) (d : DictAt H a o) (c : DicO o ks kv vv) (rk : Rps X.K ρ H ks kv) (rv : Rps X.K ρ H vs vv) (ry : Rp X.K ρ H kd y) (ru : RelV y u) (hk : kindOk kd ks = true)
    (h : ∀ v w' s', Inv X pins σ H s' → Rp X.K ρ H ((dfind ks vs kd).getD .non) v → RelV v w' → Q w' s') : wpAny (model X.prog X.w) A (call (.builtin "dict.get") [.ref a, u]) Q E s := by
  rcases dict_look I d c rk rv ry ru hk with ⟨i, kvs, _, g1, g2, _, g3⟩ | ⟨k, b, xs, rfl, _, _, _, _, g1, g2, _, g3⟩
  · obtain ⟨v, e1, e2⟩ := fnd_getD g3 (z := .non) (v := .non) (u' := .none) rfl rfl
    exact call_meetsIn PySem.F.slot_dict_get g2.typeIs PySem.F.entry_dict_get (PySem.F.args_dict_get_2 _ _) (meets_dict_get (intKind X.prog X.w) a g1 d.2.1) ⟨_, g2.mapOf, h v _ _ (I.tok _) e1 e2⟩
  · obtain ⟨v, e1, e2⟩ := fnd_getD g3 (z := .non) (v := .non) (u' := .none) rfl rfl
    exact call_meetsIn PySem.F.slot_dict_get g2.typeIs PySem.F.entry_dict_get (PySem.F.args_dict_get_2 _ _) (meetsH_dict_get (nestedKind X.prog X.w) a b d.2.1) ⟨by show A.units + 1 + 8 < cLine; omega, k, xs, g1, g2, h v _ _ (I.tok _) e1 e2⟩
theorem dd_get2 {Q : Value → Shared → Prop} {z : D} {zv : V} {r : Value} (hu : A.units + 9 < cLine) (I : Inv X pins σ H s) (d : DictAt H a o) (c : DicO o ks kv vv) (rk : Rps X.K ρ H ks kv) (rv : Rps X.K ρ H vs vv) (ry : Rp X.K ρ H kd y) (ru : RelV y u) (hk : kindOk kd ks = true)
    (rz : Rp X.K ρ H z zv) (rr : RelV zv r) (h : ∀ v w' s', Inv X pins σ H s' → Rp X.K ρ H ((dfind ks vs kd).getD z) v → RelV v w' → Q w' s') : wpAny (model X.prog X.w) A (call (.builtin "dict.get") [.ref a, u, r]) Q E s := by
  rcases dict_look I d c rk rv ry ru hk with ⟨i, kvs, _, g1, g2, _, g3⟩ | ⟨k, b, xs, rfl, _, _, _, _, g1, g2, _, g3⟩
  · obtain ⟨v, e1, e2⟩ := fnd_getD g3 rz rr
    exact call_meetsIn PySem.F.slot_dict_get g2.typeIs PySem.F.entry_dict_get (PySem.F.args_dict_get_3 _ _ _) (meets_dict_get_default (intKind X.prog X.w) a g1 d.2.1 r) ⟨_, g2.mapOf, h v _ _ (I.tok _) e1 e2⟩
  · obtain ⟨v, e1, e2⟩ := fnd_getD g3 rz rr
    exact call_meetsIn PySem.F.slot_dict_get g2.typeIs PySem.F.entry_dict_get (PySem.F.args_dict_get_3 _ _ _) (meetsH_dict_get_default (nestedKind X.prog X.w) a b d.2.1 r) ⟨by show A.units + 1 + 8 < cLine; omega, k, xs, g1, g2, h v _ _ (I.tok _) e1 e2⟩
end
end Ev

set_option Elab.async false
set_option linter.all false
set_option maxRecDepth 100000
set_option maxHeartbeats 1000000
namespace Ev
open PySem PySem.Spec PyProof.Rows L2
variable [TabsOf]
section
variable {K : PySem.W.Frag} {P : Program} {w : World} {ρ : Rho} {H : Hp}
theorem ent_of_int {es : List DictEntry} {kvs : List (Int × Value)} {ks vs : List D} (h : DR (RI K ρ H) ks vs kvs) : ∀ {es : List DictEntry}, Pairs (intKind P w) es kvs → (∀ e ∈ es, ∃ k, (intKind P w).is k e.key = true ∧ e.hash = (intKind P w).hash k) →
    ∃ kv vv, keyNs ks = some (kvs.map fun x => .num x.1) ∧ EntR es (kvs.map fun x => .num x.1) kv vv ∧ Rps K ρ H ks kv ∧ Rps K ρ H vs vv ∧ ks.all isNumK = true := by
  induction h with
  | nil => intro es p _; cases p; exact ⟨[], [], rfl, True.intro, rfl, rfl, rfl⟩
  | @cons k d x ks vs xs r _ ih =>
    intro es p q
    cases p with
    | @cons e _ es _ p1 p2 p3 =>
      obtain ⟨kv, vv, h1, h2, h3, h4, h5⟩ := ih p3 fun e he => q e (List.mem_cons_of_mem _ he)
      obtain ⟨rfl, v, r1, r2⟩ := r
      obtain ⟨j, j1, j2⟩ := q e List.mem_cons_self
      have ej : j = x.1 := (intKind P w).inj _ _ _ j1 p1
      subst ej
      have ht : ∃ t, e.key = .int x.1 t := Value.isInt_shape p1
      refine ⟨.int x.1 :: kv, v :: vv, ?_, ⟨fun w' => j2, ht, by rw [p2]; exact r2, h2⟩, ⟨_, _, rfl, rfl, h3⟩, ⟨_, _, rfl, r1, h4⟩, by simp [isNumK, h5]⟩
      unfold keyNs
      rw [h1]; rfl
theorem ent_of_tup {ks vs : List D} {xs : List (NestedKey × Addr × Value)} (h : DR (RT K ρ H) ks vs xs) :
    ∃ kv vv, keyNs ks = some (xs.map (·.1)) ∧ EntR (xs.map (entryOfKey (nestedKind P w))) (xs.map (·.1)) kv vv ∧ Rps K ρ H ks kv ∧ Rps K ρ H vs vv ∧ ks.all isTupK = true ∧ ks.all (keyOk 8) = true := by
  induction h with
  | nil => exact ⟨[], [], rfl, True.intro, rfl, rfl, rfl, rfl⟩
  | @cons k d x ks vs xs r _ ih =>
    obtain ⟨kv, vv, h1, h2, h3, h4, h5, h6⟩ := ih
    obtain ⟨r1, r2, r3, r4, v, r5, r6⟩ := r
    refine ⟨.ref x.2.1 :: kv, v :: vv, ?_, ⟨fun w' => hash_free k _ r3 w w', rfl, r6, h2⟩, ⟨_, _, rfl, r4, h3⟩, ⟨_, _, rfl, r5, h4⟩, by simp [r1, h5], by simp [r2]; simpa using h6⟩
    unfold keyNs
    rw [h1, r3]; rfl
/-- a dict in the heap, told in our words -/
def Told (K : PySem.W.Frag) (ρ : Rho) (H : Hp) (h : Heap) (a : Addr) (ks vs : List D) (o : Obj) (kv vv : List V) : Prop := h.get? a = some o ∧ (∃ es ep, o.data = .dict es ep) ∧ DicO o ks kv vv ∧ Rps K ρ H ks kv ∧ Rps K ρ H vs vv
theorem dic_of_int {h : Heap} {a : Addr} {kvs : List (Int × Value)} {ks vs : List D} (d : h.DictOf (intKind P w) a kvs) (r : DR (RI K ρ H) ks vs kvs) (hz : ks.length ≤ seqMax) : ∃ o kv vv, Told K ρ H h a ks vs o kv vv := by
  obtain ⟨o, es, ep, g1, g2, g3, g4, g5, g6⟩ := d
  obtain ⟨kv, vv, h1, h2, h3, h4, h5⟩ := ent_of_int (P := P) (w := w) (es := es.toList) r g5 fun e he => g4 e (by simpa using he)
  refine ⟨o, kv, vv, g1, ⟨es, ep, g3⟩, ⟨g2, hz, .inl h5, _, es, ep, h1, ?_, g3, h2⟩, h3, h4⟩
  have : (kvs.map fun x => NestedKey.num x.1) = (kvs.map (·.1)).map NestedKey.num := by simp
  rw [this]
  exact List.pairwise_map.mpr (g6.imp fun h e => h (by injection e))
theorem dic_of_tup {h : Heap} {a : Addr} {xs : List (NestedKey × Addr × Value)} {ks vs : List D} (d : h.DictOfH (nestedKind P w) a xs) (r : DR (RT K ρ H) ks vs xs) (hz : ks.length ≤ seqMax) : ∃ o kv vv, Told K ρ H h a ks vs o kv vv := by
  obtain ⟨o, es, ep, g1, g2, g3, g4, g5, g6⟩ := d
  obtain ⟨kv, vv, h1, h2, h3, h4, h5, h6⟩ := ent_of_tup (P := P) (w := w) r
  exact ⟨o, kv, vv, g1, ⟨es, ep, g3⟩, ⟨g2, hz, .inr ⟨h5, h6⟩, _, es, ep, h1, g6, g3, by rw [g4]; exact h2⟩, h3, h4⟩
end
section
variable {X : Cx} {pins : List (Addr × Obj)} {σ : L2.St} {H : Hp} {s : Shared} {ρ : Rho} {a : Addr} {o : Obj} {ks vs : List D} {kv vv : List V} {kd vd : D} {y v : V} {u r : Value}
variable {A : Around} {E : Value → Shared → Prop}
theorem dputK_len (ks vs : List D) (kd : D) : (dputK ks vs kd).length ≤ ks.length + 1 := by
  unfold dputK; split <;> simp
theorem find_any {α : Type} (p : α → Bool) : ∀ l : List α, (l.find? p).isSome = l.any p
  | [] => rfl
  | x :: r => by
    rw [List.find?_cons, List.any_cons, ← find_any p r]
    cases p x <;> rfl
/-- the dict at a is written -/
theorem dict_wr {h' : Heap} {t' : Nat} {ks' vs' : List D} {o' : Obj} {kv' vv' : List V} (I : Inv X pins σ H s) (d : DictAt H a o) (hs : Heap.SameBut a s.heap h') (t : Told X.K ρ H h' a ks' vs' o' kv' vv') :
    Inv X pins σ (upd H a (DX a o')) { s with heap := h', toks := t' } ∧ DictAt (upd H a (DX a o')) a o' := by
  refine ⟨d_write I (by rw [d.1]; exact True.intro) hs ⟨o', t.1⟩ ⟨t.1, ⟨o', t.1⟩, fun h1 h2 e k => k _ e⟩, upd_same, d.2.1, t.2.1, h', t.1⟩
/-- d[y] = v -/
theorem dd_setItem {Q : Unit → Shared → Prop} (hu : A.units + 9 < cLine) (I : Inv X pins σ H s) (d : DictAt H a o) (c : DicO o ks kv vv) (rk : Rps X.K ρ H ks kv) (rv : Rps X.K ρ H vs vv) (ry : Rp X.K ρ H kd y) (ru : RelV y u) (hk : kindOk kd ks = true) (hl : ks.length < seqMax)
    (rd : Rp X.K ρ H vd v) (rr : RelV v r)
    (h : ∀ o' kv' vv' s', Inv X pins σ (upd H a (DX a o')) s' → DictAt (upd H a (DX a o')) a o' → DicO o' (dputK ks vs kd) kv' vv' → Rps X.K ρ H (dputK ks vs kd) kv' → Rps X.K ρ H (dputV ks vs kd vd) vv' → Q () s') :
    wpAny (model X.prog X.w) A (setItem (.ref a) u r) Q E s := by
  have hz : seqMax ≤ sizeLine := by rw [sizeLine_eq]; decide
  rcases dict_look I d c rk rv ry ru hk with ⟨i, kvs, rfl, g1, g2, g4, g3⟩ | ⟨k, b, xs, rfl, rfl, k1, k2, k3, g1, g2, g4, g3⟩
  · refine wpAny_setItem_pairs (hsz := by rw [← g4.len]; omega) g1 g2 fun h' dd' hs => ?_
    have hp : ∀ k d x, RI X.K ρ H k d x → eqv k (.int i) = decide (x.1 = i) := fun k d x r => by rw [r.1]; simp [eqv]; rfl
    have new : DR (RI X.K ρ H) (dputK ks vs (.int i)) (dputV ks vs (.int i) vd) (stored kvs i r) := by
      unfold stored dputK
      rw [g4.any hp]
      cases q : kvs.any fun kv => decide (kv.1 = i) with
      | true =>
        have := g4.put (kd := .int i) (vd := vd) hp (by
          have nd : (kvs.map (·.1)).Nodup := by obtain ⟨_, _, _, _, _, _, _, _, nd⟩ := g2; exact nd
          refine (List.pairwise_map.mp nd).imp fun h e => ?_
          have e := of_decide_eq_true e
          exact decide_eq_false fun z => h (e.trans z.symm)) (fun x => (x.1, r)) (fun k d x z _ => ⟨z.1, v, rd, rr⟩) q
        simp only [if_true]
        simpa using this
      | false =>
        simp only [Bool.false_eq_true, if_false]
        exact g4.add hp ⟨rfl, v, rd, rr⟩ q
    obtain ⟨o', kv', vv', t⟩ := dic_of_int dd' new (by have := dputK_len ks vs (.int i); omega)
    obtain ⟨I', d'⟩ := dict_wr (t' := s.toks + 1) I d hs t
    exact h o' kv' vv' _ I' d' t.2.2.1 t.2.2.2.1 t.2.2.2.2
  · refine wpAny_setItem_heap (hsz := by rw [← g4.len]; omega) (by show A.units + 1 + 8 < cLine; omega) g1 g2 fun h' dd' hs => ?_
    have hp : ∀ k' d x, RT X.K ρ H k' d x → eqv k' kd = decide (x.1 = k) := fun k' d x r => eqv_key _ _ _ _ r.2.2.1 k1
    have new : DR (RT X.K ρ H) (dputK ks vs kd) (dputV ks vs kd vd) (storedH xs k b r) := by
      unfold storedH dputK
      have e : (atKey xs k).isSome = xs.any fun x => decide (x.1 = k) := by
        unfold atKey
        rw [Option.isSome_map, find_any]
      rw [g4.any hp, e]
      cases q : xs.any fun x => decide (x.1 = k) with
      | true =>
        have := g4.put (kd := kd) (vd := vd) hp (by
          have nd : (xs.map (·.1)).Nodup := by obtain ⟨_, _, _, _, _, _, _, _, nd⟩ := g2; exact nd
          refine (List.pairwise_map.mp nd).imp fun h e => ?_
          have e := of_decide_eq_true e
          exact decide_eq_false fun z => h (e.trans z.symm)) (fun x => (x.1, x.2.1, r)) (fun k d x z _ => ⟨z.1, z.2.1, z.2.2.1, z.2.2.2.1, v, rd, rr⟩) q
        simp only [if_true]
        unfold putAt
        simpa using this
      | false =>
        simp only [Bool.false_eq_true, if_false]
        exact g4.add hp ⟨k2, k3, k1, ry, v, rd, rr⟩ q
    obtain ⟨o', kv', vv', t⟩ := dic_of_tup dd' new (by have := dputK_len ks vs kd; omega)
    obtain ⟨I', d'⟩ := dict_wr (t' := s.toks + (nestedKind X.prog X.w).draws k) I d hs t
    exact h o' kv' vv' _ I' d' t.2.2.1 t.2.2.2.1 t.2.2.2.2
/-- the same by a comprehension -/
theorem dd_dictSet {Q : Unit → Shared → Prop} (hu : A.units + 9 < cLine) (I : Inv X pins σ H s) (d : DictAt H a o) (c : DicO o ks kv vv) (rk : Rps X.K ρ H ks kv) (rv : Rps X.K ρ H vs vv) (ry : Rp X.K ρ H kd y) (ru : RelV y u) (hk : kindOk kd ks = true) (hl : ks.length < seqMax)
    (rd : Rp X.K ρ H vd v) (rr : RelV v r)
    (h : ∀ o' kv' vv' s', Inv X pins σ (upd H a (DX a o')) s' → DictAt (upd H a (DX a o')) a o' → DicO o' (dputK ks vs kd) kv' vv' → Rps X.K ρ H (dputK ks vs kd) kv' → Rps X.K ρ H (dputV ks vs kd vd) vv' → Q () s') :
    wpAny (model X.prog X.w) A (dictSet a u r) Q E s := by
  have hz : seqMax ≤ sizeLine := by rw [sizeLine_eq]; decide
  rcases dict_look I d c rk rv ry ru hk with ⟨i, kvs, rfl, g1, g2, g4, g3⟩ | ⟨k, b, xs, rfl, rfl, k1, k2, k3, g1, g2, g4, g3⟩
  · refine wpAny_dictSet_pairs (hsz := by rw [← g4.len]; omega) g1 g2 fun h' dd' hs => ?_
    have hp : ∀ k d x, RI X.K ρ H k d x → eqv k (.int i) = decide (x.1 = i) := fun k d x r => by rw [r.1]; simp [eqv]; rfl
    have new : DR (RI X.K ρ H) (dputK ks vs (.int i)) (dputV ks vs (.int i) vd) (stored kvs i r) := by
      unfold stored dputK
      rw [g4.any hp]
      cases q : kvs.any fun kv => decide (kv.1 = i) with
      | true =>
        have := g4.put (kd := .int i) (vd := vd) hp (by
          have nd : (kvs.map (·.1)).Nodup := by obtain ⟨_, _, _, _, _, _, _, _, nd⟩ := g2; exact nd
          refine (List.pairwise_map.mp nd).imp fun h e => ?_
          have e := of_decide_eq_true e
          exact decide_eq_false fun z => h (e.trans z.symm)) (fun x => (x.1, r)) (fun k d x z _ => ⟨z.1, v, rd, rr⟩) q
        simp only [if_true]
        simpa using this
      | false =>
        simp only [Bool.false_eq_true, if_false]
        exact g4.add hp ⟨rfl, v, rd, rr⟩ q
    obtain ⟨o', kv', vv', t⟩ := dic_of_int dd' new (by have := dputK_len ks vs (.int i); omega)
    obtain ⟨I', d'⟩ := dict_wr (t' := s.toks + 1) I d hs t
    exact h o' kv' vv' _ I' d' t.2.2.1 t.2.2.2.1 t.2.2.2.2
  · refine wpAny_dictSet_heap (hsz := by rw [← g4.len]; omega) (by show A.units + 8 < cLine; omega) g1 g2 fun h' dd' hs => ?_
    have hp : ∀ k' d x, RT X.K ρ H k' d x → eqv k' kd = decide (x.1 = k) := fun k' d x r => eqv_key _ _ _ _ r.2.2.1 k1
    have new : DR (RT X.K ρ H) (dputK ks vs kd) (dputV ks vs kd vd) (storedH xs k b r) := by
      unfold storedH dputK
      have e : (atKey xs k).isSome = xs.any fun x => decide (x.1 = k) := by
        unfold atKey
        rw [Option.isSome_map, find_any]
      rw [g4.any hp, e]
      cases q : xs.any fun x => decide (x.1 = k) with
      | true =>
        have := g4.put (kd := kd) (vd := vd) hp (by
          have nd : (xs.map (·.1)).Nodup := by obtain ⟨_, _, _, _, _, _, _, _, nd⟩ := g2; exact nd
          refine (List.pairwise_map.mp nd).imp fun h e => ?_
          have e := of_decide_eq_true e
          exact decide_eq_false fun z => h (e.trans z.symm)) (fun x => (x.1, x.2.1, r)) (fun k d x z _ => ⟨z.1, z.2.1, z.2.2.1, z.2.2.2.1, v, rd, rr⟩) q
        simp only [if_true]
        unfold putAt
        simpa using this
      | false =>
        simp only [Bool.false_eq_true, if_false]
        exact g4.add hp ⟨k2, k3, k1, ry, v, rd, rr⟩ q
    obtain ⟨o', kv', vv', t⟩ := dic_of_tup dd' new (by have := dputK_len ks vs kd; omega)
    obtain ⟨I', d'⟩ := dict_wr (t' := s.toks + (nestedKind X.prog X.w).draws k) I d hs t
    exact h o' kv' vv' _ I' d' t.2.2.1 t.2.2.2.1 t.2.2.2.2
/-- an empty dict -/
def emptyD : Obj := { cls := .type "dict", data := .dict #[] }
theorem dic_empty : DicO emptyD [] [] [] := ⟨⟨rfl, rfl, rfl⟩, Nat.zero_le _, .inl rfl, [], #[], 0, rfl, List.nodup_nil, rfl, True.intro⟩
theorem pe_dnew {pos : Pos} : PE X (.Dict [] [] pos) (fun _ H Q => ∀ p, H p = none → DictAt (upd H p (DX p emptyD)) p emptyD → Q (.ref p) (upd H p (DX p emptyD))) := ⟨fun pins s σ H Q I h => by
  have e : (s.heap.push emptyD).get? s.heap.objs.size = some emptyD := Heap.get?_push_size _ rfl
  have I' : Inv X pins σ (upd H s.heap.objs.size (DX s.heap.objs.size emptyD)) { s with heap := s.heap.push emptyD } :=
    I.laid (a := s.heap.objs.size) (t' := s.toks) (fun _ _ q => Heap.get?_push_of_some _ q) (Nat.le_refl _) ⟨e, ⟨_, e⟩, fun h1 h2 e k => k _ e⟩
  exact wpAny_Dict_empty ⟨.ref s.heap.objs.size, _, I', rfl, h _ (I.hok.fresh (Nat.le_refl _)) ⟨upd_same, beq_eq_false_iff_ne.mpr (Ne.symm (Nat.ne_of_lt I.big)), ⟨#[], 0, rfl⟩, _, e⟩⟩⟩
/-- the way of a subscription -/
theorem tailD {value slice : Expr} {ov iv : Value} {T id : String} {Q : Value → Shared → Prop} (hT : s.TypeIs ov T) (hl : typeLookup (.type T) "__getitem__" = pure (some (.builtin id))) (hs : subscripted slice false ov iv = operate [ov, iv] (getItem ov iv))
    (h : wpAny (model X.prog X.w) A (getItem ov iv) Q E s) : wpAny (model X.prog X.w) A (subscriptTail value slice ov iv) Q E s := by
  unfold subscriptTail
  refine wpAny_bind ?_
  rw [getitemInPython_of_ne hT.not_modules]
  refine wpAny_bind (wpAny_specialOf hT hl ?_)
  have fin : wpAny (model X.prog X.w) A (subscripted slice false ov iv) (fun r s₃ => wpAny (model X.prog X.w) A (letTemporaryGo value ov r >>= fun _ => pure r) Q E s₃) E s := by
    rw [hs]
    exact wpAny_operating (wpAny_mono h (fun r s₃ h₃ => wpAny_bind (wpAny_letTemporaryGo (wpAny_pure h₃))) fun _ _ x => x)
  first
    | exact wpAny_pure (wpAny_bind fin)
    | exact wpAny_bind (wpAny_pure (wpAny_bind fin))
    | exact wpAny_bind fin
theorem dict_ty (I : Inv X pins σ H s) (d : DictAt H a o) (c : DicO o ks kv vv) : s.TypeIs (.ref a) "dict" ∧ ∃ ob, s.heap.get? a = some ob ∧ ob.dict = none :=
  ⟨⟨o, dict_here I d, c.1.1⟩, o, dict_here I d, c.1.2.1⟩
end
end Ev

set_option Elab.async false
set_option linter.all false
set_option maxRecDepth 100000
set_option maxHeartbeats 1000000
namespace Ev
open PySem PySem.Spec PyProof.Rows L2
variable [TabsOf]
/-- what follows from a result -/
def PostE (K : PySem.W.Frag) (E : Str → Hp → Prop) (ρ : Rho) (H : Hp) (r : R D) (Q : VK) : Prop := match r with
  | .ok d st' => ∀ v ρ' H', Ext ρ H ρ' H' → StR K ρ' H' st' → Rp K ρ' H' d v → Q v H'
  | .exc x st' => ∀ ρ' H', Ext ρ H ρ' H' → StR K ρ' H' st' → E x H'
  | .bad => False
/-! ### data -/
mutual
def toPy : D → PyData
  | .non => .none
  | .bl b => .bool b
  | .int i => .int i
  | .str s => .str s
  | .tup l => .tuple (toPys l)
  | .lst l => .list (toPys l)
  | _ => .none
def toPys : List D → List PyData
  | [] => []
  | d :: r => toPy d :: toPys r
end
variable {K : PySem.W.Frag}
mutual
theorem dp_of {ρ : Rho} {H : Hp} : ∀ (n : Nat) (d : D) (v : V), isData n d = true → Rp K ρ H d v → Dp K H v (toPy d) ∧ (toPy d).canLay0 = true ∧ (toPy d).depth ≤ n
  | n, .non, _, _, h => by cases (show _ = _ from h); exact ⟨.non, by simp [toPy, PyData.canLay0], by simp [toPy, PyData.depth]⟩
  | n, .bl b, _, _, h => by cases (show _ = _ from h); exact ⟨.bl b, by simp [toPy, PyData.canLay0], by simp [toPy, PyData.depth]⟩
  | n, .int b, _, _, h => by cases (show _ = _ from h); exact ⟨.int b, by simp [toPy, PyData.canLay0], by simp [toPy, PyData.depth]⟩
  | n, .str b, _, e, h => by
    cases (show _ = _ from h)
    refine ⟨.str b, ?_, by simp [toPy, PyData.depth]⟩
    have e : (b.cps.toList.all fun c => Nat.blt c 0x110000) = true := by cases n <;> exact e
    rw [List.all_eq_true] at e
    simp only [toPy, PyData.canLay0, PyData.strOk]
    rw [← Array.all_toList, List.all_eq_true]
    intro c hc
    have := e c hc
    simp [Nat.blt] at this
    simp
    omega
  | n + 1, .tup l, _, e, ⟨a, vs, h1, h2, _, h4⟩ => by
    subst h1
    obtain ⟨q1, q2, q3⟩ := dps_of n l vs (by simpa [isData] using e) h4
    exact ⟨by rw [toPy]; exact .tup (.of h2) q1, by simpa [toPy, PyData.canLay0] using q2, by simp only [toPy, PyData.depth]; omega⟩
  | n + 1, .lst l, _, e, ⟨a, vs, h1, h2, _, h4⟩ => by
    subst h1
    obtain ⟨q1, q2, q3⟩ := dps_of n l vs (by simpa [isData] using e) h4
    exact ⟨by rw [toPy]; exact .lst (.of h2) q1, by simpa [toPy, PyData.canLay0] using q2, by simp only [toPy, PyData.depth]; omega⟩
  | 0, .tup l, _, e, _ => by simp [isData] at e
  | 0, .lst l, _, e, _ => by simp [isData] at e
  | n, .ref k, _, e, _ => by simp [isData] at e
  | n, .rng _ _, _, e, _ => by simp [isData] at e
  | n, .scr _, _, e, _ => by simp [isData] at e
  | n, .fn _, _, e, _ => by simp [isData] at e
  | n, .dic _ _, _, e, _ => by simp [isData] at e
theorem dps_of {ρ : Rho} {H : Hp} : ∀ (n : Nat) (l : List D) (vs : List V), (∀ x ∈ l, isData n x = true) → Rps K ρ H l vs → DpAll K H vs (toPys l) ∧ PyData.canLayAll0 (toPys l) = true ∧ PyData.depthAll (toPys l) ≤ n
  | n, [], _, _, h => by cases (show _ = [] from h); exact ⟨.nil, by simp [toPys, PyData.canLayAll0], by simp [toPys, PyData.depthAll]⟩
  | n, d :: ds, _, e, ⟨v, r, h1, h2, h3⟩ => by
    subst h1
    obtain ⟨p1, p2, p3⟩ := dp_of n d v (e d List.mem_cons_self) h2
    obtain ⟨q1, q2, q3⟩ := dps_of n ds r (fun x hx => e x (List.mem_cons_of_mem _ hx)) h3
    exact ⟨.cons p1 q1, by simp [toPys, PyData.canLayAll0, p2, q2], by simp only [toPys, PyData.depthAll]; omega⟩
end
theorem shaped_of {d : PyData} (h1 : d.canLay0 = true) (h2 : d.depth ≤ 50) : SeqAt.shaped d = true := by
  unfold SeqAt.shaped
  rw [h1, decide_eq_true (by omega)]; rfl
mutual
theorem eqv_py : ∀ (n : Nat) (a b : D), isData n a = true → isData n b = true → PyData.eqv (toPy a) (toPy b) = eqv a b
  | n, .non, b, _, hb => by cases b <;> simp_all [toPy, eqv, PyData.eqv, isData]
  | n, .bl x, b, _, hb => by cases b <;> simp_all [toPy, eqv, PyData.eqv, isData]
  | n, .int x, b, _, hb => by cases b <;> simp_all [toPy, eqv, PyData.eqv, isData]
  | n, .str x, b, _, hb => by cases b <;> simp_all [toPy, eqv, PyData.eqv, isData, eqS_eq]
  | n, .tup l, b, ha, hb => by
    cases b with
    | tup m =>
      cases n with
      | zero => simp [isData] at ha
      | succ n =>
        rw [toPy, toPy, PyData.eqv, eqv]
        exact eqvs_py n l m (by simpa [isData] using ha) (by simpa [isData] using hb)
    | _ => simp_all [toPy, eqv, PyData.eqv, isData]
  | n, .lst l, b, ha, hb => by
    cases b with
    | lst m =>
      cases n with
      | zero => simp [isData] at ha
      | succ n =>
        rw [toPy, toPy, PyData.eqv, eqv]
        exact eqvs_py n l m (by simpa [isData] using ha) (by simpa [isData] using hb)
    | _ => simp_all [toPy, eqv, PyData.eqv, isData]
  | n, .ref k, _, e, _ => by simp [isData] at e
  | n, .rng _ _, _, e, _ => by simp [isData] at e
  | n, .scr _, _, e, _ => by simp [isData] at e
  | n, .fn _, _, e, _ => by simp [isData] at e
  | n, .dic _ _, _, e, _ => by simp [isData] at e
theorem eqvs_py : ∀ (n : Nat) (l m : List D), (∀ x ∈ l, isData n x = true) → (∀ x ∈ m, isData n x = true) → PyData.eqvAll (toPys l) (toPys m) = eqvs l m
  | n, [], [], _, _ => by simp [toPys, eqvs, PyData.eqvAll]
  | n, [], _ :: _, _, _ => by simp [toPys, eqvs, PyData.eqvAll]
  | n, _ :: _, [], _, _ => by simp [toPys, eqvs, PyData.eqvAll]
  | n, x :: xs, y :: ys, hx, hy => by
    rw [toPys, toPys, PyData.eqvAll, eqvs, eqv_py n x y (hx x List.mem_cons_self) (hy y List.mem_cons_self),
      eqvs_py n xs ys (fun z hz => hx z (List.mem_cons_of_mem _ hz)) (fun z hz => hy z (List.mem_cons_of_mem _ hz))]
end
theorem any_py {n : Nat} {a : D} (ha : isData n a = true) : ∀ {l : List D}, (∀ x ∈ l, isData n x = true) → ((toPys l).any fun z => PyData.eqv z (toPy a)) = l.any fun z => eqv z a
  | [], _ => rfl
  | x :: xs, h => by
    rw [toPys, List.any_cons, List.any_cons, eqv_py n x a (h x List.mem_cons_self) ha, any_py ha (fun z hz => h z (List.mem_cons_of_mem _ hz))]
/-- a cell read off -/
theorem deref_rp {ρ : Rho} {H : Hp} {st : Store} {d : D} {v : V} {n : Nat} (s : StR K ρ H st) (r : Rp K ρ H d v) (hd : isData (n + 1) (deref d st) = true) :
    Dp K H v (toPy (deref d st)) ∧ (toPy (deref d st)).canLay0 = true ∧ (toPy (deref d st)).depth ≤ n + 1 := by
  cases d with
  | ref k =>
    cases q : st[k]? with
    | none => simp [deref, q, isData] at hd
    | some c =>
      cases c with
      | gone => simp [deref, q, isData] at hd
      | dic _ _ => simp [deref, q, isData] at hd
      | lst l =>
        have e : deref (.ref k) st = .lst l := by simp [deref, q]
        rw [e] at hd ⊢
        obtain ⟨a, vs, h1, h2, h3⟩ := r.seqL s (show seqL (.ref k) st = some l by simp [seqL, q])
        subst h1
        obtain ⟨q1, q2, q3⟩ := dps_of n l vs (by simpa [isData] using hd) h3
        exact ⟨by rw [toPy]; exact .lst (.of h2) q1, by simpa [toPy, PyData.canLay0] using q2, by simp only [toPy, PyData.depth]; omega⟩
  | _ => exact dp_of (n + 1) _ v hd r

section
variable {X : Cx} {E : Str → Hp → Prop}
/-- the reading of a two-place operation on related values -/
def rOp (K : PySem.W.Frag) (E : Str → Hp → Prop) (f : D → D → Store → R D) : R2 := fun x y H Q =>
  ∃ ρ st a b, StR K ρ H st ∧ Rp K ρ H a x ∧ Rp K ρ H b y ∧ PostE K E ρ H (f a b st) Q
theorem PostE.here {ρ : Rho} {H : Hp} {d : D} {st : Store} {Q : VK} {v : V} (p : PostE K E ρ H (.ok d st) Q) (s : StR K ρ H st) (r : Rp K ρ H d v) : Q v H := p v ρ H (.refl ρ H) s r
/-- a new object holds the answer -/
theorem PostE.new {ρ : Rho} {H : Hp} {d : D} {st : Store} {Q : VK} {p : Addr} {o : HO} (q : PostE K E ρ H (.ok d st) Q) (s : StR K ρ H st) (h : H p = none)
    (r : Ext ρ H ρ (upd H p o) → ρ.off p → Rp K ρ (upd H p o) d (.ref p)) : Q (.ref p) (upd H p o) := by
  obtain ⟨e, s', n⟩ := s.laid (o := o) h
  exact q _ ρ _ e s' (r e n)
theorem line_ok : seqMax ≤ sizeLine := by rw [sizeLine_eq]; decide
theorem binop_ok (op : Operator) : OpR X (binaryOp op) (rOp X.K E (binop op)) := by
  intro pins s σ H x y v u Q I rx ry h
  obtain ⟨ρ, st, a, b, sr, ra, rb, p⟩ := h
  have hz := line_ok
  -- + of lists
  have addL : ∀ a b, Rp X.K ρ H a x → Rp X.K ρ H b y → PostE X.K E ρ H (match seqL a st, seqL b st with
      | some xs, some ys => if xs.length + ys.length ≤ seqMax then .ok (.lst (xs ++ ys)) st else .bad
      | _, _ => .bad) Q → wpAny (model X.prog X.w) X.A (binaryOp .Add v u) (EP X pins σ Q) X.xe s := by
    intro a b ra rb p
    cases e1 : seqL a st with
    | none => rw [e1] at p; exact p.elim
    | some xs =>
      cases e2 : seqL b st with
      | none => rw [e1, e2] at p; exact p.elim
      | some ys =>
        rw [e1, e2] at p
        by_cases hl : xs.length + ys.length ≤ seqMax
        · simp only [hl, if_true] at p
          obtain ⟨a1, vs, ex, hx, rvs⟩ := ra.seqL sr e1
          obtain ⟨b1, ws, ey, hy, rws⟩ := rb.seqL sr e2
          subst ex ey
          exact op_cat pins s σ H _ _ v u Q I rx ry ⟨a1, b1, vs, ws, rfl, rfl, hx, hy, by rw [← rvs.length, ← rws.length]; omega, fun q hq =>
            p.new sr hq fun e n => ⟨q, vs ++ ws, rfl, upd_same, n, (rvs.ext e _ _).append (rws.ext e _ _)⟩⟩
        · simp only [hl, if_false] at p; exact p.elim
  cases op with
  | Add =>
    cases a with
    | int i =>
      cases b with
      | int j =>
        cases (show x = _ from ra); cases (show y = _ from rb)
        exact op_add pins s σ H _ _ v u Q I rx ry ⟨i, j, rfl, rfl, p.here sr rfl⟩
      | _ => exact addL _ _ ra rb p
    | str i =>
      cases b with
      | str j =>
        cases (show x = _ from ra); cases (show y = _ from rb)
        by_cases hl : i.length + j.length ≤ seqMax
        · simp only [binop, hl, if_true] at p
          exact op_add_str pins s σ H _ _ v u Q I rx ry ⟨i, j, rfl, rfl, by omega, p.here sr rfl⟩
        · simp only [binop, hl, if_false] at p; exact p.elim
      | _ => exact addL _ _ ra rb p
    | tup xs =>
      cases b with
      | tup ys =>
        by_cases hl : xs.length + ys.length ≤ seqMax
        · simp only [binop, hl, if_true] at p
          obtain ⟨a1, vs, ex, hx, nx, rvs⟩ := ra
          obtain ⟨b1, ws, ey, hy, ny, rws⟩ := rb
          subst ex ey
          refine op_catA pins s σ H _ _ v u Q I rx ry ⟨a1, b1, vs, ws, rfl, rfl, .of hx, .of hy, by rw [← rvs.length, ← rws.length]; omega, fun e0 => ?_, fun e0 e1 => ?_, fun e0 e1 q hq => ?_⟩
          · subst e0
            have ex : xs = [] := List.eq_nil_of_length_eq_zero (by rw [rvs.length]; rfl)
            subst ex
            exact p.here sr ⟨b1, ws, rfl, hy, ny, rws⟩
          · subst e1
            have ey : ys = [] := List.eq_nil_of_length_eq_zero (by rw [rws.length]; rfl)
            subst ey
            rw [List.append_nil] at p
            exact p.here sr ⟨a1, vs, rfl, hx, nx, rvs⟩
          · exact p.new sr hq fun e n => ⟨q, vs ++ ws, rfl, upd_same, n, (rvs.ext e _ _).append (rws.ext e _ _)⟩
        · simp only [binop, hl, if_false] at p; exact p.elim
      | _ => exact addL _ _ ra rb p
    | non => cases b <;> exact addL _ _ ra rb p
    | bl _ => cases b <;> exact addL _ _ ra rb p
    | lst _ => cases b <;> exact addL _ _ ra rb p
    | ref _ => cases b <;> exact addL _ _ ra rb p
    | rng _ _ => cases b <;> exact addL _ _ ra rb p
    | scr _ => cases b <;> exact addL _ _ ra rb p
    | fn _ => cases b <;> exact addL _ _ ra rb p
    | dic _ _ => cases b <;> exact addL _ _ ra rb p
  | Sub =>
    cases a with
    | int i =>
      cases b with
      | int j =>
        cases (show x = _ from ra); cases (show y = _ from rb)
        exact op_sub pins s σ H _ _ v u Q I rx ry ⟨i, j, rfl, rfl, p.here sr rfl⟩
      | _ => exact p.elim
    | _ => cases b <;> exact p.elim
  | Mult =>
    cases a with
    | int i =>
      cases b with
      | int j =>
        cases (show x = _ from ra); cases (show y = _ from rb)
        simp only [binop] at p
        split at p
        · rename_i hc
          simp only [Bool.or_eq_true, Bool.and_eq_true, decide_eq_true_eq] at hc
          rcases hc with (hc | hc) | hc
          · exact op_mul pins s σ H _ _ v u Q I rx ry ⟨i, j, rfl, rfl, .inl hc, p.here sr rfl⟩
          · exact op_mul pins s σ H _ _ v u Q I rx ry ⟨i, j, rfl, rfl, .inr hc, p.here sr rfl⟩
          · exact op_mulW pins s σ H _ _ v u Q I rx ry ⟨i, j, rfl, rfl, hc, p.here sr rfl⟩
        · exact p.elim
      | _ => exact p.elim
    | tup xs =>
      cases b with
      | int k =>
        simp only [binop] at p
        split at p
        · rename_i hc
          obtain ⟨h1, h2, h3, h4⟩ := hc
          obtain ⟨a1, vs, ex, hx, nx, rvs⟩ := ra
          cases (show y = _ from rb)
          subst ex
          refine op_repT pins s σ H _ _ v u Q I rx ry ⟨a1, k, vs, rfl, rfl, .of hx, fun z => ?_, h3, h4, by rw [← rvs.length]; exact h1, fun q hq => ?_⟩
          · subst z
            have ex : xs = [] := List.eq_nil_of_length_eq_zero (by rw [rvs.length]; rfl)
            subst ex
            simp at h2
          · exact p.new sr hq fun e n => ⟨q, _, rfl, upd_same, n, (rvs.ext e _ _).rep _⟩
        · exact p.elim
      | _ => exact p.elim
    | lst xs =>
      cases b with
      | int k =>
        simp only [binop] at p
        split at p
        · rename_i hc
          obtain ⟨h1, h2, h3⟩ := hc
          obtain ⟨a1, vs, ex, hx, nx, rvs⟩ := ra
          cases (show y = _ from rb)
          subst ex
          refine op_rep pins s σ H _ _ v u Q I rx ry ⟨a1, k, vs, rfl, rfl, hx, by omega, by omega, ?_, fun q hq => ?_⟩
          · rw [← rvs.length, sizeLine_eq]
            have e1 : xs.length * k.toNat ≤ 1000 * 1000 := Nat.mul_le_mul h1 (by omega)
            omega
          · exact p.new sr hq fun e n => ⟨q, _, rfl, upd_same, n, (rvs.ext e _ _).rep _⟩
        · exact p.elim
      | _ => exact p.elim
    | _ => cases b <;> exact p.elim
  | FloorDiv =>
    cases a with
    | int i =>
      cases b with
      | int j =>
        cases (show x = _ from ra); cases (show y = _ from rb)
        simp only [binop] at p
        split at p
        · rename_i hc
          simp only [Bool.and_eq_true, decide_eq_true_eq] at hc
          exact op_fdivW pins s σ H _ _ v u Q I rx ry ⟨i, j, rfl, rfl, hc, p.here sr rfl⟩
        · exact p.elim
      | _ => exact p.elim
    | _ => cases b <;> exact p.elim
  | Mod =>
    cases a with
    | int i =>
      cases b with
      | int j =>
        cases (show x = _ from ra); cases (show y = _ from rb)
        simp only [binop] at p
        split at p
        · rename_i hc
          exact op_mod pins s σ H _ _ v u Q I rx ry ⟨i, j, rfl, rfl, hc, p.here sr rfl⟩
        · exact p.elim
      | _ => exact p.elim
    | _ => cases b <;> exact p.elim
  | Pow =>
    cases a with
    | int i =>
      cases b with
      | int j =>
        cases (show x = _ from ra); cases (show y = _ from rb)
        simp only [binop] at p
        split at p
        · rename_i hc
          exact op_pow pins s σ H _ _ v u Q I rx ry ⟨i, j, rfl, rfl, hc, p.here sr rfl⟩
        · exact p.elim
      | _ => exact p.elim
    | _ => cases b <;> exact p.elim
  | _ => cases a <;> cases b <;> exact p.elim
end
end Ev

set_option Elab.async false
set_option linter.all false
set_option maxRecDepth 100000
set_option maxHeartbeats 1000000
namespace Ev
open PySem PySem.Spec PyProof.Rows L2
variable [TabsOf]
variable {K : PySem.W.Frag}
section
variable {X : Cx} {E : Str → Hp → Prop}
theorem isOp_ok {ρ : Rho} {H : Hp} {st : Store} {a b : D} {x y : V} {k : Bool} (sr : StR K ρ H st) (ra : Rp K ρ H a x) (rb : Rp K ρ H b y) (e : isOp a b st = some k) :
    (∃ p q, x = .bl p ∧ y = .bl q ∧ k = decide (p = q)) ∨ (y = .non ∧ k = decide (x = .non)) := by
  cases b with
  | bl q =>
    cases a with
    | bl p =>
      cases (show x = _ from ra); cases (show y = _ from rb)
      cases e
      exact .inl ⟨p, q, rfl, rfl, rfl⟩
    | _ => cases e
  | non =>
    cases (show y = _ from rb)
    refine .inr ⟨rfl, ?_⟩
    cases a with
    | non => cases (show x = _ from ra); cases e; simp
    | bl p => cases (show x = _ from ra); cases e; simp
    | int p => cases (show x = _ from ra); cases e; simp
    | str p => cases (show x = _ from ra); cases e; simp
    | tup p => obtain ⟨c, _, rfl, _⟩ := ra; cases e; simp
    | lst p => obtain ⟨c, _, rfl, _⟩ := ra; cases e; simp
    | ref p =>
      simp only [isOp] at e
      split at e
      · rename_i l hl
        obtain ⟨c, _, rfl, _⟩ := ra.seqL sr (show seqL (.ref p) st = some l by simp [seqL, hl])
        cases e; simp
      · cases e
    | rng _ _ => cases e
    | scr _ => cases e
    | fn _ => cases e
    | dic _ _ => cases e
  | _ => cases a <;> cases e
theorem in_ok (hu : X.A.units + 65 < cLine) {neg : Bool} {pins : List (Addr × Obj)} {s : Shared} {σ : L2.St} {H : Hp} {x y : V} {v u : Value} {Q : VK} {ρ : Rho} {st : Store} {a b : D} {l : List D}
    (I : Inv X pins σ H s) (rx : RelV x v) (ry : RelV y u) (sr : StR X.K ρ H st) (ra : Rp X.K ρ H a x) (rb : Rp X.K ρ H b y) (e : seqLT b st = some l) (ha : isData 50 a = true) (hl : ∀ z ∈ l, isData 50 z = true)
    (q : Q (.bl (if neg then !(l.any fun z => eqv z a) else l.any fun z => eqv z a)) H) : wpAny (model X.prog X.w) X.A (compareOp (if neg then .NotIn else .In) v u) (EP X pins σ Q) X.xe s := by
  obtain ⟨d1, d2, d3⟩ := dp_of 50 a x ha ra
  obtain ⟨c, vs, rfl, hc, rl⟩ := rb.seqLT sr e
  obtain ⟨l1, l2, l3⟩ := dps_of 50 l vs hl rl
  obtain ⟨as, r1⟩ := Dp.reads I (toPy a) x v d1 rx
  have hroom : X.A.units + 1 + min (PyData.depthAll (toPys l)) (toPy a).depth < cLine := by omega
  rw [← any_py ha hl] at q
  rcases hc with hc | hc
  · obtain ⟨bs, r2⟩ := Dp.reads I (.list (toPys l)) (.ref c) u (.lst (.of hc) l1) ry
    cases neg with
    | false => exact SeqAt.in_list_reads r2 r1 l2 d2 hroom ⟨.bl _, H, I, rfl, q⟩
    | true => exact SeqAt.notIn_list_reads r2 r1 l2 d2 hroom ⟨.bl _, H, I, rfl, q⟩
  · obtain ⟨bs, r2⟩ := Dp.reads I (.tuple (toPys l)) (.ref c) u (.tup (.of hc) l1) ry
    cases neg with
    | false => exact SeqAt.in_tuple_reads r2 r1 l2 d2 hroom ⟨.bl _, H, I, rfl, q⟩
    | true => exact SeqAt.notIn_tuple_reads r2 r1 l2 d2 hroom ⟨.bl _, H, I, rfl, q⟩
/-- in, not in of a dict -/
theorem inD_ok (hu : X.A.units + 65 < cLine) {neg : Bool} {pins : List (Addr × Obj)} {s : Shared} {σ : L2.St} {H : Hp} {x y : V} {v u : Value} {Q : VK} {ρ : Rho} {st : Store} {a b : D}
    (I : Inv X pins σ H s) (rx : RelV x v) (ry : RelV y u) (sr : StR X.K ρ H st) (ra : Rp X.K ρ H a x) (rb : Rp X.K ρ H b y)
    (p : PostE X.K E ρ H (match dicOf b st with
      | some (ks, vs) => if kindOk a ks = true then .ok (.bl (if neg then !(dfind ks vs a).isSome else (dfind ks vs a).isSome)) st else .bad
      | none => .bad) Q) : wpAny (model X.prog X.w) X.A (compareOp (if neg then .NotIn else .In) v u) (EP X pins σ Q) X.xe s := by
  cases hd : dicOf b st with
  | none => rw [hd] at p; exact p.elim
  | some q =>
    obtain ⟨ks, vs⟩ := q
    rw [hd] at p
    dsimp only at p
    split at p
    · rename_i hk
      obtain ⟨c, o, kv, vv, rfl, d1, d2, d3, d4⟩ := rb.dicOf sr hd
      cases (show u = Value.ref c from ry)
      exact dd_in (by omega) I d1 d2 d3 d4 ra rx hk neg fun s' I' => ⟨.bl _, H, I', rfl, p.here (K := X.K) (d := .bl _) sr rfl⟩
    · exact p.elim
theorem cmpop_ok (hu : X.A.units + 65 < cLine) (op : CmpOp) : OpR X (compareOp op) (rOp X.K E (cmpop op)) := by
  intro pins s σ H x y v u Q I rx ry h
  obtain ⟨ρ, st, a, b, sr, ra, rb, p⟩ := h
  have int2 : ∀ {g : Int → Int → Bool} {op : CmpOp}, OpR X (compareOp op) (rI0 fun i j => .bl (g i j)) → ∀ (i j : Int), a = .int i → b = .int j → PostE X.K E ρ H (.ok (.bl (g i j)) st) Q → wpAny (model X.prog X.w) X.A (compareOp op v u) (EP X pins σ Q) X.xe s := by
    intro g op hop i j ea eb p2
    subst ea eb
    cases (show x = _ from ra); cases (show y = _ from rb)
    exact hop pins s σ H _ _ v u Q I rx ry ⟨i, j, rfl, rfl, p2.here (K := X.K) (d := .bl (g i j)) sr rfl⟩
  cases op with
  | Eq =>
    simp only [cmpop] at p
    split at p
    · rename_i hc
      simp only [Bool.and_eq_true] at hc
      obtain ⟨a1, a2, a3⟩ := deref_rp (n := 49) sr ra hc.1
      obtain ⟨b1, b2, b3⟩ := deref_rp (n := 49) sr rb hc.2
      refine op_eqD (by omega) pins s σ H _ _ v u Q I rx ry ⟨_, _, a1, b1, shaped_of a2 a3, shaped_of b2 b3, ?_⟩
      rw [eqv_py 50 _ _ hc.1 hc.2]
      exact p.here sr rfl
    · exact p.elim
  | NotEq =>
    simp only [cmpop] at p
    split at p
    · rename_i hc
      simp only [Bool.and_eq_true] at hc
      obtain ⟨a1, a2, a3⟩ := deref_rp (n := 49) sr ra hc.1
      obtain ⟨b1, b2, b3⟩ := deref_rp (n := 49) sr rb hc.2
      refine op_neD (by omega) pins s σ H _ _ v u Q I rx ry ⟨_, _, a1, b1, shaped_of a2 a3, shaped_of b2 b3, ?_⟩
      rw [eqv_py 50 _ _ hc.1 hc.2]
      exact p.here sr rfl
    · exact p.elim
  | Is =>
    simp only [cmpop] at p
    split at p
    · rename_i k hk
      rcases isOp_ok sr ra rb hk with ⟨i, j, ex, ey, ek⟩ | ⟨ey, ek⟩
      · subst ex ey ek
        exact op_isBl pins s σ H _ _ v u Q I rx ry ⟨i, j, rfl, rfl, p.here sr rfl⟩
      · subst ey ek
        exact op_isN pins s σ H _ _ v u Q I rx ry ⟨rfl, p.here sr rfl⟩
    · exact p.elim
  | IsNot =>
    simp only [cmpop] at p
    split at p
    · rename_i k hk
      rcases isOp_ok sr ra rb hk with ⟨i, j, ex, ey, ek⟩ | ⟨ey, ek⟩
      · subst ex ey ek
        exact op_notBl pins s σ H _ _ v u Q I rx ry ⟨i, j, rfl, rfl, p.here sr rfl⟩
      · subst ey ek
        exact op_notN pins s σ H _ _ v u Q I rx ry ⟨rfl, p.here sr rfl⟩
    · exact p.elim
  | In =>
    simp only [cmpop] at p
    split at p
    · rename_i l hl
      split at p
      · rename_i hc
        simp only [Bool.and_eq_true, List.all_eq_true] at hc
        exact in_ok (neg := false) hu I rx ry sr ra rb hl hc.1 hc.2 (p.here sr rfl)
      · exact p.elim
    · exact inD_ok (neg := false) hu I rx ry sr ra rb p
  | NotIn =>
    simp only [cmpop] at p
    split at p
    · rename_i l hl
      split at p
      · rename_i hc
        simp only [Bool.and_eq_true, List.all_eq_true] at hc
        exact in_ok (neg := true) hu I rx ry sr ra rb hl hc.1 hc.2 (p.here sr rfl)
      · exact p.elim
    · exact inD_ok (neg := true) hu I rx ry sr ra rb p
  | Lt =>
    simp only [cmpop] at p
    split at p
    · exact int2 op_lt _ _ rfl rfl p
    · rename_i xs ys
      split at p
      · rename_i ns ms h1 h2
        obtain ⟨a1, vs, ex, hx, nx, rvs⟩ := ra
        obtain ⟨b1, ws, ey, hy, ny, rws⟩ := rb
        subst ex ey
        rw [intsOf_ok rvs h1] at hx
        rw [intsOf_ok rws h2] at hy
        exact op_ltT (by omega) pins s σ H _ _ v u Q I rx ry ⟨a1, b1, ns, ms, rfl, rfl, .of hx, .of hy, p.here sr rfl⟩
      · exact p.elim
    · exact p.elim
  | LtE =>
    simp only [cmpop] at p
    split at p
    · exact int2 op_le _ _ rfl rfl p
    · exact p.elim
  | Gt =>
    simp only [cmpop] at p
    split at p
    · exact int2 op_gt _ _ rfl rfl p
    · exact p.elim
  | GtE =>
    simp only [cmpop] at p
    split at p
    · exact int2 op_ge _ _ rfl rfl p
    · exact p.elim
end
end Ev

set_option Elab.async false
set_option linter.all false
set_option maxRecDepth 100000
/-! set(xs) of a list of ints, told as SetR (so that it may be walked, sorted). -/
namespace Ev
open PySem PySem.Spec PyProof.Rows L2
variable [TabsOf]
abbrev noSet (w : World) : Obj := { cls := .type "set", dict := none, data := .set #[] 0 (.fresh 0 0 (!w.params.followText "set-order")) }
abbrev Heap.withSet (h : Heap) (w : World) : Heap := h.push (noSet w)
section
variable {P : Program} {w : World} {A : Around} {E : Value → Shared → Prop} {s : Shared}
theorem push_sz (h : Heap) (o : Obj) : (h.push o).objs.size = h.objs.size + 1 := Heap.size_push ..
set_option maxHeartbeats 3200000 in
theorem set_of_list {l : Addr} {its : Array Value} (ns : List Int) {Q : Value → Shared → Prop} (hd : A.handled = none) (hl : s.heap.IsList l its) (hi : IntsAre its.toList ns) (few : ns.length + 1 < scanBound)
    (fin : ∀ (h' : Heap) (tk c : Nat), SetR w h' s.heap.objs.size (fun j => decide (j ∈ ns)) c → c ≤ ns.length → (∀ b o, s.heap.get? b = some o → h'.get? b = some o) → Q (.ref s.heap.objs.size) { s with heap := h', toks := tk }) :
    wpAny (model P w) A (call (.type "set") [.ref l]) Q E s := by
  have size_its : its.size = ns.length := (Array.length_toList).symm.trans (IntsAre.length hi)
  obtain ⟨c, tl, m0⟩ := F.called_set.mro; have m1 := F.called_set.made; have m2 := F.called_set.sub
  refine wpAny_call (codeAny_of_tree ?_); show wpAny _ _ (callAny (.type "set") _) _ _ _
  refine wpAny_pure ⟨Code.quiet_builtin _ (by decide +kernel), codeAny_builtin F.entry_type_call ?_⟩; rw [Around.under_plain (weight_type_call_type "set" [.ref l] []) rfl]
  have m3 := F.called_set.notType; have m4 := F.called_set.canCreate; have m5 := F.typeCall_set_1 (.ref l)
  repeat (any_goals (first | assumption | wp_step))
  refine codeAny_mono (code_set_led1 (.ref l) (E := E) (Q₁ := fun ob s₁ => ob = .ref s.heap.objs.size ∧ s₁ = { s with heap := Heap.withSet s.heap w }) ⟨rfl, rfl⟩) fun r s₁ hr => ?_
  cases r with
  | error e => exact hr
  | ok fl =>
    cases fl with
    | next => exact hr.elim
    | brk => exact hr.elim
    | cont => exact hr.elim
    | ret ob =>
      obtain ⟨rfl, rfl⟩ := hr
      have at0 : (Heap.withSet s.heap w).get? s.heap.objs.size = some (noSet w) := Heap.get?_push_size _ rfl
      have ty : Shared.TypeIs { s with heap := Heap.withSet s.heap w } (.ref s.heap.objs.size) "set" := ⟨_, at0, rfl⟩
      have m6 := F.called_set.init.lookup; have m7 := F.called_set.init.bind (.ref s.heap.objs.size)
      repeat (any_goals (first | assumption | wp_step))
      refine codeAny_mono (codeAny_call_builtin (R := wants (fun r s₂ => r = .none ∧ ∃ h' tk c, s₂ = { s with heap := h', toks := tk } ∧ SetR w h' s.heap.objs.size (fun j => decide (j ∈ ns)) c ∧ c ≤ ns.length ∧
        (∀ b o, s.heap.get? b = some o → h'.get? b = some o)) E) F.called_set.init.plain F.entry_set_init (check_set_init_1 ty ?_)) fun r₂ s₂ hr₂ => ?_
      · obtain ⟨⟨oc, od, oa, os⟩, hol, hcl, n0, hdl⟩ := hl
        simp only at hcl hdl; subst hcl; subst hdl
        have hol' : (Heap.withSet s.heap w).get? l = some { cls := .type "list", dict := od, data := .seq its n0, slots := os } := Heap.get?_push_of_some _ hol
        have k1 := F.sub_list_set; have k2 := F.sub_list_frozenset
        have k3 : (Value.type "list" == Value.type "dict") = false := by decide
        have hl1 : (Heap.withSet s.heap w).IsList l its := ⟨_, hol', rfl, n0, rfl⟩
        unfold Builtin.«set.__init__» noKeywords Builtin.Frozenset.updateFrom
        generalize hPI : pyIter = PI; wp_walk; subst hPI
        refine wpAny_pyIter_list hl1 (wpAny_bind (wpAny_runValue ?_))
        have lt0 : l < s.heap.objs.size := Heap.lt_size hol
        have hd3 : A.in1.in1.in1.handled = none := by simp [hd]
        have z1 : (Heap.withSet s.heap w).objs.size = s.heap.objs.size + 1 := push_sz _ _
        have neI : l ≠ (Heap.withSet s.heap w).objs.size := by rw [z1]; exact Nat.ne_of_lt (Nat.lt_succ_of_lt lt0)
        have out0 : s.heap.objs.size ∉ [(Heap.withSet s.heap w).objs.size, l] := by
          rw [z1]; intro hm; rcases List.mem_cons.mp hm with e | hm
          · exact absurd e (Nat.ne_of_lt (Nat.lt_succ_self _))
          · exact absurd (List.mem_singleton.mp hm) (Nat.ne_of_gt lt0)
        have val : ∀ (i : Nat) (v : Value), its[i]? = some v → ∃ k t, ns[i]? = some k ∧ v = .int k t := fun i v hv => by
          have hlt : i < ns.length := by rw [← size_its]; exact (Array.getElem?_eq_some_iff.mp hv).1
          obtain ⟨t, e⟩ := IntsAre.int_at hi i v (by rw [Array.getElem?_toList]; exact hv)
          exact ⟨ns[i], t, List.getElem?_eq_getElem hlt, by rw [e, List.getD_eq_getElem?_getD, List.getElem?_eq_getElem hlt]; rfl⟩
        refine set_update_ints ((Walks.list hd3 _ l neI its).toS) s.heap.objs.size out0 ns size_its few val (its.size - 0) 0 _ (by omega) (Nat.zero_le _) ⟨⟨_, Heap.get?_push_size _ rfl, rfl, rfl⟩, (hl1.push _)⟩ ?_ ?_
        · exact ⟨0, Nat.le_refl 0, setR_new_at (Heap.get?_push_of_some _ at0)⟩
        · intro s' c' mv hc' hS'
          obtain ⟨h', g2, d', tk', os'⟩ := s'
          obtain rfl : g2 = s.gens := mv.gens
          obtain rfl : d' = s.drawn := mv.drawn
          obtain rfl : os' = s.os := mv.os
          rw [size_its] at hc'
          refine wpAny_pure ?_; show wpAny _ _ (ret Value.none) _ _ _
          refine wpAny_pure ⟨rfl, h', tk', c', rfl, hS', hc', fun b o e => ?_⟩
          have b0 : b < s.heap.objs.size := Heap.lt_size e
          refine mv.heap b o (fun hm => ?_) (Heap.get?_push_of_some _ (Heap.get?_push_of_some _ e))
          rcases List.mem_cons.mp hm with e1 | hm
          · exact absurd e1 (Nat.ne_of_lt b0)
          · have e1 := List.mem_singleton.mp hm
            have e1 : b = (Heap.withSet s.heap w).objs.size := e1
            rw [z1] at e1
            exact absurd e1 (Nat.ne_of_lt (Nat.lt_succ_of_lt b0))
      · cases r₂ with
        | error e => exact hr₂
        | ok fl₂ =>
          cases fl₂ with
          | next => exact hr₂.elim
          | brk => exact hr₂.elim
          | cont => exact hr₂.elim
          | ret r =>
            obtain ⟨rfl, h', tk, c', rfl, hS', hc', hk'⟩ := hr₂
            repeat (any_goals (first | assumption | wp_step))
            exact fin _ _ _ hS' hc' hk'
end
end Ev

set_option Elab.async false
set_option linter.all false
set_option maxRecDepth 100000
set_option maxHeartbeats 1000000
namespace Ev
open PySem PySem.Spec PyProof.Rows L2
variable [TabsOf]
variable {K : PySem.W.Frag}
/-! ### sorting, in plain Lean -/
theorem insI_mem (x y : Int) : ∀ l : List Int, y ∈ insI x l ↔ y = x ∨ y ∈ l
  | [] => by simp [insI]
  | z :: r => by
    unfold insI
    split
    · simp
    · split
      · rename_i _ h; subst h; simp
      · simp only [List.mem_cons, insI_mem x y r]
        constructor
        · rintro (h | h | h)
          · exact .inr (.inl h)
          · exact .inl h
          · exact .inr (.inr h)
        · rintro (h | h | h)
          · exact .inr (.inl h)
          · exact .inl h
          · exact .inr (.inr h)
theorem insI_lt (x : Int) : ∀ l : List Int, l.Pairwise (· < ·) → (insI x l).Pairwise (· < ·)
  | [], _ => by simp [insI]
  | z :: r, h => by
    obtain ⟨h1, h2⟩ := List.pairwise_cons.mp h
    unfold insI
    split
    · rename_i hx
      refine List.pairwise_cons.mpr ⟨fun y hy => ?_, h⟩
      rcases List.mem_cons.mp hy with e | hy
      · rw [e]; exact hx
      · exact Int.lt_trans hx (h1 y hy)
    · split
      · exact h
      · rename_i a b
        refine List.pairwise_cons.mpr ⟨fun y hy => ?_, insI_lt x r h2⟩
        rcases (insI_mem x y r).mp hy with e | hy
        · omega
        · exact h1 y hy
theorem sortSet_mem (y : Int) : ∀ l : List Int, y ∈ sortSet l ↔ y ∈ l
  | [] => by simp [sortSet]
  | x :: r => by rw [sortSet, insI_mem, sortSet_mem y r, List.mem_cons]
theorem sortSet_lt : ∀ l : List Int, (sortSet l).Pairwise (· < ·)
  | [] => by simp [sortSet]
  | x :: r => insI_lt x _ (sortSet_lt r)
theorem lt_unique : ∀ {l m : List Int}, l.Pairwise (· < ·) → m.Pairwise (· < ·) → (∀ k, k ∈ l ↔ k ∈ m) → l = m
  | [], [], _, _, _ => rfl
  | [], y :: m, _, _, h => by simpa using (h y).mpr List.mem_cons_self
  | x :: l, [], _, _, h => by simpa using (h x).mp List.mem_cons_self
  | x :: l, y :: m, hl, hm, h => by
    obtain ⟨a1, a2⟩ := List.pairwise_cons.mp hl
    obtain ⟨b1, b2⟩ := List.pairwise_cons.mp hm
    have e : x = y := by
      rcases List.mem_cons.mp ((h x).mp List.mem_cons_self) with q | q
      · exact q
      · rcases List.mem_cons.mp ((h y).mpr List.mem_cons_self) with p | p
        · exact p.symm
        · have := b1 x q; have := a1 y p; omega
    subst e
    rw [lt_unique a2 b2 fun k => ?_]
    constructor
    · intro hk
      rcases List.mem_cons.mp ((h k).mp (List.mem_cons_of_mem _ hk)) with q | q
      · have := a1 k hk; omega
      · exact q
    · intro hk
      rcases List.mem_cons.mp ((h k).mpr (List.mem_cons_of_mem _ hk)) with q | q
      · have := b1 k hk; omega
      · exact q
theorem insD_perm (x : Int) : ∀ l : List Int, (insD x l).Perm (x :: l)
  | [] => .refl _
  | y :: r => by
    unfold insD
    split
    · exact .refl _
    · exact ((insD_perm x r).cons y).trans (.swap x y r)
theorem insD_le (x : Int) : ∀ l : List Int, l.Pairwise (· ≤ ·) → (insD x l).Pairwise (· ≤ ·)
  | [], _ => by simp [insD]
  | z :: r, h => by
    obtain ⟨h1, h2⟩ := List.pairwise_cons.mp h
    unfold insD
    split
    · rename_i hx
      refine List.pairwise_cons.mpr ⟨fun y hy => ?_, h⟩
      rcases List.mem_cons.mp hy with e | hy
      · rw [e]; exact hx
      · exact Int.le_trans hx (h1 y hy)
    · rename_i hx
      refine List.pairwise_cons.mpr ⟨fun y hy => ?_, insD_le x r h2⟩
      rcases List.mem_cons.mp ((insD_perm x r).mem_iff.mp hy) with e | hy
      · omega
      · exact h1 y hy
theorem sortI_perm : ∀ l : List Int, (sortI l).Perm l
  | [] => .refl _
  | x :: r => (insD_perm x _).trans ((sortI_perm r).cons x)
theorem sortI_le : ∀ l : List Int, (sortI l).Pairwise (· ≤ ·)
  | [] => by simp [sortI]
  | x :: r => insD_le x _ (sortI_le r)
theorem le_unique : ∀ {l m : List Int}, l.Pairwise (· ≤ ·) → m.Pairwise (· ≤ ·) → l.Perm m → l = m
  | [], m, _, _, p => (List.perm_nil.mp p.symm).symm
  | x :: l, [], _, _, p => by simpa using p.length_eq
  | x :: l, y :: m, hl, hm, p => by
    obtain ⟨a1, a2⟩ := List.pairwise_cons.mp hl
    obtain ⟨b1, b2⟩ := List.pairwise_cons.mp hm
    have e : x = y := by
      rcases List.mem_cons.mp (p.mem_iff.mp List.mem_cons_self) with q | q
      · exact q
      · rcases List.mem_cons.mp (p.mem_iff.mpr List.mem_cons_self) with r | r
        · exact r.symm
        · have := b1 x q; have := a1 y r; omega
    subst e
    rw [le_unique a2 b2 (List.perm_cons x |>.mp p)]
theorem len_le_of_nodup {l m : List Int} (hl : l.Nodup) (h : ∀ k ∈ l, k ∈ m) : l.length ≤ m.length := by
  induction l generalizing m with
  | nil => exact Nat.zero_le _
  | cons x r ih =>
    obtain ⟨h1, h2⟩ := List.nodup_cons.mp hl
    have hx : x ∈ m := h x List.mem_cons_self
    have := ih (m := m.erase x) h2 fun k hk => (List.mem_erase_of_ne (fun e => h1 (by rw [← e]; exact hk))).mpr (h k (List.mem_cons_of_mem _ hk))
    rw [List.length_erase_of_mem hx] at this
    have : 0 < m.length := List.length_pos_of_mem hx
    simp only [List.length_cons]; omega

section
variable {X : Cx} {E : Str → Hp → Prop}
/-- the reading of a call of a built-in on related values -/
def rBl (K : PySem.W.Frag) (E : Str → Hp → Prop) (f : List D → Store → R D) : List V → Hp → VK → Prop := fun xs H Q =>
  ∃ ρ st ds, StR K ρ H st ∧ Rps K ρ H ds xs ∧ PostE K E ρ H (f ds st) Q
theorem rps1 {ρ : Rho} {H : Hp} {d : D} {xs : List V} (h : Rps K ρ H [d] xs) : ∃ v, xs = [v] ∧ Rp K ρ H d v := by
  obtain ⟨v, r, h1, h2, h3⟩ := h
  cases (show r = [] from h3)
  exact ⟨v, h1, h2⟩
theorem rps2 {ρ : Rho} {H : Hp} {d e : D} {xs : List V} (h : Rps K ρ H [d, e] xs) : ∃ v w, xs = [v, w] ∧ Rp K ρ H d v ∧ Rp K ρ H e w := by
  obtain ⟨v, r, h1, h2, h3⟩ := h
  obtain ⟨w, rfl, h4⟩ := rps1 h3
  exact ⟨v, w, h1, h2, h4⟩
theorem scr_sq {ρ : Rho} {H : Hp} {a : Addr} {l : List Int} (h : ScrR K ρ H a l) : SqL K H a (l.map V.int) := by
  rcases h with ⟨o, h, _, _, rfl | ⟨u, rfl⟩⟩ | h
  · exact .inl (.inl h)
  · exact .inl (.inr ⟨u, h⟩)
  · exact h H
theorem preSum_take (ns : List Int) : ∀ j, preSum (fun i => ns.getD i 0) j = (ns.take j).sum
  | 0 => by simp [preSum]
  | j + 1 => by
    rw [preSum, preSum_take ns j, List.take_add_one]
    cases h : ns[j]? with
    | none => simp [List.getD_eq_getElem?_getD, h]
    | some x => simp [List.getD_eq_getElem?_getD, h]
theorem sum_tup (hc : X.calm = true) : CallR X (.builtin "sum") (fun vs H Q => ∃ (a : Addr) (ns : List Int), vs = [V.ref a] ∧ SqT X.K H a (ns.map V.int) ∧ Q (.int ns.sum) H) := by
  intro pins s σ H vs us Q I r h
  obtain ⟨a, ns, rfl, hs, q⟩ := h
  obtain ⟨its, rv, hl, _⟩ := I.tuple hs
  rw [Vals.ref1 r]
  have hi := rv.ints
  have lt0 : a < s.heap.objs.size := hl.lt
  refine call_sum_walkG (wpAny_pyIter_tuple (show s.heap.IsTuple a its.toArray from hl) ?_)
  refine ⟨_, _, _, _, _, _, fun i => ns.getD i 0, rfl, Walks.tuple (A := X.A.in1) (I.ok.hd hc) s.heap.objs.size a (Nat.ne_of_lt lt0) its.toArray, ⟨⟨_, Heap.get?_push_size _ rfl, rfl, rfl⟩, Heap.IsTuple.push (show s.heap.IsTuple a its.toArray from hl) _⟩, fun b hb => ?_, fun i v hv => ?_, fun h' tk t' hk => ?_⟩
  · rw [push_sz]
    rcases List.mem_cons.mp hb with e | hb
    · rw [e]; exact Nat.lt_succ_self _
    · rw [List.mem_singleton.mp hb]; exact Nat.lt_succ_of_lt lt0
  · obtain ⟨t, e⟩ := IntsAre.int_at hi i v (by simpa using hv)
    exact ⟨t, e⟩
  · refine ⟨.int ns.sum, H, I.kept fun b o e => hk b o (fun hm => ?_) (Heap.get?_push_of_some _ e), ⟨t', ?_⟩, q⟩
    · rw [List.mem_singleton.mp hm] at e
      exact absurd (Heap.lt_size e) (Nat.lt_irrefl _)
    · rw [preSum_take, List.size_toArray, List.take_of_length_le (by rw [hi.length]; exact Nat.le_refl _)]
theorem cr_setL (hc : X.calm = true) : CallR X (.type "set") (fun xs H Q => ∃ (a : Addr) (ns : List Int), xs = [.ref a] ∧ (H a = some (.lst (ns.map V.int)) ∨ H a = some (.tup (ns.map V.int))) ∧ ns.length < 1000 ∧
    ∀ p c, H p = none → c ≤ (sortSet ns).length → Q (.ref p) (upd H p (SetO X.w p (fun j => decide (j ∈ ns)) c))) := by
  intro pins s σ H xs us Q I r h
  obtain ⟨a, ns, rfl, hs, few, q⟩ := h
  rw [Vals.ref1 r]
  have fin : ∀ (h' : Heap) (tk c : Nat), SetR X.w h' s.heap.objs.size (fun j => decide (j ∈ ns)) c → c ≤ ns.length → (∀ b o, s.heap.get? b = some o → h'.get? b = some o) → EP X pins σ Q (.ref s.heap.objs.size) { s with heap := h', toks := tk } := fun h' tk c R _ k => by
    have hn : H s.heap.objs.size = none := I.hok.fresh (Nat.le_refl _)
    refine ⟨.ref _, upd H s.heap.objs.size (SetO X.w s.heap.objs.size (fun j => decide (j ∈ ns)) c), I.laid (t' := tk) k (Nat.le_refl _) (setO_new R), rfl, q _ c hn ?_⟩
    obtain ⟨o, es, ep, t, _, _, _, _, nd, hm, _, _, hz, _⟩ := R
    have : c = (es.toList.map keyOf).length := by rw [List.length_map, Array.length_toList]; exact hz.symm
    rw [this]
    exact len_le_of_nodup nd fun k hk => (sortSet_mem k ns).mpr (of_decide_eq_true ((hm k).mpr hk))
  rcases hs with hs | hs
  · obtain ⟨its, rv, hl, _⟩ := I.list (.of hs)
    exact set_of_list ns (I.ok.hd hc) hl.isList (by simpa using rv.ints) (by unfold scanBound; omega) fin
  · obtain ⟨its, rv, hl, _⟩ := I.tuple (.of hs)
    exact call_set_tupI ns (I.ok.hd hc) (show s.heap.IsTuple a its.toArray from hl) (by simpa using rv.ints) (by unfold scanBound; omega) fin
theorem len_dict {pins : List (Addr × Obj)} {s : Shared} {σ : L2.St} {H : Hp} {Q : VK} {ρ : Rho} {st : Store} {d : D} {v : V} {us : List Value} (I : Inv X pins σ H s) (r : Vals [v] us) (sr : StR X.K ρ H st) (rv : Rp X.K ρ H d v)
    (p : PostE X.K E ρ H (match dicOf d st with
      | some (ks, _) => .ok (.int ks.length) st
      | none => .bad) Q) : wpAny (model X.prog X.w) X.A (call (.builtin "len") us) (EP X pins σ Q) X.xe s := by
  cases hd : dicOf d st with
  | none => rw [hd] at p; exact p.elim
  | some q =>
    obtain ⟨ks, vs⟩ := q
    rw [hd] at p
    obtain ⟨a, o, kv, vv, rfl, d1, d2, d3, d4⟩ := rv.dicOf sr hd
    rw [Vals.ref1 r]
    obtain ⟨c1, c2, _, nk, es, ep, c3, c4, c5, c6⟩ := d2
    have hz : es.size = ks.length := by
      have : ∀ {es : List DictEntry} {nk : List NestedKey} {kv vv : List V}, EntR es nk kv vv → es.length = kv.length := by
        intro es
        induction es with
        | nil => intro nk kv vv h; cases nk <;> cases kv <;> cases vv <;> first | rfl | cases h
        | cons e es ih =>
          intro nk kv vv h
          cases nk <;> cases kv <;> cases vv <;> first | (cases h; done) | skip
          simp [ih h.2.2.2]
      rw [← Array.length_toList, this c6, d3.length]
    have raw : s.heap.DictRaw a es ep := ⟨o, dict_here I d1, c1, c5⟩
    refine PyProof.Rows.call_len_slot (n := es.size) raw.typeIs PySem.F.slot_dict_len (fun Q' hq => call_len_raw d1.2.1 raw hq) (by omega) (by rw [hz]; unfold seqMax at c2; omega) ?_
    rw [hz]
    exact ⟨.int ks.length, H, I.tok _, ⟨_, rfl⟩, p.here (K := X.K) (d := .int ks.length) sr rfl⟩
theorem len_ok : CallR X (.builtin "len") (rBl X.K E (bltop .len)) := by
  intro pins s σ H xs us Q I r h
  obtain ⟨ρ, st, ds, sr, rd, p⟩ := h
  match ds, rd, p with
  | [], _, p => exact p.elim
  | [.str z], rd, p =>
    obtain ⟨v, rfl, rv⟩ := rps1 rd
    cases (show v = _ from rv)
    simp only [bltop] at p
    split at p
    · exact call_len_str pins s σ H _ us Q I r ⟨z, rfl, Nat.le_trans (by assumption) line_ok, p.here (K := X.K) (d := .int z.length) sr rfl⟩
    · exact p.elim
  | d :: e :: l, _, p => cases d <;> exact p.elim
  | [.non], rd, p => exact p.elim
  | [.bl _], rd, p => exact p.elim
  | [.int _], rd, p => exact p.elim
  | [.rng _ _], rd, p => exact p.elim
  | [.scr _], rd, p => exact p.elim
  | [.fn _], rd, p => exact p.elim
  | [.dic ks vs], rd, p =>
    obtain ⟨v, rfl, rv⟩ := rps1 rd
    exact len_dict I r sr rv p
  | [.tup l], rd, p =>
    obtain ⟨v, rfl, rv⟩ := rps1 rd
    obtain ⟨a, vs, rfl, ha, rl⟩ := rv.seqLT sr (show seqLT (.tup l) st = some l from rfl)
    exact call_len_seq pins s σ H _ us Q I r ⟨a, vs, rfl, ha.elim (fun h => .inl (.of h)) (fun h => .inr (.of h)), by rw [← rl.length]; exact p.here (K := X.K) (d := .int l.length) sr rfl⟩
  | [.lst l], rd, p =>
    obtain ⟨v, rfl, rv⟩ := rps1 rd
    obtain ⟨a, vs, rfl, ha, rl⟩ := rv.seqLT sr (show seqLT (.lst l) st = some l from rfl)
    exact call_len_seq pins s σ H _ us Q I r ⟨a, vs, rfl, ha.elim (fun h => .inl (.of h)) (fun h => .inr (.of h)), by rw [← rl.length]; exact p.here (K := X.K) (d := .int l.length) sr rfl⟩
  | [.ref k], rd, p =>
    obtain ⟨v, rfl, rv⟩ := rps1 rd
    simp only [bltop] at p
    split at p
    · rename_i l hl
      obtain ⟨a, vs, rfl, ha, rl⟩ := rv.seqLT sr hl
      exact call_len_seq pins s σ H _ us Q I r ⟨a, vs, rfl, ha.elim (fun h => .inl (.of h)) (fun h => .inr (.of h)), by rw [← rl.length]; exact p.here (K := X.K) (d := .int l.length) sr rfl⟩
    · exact len_dict I r sr rv p
/-- all, any -/
theorem bools_ok {f : Bf} {id : String} {g : List Bool → Bool} (hop : ∀ d st, bltop f [d] st = match seqL d st with
    | some l => (match boolsOf l with
      | some bs => .ok (.bl (g bs)) st
      | none => .bad)
    | none => .bad) (hno : ∀ ds st, (∀ d, ds ≠ [d]) → bltop f ds st = .bad)
    (rule : CallR X (.builtin id) (fun vs H Q => ∃ (a : Addr) (bs : List Bool), vs = [V.ref a] ∧ SqL X.K H a (bs.map V.bl) ∧ Q (.bl (g bs)) H)) : CallR X (.builtin id) (rBl X.K E (bltop f)) := by
  intro pins s σ H xs us Q I r h
  obtain ⟨ρ, st, ds, sr, rd, p⟩ := h
  by_cases hd : ∃ d, ds = [d]
  · obtain ⟨d, rfl⟩ := hd
    rw [hop] at p
    obtain ⟨v, rfl, rv⟩ := rps1 rd
    split at p
    · rename_i l hl
      split at p
      · rename_i bs hb
        obtain ⟨a, vs, rfl, ha, rl⟩ := rv.seqL sr hl
        rw [boolsOf_ok rl hb] at ha
        exact rule pins s σ H _ us Q I r ⟨a, bs, rfl, .of ha, p.here (K := X.K) (d := .bl (g bs)) sr rfl⟩
      · exact p.elim
    · exact p.elim
  · rw [hno ds st fun d e => hd ⟨d, e⟩] at p; exact p.elim
theorem no_one {f : List D → Store → R D} (h0 : ∀ st, f [] st = .bad) (h2 : ∀ d e l st, f (d :: e :: l) st = .bad) : ∀ ds st, (∀ d, ds ≠ [d]) → f ds st = .bad := fun ds st h => by
  match ds, h with
  | [], _ => exact h0 st
  | [d], h => exact absurd rfl (h d)
  | d :: e :: l, _ => exact h2 d e l st
theorem all_ok (hc : X.calm = true) : CallR X (.builtin "all") (rBl X.K E (bltop .all)) :=
  bools_ok (g := fun bs => bs.all id) (fun _ _ => rfl) (no_one (fun _ => rfl) fun _ _ _ _ => rfl) (cr_all hc)
theorem any_ok (hc : X.calm = true) : CallR X (.builtin "any") (rBl X.K E (bltop .any)) :=
  bools_ok (g := fun bs => bs.any id) (fun _ _ => rfl) (no_one (fun _ => rfl) fun _ _ _ _ => rfl) (cr_any hc)
theorem sum_ok (hc : X.calm = true) : CallR X (.builtin "sum") (rBl X.K E (bltop .sum)) := by
  intro pins s σ H xs us Q I r h
  obtain ⟨ρ, st, ds, sr, rd, p⟩ := h
  match ds, rd, p with
  | [], _, p => exact p.elim
  | d :: e :: l, _, p => exact p.elim
  | [d], rd, p =>
    obtain ⟨v, rfl, rv⟩ := rps1 rd
    simp only [bltop] at p
    split at p
    · rename_i l hl
      split at p
      · rename_i bs hb
        obtain ⟨a, vs, rfl, ha, rl⟩ := rv.seqLT sr hl
        rw [intsOf_ok rl hb] at ha
        rcases ha with ha | ha
        · exact cr_sum hc pins s σ H _ us Q I r ⟨a, bs, rfl, .of ha, p.here (K := X.K) (d := .int bs.sum) sr rfl⟩
        · exact sum_tup hc pins s σ H _ us Q I r ⟨a, bs, rfl, .of ha, p.here (K := X.K) (d := .int bs.sum) sr rfl⟩
      · exact p.elim
    · exact p.elim
theorem rangeL_len' : ∀ (n : Nat) (lo : Int), (rangeL lo n).length = n
  | 0, _ => rfl
  | n + 1, lo => by unfold rangeL; simp [rangeL_len' n]
theorem rgV_rel {ρ : Rho} {H : Hp} : ∀ (n : Nat) (lo : Int), Rps K ρ H (rangeL lo n) ((List.range n).map fun i => V.int (lo + (i : Nat)))
  | 0, _ => rfl
  | n + 1, lo => by
    rw [List.range_succ_eq_map, List.map_cons, List.map_map, rangeL]
    refine .cons (by show V.int _ = V.int _; simp) ?_
    have := rgV_rel (ρ := ρ) (H := H) n (lo + 1)
    have e : ((List.range n).map fun i => V.int (lo + 1 + (i : Nat))) = (List.range n).map ((fun i => V.int (lo + (i : Nat))) ∘ Nat.succ) := by
      refine List.map_congr_left fun i _ => ?_
      show V.int _ = V.int _
      congr 1
      push_cast
      omega
    rw [← e]
    exact this
theorem tuple_ok (hc : X.calm = true) : CallR X (.type "tuple") (rBl X.K E (bltop .tuple)) := by
  intro pins s σ H xs us Q I r h
  obtain ⟨ρ, st, ds, sr, rd, p⟩ := h
  have lists : ∀ d, ds = [d] → PostE X.K E ρ H (match seqL d st with
      | some l => .ok (.tup l) st
      | none => .bad) Q → wpAny (model X.prog X.w) X.A (call (.type "tuple") us) (EP X pins σ Q) X.xe s := fun d e p2 => by
    subst e
    obtain ⟨v, rfl, rv⟩ := rps1 rd
    split at p2
    · rename_i l hl
      obtain ⟨a, vs, rfl, ha, rl⟩ := rv.seqL sr hl
      exact call_tuple_of pins s σ H _ us Q I r ⟨a, vs, rfl, .inl ⟨.of ha, fun q hq => p2.new sr hq fun e n => ⟨q, vs, rfl, upd_same, n, rl.ext e _ _⟩⟩⟩
    · exact p2.elim
  match ds, rd, p with
  | [], _, p => exact p.elim
  | d :: e :: l, _, p => cases d <;> exact p.elim
  | [.tup l], rd, p =>
    obtain ⟨v, rfl, rv⟩ := rps1 rd
    obtain ⟨a, vs, rfl, ha, n, rl⟩ := id rv
    exact call_tuple_of pins s σ H _ us Q I r ⟨a, vs, rfl, .inr ⟨.of ha, p.here sr rv⟩⟩
  | [.non], rd, p => exact lists _ rfl p
  | [.bl _], rd, p => exact lists _ rfl p
  | [.int _], rd, p => exact lists _ rfl p
  | [.str _], rd, p => exact lists _ rfl p
  | [.lst _], rd, p => exact lists _ rfl p
  | [.ref _], rd, p => exact lists _ rfl p
  | [.rng lo hi], rd, p =>
    have p : PostE X.K E ρ H (if -1000000 ≤ lo ∧ lo ≤ 1000000 ∧ -1000000 ≤ hi ∧ hi ≤ 1000000 then .ok (.tup (rangeL lo (hi - lo).toNat)) st else .bad) Q := p
    split at p
    · rename_i hb
      obtain ⟨v, rfl, rv⟩ := rps1 rd
      obtain ⟨t, rfl, h2, off⟩ := rv
      obtain ⟨t1, u1, v1, hr⟩ : ∃ t1 u1 v1, s.heap.get? t = some { cls := .type "range", data := .fields #[.int lo t1, .int hi u1, .int 1 v1] } := I.hok t _ h2
      rw [Vals.ref1 r]
      have hn : Builtin.Range.rangeSize lo hi 1 = (((hi - lo).toNat : Nat) : Int) := by rw [rangeSize_one]; split <;> omega
      refine call_tuple_range (n := (hi - lo).toNat) (I.ok.hd hc) (show IsRange s.heap t lo hi 1 t1 u1 v1 from hr) (small_one (by omega) (by omega) (by omega) (by omega)) hn (by omega) fun h' tk acc hk hacc => ?_
      have hacc' := vals_rg (a := lo) (b := hi) hacc
      have I1 : Inv X pins σ H { s with heap := h', toks := tk } := I.kept hk
      have hz : (rgV lo hi).length ≤ sizeLine := by rw [rgV_length, sizeLine_eq]; omega
      refine ⟨.ref h'.objs.size, upd H h'.objs.size (.tup (rgV lo hi)), I1.laid (t' := tk) (fun b o e => Heap.get?_push_of_some _ e) (Nat.le_refl _) (show ObjOk X.prog X.w _ _ _ (.tup (rgV lo hi)) from ⟨hz, acc.toList, hacc', ⟨_, Heap.get?_push_size _ rfl, rfl, 0, by simp⟩⟩), rfl, ?_⟩
      exact p.new sr (I1.hok.fresh (Nat.le_refl _)) fun e n => ⟨_, _, rfl, upd_same, n, rgV_rel _ _⟩
    · exact p.elim
  | [.scr _], rd, p => exact lists _ rfl p
  | [.fn _], rd, p => exact lists _ rfl p
  | [.dic _ _], rd, p => exact lists _ rfl p
theorem maxI_mem : ∀ {l : List Int}, l ≠ [] → maxI l ∈ l
  | [], h => absurd rfl h
  | [x], _ => by simp [maxI]
  | x :: y :: r, _ => by
    unfold maxI
    split
    · exact List.mem_cons_of_mem _ (maxI_mem (l := y :: r) (by simp))
    · exact List.mem_cons_self
theorem maxI_le : ∀ {l : List Int}, ∀ z ∈ l, z ≤ maxI l
  | [], z, h => absurd h (by simp)
  | [x], z, h => by simp at h; simp [maxI, h]
  | x :: y :: r, z, h => by
    have ih := maxI_le (l := y :: r)
    unfold maxI
    rcases List.mem_cons.mp h with e | e
    · split <;> omega
    · have := ih z e
      split <;> omega
theorem minI_mem : ∀ {l : List Int}, l ≠ [] → minI l ∈ l
  | [], h => absurd rfl h
  | [x], _ => by simp [minI]
  | x :: y :: r, _ => by
    unfold minI
    split
    · exact List.mem_cons_of_mem _ (minI_mem (l := y :: r) (by simp))
    · exact List.mem_cons_self
theorem minI_le : ∀ {l : List Int}, ∀ z ∈ l, minI l ≤ z
  | [], z, h => absurd h (by simp)
  | [x], z, h => by simp at h; simp [minI, h]
  | x :: y :: r, z, h => by
    have ih := minI_le (l := y :: r)
    unfold minI
    rcases List.mem_cons.mp h with e | e
    · split <;> omega
    · have := ih z e
      split <;> omega
theorem max1_ok (hc : X.calm = true) : CallR X (.builtin "max") (rBl X.K E (bltop .max1)) := by
  intro pins s σ H xs us Q I r h
  obtain ⟨ρ, st, ds, sr, rd, p⟩ := h
  match ds, rd, p with
  | [], _, p => exact p.elim
  | d :: e :: l, _, p => exact p.elim
  | [d], rd, p =>
    obtain ⟨v, rfl, rv⟩ := rps1 rd
    have p : PostE X.K E ρ H (match seqL d st with
      | some l => match intsOf l with
        | some ns => if ns.isEmpty then .bad else .ok (.int (maxI ns)) st
        | none => .bad
      | none => .bad) Q := p
    split at p
    · rename_i l hl
      obtain ⟨a, vs, rfl, ha, rl⟩ := rv.seqL sr hl
      split at p
      · rename_i ns hns
        have e := intsOf_ok rl hns
        subst e
        split at p
        · exact p.elim
        · rename_i hne
          have hne : ns ≠ [] := by
            intro z
            subst z
            exact hne rfl
          refine cr_max hc pins s σ H _ us Q I r ⟨a, ns, rfl, .of ha, by
            cases ns with
            | nil => exact absurd rfl hne
            | cons => simp, fun m h1 h2 => ?_⟩
          have e : m = maxI ns := by
            have h3 := h2 _ (maxI_mem hne)
            have h4 := maxI_le m h1
            omega
          subst e
          exact p.here sr rfl
      · exact p.elim
    · exact p.elim
theorem min1_ok (hc : X.calm = true) : CallR X (.builtin "min") (rBl X.K E (bltop .min1)) := by
  intro pins s σ H xs us Q I r h
  obtain ⟨ρ, st, ds, sr, rd, p⟩ := h
  match ds, rd, p with
  | [], _, p => exact p.elim
  | d :: e :: l, _, p => exact p.elim
  | [d], rd, p =>
    obtain ⟨v, rfl, rv⟩ := rps1 rd
    have p : PostE X.K E ρ H (match seqL d st with
      | some l => match intsOf l with
        | some ns => if ns.isEmpty then .bad else .ok (.int (minI ns)) st
        | none => .bad
      | none => .bad) Q := p
    split at p
    · rename_i l hl
      obtain ⟨a, vs, rfl, ha, rl⟩ := rv.seqL sr hl
      split at p
      · rename_i ns hns
        have e := intsOf_ok rl hns
        subst e
        split at p
        · exact p.elim
        · rename_i hne
          have hne : ns ≠ [] := by
            intro z
            subst z
            exact hne rfl
          refine cr_min hc pins s σ H _ us Q I r ⟨a, ns, rfl, .of ha, by
            cases ns with
            | nil => exact absurd rfl hne
            | cons => simp, fun m h1 h2 => ?_⟩
          have e : m = minI ns := by
            have h3 := h2 _ (minI_mem hne)
            have h4 := minI_le m h1
            omega
          subst e
          exact p.here sr rfl
      · exact p.elim
    · exact p.elim
theorem abs_ok : CallR X (.builtin "abs") (rBl X.K E (bltop .abs)) := by
  intro pins s σ H xs us Q I r h
  obtain ⟨ρ, st, ds, sr, rd, p⟩ := h
  match ds, rd, p with
  | [], _, p => exact p.elim
  | d :: e :: l, _, p => cases d <;> exact p.elim
  | [.int i], rd, p =>
    obtain ⟨v, rfl, rv⟩ := rps1 rd
    cases (show v = _ from rv)
    exact call_abs pins s σ H _ us Q I r ⟨i, rfl, p.here sr rfl⟩
  | [.non], rd, p => exact p.elim
  | [.bl _], rd, p => exact p.elim
  | [.str _], rd, p => exact p.elim
  | [.lst _], rd, p => exact p.elim
  | [.tup _], rd, p => exact p.elim
  | [.ref _], rd, p => exact p.elim
  | [.rng _ _], rd, p => exact p.elim
  | [.scr _], rd, p => exact p.elim
  | [.fn _], rd, p => exact p.elim
  | [.dic _ _], rd, p => exact p.elim
theorem int_ok : CallR X (.type "int") (rBl X.K E (bltop .int)) := by
  intro pins s σ H xs us Q I r h
  obtain ⟨ρ, st, ds, sr, rd, p⟩ := h
  match ds, rd, p with
  | [], _, p => exact p.elim
  | d :: e :: l, _, p => cases d <;> exact p.elim
  | [.int i], rd, p =>
    obtain ⟨v, rfl, rv⟩ := rps1 rd
    cases (show v = _ from rv)
    exact call_int1 pins s σ H _ us Q I r (.inl ⟨i, rfl, p.here sr rfl⟩)
  | [.bl i], rd, p =>
    obtain ⟨v, rfl, rv⟩ := rps1 rd
    cases (show v = _ from rv)
    exact call_int1 pins s σ H _ us Q I r (.inr ⟨i, rfl, p.here sr rfl⟩)
  | [.non], rd, p => exact p.elim
  | [.str _], rd, p => exact p.elim
  | [.lst _], rd, p => exact p.elim
  | [.tup _], rd, p => exact p.elim
  | [.ref _], rd, p => exact p.elim
  | [.rng _ _], rd, p => exact p.elim
  | [.scr _], rd, p => exact p.elim
  | [.fn _], rd, p => exact p.elim
  | [.dic _ _], rd, p => exact p.elim
theorem int2_ok {fv : Value} {f : Bf} {g : Int → Int → D} (hop : ∀ l st, bltop f l st = int2 g l st)
    (rule : ∀ (pins : List (Addr × Obj)) (s : Shared) (σ : L2.St) (H : Hp) (i j : Int) (us : List Value) (Q : VK) (ρ : Rho) (st : Store), Inv X pins σ H s → Vals [.int i, .int j] us → StR X.K ρ H st → PostE X.K E ρ H (.ok (g i j) st) Q →
      wpAny (model X.prog X.w) X.A (call fv us) (EP X pins σ Q) X.xe s) : CallR X fv (rBl X.K E (bltop f)) := by
  intro pins s σ H xs us Q I r h
  obtain ⟨ρ, st, ds, sr, rd, p⟩ := h
  rw [hop] at p
  unfold int2 at p
  split at p
  · rename_i i j
    obtain ⟨v, w, rfl, rv, rw'⟩ := rps2 rd
    cases (show v = _ from rv); cases (show w = _ from rw')
    exact rule pins s σ H i j us Q ρ st I r sr p
  · exact p.elim
theorem max2_ok (hc : X.calm = true) : CallR X (.builtin "max") (rBl X.K E (bltop .max2)) :=
  int2_ok (g := fun i j => .int (if j > i then j else i)) (fun _ _ => rfl) fun pins s σ H i j us Q ρ st I r sr p => call_max2 hc pins s σ H _ us Q I r ⟨i, j, rfl, p.here sr rfl⟩
theorem min2_ok (hc : X.calm = true) : CallR X (.builtin "min") (rBl X.K E (bltop .min2)) :=
  int2_ok (g := fun i j => .int (if j < i then j else i)) (fun _ _ => rfl) fun pins s σ H i j us Q ρ st I r sr p => call_min2 hc pins s σ H _ us Q I r ⟨i, j, rfl, p.here sr rfl⟩
theorem range2_ok : CallR X (.type "range") (rBl X.K E (bltop .range2)) :=
  int2_ok (g := fun m n => .rng m n) (fun _ _ => rfl) fun pins s σ H i j us Q ρ st I r sr p => cr_range2 pins s σ H _ us Q I r ⟨i, j, rfl, fun q hq => p.new sr hq fun e n => ⟨q, rfl, upd_same, n⟩⟩
theorem range1_ok : CallR X (.type "range") (rBl X.K E (bltop .range1)) := by
  intro pins s σ H xs us Q I r h
  obtain ⟨ρ, st, ds, sr, rd, p⟩ := h
  match ds, rd, p with
  | [], _, p => exact p.elim
  | d :: e :: l, _, p => cases d <;> exact p.elim
  | [.int j], rd, p =>
    obtain ⟨v, rfl, rv⟩ := rps1 rd
    cases (show v = _ from rv)
    obtain ⟨u, rfl, ru⟩ := vals1 r
    obtain ⟨t, rfl⟩ := ru
    refine call_range_1 ⟨.ref s.heap.objs.size, upd H s.heap.objs.size (.rng 0 j), I.laid (t' := s.toks + 2) (fun b o e => Heap.get?_push_of_some _ e) (Nat.le_refl _) ⟨_, _, _, Heap.get?_push_size _ rfl⟩, rfl, ?_⟩
    exact p.new sr (I.hok.fresh (Nat.le_refl _)) fun e n => ⟨_, rfl, upd_same, n⟩
  | [.non], rd, p => exact p.elim
  | [.bl _], rd, p => exact p.elim
  | [.str _], rd, p => exact p.elim
  | [.lst _], rd, p => exact p.elim
  | [.tup _], rd, p => exact p.elim
  | [.ref _], rd, p => exact p.elim
  | [.rng _ _], rd, p => exact p.elim
  | [.scr _], rd, p => exact p.elim
  | [.fn _], rd, p => exact p.elim
  | [.dic _ _], rd, p => exact p.elim
end
end Ev

set_option Elab.async false
set_option linter.all false
set_option maxRecDepth 100000
set_option maxHeartbeats 1000000
namespace Ev
open PySem PySem.Spec PyProof.Rows L2
variable [TabsOf]
variable {K : PySem.W.Frag}
/-! ### t[::-1] of a tuple -/
theorem fm_congr {α β : Type} {f g : α → Option β} : ∀ {l : List α}, (∀ x ∈ l, f x = g x) → l.filterMap f = l.filterMap g
  | [], _ => rfl
  | x :: r, h => by
    rw [List.filterMap_cons, List.filterMap_cons, h x List.mem_cons_self, fm_congr fun y hy => h y (List.mem_cons_of_mem _ hy)]
theorem fm_rev {α : Type} (l : List α) : ((List.range l.length).filterMap fun (k : Nat) => l[l.length - 1 - k]?) = l.reverse := by
  induction l with
  | nil => rfl
  | cons x r ih =>
    rw [List.length_cons, List.range_succ, List.filterMap_append, List.reverse_cons, ← ih]
    congr 1
    · refine fm_congr fun k hk => ?_
      have := List.mem_range.mp hk
      have e : r.length + 1 - 1 - k = (r.length - 1 - k) + 1 := by omega
      rw [e, List.getElem?_cons_succ]
    · simp
section
variable {prog : Program} {w : World} {A : Around} {E : Value → Shared → Prop} {s : Shared}
theorem pick_back (xs : Array Value) : ((List.range xs.size).filterMap fun (k : Nat) => xs[(((xs.size : Int) - 1) + (k : Int) * (-1)).toNat]?).toArray = xs.toList.reverse.toArray := by
  rw [← fm_rev xs.toList, Array.length_toList]
  congr 1
  refine fm_congr fun k hk => ?_
  have := List.mem_range.mp hk
  have e : (((xs.size : Int) - 1) + (k : Int) * (-1)).toNat = xs.size - 1 - k := by omega
  rw [e, Array.getElem?_toList]
theorem tuple_back {t sl : Addr} {items : Array Value} {vs : Value} {Q : Value → Shared → Prop} (ht : IsTup s.heap t items) (hs : s.heap.IsSliceOf sl .none .none vs) (ps : IsPart vs (some (-1)))
    (h : Q (.ref s.heap.objs.size) { s with heap := s.heap.push { cls := .type "tuple", data := .seq items.toList.reverse.toArray } }) (hsz : items.size ≤ sizeLine) : wpAny (model prog w) A (getItem (.ref t) (.ref sl)) Q E s := by
  obtain ⟨os, hos, hcs, hds⟩ := id hs
  have ty : s.TypeIs (.ref sl) "slice" := ⟨os, hos, hcs⟩
  have fits : sizeOk (.seq items.toList.reverse.toArray) := by
    show items.toList.reverse.toArray.size ≤ sizeLine
    rw [List.size_toArray, List.length_reverse, Array.length_toList]; exact hsz
  unfold getItem; try with_reducible refine wpAny_holding ?_
  first | refine wpAny_bind (wpAny_pure ?_) | skip
  refine wpAny_bind (wpAny_sequenceKey ht.typeIs (by decide) (wpAny_bind (wpAny_callSpecial?_slot (name := Str.ofString "__getitem__") ht.typeIs slot_tuple_getitem (wpAny_call_entry slot_tuple_getitem ht.typeIs entry_tuple_getitem ?_ (args_tuple_getitem _ _)))))
  show wpAny _ _ (Builtin.Tuple.tupleItemsOf (.ref t) >>= _) _ _ s
  refine wpAny_bind (tupleItemsOf_ ht (wpAny_bind (wpAny_typeOf ty ?_)))
  rw [if_pos (by decide)]
  refine wpAny_bind ?_
  unfold Builtin.Slice.sliceApplied Builtin.Slice.sliceFields
  refine wpAny_bind (wpAny_bind (wpAny_field hos hds (x := .none) rfl (wpAny_bind (wpAny_field hos hds (x := .none) rfl (wpAny_bind (wpAny_field hos hds (x := vs) rfl (wpAny_pure ?_)))))))
  refine wpAny_bind (HT.slicePart_ ps ?_)
  show wpAny _ _ (if ((-1 : Int) == 0) = true then _ else _) _ _ s
  rw [if_neg (by decide)]
  refine wpAny_bind (slicePart_none (wpAny_bind (slicePart_none (wpAny_bind (wpAny_pure ?_)))))
  have e1 : Builtin.Slice.sliceAdjust none none (-1) (items.size : Int) = ((items.size : Int) - 1, -1) := rfl
  have e2 : Builtin.Slice.slicePlaces ((items.size : Int) - 1) (-1) (-1) = items.size := by
    unfold Builtin.Slice.slicePlaces
    rw [if_neg (by decide)]
    split
    · have q : (- (-1 : Int)) = 1 := by decide
      rw [q, Int.ediv_one]; omega
    · omega
  show wpAny _ _ (match Builtin.Slice.sliceAdjust none none (-1) (items.size : Int) with | (lo, hi) => pure (lo, (-1 : Int), Builtin.Slice.slicePlaces lo hi (-1))) _ _ s
  rw [e1]
  show wpAny _ _ (pure ((items.size : Int) - 1, (-1 : Int), Builtin.Slice.slicePlaces ((items.size : Int) - 1) (-1) (-1))) _ _ s
  rw [e2]
  refine wpAny_pure ?_
  show wpAny _ _ (if ((items.size : Int) - 1 == 0 && (-1 : Int) == 1 && items.size == items.size) = true then _ else _) _ _ s
  rw [if_neg (by rw [show ((-1 : Int) == 1) = false from rfl, Bool.and_false, Bool.false_and]; exact Bool.false_ne_true), pick_back]
  first
    | exact wpAny_bind (m := Builtin.Tuple.tupleExact _) (wpAny_newObj_type (wpAny_pure ⟨_, rfl, wpAny_pure h⟩) fits)
    | exact wpAny_bind (m := Builtin.Tuple.tupleExact _) (wpAny_newObj_type (wpAny_bind (wpAny_pure (wpAny_pure ⟨_, rfl, wpAny_pure h⟩))) fits)
    | exact wpAny_bind (wpAny_bind (m := Builtin.Tuple.tupleExact _) (wpAny_newObj_type (wpAny_pure (wpAny_pure ⟨_, rfl, wpAny_pure h⟩)) fits))
    | exact wpAny_bind (wpAny_bind (m := Builtin.Tuple.tupleExact _) (wpAny_newObj_type (wpAny_pure ⟨_, rfl, wpAny_pure h⟩) fits))
end
/-- the slice [::-1] as it is written -/
abbrev backSl (k : Nat) (p1 p2 p3 : Pos) : Expr := .Slice none none (some (.UnaryOp .USub (.Constant (.int 1) k p1) p2)) p3
section
variable {X : Cx} {E : Str → Hp → Prop}
theorem rev_tup {e : Expr} {te : TE} {k : Nat} {p1 p2 p3 pos : Pos} (he : PE X e te) : PE X (.Subscript e (backSl k p1 p2 p3) pos)
    (fun σ H Q => te σ H fun x H1 => ∃ a xs, x = .ref a ∧ ((H1 a = some (.lst xs) ∧ ∀ p, H1 p = none → Q (.ref p) (upd H1 p (.lst xs.reverse))) ∨ (H1 a = some (.tup xs) ∧ ∀ p, H1 p = none → Q (.ref p) (upd H1 p (.tup xs.reverse))))) := by
  refine ⟨fun pins s σ H Q I h => Subscript_ (thn (he.run pins s σ H _ I h) fun v s1 ⟨x, H1, I1, r1, q1⟩ => ?_)⟩
  obtain ⟨a, xs, rfl, q⟩ := q1
  cases r1
  have part : PO X (some (.UnaryOp .USub (.Constant (.int 1) k p1) p2)) (tPart (tUn (rU fun i => .int (-i)) (tC (.int 1)))) := po_some (pe_un un_neg pe_int)
  refine wpAny_Slice (thn (po_none.run pins s1 σ H1 (fun o H2 => o = none ∧ H2 = H1) I1 ⟨rfl, rfl⟩) fun vl s2 ⟨l, H2, I2, pl, el, e2⟩ => ?_)
  subst el e2
  refine thn (po_none.run pins s2 σ H2 (fun o H3 => o = none ∧ H3 = H2) I2 ⟨rfl, rfl⟩) fun vu s3 ⟨u, H3, I3, pu, eu, e3⟩ => ?_
  subst eu e3
  refine thn (part.run pins s3 σ H3 (fun o H4 => o = some (-1) ∧ H4 = H3) I3 ⟨1, rfl, -1, rfl, rfl, rfl⟩) fun vs s4 ⟨o, H4, I4, ps, eo, e4⟩ => ?_
  subst eo e4
  cases pl; cases pu
  have I5 : Inv X pins σ H4 { s4 with heap := s4.heap.push { cls := .type "slice", data := .fields #[.none, .none, vs] } } := I4.kept (t' := s4.toks) fun b ob q => Heap.get?_push_of_some _ q
  show wpAny (model X.prog X.w) X.A (subscriptTail e (backSl k p1 p2 p3) (.ref a) (.ref s4.heap.objs.size)) (EP X pins σ Q) X.xe { s4 with heap := s4.heap.push { cls := .type "slice", data := .fields #[.none, .none, vs] } }
  rcases q with ⟨hx, q⟩ | ⟨hx, q⟩
  · obtain ⟨its, r, ht, hz⟩ := I5.list (.of hx)
    have hlen := r.length
    refine tail_any (ops := [.ref a, .ref s4.heap.objs.size]) ht.isList.typeIs slot_list_getitem.lookup ?_ (by with_unfolding_all rfl)
    refine wpAny_getItem_list_slice ht.isList (Heap.IsSliceOf.new _ _ _ vs) .none .none ps (by decide) ?_ (by rw [List.size_toArray]; omega)
    rw [PySem.W.krv_pick]
    exact ⟨.ref _, _, I5.laid (t' := s4.toks) (o := .lst xs.reverse) (fun b ob q => Heap.get?_push_of_some _ q) (Nat.le_refl _) ⟨by rw [List.length_reverse]; exact hz, _, 0, r.reverse, Heap.get?_push_size _ rfl⟩, rfl, q _ (I5.hok.fresh (Nat.le_refl _))⟩
  · obtain ⟨its, r, ht, hz⟩ := I5.tuple (.of hx)
    have hlen := r.length
    refine tail_any (ops := [.ref a, .ref s4.heap.objs.size]) ht.typeIs slot_tuple_getitem.lookup ?_ (by with_unfolding_all rfl)
    refine tuple_back ht (Heap.IsSliceOf.new _ _ _ vs) ps ?_ (by rw [List.size_toArray]; omega)
    exact ⟨.ref _, _, I5.laid (t' := s4.toks) (o := .tup xs.reverse) (fun b ob q => Heap.get?_push_of_some _ q) (Nat.le_refl _) ⟨by rw [List.length_reverse]; exact hz, _, r.reverse, IsTup.new _ _⟩, rfl, q _ (I5.hok.fresh (Nat.le_refl _))⟩
/-! ### isinstance -/
theorem isin_ok {ρ : Rho} {H : Hp} {st : Store} {d : D} {v : V} {ty : String} {b : Bool} (sr : StR K ρ H st) (r : Rp K ρ H d v) (hty : okTy ty = true) (e : isinop d ty st = some b) : ∃ t, TyX K H v t ∧ PySem.W.kitOne K t (.type ty) = some b := by
  have tys : ty = "bool" ∨ ty = "int" ∨ ty = "str" ∨ ty = "tuple" ∨ ty = "list" := by
    simp only [okTy, Bool.or_eq_true, beq_iff_eq] at hty
    rcases hty with (((h | h) | h) | h) | h
    · exact .inl h
    · exact .inr (.inl h)
    · exact .inr (.inr (.inl h))
    · exact .inr (.inr (.inr (.inl h)))
    · exact .inr (.inr (.inr (.inr h)))
  have fin : ∀ a b', isinTy a ty = b' → (a = "NoneType" ∨ a = "bool" ∨ a = "int" ∨ a = "str" ∨ a = "tuple" ∨ a = "list") → PySem.W.kitOne K (.type a) (.type ty) = some b' := by
    intro a b' e ha
    refine kit_ty ?_
    subst e
    rcases ha with h | h | h | h | h | h <;> subst h <;> rcases tys with h | h | h | h | h <;> subst h <;> decide +kernel
  cases d with
  | non => cases (show v = _ from r); cases e; exact ⟨_, .base .non, fin "NoneType" _ rfl (by simp)⟩
  | bl x => cases (show v = _ from r); cases e; exact ⟨_, .base (.bl x), fin "bool" _ rfl (by simp)⟩
  | int x => cases (show v = _ from r); cases e; exact ⟨_, .base (.int x), fin "int" _ rfl (by simp)⟩
  | str x => cases (show v = _ from r); cases e; exact ⟨_, .base (.str x), fin "str" _ rfl (by simp)⟩
  | tup l => obtain ⟨a, vs, rfl, h, _⟩ := r; cases e; exact ⟨_, .base (.tup h), fin "tuple" _ rfl (by simp)⟩
  | lst l => obtain ⟨a, vs, rfl, h, _⟩ := r; cases e; exact ⟨_, .base (.lst h), fin "list" _ rfl (by simp)⟩
  | ref k =>
    simp only [isinop] at e
    split at e
    · rename_i l hl
      obtain ⟨a, vs, rfl, h, _⟩ := r.seqL sr (show seqL (.ref k) st = some l by simp [seqL, hl])
      cases e
      exact ⟨_, .base (.lst h), fin "list" _ rfl (by simp)⟩
    · cases e
  | rng _ _ => cases e
  | scr _ => cases e
  | fn _ => cases e
  | dic _ _ => cases e
/-! ### subscripts and slices -/
theorem ix_ok (hu : X.A.units + 65 < cLine) : IxR X (rOp X.K E ixop) := by
  intro value slice pins s σ H x y v u Q I rx ry h hs
  obtain ⟨ρ, st, a, b, sr, ra, rb, p⟩ := h
  unfold ixop at p
  cases hd : dicOf a st with
  | some q =>
    obtain ⟨ks, vs⟩ := q
    rw [hd] at p
    dsimp only at p
    split at p
    · rename_i hk
      cases hf : dfind ks vs b with
      | none => rw [hf] at p; exact p.elim
      | some d' =>
        rw [hf] at p
        obtain ⟨c, o, kv, vv, rfl, d1, d2, d3, d4⟩ := ra.dicOf sr hd
        cases (show v = Value.ref c from rx)
        exact tailD (dict_ty I d1 d2).1 PySem.F.slot_dict_getitem.lookup hs (dd_getItem (by omega) I d1 d2 d3 d4 rb ry hk hf fun z w' s' I' r1 r2 => ⟨z, H, I', r2, p.here sr r1⟩)
    · exact p.elim
  | none =>
  rw [hd] at p
  dsimp only at p
  cases b with
  | int i =>
    cases (show y = _ from rb)
    dsimp only at p
    split at p
    · rename_i l hl
      cases e : atI l i with
      | none => rw [e] at p; exact p.elim
      | some d =>
        rw [e] at p
        obtain ⟨c, vs, rfl, hc, rl⟩ := ra.seqLT sr hl
        unfold Ev.atI at e
        cases ej : ixN l.length i with
        | none => rw [ej] at e; cases e
        | some j =>
          rw [ej] at e
          obtain ⟨w, hw, rw'⟩ := rl.get (i := j) (d := d) e
          have eat : L2.atI vs i = some w := by
            unfold L2.atI
            rw [show L2.ixN vs.length i = some j by rw [← rl.length]; exact ej]
            exact hw
          have q := p.here sr rw'
          rcases hc with hc | hc
          · exact ix_list value slice pins s σ H _ _ v u Q I rx ry ⟨c, vs, i, w, rfl, rfl, .of hc, eat, q⟩ hs
          · exact ix_tup value slice pins s σ H _ _ v u Q I rx ry ⟨c, vs, i, w, rfl, rfl, .of hc, eat, q⟩ hs
    · exact p.elim
  | _ => exact p.elim
def rSlD (K : PySem.W.Frag) (E : Str → Hp → Prop) : V → Option Int → Option Int → Hp → VK → Prop := fun x lo hi H Q => ∃ ρ st a, StR K ρ H st ∧ Rp K ρ H a x ∧ PostE K E ρ H (slop a lo hi st) Q
theorem rps_cut {ρ : Rho} {H : Hp} {l : List D} {vs : List V} (lo hi : Option Int) (h : Rps K ρ H l vs) : Rps K ρ H (Ev.cut l lo hi) (L2.cutV vs lo hi) := by
  have e := h.length
  unfold Ev.cut L2.cutV
  rw [e]
  exact Rps.take _ (Rps.drop _ h)
theorem cut_whole (l : List D) (lo hi : Option Int) (h : HT.sIx l.length 0 lo = 0 ∧ HT.sIx l.length l.length hi = l.length) : Ev.cut l lo hi = l := by
  unfold cut
  have e1 : sIx l.length 0 lo = 0 := h.1
  have e2 : sIx l.length l.length hi = l.length := h.2
  rw [e1, e2]
  simp
theorem sl_ok : SlR X (rSlD X.K E) := by
  intro pins s σ H x v vl vu lo hi sl Q I rx hs pl pu h
  obtain ⟨ρ, st, a, sr, ra, p⟩ := h
  have lists : ∀ d, a = d → PostE X.K E ρ H (match seqL d st with
      | some l => .ok (.lst (Ev.cut l lo hi)) st
      | none => .bad) Q → ∃ T id, typeLookup (.type T) "__getitem__" = pure (some (.builtin id)) ∧ s.TypeIs v T ∧ wpAny (model X.prog X.w) X.A (getItem v (.ref sl)) (EP X pins σ Q) X.xe s := fun d e p2 => by
    subst e
    split at p2
    · rename_i l hl
      obtain ⟨c, vs, rfl, hc, rl⟩ := ra.seqL sr hl
      exact sl_list pins s σ H _ v vl vu lo hi sl Q I rx hs pl pu ⟨c, vs, rfl, .of hc, fun q hq => p2.new sr hq fun e n => ⟨q, _, rfl, upd_same, n, rps_cut lo hi (rl.ext e _ _)⟩⟩
    · exact p2.elim
  cases a with
  | tup l =>
    obtain ⟨c, vs, rfl, hc, n, rl⟩ := id ra
    refine sl_tupA pins s σ H _ v vl vu lo hi sl Q I rx hs pl pu ⟨c, vs, rfl, .of hc, fun hw => ?_, fun _ q hq => ?_⟩
    · have e : Ev.cut l lo hi = l := cut_whole l lo hi (by rw [rl.length]; exact hw)
      rw [slop, e] at p
      exact p.here sr ra
    · exact p.new sr hq fun e n => ⟨q, _, rfl, upd_same, n, rps_cut lo hi (rl.ext e _ _)⟩
  | non => exact lists _ rfl p
  | bl _ => exact lists _ rfl p
  | int _ => exact lists _ rfl p
  | str _ => exact lists _ rfl p
  | lst _ => exact lists _ rfl p
  | ref _ => exact lists _ rfl p
  | rng _ _ => exact lists _ rfl p
  | scr _ => exact lists _ rfl p
  | fn _ => exact lists _ rfl p
  | dic _ _ => exact lists _ rfl p
/-- the same, a new cell -/
theorem slc_ok : SlR X (fun x lo hi H Q => ∃ ρ st a, StR X.K ρ H st ∧ Rp X.K ρ H a x ∧ PostE X.K E ρ H (slcop a lo hi st) Q) := by
  intro pins s σ H x v vl vu lo hi sl Q I rx hs pl pu h
  obtain ⟨ρ, st, a, sr, ra, p⟩ := h
  unfold slcop at p
  split at p
  · rename_i l hl
    obtain ⟨c, vs, rfl, hc, rl⟩ := ra.seqL sr hl
    refine sl_list pins s σ H _ v vl vu lo hi sl Q I rx hs pl pu ⟨c, vs, rfl, .of hc, fun q hq => ?_⟩
    obtain ⟨ex, s2⟩ := sr.cellNew hq (rps_cut lo hi rl)
    refine p _ _ _ ex s2 ⟨by simp [sr.len], fun a ha => ?_⟩
    rw [sr.len] at ha
    simp at ha
    rw [ha]
  · exact p.elim
/-! ### truth -/
theorem truth_ok {ρ : Rho} {H : Hp} {st : Store} {d : D} {v : V} {b : Bool} (sr : StR K ρ H st) (r : Rp K ρ H d v) (e : truth d st = some b) : TruV K v H b := by
  cases d with
  | non => cases (show v = _ from r); cases e; rfl
  | bl x => cases (show v = _ from r); cases e; rfl
  | int x => cases (show v = _ from r); cases e; rfl
  | str x =>
    cases (show v = _ from r)
    simp only [truth] at e
    split at e
    · cases e; exact ⟨by rw [sizeLine_eq]; omega, rfl⟩
    · cases e
  | tup l =>
    obtain ⟨a, vs, rfl, h, _, rl⟩ := r
    cases e
    refine .inr (.inl ⟨vs, .of h, ?_⟩)
    have := rl.length
    cases l <;> cases vs <;> simp_all
  | lst l =>
    obtain ⟨a, vs, rfl, h, _, rl⟩ := r
    cases e
    refine .inl ⟨vs, .of h, ?_⟩
    have := rl.length
    cases l <;> cases vs <;> simp_all
  | ref k =>
    simp only [truth] at e
    split at e
    · rename_i l hl
      obtain ⟨a, vs, rfl, h, rl⟩ := r.seqL sr (show seqL (.ref k) st = some l by simp [seqL, hl])
      cases e
      refine .inl ⟨vs, .of h, ?_⟩
      have := rl.length
      cases l <;> cases vs <;> simp_all
    · cases e
  | rng _ _ => cases e
  | scr _ => cases e
  | fn _ => cases e
  | dic _ _ => cases e
end
end Ev

set_option Elab.async false
set_option linter.all false
set_option maxRecDepth 100000
set_option maxHeartbeats 1000000
namespace Ev
open PySem PySem.Spec PyProof.Rows L2
variable [TabsOf]
variable {K : PySem.W.Frag}
/-! ### readings -/
abbrev XW := L2.St → Str → Hp → Prop
def PostL (K : PySem.W.Frag) (E : Str → Hp → Prop) (ρ : Rho) (H : Hp) (r : R (List D)) (Q : List V → Hp → Prop) : Prop := match r with
  | .ok d st' => ∀ v ρ' H', Ext ρ H ρ' H' → StR K ρ' H' st' → Rps K ρ' H' d v → Q v H'
  | .exc x st' => ∀ ρ' H', Ext ρ H ρ' H' → StR K ρ' H' st' → E x H'
  | .bad => False
def PostT (K : PySem.W.Frag) (E : Str → Hp → Prop) (ρ : Rho) (H : Hp) (r : R D) (Q : Bool → Hp → Prop) : Prop := match r with
  | .ok d st' => ∃ b, truth d st' = some b ∧ ∀ ρ' H', Ext ρ H ρ' H' → StR K ρ' H' st' → Q b H'
  | .exc x st' => ∀ ρ' H', Ext ρ H ρ' H' → StR K ρ' H' st' → E x H'
  | .bad => False
abbrev Fe := Env → Store → R D
def tE (K : PySem.W.Frag) (W : XW) (f : Fe) : TE := fun σ H Q => ∃ ρ env st, EnvR K ρ H env σ ∧ StR K ρ H st ∧ PostE K (W σ) ρ H (f env st) Q
def tT (K : PySem.W.Frag) (W : XW) (f : Fe) : TT := fun σ H Q => ∃ ρ env st, EnvR K ρ H env σ ∧ StR K ρ H st ∧ PostT K (W σ) ρ H (f env st) Q
def tL (K : PySem.W.Frag) (W : XW) (f : Env → Store → R (List D)) : TA := fun σ H Q => ∃ ρ env st, EnvR K ρ H env σ ∧ StR K ρ H st ∧ PostL K (W σ) ρ H (f env st) Q
section
variable {E : Str → Hp → Prop} {ρ ρ1 : Rho} {H H1 : Hp}
theorem PostE.later {r : R D} {Q : VK} (p : PostE K E ρ H r Q) (e : Ext ρ H ρ1 H1) : PostE K E ρ1 H1 r Q := by
  cases r with
  | ok d st' => exact fun v ρ' H' e' s r => p v ρ' H' (e.trans e') s r
  | exc x st' => exact fun ρ' H' e' s => p ρ' H' (e.trans e') s
  | bad => exact p
theorem PostL.later {r : R (List D)} {Q : List V → Hp → Prop} (p : PostL K E ρ H r Q) (e : Ext ρ H ρ1 H1) : PostL K E ρ1 H1 r Q := by
  cases r with
  | ok d st' => exact fun v ρ' H' e' s r => p v ρ' H' (e.trans e') s r
  | exc x st' => exact fun ρ' H' e' s => p ρ' H' (e.trans e') s
  | bad => exact p
theorem PostT.later {r : R D} {Q : Bool → Hp → Prop} (p : PostT K E ρ H r Q) (e : Ext ρ H ρ1 H1) : PostT K E ρ1 H1 r Q := by
  cases r with
  | ok d st' => obtain ⟨b, h, p⟩ := p; exact ⟨b, h, fun ρ' H' e' s => p ρ' H' (e.trans e') s⟩
  | exc x st' => exact fun ρ' H' e' s => p ρ' H' (e.trans e') s
  | bad => exact p
theorem PostE.imp {r : R D} {Q Q' : VK} (p : PostE K E ρ H r Q) (h : ∀ v H, Q v H → Q' v H) : PostE K E ρ H r Q' := by
  cases r with
  | ok d st' => exact fun v ρ' H' e' s r => h _ _ (p v ρ' H' e' s r)
  | exc x st' => exact p
  | bad => exact p
theorem PostL.imp {r : R (List D)} {Q Q' : List V → Hp → Prop} (p : PostL K E ρ H r Q) (h : ∀ v H, Q v H → Q' v H) : PostL K E ρ H r Q' := by
  cases r with
  | ok d st' => exact fun v ρ' H' e' s r => h _ _ (p v ρ' H' e' s r)
  | exc x st' => exact p
  | bad => exact p
theorem PostT.imp {r : R D} {Q Q' : Bool → Hp → Prop} (p : PostT K E ρ H r Q) (h : ∀ v H, Q v H → Q' v H) : PostT K E ρ H r Q' := by
  cases r with
  | ok d st' => obtain ⟨b, e, p⟩ := p; exact ⟨b, e, fun ρ' H' e' s => h _ _ (p ρ' H' e' s)⟩
  | exc x st' => exact p
  | bad => exact p
/-- behind the first part of a bind -/
def Mid (K : PySem.W.Frag) (ρ : Rho) (H : Hp) (r : R D) (P : Rho → Hp → D → Store → Prop) (v : V) (H1 : Hp) : Prop :=
  ∃ ρ1 st1 d, Ext ρ H ρ1 H1 ∧ StR K ρ1 H1 st1 ∧ Rp K ρ1 H1 d v ∧ r = .ok d st1 ∧ P ρ1 H1 d st1
theorem PostE.step {r : R D} {g : D → Store → R D} {Q : VK} (p : PostE K E ρ H (r.bind g) Q) : PostE K E ρ H r (Mid K ρ H r fun ρ1 H1 d st1 => PostE K E ρ1 H1 (g d st1) Q) := by
  cases r with
  | ok d st1 => exact fun v ρ1 H1 e s r => ⟨ρ1, st1, d, e, s, r, rfl, p.later e⟩
  | exc x st' => exact p
  | bad => exact p
theorem PostL.step {r : R D} {g : D → Store → R (List D)} {Q : List V → Hp → Prop} (p : PostL K E ρ H (r.bind g) Q) : PostE K E ρ H r (Mid K ρ H r fun ρ1 H1 d st1 => PostL K E ρ1 H1 (g d st1) Q) := by
  cases r with
  | ok d st1 => exact fun v ρ1 H1 e s r => ⟨ρ1, st1, d, e, s, r, rfl, PostL.later p e⟩
  | exc x st' => exact p
  | bad => exact p
theorem PostT.step {r : R D} {g : D → Store → R D} {Q : Bool → Hp → Prop} (p : PostT K E ρ H (r.bind g) Q) : PostE K E ρ H r (Mid K ρ H r fun ρ1 H1 d st1 => PostT K E ρ1 H1 (g d st1) Q) := by
  cases r with
  | ok d st1 => exact fun v ρ1 H1 e s r => ⟨ρ1, st1, d, e, s, r, rfl, PostT.later p e⟩
  | exc x st' => exact p
  | bad => exact p
def MidL (K : PySem.W.Frag) (ρ : Rho) (H : Hp) (r : R (List D)) (P : Rho → Hp → List D → Store → Prop) (v : List V) (H1 : Hp) : Prop :=
  ∃ ρ1 st1 d, Ext ρ H ρ1 H1 ∧ StR K ρ1 H1 st1 ∧ Rps K ρ1 H1 d v ∧ r = .ok d st1 ∧ P ρ1 H1 d st1
theorem PostE.stepL {r : R (List D)} {g : List D → Store → R D} {Q : VK} (p : PostE K E ρ H (r.bind g) Q) : PostL K E ρ H r (MidL K ρ H r fun ρ1 H1 d st1 => PostE K E ρ1 H1 (g d st1) Q) := by
  cases r with
  | ok d st1 => exact fun v ρ1 H1 e s r => ⟨ρ1, st1, d, e, s, r, rfl, p.later e⟩
  | exc x st' => exact p
  | bad => exact p
theorem PostL.stepL {r : R (List D)} {g : List D → Store → R (List D)} {Q : List V → Hp → Prop} (p : PostL K E ρ H (r.bind g) Q) : PostL K E ρ H r (MidL K ρ H r fun ρ1 H1 d st1 => PostL K E ρ1 H1 (g d st1) Q) := by
  cases r with
  | ok d st1 => exact fun v ρ1 H1 e s r => ⟨ρ1, st1, d, e, s, r, rfl, p.later e⟩
  | exc x st' => exact p
  | bad => exact p
/-- a value's truth asked -/
theorem PostE.test {r : R D} {g : Bool → D → Store → R D} {Q : VK} (p : PostE K E ρ H (r.bind fun d st1 => match truth d st1 with
    | some b => g b d st1
    | none => .bad) Q) : PostT K E ρ H r fun b H1 => ∃ ρ1 st1 d, Ext ρ H ρ1 H1 ∧ StR K ρ1 H1 st1 ∧ r = .ok d st1 ∧ truth d st1 = some b ∧ PostE K E ρ1 H1 (g b d st1) Q := by
  cases r with
  | ok d st1 =>
    change PostE K E ρ H (match truth d st1 with
    | some b => g b d st1
    | none => .bad) Q at p
    cases h : truth d st1 with
    | none => rw [h] at p; exact p.elim
    | some b => rw [h] at p; exact ⟨b, h, fun ρ1 H1 e s => ⟨ρ1, st1, d, e, s, rfl, h, p.later e⟩⟩
  | exc x st' => exact p
  | bad => exact p
theorem PostT.test {r : R D} {g : Bool → D → Store → R D} {Q : Bool → Hp → Prop} (p : PostT K E ρ H (r.bind fun d st1 => match truth d st1 with
    | some b => g b d st1
    | none => .bad) Q) : PostT K E ρ H r fun b H1 => ∃ ρ1 st1 d, Ext ρ H ρ1 H1 ∧ StR K ρ1 H1 st1 ∧ r = .ok d st1 ∧ truth d st1 = some b ∧ PostT K E ρ1 H1 (g b d st1) Q := by
  cases r with
  | ok d st1 =>
    change PostT K E ρ H (match truth d st1 with
    | some b => g b d st1
    | none => .bad) Q at p
    cases h : truth d st1 with
    | none => rw [h] at p; exact p.elim
    | some b => rw [h] at p; exact ⟨b, h, fun ρ1 H1 e s => ⟨ρ1, st1, d, e, s, rfl, h, PostT.later p e⟩⟩
  | exc x st' => exact p
  | bad => exact p
/-- the value, then its truth -/
theorem PostT.val {r : R D} {Q : Bool → Hp → Prop} (p : PostT K E ρ H r Q) : PostE K E ρ H r fun v H1 => ∃ k, TruV K v H1 k ∧ Q k H1 := by
  cases r with
  | ok d st1 => obtain ⟨b, h, p⟩ := p; exact fun v ρ1 H1 e s r => ⟨b, truth_ok s r h, p ρ1 H1 e s⟩
  | exc x st' => exact p
  | bad => exact p
end
theorem PE.mono {X : Cx} {e : Expr} {t t' : TE} (h : PE X e t) (m : ∀ σ H Q, t' σ H Q → t σ H Q) : PE X e t' := ⟨fun pins s σ H Q I q => h.run pins s σ H Q I (m σ H Q q)⟩
theorem PT.mono {X : Cx} {e : Expr} {t t' : TT} (h : PT X e t) (m : ∀ σ H Q, t' σ H Q → t σ H Q) : PT X e t' := ⟨fun pins s σ H Q I q => h.run pins s σ H Q I (m σ H Q q)⟩
theorem PW.mono {X : Cx} {e : Expr} {t t' : TT} (h : PW X e t) (m : ∀ σ H Q, t' σ H Q → t σ H Q) : PW X e t' := ⟨fun wh pins s σ H Q I q => h.run wh pins s σ H Q I (m σ H Q q)⟩
theorem PA.mono {X : Cx} {es : List Expr} {t t' : TA} (h : PA X es t) (m : ∀ σ H Q, t' σ H Q → t σ H Q) : PA X es t' := ⟨fun pos pins s σ H Q I q => h.run pos pins s σ H Q I (m σ H Q q)⟩
theorem PSs.mono {X : Cx} {st : List Stmt} {t t' : TS} (h : PSs X st t) (m : ∀ D σ H, t' D σ H → t D σ H) : PSs X st t' := ⟨fun pins s σ H D I q => h.run pins s σ H D I (m D σ H q)⟩
theorem PS.mono {X : Cx} {st : Stmt} {t t' : TS} (h : PS X st t) (m : ∀ D σ H, t' D σ H → t D σ H) : PS X st t' := ⟨fun pins s σ H D I q => h.run pins s σ H D I (m D σ H q)⟩
theorem pe_false {X : Cx} {e : Expr} {t : TE} (h : ∀ σ H Q, ¬ t σ H Q) : PE X e t := ⟨fun _ _ σ H Q _ q => absurd q (h σ H Q)⟩
theorem pt_false {X : Cx} {e : Expr} {t : TT} (h : ∀ σ H Q, ¬ t σ H Q) : PT X e t := ⟨fun _ _ σ H Q _ q => absurd q (h σ H Q)⟩
theorem tE_bad {W : XW} {f : Fe} (h : ∀ env st, f env st = .bad) : ∀ σ H Q, ¬ tE K W f σ H Q := fun σ H Q ⟨ρ, env, st, _, _, p⟩ => by rw [h] at p; exact p
theorem tT_bad {W : XW} {f : Fe} (h : ∀ env st, f env st = .bad) : ∀ σ H Q, ¬ tT K W f σ H Q := fun σ H Q ⟨ρ, env, st, _, _, p⟩ => by rw [h] at p; exact p

/-! ### the rules by their meanings -/
section
variable {X : Cx} {W : XW} {a b c : Expr} {fa fb fc : Fe} {pos : Pos}
abbrev Pe (X : Cx) (W : XW) (e : Expr) (f : Fe) : Prop := PE X e (tE X.K W f)
abbrev Pt (X : Cx) (W : XW) (e : Expr) (f : Fe) : Prop := PT X e (tT X.K W f)
abbrev Pl (X : Cx) (W : XW) (es : List Expr) (f : Env → Store → R (List D)) : Prop := PA X es (tL X.K W f)
theorem two_ok {E : L2.St → Str → Hp → Prop} {g : D → D → Store → R D} : ∀ σ H Q, tE K W (fun env st => (fa env st).bind fun x st1 => (fb env st1).bind fun y st2 => g x y st2) σ H Q → tE K W fa σ H fun x H1 => tE K W fb σ H1 fun y H2 => rOp K (W σ) g x y H2 Q :=
  fun σ H Q ⟨ρ, env, st, er, sr, p⟩ => ⟨ρ, env, st, er, sr, p.step.imp fun v H1 ⟨ρ1, st1, d, e1, s1, r1, _, p1⟩ => ⟨ρ1, env, st1, er.ext e1, s1, p1.step.imp fun w H2 ⟨ρ2, st2, d2, e2, s2, r2, _, p2⟩ => ⟨ρ2, st2, d, d2, s2, r1.ext e2 _ _, r2, p2⟩⟩⟩
theorem x_bin {op : Operator} (ha : Pe X W a fa) (hb : Pe X W b fb) : Pe X W (.BinOp a op b pos) fun env st => (fa env st).bind fun x st1 => (fb env st1).bind fun y st2 => binop op x y st2 := by
  refine ⟨fun pins s σ H Q I h => ?_⟩
  exact (pe_op (binop_ok (E := W σ) op) ha hb).run pins s σ H Q I (two_ok (E := W) σ H Q h)
theorem x_cmp {op : CmpOp} (hu : X.A.units + 65 < cLine) (ha : Pe X W a fa) (hb : Pe X W b fb) (hm : behindInMarks op b = false) : Pe X W (.Compare a [op] [b] pos) fun env st => (fa env st).bind fun x st1 => (fb env st1).bind fun y st2 => cmpop op x y st2 := by
  refine ⟨fun pins s σ H Q I h => ?_⟩
  exact (pe_cmpR (cmpop_ok (E := W σ) hu op) ha hb hm).run pins s σ H Q I (two_ok (E := W) σ H Q h)
theorem x_ix (hu : X.A.units + 65 < cLine) (ha : Pe X W a fa) (hb : Pe X W b fb) (hs : PlainIx b) : Pe X W (.Subscript a b pos) fun env st => (fa env st).bind fun x st1 => (fb env st1).bind fun y st2 => ixop x y st2 := by
  refine ⟨fun pins s σ H Q I h => ?_⟩
  exact (pe_ix (ix_ok (E := W σ) hu) ha hb hs).run pins s σ H Q I (two_ok (E := W) σ H Q h)
/-- a comparison gives a bool -/
theorem cmp_bl {op : CmpOp} {x y d : D} {st st' : Store} (h : cmpop op x y st = .ok d st') : ∃ k, d = .bl k ∧ st' = st := by
  unfold cmpop at h
  cases op <;> dsimp only at h
  all_goals (try (repeat' split at h))
  all_goals first
    | (cases h; exact ⟨_, rfl, rfl⟩)
    | cases h
/-- a test of a value that is known to be a bool, of the form of a comparison -/
theorem t_cmp {op : CmpOp} (hu : X.A.units + 65 < cLine) (ha : Pe X W a fa) (hb : Pe X W b fb) (hm : behindInMarks op b = false) : Pt X W (.Compare a [op] [b] pos) fun env st => (fa env st).bind fun x st1 => (fb env st1).bind fun y st2 => cmpop op x y st2 := by
  refine ⟨fun pins s σ H Q I ⟨ρ, env, st, er, sr, p⟩ => ?_⟩
  refine (pt_cmpR (cmpop_ok (E := W σ) hu op) ha hb hm).run pins s σ H Q I ?_
  refine two_ok (E := W) σ H _ ⟨ρ, env, st, er, sr, ?_⟩
  revert p
  dsimp only
  generalize hr : (fa env st).bind (fun x st1 => (fb env st1).bind fun y st2 => cmpop op x y st2) = r
  intro p
  cases r with
  | ok d st' =>
    obtain ⟨k, h, p⟩ := p
    have hb : ∃ k, d = .bl k := by
      cases q : fa env st with
      | ok x st1 =>
        rw [q] at hr
        change (fb env st1).bind (fun y st2 => cmpop op x y st2) = _ at hr
        cases q2 : fb env st1 with
        | ok y st2 =>
          rw [q2] at hr
          obtain ⟨k, e, _⟩ := cmp_bl hr
          exact ⟨k, e⟩
        | exc x st' => rw [q2] at hr; cases hr
        | bad => rw [q2] at hr; cases hr
      | exc x st' => rw [q] at hr; cases hr
      | bad => rw [q] at hr; cases hr
    obtain ⟨k', rfl⟩ := hb
    cases h
    exact fun v ρ' H' e s r => by cases (show v = _ from r); exact ⟨k, rfl, p ρ' H' e s⟩
  | exc x st' => exact p
  | bad => exact p
/-- by the value -/
theorem t_val (ha : Pe X W a fa) (he : ∀ whole, isTrue a X.env whole = (do let v ← whole; standAt a.pos; holding [v] (truthy v))) : Pt X W a fa :=
  PT.mono (pt_truth ha he) fun σ H Q ⟨ρ, env, st, er, sr, p⟩ => ⟨ρ, env, st, er, sr, p.val⟩
theorem x_not (ha : Pe X W a fa) : Pe X W (.UnaryOp .Not a pos) fun env st => (fa env st).bind fun x st1 => match truth x st1 with
    | some b => .ok (.bl (!b)) st1
    | none => .bad :=
  PE.mono (pe_notT ha) fun σ H Q ⟨ρ, env, st, er, sr, p⟩ => ⟨ρ, env, st, er, sr, p.step.imp fun v H1 ⟨ρ1, st1, d, e1, s1, r1, _, p1⟩ => by
    dsimp only at p1
    split at p1
    · rename_i k hk
      exact ⟨k, truth_ok s1 r1 hk, p1.here s1 rfl⟩
    · exact p1.elim⟩
theorem t_not (ha : Pt X W a fa) : Pt X W (.UnaryOp .Not a pos) fun env st => (fa env st).bind fun x st1 => match truth x st1 with
    | some b => .ok (.bl (!b)) st1
    | none => .bad :=
  PT.mono (pt_not ha) fun σ H Q ⟨ρ, env, st, er, sr, p⟩ => ⟨ρ, env, st, er, sr, p.test.imp fun k H1 ⟨ρ1, st1, d, e1, s1, _, _, p1⟩ => by
    obtain ⟨k', h, p1⟩ := p1
    cases h
    exact p1 ρ1 H1 (.refl _ _) s1⟩
theorem x_neg (ha : Pe X W a fa) : Pe X W (.UnaryOp .USub a pos) fun env st => (fa env st).bind fun x st1 => match x with
    | .int i => .ok (.int (-i)) st1
    | _ => .bad :=
  PE.mono (pe_un un_neg ha) fun σ H Q ⟨ρ, env, st, er, sr, p⟩ => ⟨ρ, env, st, er, sr, p.step.imp fun v H1 ⟨ρ1, st1, d, e1, s1, r1, _, p1⟩ => by
    dsimp only at p1
    cases d with
    | int i => exact ⟨i, r1, p1.here s1 rfl⟩
    | _ => exact p1.elim⟩
theorem x_ite (hc : Pt X W c fc) (ha : Pe X W a fa) (hb : Pe X W b fb) : Pe X W (.IfExp c a b pos) fun env st => (fc env st).bind fun x st1 => match truth x st1 with
    | some k => if k = true then fa env st1 else fb env st1
    | none => .bad :=
  PE.mono (pe_ifExp hc ha hb) fun σ H Q ⟨ρ, env, st, er, sr, p⟩ => ⟨ρ, env, st, er, sr, p.test.imp fun k H1 ⟨ρ1, st1, d, e1, s1, _, _, p1⟩ => by
    cases k with
    | true => exact ⟨ρ1, env, st1, er.ext e1, s1, p1⟩
    | false => exact ⟨ρ1, env, st1, er.ext e1, s1, p1⟩⟩
theorem t_ite (hc : Pt X W c fc) (ha : Pt X W a fa) (hb : Pt X W b fb) : Pt X W (.IfExp c a b pos) fun env st => (fc env st).bind fun x st1 => match truth x st1 with
    | some k => if k = true then fa env st1 else fb env st1
    | none => .bad := by
  refine ⟨fun pins s σ H Q I ⟨ρ, env, st, er, sr, p⟩ => ?_⟩
  show wpAny _ X.A (do if ← isTrue c X.env (eval c X.env) then isTrue a X.env (eval a X.env) else isTrue b X.env (eval b X.env)) _ _ s
  refine wpAny_bind (thn (hc.run pins s σ H _ I ⟨ρ, env, st, er, sr, p.test⟩) fun k s1 ⟨H1, I1, ρ1, st1, d, e1, s1', _, _, p1⟩ => ?_)
  cases k with
  | true => exact ha.run pins s1 σ H1 Q I1 ⟨ρ1, env, st1, er.ext e1, s1', p1⟩
  | false => exact hb.run pins s1 σ H1 Q I1 ⟨ρ1, env, st1, er.ext e1, s1', p1⟩
end
end Ev

set_option Elab.async false
set_option linter.all false
set_option maxRecDepth 100000
set_option maxHeartbeats 1000000
namespace Ev
open PySem PySem.Spec PyProof.Rows L2
variable [TabsOf]
section
variable {X : Cx} {W : XW} {a b c e : Expr} {fa fb fc f : Fe} {pos p p2 : Pos} {rest es : List Expr}
/-! ### constants, names -/
theorem x_const {d : D} {v : V} (h : PE X e (tC v)) (r : ∀ ρ H, Rp X.K ρ H d v) : Pe X W e fun _ st => .ok d st :=
  PE.mono h fun σ H Q ⟨ρ, env, st, er, sr, p⟩ => p.here sr (r ρ H)
theorem x_var {i : Nat} {x : Str} (hN : X.N[i]? = some x) (hv : Vis X.env.scope x) (hd : (x == ("__debug__" : Str)) = false) (hcd : (x == ("__classdict__" : Str)) = false) : Pe X W (.Name x pos) fun env st => match env[i]? with
    | some (some d) => .ok d st
    | _ => .bad :=
  PE.mono (pe_var hN hv hd hcd) fun σ H Q ⟨ρ, env, st, er, sr, p⟩ => by
    dsimp only at p
    split at p
    · rename_i d hd
      obtain ⟨v, h1, h2⟩ := er.get i d hd
      exact ⟨v, h1, p.here sr h2⟩
    · exact p.elim
theorem x_glob {cs : Consts} {x : Str} (hg : Gl X x) (hd : (x == ("__debug__" : Str)) = false)
    (hc : ∀ d, cs.lookup x = some d → ∃ v u, X.mg x = some u ∧ RelV v u ∧ ∀ ρ H, Rp X.K ρ H d v) : Pe X W (.Name x pos) fun _ st => R.of (lookS cs x) st := by
  rw [lookS_eq]
  cases h : cs.lookup x with
  | none => exact pe_false (tE_bad fun _ _ => rfl)
  | some d =>
    obtain ⟨v, u, h1, h2, h3⟩ := hc d h
    exact PE.mono (pe_glob hg h1 h2 hd) fun σ H Q ⟨ρ, env, st, er, sr, p⟩ => PostE.here (d := d) (st := st) p sr (h3 ρ H)
/-! ### and, or -/
theorem t_one {op : BoolOp} (ha : Pt X W a fa) : PW X (.BoolOp op [a] pos) (tT X.K W fa) := by
  cases op with
  | And => exact pw_and1 ha
  | Or => exact pw_or1 ha
abbrev andF (fa fb : Fe) : Fe := fun env st => (fa env st).bind fun x st1 => match truth x st1 with
  | some k => if k = true then fb env st1 else .ok x st1
  | none => .bad
abbrev orF (fa fb : Fe) : Fe := fun env st => (fa env st).bind fun x st1 => match truth x st1 with
  | some k => if k = true then .ok x st1 else fb env st1
  | none => .bad
theorem w_and (ha : Pt X W a fa) (hb : PW X (.BoolOp .And (b :: rest) pos) (tT X.K W fb)) : PW X (.BoolOp .And (a :: b :: rest) pos) (tT X.K W (andF fa fb)) :=
  PW.mono (pw_and ha hb) fun σ H Q ⟨ρ, env, st, er, sr, p⟩ => ⟨ρ, env, st, er, sr, PostT.imp (PostT.test (g := fun k x st1 => if k = true then fb env st1 else .ok x st1) p) fun k H1 ⟨ρ1, st1, d, e1, s1, _, ht, p1⟩ => by
    cases k with
    | true => exact ⟨ρ1, env, st1, er.ext e1, s1, p1⟩
    | false =>
      obtain ⟨k', h, p1⟩ := p1
      rw [ht] at h; cases h
      exact p1 ρ1 H1 (.refl _ _) s1⟩
theorem w_or (ha : Pt X W a fa) (hb : PW X (.BoolOp .Or (b :: rest) pos) (tT X.K W fb)) : PW X (.BoolOp .Or (a :: b :: rest) pos) (tT X.K W (orF fa fb)) :=
  PW.mono (pw_or ha hb) fun σ H Q ⟨ρ, env, st, er, sr, p⟩ => ⟨ρ, env, st, er, sr, PostT.imp (PostT.test (g := fun k x st1 => if k = true then .ok x st1 else fb env st1) p) fun k H1 ⟨ρ1, st1, d, e1, s1, _, ht, p1⟩ => by
    cases k with
    | false => exact ⟨ρ1, env, st1, er.ext e1, s1, p1⟩
    | true =>
      obtain ⟨k', h, p1⟩ := p1
      rw [ht] at h; cases h
      exact p1 ρ1 H1 (.refl _ _) s1⟩
theorem x_and (ha : Pe X W a fa) (hb : Pe X W (.BoolOp .And (b :: rest) pos) fb) : Pe X W (.BoolOp .And (a :: b :: rest) pos) (andF fa fb) :=
  PE.mono (pe_andT ha hb) fun σ H Q ⟨ρ, env, st, er, sr, p⟩ => ⟨ρ, env, st, er, sr, PostE.imp (PostE.step p) fun v H1 ⟨ρ1, st1, d, e1, s1, r1, _, p1⟩ => by
    dsimp only at p1
    split at p1
    · rename_i k hk
      refine ⟨k, truth_ok s1 r1 hk, ?_⟩
      cases k with
      | true => exact ⟨ρ1, env, st1, er.ext e1, s1, p1⟩
      | false => exact PostE.here (d := d) (st := st1) p1 s1 r1
    · exact p1.elim⟩
theorem x_or (ha : Pe X W a fa) (hb : Pe X W (.BoolOp .Or (b :: rest) pos) fb) : Pe X W (.BoolOp .Or (a :: b :: rest) pos) (orF fa fb) :=
  PE.mono (pe_orT ha hb) fun σ H Q ⟨ρ, env, st, er, sr, p⟩ => ⟨ρ, env, st, er, sr, PostE.imp (PostE.step p) fun v H1 ⟨ρ1, st1, d, e1, s1, r1, _, p1⟩ => by
    dsimp only at p1
    split at p1
    · rename_i k hk
      refine ⟨k, truth_ok s1 r1 hk, ?_⟩
      cases k with
      | false => exact ⟨ρ1, env, st1, er.ext e1, s1, p1⟩
      | true => exact PostE.here (d := d) (st := st1) p1 s1 r1
    · exact p1.elim⟩
/-! ### chains -/
abbrev chF (op op2 : CmpOp) (fa fb fc : Fe) : Fe := fun env st => (fa env st).bind fun x st1 => (fb env st1).bind fun y st2 => (cmpop op x y st2).bind fun k st3 => match k with
  | .bl true => (fc env st3).bind fun z st4 => cmpop op2 y z st4
  | .bl false => .ok (.bl false) st3
  | _ => .bad
theorem x_chain {op op2 : CmpOp} (hu : X.A.units + 65 < cLine) (ha : Pe X W a fa) (hb : Pe X W b fb) (hc : Pe X W c fc) (hm : lastMarks [op, op2] [b, c] = false) : Pe X W (.Compare a [op, op2] [b, c] pos) (chF op op2 fa fb fc) := by
  refine ⟨fun pins s σ H Q I ⟨ρ, env, st, er, sr, p⟩ => ?_⟩
  refine (pe_chain (cmpop_ok (E := W σ) hu op) (cmpop_ok (E := W σ) hu op2) ha hb hc hm).run pins s σ H Q I ?_
  refine ⟨ρ, env, st, er, sr, PostE.imp (PostE.step p) fun v H1 ⟨ρ1, st1, d, e1, s1, r1, _, p1⟩ => ?_⟩
  refine ⟨ρ1, env, st1, er.ext e1, s1, PostE.imp (PostE.step p1) fun w H2 ⟨ρ2, st2, d2, e2, s2, r2, _, p2⟩ => ?_⟩
  refine ⟨ρ2, st2, d, d2, s2, r1.ext e2 _ _, r2, PostE.imp (PostE.step p2) fun z H3 ⟨ρ3, st3, d3, e3, s3, r3, eq3, p3⟩ => ?_⟩
  obtain ⟨k, rfl, rfl⟩ := cmp_bl eq3
  refine ⟨k, r3, ?_⟩
  cases k with
  | false => exact PostE.here (d := .bl false) p3 s3 rfl
  | true => exact ⟨ρ3, env, _, ((er.ext e1).ext e2).ext e3, s3, PostE.imp (PostE.step p3) fun w4 H4 ⟨ρ4, st4, d4, e4, s4, r4, _, p4⟩ => ⟨ρ4, st4, d2, d4, s4, (r2.ext e3 _ _).ext e4 _ _, r4, p4⟩⟩
/-- what a chain gives is a bool -/
theorem ch_bl {op op2 : CmpOp} {env : Env} {st st' : Store} {d : D} (h : chF op op2 fa fb fc env st = .ok d st') : ∃ k, d = .bl k := by
  unfold chF at h
  cases q : fa env st with
  | ok x st1 =>
    rw [q] at h
    change (fb env st1).bind _ = _ at h
    cases q2 : fb env st1 with
    | ok y st2 =>
      rw [q2] at h
      change (cmpop op x y st2).bind _ = _ at h
      cases q3 : cmpop op x y st2 with
      | ok k st3 =>
        rw [q3] at h
        obtain ⟨k', rfl, _⟩ := cmp_bl q3
        cases k' with
        | false => cases h; exact ⟨_, rfl⟩
        | true =>
          change (fc env st3).bind _ = _ at h
          cases q4 : fc env st3 with
          | ok z st4 =>
            rw [q4] at h
            obtain ⟨k2, e, _⟩ := cmp_bl h
            exact ⟨k2, e⟩
          | exc x st' => rw [q4] at h; cases h
          | bad => rw [q4] at h; cases h
      | exc x st' => rw [q3] at h; cases h
      | bad => rw [q3] at h; cases h
    | exc x st' => rw [q2] at h; cases h
    | bad => rw [q2] at h; cases h
  | exc x st' => rw [q] at h; cases h
  | bad => rw [q] at h; cases h
/-- a bool's truth as a value -/
theorem PostT.bool {E : Str → Hp → Prop} {ρ : Rho} {H : Hp} {r : R D} {Q : Bool → Hp → Prop} (p : PostT X.K E ρ H r Q) (hb : ∀ d st, r = .ok d st → ∃ k, d = .bl k) : PostE X.K E ρ H r fun z H' => ∃ k, z = .bl k ∧ Q k H' := by
  cases r with
  | ok d st' =>
    obtain ⟨k, h, p⟩ := p
    obtain ⟨k', rfl⟩ := hb d st' rfl
    cases h
    exact fun v ρ' H' e s r => by cases (show v = _ from r); exact ⟨k, rfl, p ρ' H' e s⟩
  | exc x st' => exact p
  | bad => exact p
theorem t_chain {op op2 : CmpOp} (hu : X.A.units + 65 < cLine) (ha : Pe X W a fa) (hb : Pe X W b fb) (hc : Pe X W c fc) (hm : lastMarks [op, op2] [b, c] = false) : Pt X W (.Compare a [op, op2] [b, c] pos) (chF op op2 fa fb fc) := by
  refine ⟨fun pins s σ H Q I ⟨ρ, env, st, er, sr, p⟩ => ?_⟩
  refine (pt_chain (cmpop_ok (E := W σ) hu op) (cmpop_ok (E := W σ) hu op2) ha hb hc hm).run pins s σ H Q I ?_
  have p : PostE X.K (W σ) ρ H (chF op op2 fa fb fc env st) _ := PostT.bool p fun d st' h => ch_bl h
  refine ⟨ρ, env, st, er, sr, PostE.imp (PostE.step p) fun v H1 ⟨ρ1, st1, d, e1, s1, r1, _, p1⟩ => ?_⟩
  refine ⟨ρ1, env, st1, er.ext e1, s1, PostE.imp (PostE.step p1) fun w H2 ⟨ρ2, st2, d2, e2, s2, r2, _, p2⟩ => ?_⟩
  refine ⟨ρ2, st2, d, d2, s2, r1.ext e2 _ _, r2, PostE.imp (PostE.step p2) fun z H3 ⟨ρ3, st3, d3, e3, s3, r3, eq3, p3⟩ => ?_⟩
  obtain ⟨k, rfl, rfl⟩ := cmp_bl eq3
  refine ⟨k, r3, ?_⟩
  cases k with
  | false => exact PostE.here (d := .bl false) p3 s3 rfl
  | true => exact ⟨ρ3, env, _, ((er.ext e1).ext e2).ext e3, s3, PostE.imp (PostE.step p3) fun w4 H4 ⟨ρ4, st4, d4, e4, s4, r4, _, p4⟩ => ⟨ρ4, st4, d2, d4, s4, (r2.ext e3 _ _).ext e4 _ _, r4, p4⟩⟩
/-! ### argument lists, displays -/
theorem l_nil : Pl X W [] fun _ st => .ok [] st := PA.mono pa_nil fun σ H Q ⟨ρ, env, st, er, sr, p⟩ => p [] ρ H (.refl _ _) sr rfl
theorem l_cons {fl : Env → Store → R (List D)} (ha : Pe X W a fa) (hl : Pl X W es fl) (hs : starEach (a :: es) X.env = (false, eval a X.env) :: starEach es X.env) : Pl X W (a :: es) fun env st => (fa env st).bind fun d st1 => (fl env st1).bind fun ds st2 => .ok (d :: ds) st2 :=
  PA.mono (pa_cons ha hl hs) fun σ H Q ⟨ρ, env, st, er, sr, p⟩ => ⟨ρ, env, st, er, sr, PostE.imp (PostL.step p) fun v H1 ⟨ρ1, st1, d, e1, s1, r1, _, p1⟩ =>
    ⟨ρ1, env, st1, er.ext e1, s1, PostL.imp (PostL.stepL p1) fun vs H2 ⟨ρ2, st2, ds, e2, s2, r2, _, p2⟩ => p2 _ ρ2 H2 (.refl _ _) s2 (.cons (r1.ext e2 _ _) r2)⟩⟩
theorem x_tup {fl : Env → Store → R (List D)} {x1 : Nat} (hl : Pl X W es fl) (hz : ∀ env st ds st', fl env st = .ok ds st' → ds.length ≤ seqMax) : Pe X W (.Tuple es x1 pos) fun env st => (fl env st).bind fun ds st1 => .ok (.tup ds) st1 :=
  PE.mono (pe_tup hl) fun σ H Q ⟨ρ, env, st, er, sr, p⟩ => ⟨ρ, env, st, er, sr, PostL.imp (PostE.stepL p) fun vs H1 ⟨ρ1, st1, ds, e1, s1, r1, q1, p1⟩ =>
    ⟨by rw [← r1.length]; exact Nat.le_trans (hz _ _ _ _ q1) line_ok, fun p hp => PostE.new (d := .tup ds) (st := st1) p1 s1 hp fun ex off => ⟨p, vs, rfl, upd_same, off, r1.ext ex _ _⟩⟩⟩
theorem x_lst {fl : Env → Store → R (List D)} (hl : Pl X W es fl) (hz : ∀ env st ds st', fl env st = .ok ds st' → ds.length ≤ seqMax) : Pe X W (.List es pos) fun env st => (fl env st).bind fun ds st1 => .ok (.lst ds) st1 :=
  PE.mono (pe_lst hl) fun σ H Q ⟨ρ, env, st, er, sr, p⟩ => ⟨ρ, env, st, er, sr, PostL.imp (PostE.stepL p) fun vs H1 ⟨ρ1, st1, ds, e1, s1, r1, q1, p1⟩ =>
    ⟨by rw [← r1.length]; exact Nat.le_trans (hz _ _ _ _ q1) line_ok, fun p hp => PostE.new (d := .lst ds) (st := st1) p1 s1 hp fun ex off => ⟨p, vs, rfl, upd_same, off, r1.ext ex _ _⟩⟩⟩
theorem x_cel {fl : Env → Store → R (List D)} (hl : Pl X W es fl) (hz : ∀ env st ds st', fl env st = .ok ds st' → ds.length ≤ seqMax) : Pe X W (.List es pos) fun env st => (fl env st).bind fun ds st1 => .ok (.ref st1.length) (st1 ++ [.lst ds]) :=
  PE.mono (pe_lst hl) fun σ H Q ⟨ρ, env, st, er, sr, p⟩ => ⟨ρ, env, st, er, sr, PostL.imp (PostE.stepL p) fun vs H1 ⟨ρ1, st1, ds, e1, s1, r1, q1, p1⟩ =>
    ⟨by rw [← r1.length]; exact Nat.le_trans (hz _ _ _ _ q1) line_ok, fun p hp => by
      obtain ⟨ex, s2⟩ := s1.cellNew hp r1
      refine p1 _ _ _ ex s2 ⟨by simp [s1.len], fun a ha => ?_⟩
      rw [s1.len] at ha
      simp at ha
      rw [ha]⟩⟩
/-- a + b of lists, a new cell -/
def addC (x y : D) (st2 : Store) : R D := match seqL x st2, seqL y st2 with
  | some xs, some ys => if xs.length + ys.length ≤ seqMax then .ok (.ref st2.length) (st2 ++ [.lst (xs ++ ys)]) else .bad
  | _, _ => .bad
theorem addC_ok {E : Str → Hp → Prop} : OpR X (binaryOp .Add) (rOp X.K E addC) := by
  intro pins s σ H x y v u Q I rx ry ⟨ρ, st, a, b, sr, ra, rb, p⟩
  unfold addC at p
  split at p
  · rename_i xs ys e1 e2
    split at p
    · rename_i hl
      have hz := line_ok
      obtain ⟨a1, vs, ex, hx, rvs⟩ := ra.seqL sr e1
      obtain ⟨b1, ws, ey, hy, rws⟩ := rb.seqL sr e2
      subst ex ey
      refine op_cat pins s σ H _ _ v u Q I rx ry ⟨a1, b1, vs, ws, rfl, rfl, hx, hy, by rw [← rvs.length, ← rws.length]; omega, fun q hq => ?_⟩
      obtain ⟨e, s'⟩ := sr.cellNew hq (rvs.append rws)
      refine p (.ref q) _ _ e s' ⟨by simp [sr.len], fun c hc => ?_⟩
      rw [sr.len] at hc
      simp at hc
      rw [hc]
    · exact p.elim
  · exact p.elim
theorem x_addc (ha : Pe X W a fa) (hb : Pe X W b fb) : Pe X W (.BinOp a .Add b pos) fun env st => (fa env st).bind fun x st1 => (fb env st1).bind fun y st2 => addC x y st2 :=
  ⟨fun pins s σ H Q I h => (pe_op (addC_ok (E := W σ)) ha hb).run pins s σ H Q I (two_ok (E := W) σ H Q h)⟩
/-! ### calls -/
theorem args_ok {fl : Env → Store → R (List D)} {g : List D → Store → R D} : ∀ σ H Q, tE X.K W (fun env st => (fl env st).bind fun ds st1 => g ds st1) σ H Q → tL X.K W fl σ H fun vs H1 => rBl X.K (W σ) g vs H1 Q :=
  fun σ H Q ⟨ρ, env, st, er, sr, p⟩ => ⟨ρ, env, st, er, sr, PostL.imp (PostE.stepL p) fun vs H1 ⟨ρ1, st1, ds, e1, s1, r1, _, p1⟩ => ⟨ρ1, st1, ds, s1, r1, p1⟩⟩
theorem x_blt {fl : Env → Store → R (List D)} {g : List D → Store → R D} {x : Str} {id : String} (hop : ∀ E, CallR X (.builtin id) (rBl X.K E g)) (hg : Gl X x) (hm : X.mg x = none) (hv : bootBuiltins x = some (.builtin id))
    (hl : Pl X W (a :: es) fl) (hn : x ≠ "__name__") (hd : (x == ("__debug__" : Str)) = false) (he : starEach (a :: es) X.env = (false, eval a X.env) :: starEach es X.env) (hpl : (backTo pos (starEach es X.env)).any (·.1) = false) :
    Pe X W (.Call (.Name x p) (a :: es) [] pos) fun env st => (fl env st).bind fun ds st1 => g ds st1 := by
  refine ⟨fun pins s σ H Q I h => ?_⟩
  exact (pe_callB (hop (W σ)) hg hm hv hl hn hd he hpl).run pins s σ H Q I (args_ok σ H Q h)
theorem x_ty {fl : Env → Store → R (List D)} {g : List D → Store → R D} {x : Str} {T : String} (hop : ∀ E, CallR X (.type T) (rBl X.K E g)) (hg : Gl X x) (hm : X.mg x = none) (hv : bootBuiltins x = some (.type T))
    (hl : Pl X W (a :: es) fl) (hn : x ≠ "__name__") (hd : (x == ("__debug__" : Str)) = false) (he : starEach (a :: es) X.env = (false, eval a X.env) :: starEach es X.env) (hpl : (backTo pos (starEach es X.env)).any (·.1) = false) :
    Pe X W (.Call (.Name x p) (a :: es) [] pos) fun env st => (fl env st).bind fun ds st1 => g ds st1 := by
  refine ⟨fun pins s σ H Q I h => ?_⟩
  exact (pe_callTy (hop (W σ)) hg hm hv hl hn hd he hpl).run pins s σ H Q I (args_ok σ H Q h)
/-- what a def promises: as the evaluator's table says -/
def spF (K : PySem.W.Frag) (mg : Str → Option Value) (ar : Nat) (g : List D → Store → R D) : Sp := fun vs H Q E => ∃ ρ st ds, StR K ρ H st ∧ Rps K ρ H ds vs ∧ ds.length = ar ∧ PostE K (fun x H => ∀ C, mg x = some (.ref C) → E (.ref C) none H) ρ H (g ds st) Q
/-- the wish for exceptions by their classes' names -/
def wxOf (mg : Str → Option Value) (W : XW) : WX := fun cls d σ H => ∃ x C, cls = .ref C ∧ d = none ∧ mg x = some (.ref C) ∧ W σ x H
theorem PostE.wish {K : PySem.W.Frag} {E E' : Str → Hp → Prop} {ρ : Rho} {H : Hp} {r : R D} {Q : VK} (p : PostE K E ρ H r Q) (h : ∀ x H, E x H → E' x H) : PostE K E' ρ H r Q := by
  cases r with
  | ok d st' => exact p
  | exc x st' => exact fun ρ' H' e s => h _ _ (p ρ' H' e s)
  | bad => exact p
theorem x_call {fl : Env → Store → R (List D)} {g : List D → Store → R D} {x : Str} {k ar : Nat} {fd : FuncData} {ps : List Str} {fn : Addr} (F : FnOk X.prog X.w X.K X.mg X.base (L2N.CX X.prog X.w) k fn fd ps (spF X.K X.mg ar g)) (hr : Room k X.A) (hg : Gl X x) (hm : X.mg x = some (.ref fn))
    (hk : PySem.W.keepIn X.K (.ref fn) = true) (hb : Binds X.K fd ps []) (tk : L2N.Takes X (wxOf X.mg W))
    (hl : Pl X W (a :: es) fl) (hz : ∀ env st ds st', fl env st = .ok ds st' → ds.length = ar) (hd : (x == ("__debug__" : Str)) = false) (he : starEach (a :: es) X.env = (false, eval a X.env) :: starEach es X.env) (hpl : (backTo pos (starEach es X.env)).any (·.1) = false) :
    Pe X W (.Call (.Name x p) (a :: es) [] pos) fun env st => (fl env st).bind fun ds st1 => g ds st1 :=
  PE.mono (pe_callS F hr hg hm hk hb (L2N.passAt tk) hl hd he hpl) fun σ H Q ⟨ρ, env, st, er, sr, p⟩ => ⟨ρ, env, st, er, sr, PostL.imp (PostE.stepL p) fun vs H1 ⟨ρ1, st1, ds, e1, s1, r1, q1, p1⟩ =>
    ⟨ρ1, st1, ds, s1, r1, hz _ _ _ _ q1, PostE.wish p1 fun y H w C hC => ⟨y, C, rfl, rfl, hC, w⟩⟩⟩
/-- isinstance(a, T) -/
theorem x_isin {T : String} {x y : Str} {py : Pos} (hty : okTy T = true) (hg : Gl X x) (hm : X.mg x = none) (hv : bootBuiltins x = some (.builtin "isinstance")) (hn : x ≠ "__name__") (hd : (x == ("__debug__" : Str)) = false)
    (hg2 : Gl X y) (hm2 : X.mg y = none) (hv2 : bootBuiltins y = some (.type T)) (hn2 : y ≠ "__name__") (hd2 : (y == ("__debug__" : Str)) = false)
    (ha : Pe X W a fa) (hs : starEach [a, .Name y py] X.env = (false, eval a X.env) :: starEach [.Name y py] X.env) (hpl : (backTo pos (starEach [.Name y py] X.env)).any (·.1) = false) :
    Pe X W (.Call (.Name x p) [a, .Name y py] [] pos) fun env st => (fa env st).bind fun d st1 => R.of ((isinop d T st1).map D.bl) st1 := by
  have h2 : PE X (.Name y py) (tC (.ty T)) := pe_bltn hg2 hm2 hv2 rfl hn2 hd2
  refine PE.mono (pe_callB call_isi hg hm hv (pa_cons ha (pa_cons h2 pa_nil) hs) hn hd hs hpl) fun σ H Q ⟨ρ, env, st, er, sr, p⟩ => ⟨ρ, env, st, er, sr, PostE.imp (PostE.step p) fun v H1 ⟨ρ1, st1, d, e1, s1, r1, _, p1⟩ => ?_⟩
  dsimp only at p1
  cases q : isinop d T st1 with
  | none => rw [q] at p1; exact p1.elim
  | some b =>
    rw [q] at p1
    obtain ⟨t, h1, h2⟩ := isin_ok s1 r1 hty q
    exact ⟨v, .ty T, t, .type T, b, rfl, .ty T, h1, h2, PostE.here (d := .bl b) p1 s1 rfl⟩
/-! ### slices -/
abbrev partF (o : Option Fe) : Env → Store → R (Option Int) := fun env st => match o with
  | none => .ok none st
  | some f => (f env st).bind fun d st1 => match d with
    | .int i => .ok (some i) st1
    | _ => .bad
end
end Ev

set_option Elab.async false
set_option linter.all false
set_option maxRecDepth 100000
set_option maxHeartbeats 1000000
/-! enumerate of a tuple -/
namespace PySem
open Sem (wp)
theorem ev_meets_enum1 {v : Value} {o : Obj} {H : Heap → Prop} (B : Begins v o H) :
    Meets (Builtin.«enumerate.__new__» ⟨[.type "enumerate", v], []⟩) (fun _ R s => H s.heap ∧
      R (.ok (.ret (.ref (s.heap.push o).objs.size))) { s with heap := (s.heap.push o).push { cls := .type "enumerate", data := .fields #[.none, .bool false, .ref s.heap.objs.size, rawInt 0, .none, .none] } }) :=
  .of_wp fun prog w A R s h => by
    obtain ⟨hp, g, d, tk, os⟩ := s; obtain ⟨h1, h⟩ := h
    have hsub := sub_enumerate
    have q1 : ∀ {A' : Around} {E : Value → Shared → Prop} {Q : Value → Shared → Prop}, Q (.ref hp.objs.size) ⟨hp.push o, g, d, tk, os⟩ → wpAny (model prog w) A' (pyIter v) Q E ⟨hp, g, d, tk, os⟩ :=
      fun q => B.iter prog w _ _ ⟨hp, g, d, tk, os⟩ _ h1 q
    wp_walk using q1
    refine wpAny_stack_any fun st => wpAny_pure ?_
    split
    · rename_i c _ _ _ _ _
      cases (c == Value.type "enumerate")
      · wp_walk using q1
        exact ⟨_, rfl, h⟩
      · wp_walk using q1
        exact ⟨_, rfl, h⟩
    · wp_walk using q1
      exact ⟨_, rfl, h⟩
theorem ev_enum1 {prog : Program} {w : World} {A : Around} {E : Value → Shared → Prop} {s : Shared} {v : Value} {o : Obj} {H : Heap → Prop} {Q : Value → Shared → Prop} (B : Begins v o H) (h1 : H s.heap)
    (h : ∀ h', IsEnum h' (s.heap.objs.size + 1) s.heap.objs.size 0 .none → h'.get? s.heap.objs.size = some o → h'.objs.size = s.heap.objs.size + 2 →
      (∀ b o, s.heap.get? b = some o → h'.get? b = some o) → Q (.ref (s.heap.objs.size + 1)) { s with heap := h' }) :
    wpAny (model prog w) A (call (.type "enumerate") [v]) Q E s := by
  refine callType_new F.called_enumerate (by decide) (F.typeCall_enumerate_1 _) (F.newCall_enumerate_1 _) (fun obj => F.args_object_init_2 obj _) F.entry_enumerate_new
    (ev_meets_enum1 B) ⟨h1, ?_⟩
  have hz : (s.heap.push o).objs.size = s.heap.objs.size + 1 := Heap.size_push ..
  show _ ∧ _
  rw [hz]
  have he : IsEnum ((s.heap.push o).push { cls := .type "enumerate", data := .fields #[.none, .bool false, .ref s.heap.objs.size, rawInt 0, .none, .none] }) (s.heap.objs.size + 1) s.heap.objs.size 0 .none := by
    have := Heap.get?_push_size (s.heap.push o) (o := { cls := .type "enumerate", data := .fields #[.none, .bool false, .ref s.heap.objs.size, rawInt 0, .none, .none] }) rfl
    rw [hz] at this; exact this
  refine ⟨⟨_, he, rfl⟩, h _ he (Heap.get?_push_of_some _ (Heap.get?_push_size _ B.free)) (by rw [Heap.size_push, hz]) fun b o x => Heap.get?_push_of_some _ (Heap.get?_push_of_some _ x)⟩
end PySem
namespace Ev
open PySem PySem.Spec PyProof.Rows L2
variable [TabsOf]
variable {K : PySem.W.Frag}
/-- the tuple at a, each item in a new pair with its place -/
def IteT (K : PySem.W.Frag) (a : Addr) : It :=
  ⟨fun i H => ∃ (xs : List V) (x : V), SqT K H a xs ∧ xs[i]? = some x, fun i H v H' => ∃ T x, v = .ref T ∧ H T = none ∧ H' = upd H T (.tup [.int (i : Nat), x]) ∧ ∀ xs, SqT K H a xs → xs[i]? = some x, fun i H => ∃ xs : List V, SqT K H a xs ∧ xs.length = i⟩
theorem turn_enumT {P : Program} {w : World} {elts : List Expr} {kk : Nat} {tpos : Pos} (a e it : Addr) :
    Turn P w K (.Tuple elts kk tpos) (IteT K a) [e, it] e (fun i h => (∃ old, IsEnum h e it ((i : Nat) : Int) old) ∧ h.IsTupleIter it a i ∧ e ≠ it ∧ e ≠ a ∧ a ≠ it) where
  mem := by simp
  obj := fun i h st b hb => by
    obtain ⟨⟨old, he⟩, ⟨o, ho, hc, hd⟩, _⟩ := st
    have e' : b = e ∨ b = it := by simpa using hb
    rcases e' with z | z
    · rw [z]; exact ⟨_, he, fun v q => nomatch q⟩
    · rw [z]; exact ⟨o, ho, fun v q => by rw [hd] at q; cases q⟩
  keep := fun i h h' st k => let ⟨⟨old, he⟩, hi, hne⟩ := st; ⟨⟨old, k e (by simp) _ he⟩, hi.at fun o q => k it (by simp) o q, hne⟩
  item := by
    intro X hP hw hK hc i pins s σ H E I hf st hg
    subst hP hw hK
    obtain ⟨⟨old, he⟩, hit, hne, hea, hai⟩ := st
    obtain ⟨xs, x, hq, hx⟩ := hg
    obtain ⟨its, rv, p, hz⟩ := I.tuple hq
    obtain ⟨u, hu, ru⟩ := rv.get hx
    have hel : e < s.heap.objs.size := Heap.lt_size he
    have hil : it < s.heap.objs.size := by obtain ⟨_, q, _⟩ := hit; exact Heap.lt_size q
    have hlt : i < its.toArray.size := by
      have := (List.getElem?_eq_some_iff.mp hu).1
      simpa using this
    refine wpAny_pyNext_enum_itemC (Draws.tuple (prog := X.prog) (w := X.w) (A := X.A.in1) (show X.A.in1.handled = none from I.ok.hd hc) it a hai its.toArray) he ⟨hit, p⟩ hlt hne (by simp [hne, hea]) fun z h' tk hP ho hs' hT hsz hk => ?_
    obtain ⟨hit', _⟩ := hs'
    have ez : z = u := by
      have : its[i]? = some z := by simpa using hP
      rw [hu] at this; cases this; rfl
    subst ez
    refine ⟨_, rfl, wpAny_letOwnedTupleGo_enum ho fun h'' he' sb => ?_⟩
    have hT2 : h''.get? s.heap.objs.size = some { cls := .type "tuple", data := .seq #[.int i tk, z] } := (sb.2 _ (Nat.ne_of_gt hel)).trans hT
    have new : ObjOk X.prog X.w (upd H s.heap.objs.size (.tup [.int (i : Nat), x])) h'' s.heap.objs.size (.tup [.int (i : Nat), x]) :=
      ⟨by show 2 ≤ sizeLine; decide, [.int i tk, z], .cons ⟨_, rfl⟩ (.cons ru .nil), ⟨_, hT2, rfl, _, rfl⟩⟩
    have I1 : Inv X pins σ (upd H s.heap.objs.size (.tup [.int (i : Nat), x])) { s with heap := h'', toks := tk + 1 } :=
      I.turnedNew (ch := [e, it]) (fun b ob hb q => (sb.2 b (fun z => hb (by simp [z]))).trans (hk b ob (fun z => hb (by simp [z])) (fun z => hb (by simp [z])) q)) hf (Nat.le_refl _) new
    refine ⟨.ref s.heap.objs.size, _, I1, rfl, ⟨_, x, rfl, I.hok.fresh (Nat.le_refl _), rfl, fun ys hy => by rw [I.tuple_inj hy hq]; exact hx⟩, ⟨⟨z, ?_⟩, hit'.at fun o q => (sb.2 it (Ne.symm hne)).trans q, hne, hea, hai⟩, fun b hb => ?_⟩
    · have e1 : ((i + 1 : Nat) : Int) = (i : Int) + 1 := by omega
      rw [e1]; exact he'
    · have hb' : b < s.heap.objs.size := by
        have e' : b = e ∨ b = it := by simpa using hb
        rcases e' with z | z
        · rw [z]; exact hel
        · rw [z]; exact hil
      rw [upd_ne (Nat.ne_of_lt hb')]
      exact (hf b hb).1
  done := by
    intro X hP hw hK hc i pins s σ H E I hf st hg
    subst hP hw hK
    obtain ⟨⟨old, he⟩, hit, hne, hea, hai⟩ := st
    obtain ⟨xs, hq, hx⟩ := hg
    obtain ⟨its, rv, p, hz⟩ := I.tuple hq
    obtain ⟨f0, f1, f2, f3, f4, f5⟩ := hf it (by simp)
    have hl := rv.length
    have hn : i = its.toArray.size := by simp; omega
    subst hn
    have D := Draws.tuple (prog := X.prog) (w := X.w) (A := X.A.in1) (show X.A.in1.handled = none from I.ok.hd hc) it a hai its.toArray
    exact wpAny_pyNext_enum_endD D he ⟨hit, p⟩ fun h' eb => ⟨rfl, I.turned (t' := s.toks) (fun b o hb q => eb b o hb q) f0 f1 f3 f4 f5⟩
  self := fun A i s Q E st h => let ⟨⟨_, he⟩, _⟩ := st; wpAny_pyIter_enum he h
end Ev

set_option Elab.async false
set_option linter.all false
set_option maxRecDepth 100000
set_option maxHeartbeats 1000000
namespace Ev
open PySem PySem.Spec PyProof.Rows L2
variable [TabsOf]
theorem ent_len : ∀ {es : List DictEntry} {nk : List NestedKey} {kv vv : List V}, EntR es nk kv vv → es.length = kv.length ∧ es.length = vv.length := by
  intro es
  induction es with
  | nil => intro nk kv vv h; cases nk <;> cases kv <;> cases vv <;> first | exact ⟨rfl, rfl⟩ | cases h
  | cons e es ih =>
    intro nk kv vv h
    cases nk <;> cases kv <;> cases vv <;> first | (cases h; done) | skip
    obtain ⟨a, b⟩ := ih h.2.2.2
    exact ⟨by simp [a], by simp [b]⟩
theorem ent_get : ∀ {es : List DictEntry} {nk : List NestedKey} {kv vv : List V} {i : Nat}, EntR es nk kv vv → i < es.length → ∃ e x y, es[i]? = some e ∧ kv[i]? = some x ∧ vv[i]? = some y ∧ RelV x e.key ∧ RelV y e.val := by
  intro es
  induction es with
  | nil => intro nk kv vv i h hi; simp at hi
  | cons e es ih =>
    intro nk kv vv i h hi
    cases nk <;> cases kv <;> cases vv <;> first | (cases h; done) | skip
    rename_i k ks x kv y vv
    obtain ⟨_, h2, h3, h4⟩ := h
    cases i with
    | zero => exact ⟨e, x, y, rfl, rfl, rfl, h2, h3⟩
    | succ i => simpa using ih h4 (by simpa using hi)
/-- the walks of a dict that stands as it is -/
def ItK (d : Addr) (o : Obj) (kv : List V) : It := ⟨fun i H => DictAt H d o ∧ i < kv.length, fun i H x H' => H' = H ∧ kv[i]? = some x, fun i H => DictAt H d o ∧ kv.length ≤ i⟩
def ItI (d : Addr) (o : Obj) (kv vv : List V) : It :=
  ⟨fun i H => DictAt H d o ∧ i < kv.length, fun i H x H' => ∃ T y z, x = .ref T ∧ kv[i]? = some y ∧ vv[i]? = some z ∧ H T = none ∧ H' = upd H T (.tup [y, z]), fun i H => DictAt H d o ∧ kv.length ≤ i⟩
section
variable {P : Program} {w : World} {K : PySem.W.Frag} {tg : Expr} {d : Addr} {o : Obj} {ks : List D} {kv vv : List V}
theorem dic_raw {X : Cx} {pins : List (Addr × Obj)} {σ : L2.St} {H : Hp} {s : Shared} (I : Inv X pins σ H s) (h : DictAt H d o) (c : DicO o ks kv vv) : ∃ es ep, s.heap.DictRaw d es ep ∧ es.size = kv.length ∧ es.size = vv.length ∧ o.data = .dict es ep ∧
    ∀ i, i < es.size → ∃ e x y, es[i]? = some e ∧ kv[i]? = some x ∧ vv[i]? = some y ∧ RelV x e.key ∧ RelV y e.val := by
  obtain ⟨c1, _, _, nk, es, ep, _, _, c2, c3⟩ := c
  refine ⟨es, ep, ⟨o, dict_here I h, c1, c2⟩, by rw [← Array.length_toList]; exact (ent_len c3).1, by rw [← Array.length_toList]; exact (ent_len c3).2, c2, fun i hi => ?_⟩
  obtain ⟨e, x, y, h1, h2⟩ := ent_get c3 (i := i) (by simpa using hi)
  exact ⟨e, x, y, by simpa using h1, h2⟩
theorem data_one {es es' : Array DictEntry} {ep ep' : Nat} (h1 : o.data = .dict es ep) (h2 : o.data = .dict es' ep') : es = es' ∧ ep = ep' := by
  rw [h1] at h2; cases h2; exact ⟨rfl, rfl⟩
theorem turn_dk (c : DicO o ks kv vv) {es0 : Array DictEntry} {ep : Nat} (hod : o.data = .dict es0 ep) (it : Addr) : Turn P w K tg (ItK d o kv) [it] it (fun i h => h.IsKeyIter it d i es0.size ep) where
  mem := by simp
  obj := fun i h st b hb => by
    have e : b = it := by simpa using hb
    subst e
    obtain ⟨ob, e1, _, e2⟩ := st
    exact ⟨ob, e1, fun v z => by rw [e2] at z; cases z⟩
  keep := fun i h h' st k => st.at fun ob e => k it (by simp) ob e
  item := by
    intro X hP hw hK hc i pins s σ H E I hf st hg
    subst hP hw hK
    obtain ⟨hd, hi⟩ := hg
    obtain ⟨f0, f1, f2, f3, f4, f5⟩ := hf it (by simp)
    obtain ⟨es, ep', raw, z1, z2, hdat, get⟩ := dic_raw I hd c
    obtain ⟨rfl, rfl⟩ := data_one hod hdat
    obtain ⟨e, x, y, g1, g2, g3, g4, g5⟩ := get i (by omega)
    have hlt : i < es0.size := by omega
    refine wpAny_pyNext_keys_item_raw st raw hlt fun h' st' sb => ?_
    have I1 : Inv X pins σ H { s with heap := h' } := I.turned (t' := s.toks) (fun b ob hb e => (sb.2 b hb).trans e) f0 f1 f3 f4 f5
    obtain ⟨oi, e1, e2, e3⟩ := id st'
    have eg : es0[i] = e := by rw [Array.getElem?_eq_getElem hlt] at g1; exact Option.some.inj g1
    exact ⟨_, rfl, go_of (s := { s with heap := h' }) e1 e2 e3 (by decide) ⟨x, H, I1, by rw [eg]; exact g4, ⟨rfl, g2⟩, st', fun b hb => (hf b hb).1⟩⟩
  done := by
    intro X hP hw hK hc i pins s σ H E I hf st hg
    subst hP hw hK
    obtain ⟨hd, hi⟩ := hg
    obtain ⟨f0, f1, f2, f3, f4, f5⟩ := hf it (by simp)
    obtain ⟨es, ep', raw, z1, z2, hdat, get⟩ := dic_raw I hd c
    obtain ⟨rfl, rfl⟩ := data_one hod hdat
    exact wpAny_pyNext_keys_end_raw (I.ok.hd hc) st raw (by omega) fun h' eb => ⟨rfl, I.turned (t' := s.toks) (fun b ob hb e => eb b ob hb e) f0 f1 f3 f4 f5⟩
  self := fun _ _ _ _ _ st h => wpAny_pyIter_keyiter st h
theorem turn_dv (c : DicO o ks kv vv) {es0 : Array DictEntry} {ep : Nat} (hod : o.data = .dict es0 ep) (it : Addr) : Turn P w K tg (ItK d o vv) [it] it (fun i h => h.IsValIter it d i es0.size ep) where
  mem := by simp
  obj := fun i h st b hb => by
    have e : b = it := by simpa using hb
    subst e
    obtain ⟨ob, e1, _, e2⟩ := st
    exact ⟨ob, e1, fun v z => by rw [e2] at z; cases z⟩
  keep := fun i h h' st k => st.at fun ob e => k it (by simp) ob e
  item := by
    intro X hP hw hK hc i pins s σ H E I hf st hg
    subst hP hw hK
    obtain ⟨hd, hi⟩ := hg
    obtain ⟨f0, f1, f2, f3, f4, f5⟩ := hf it (by simp)
    obtain ⟨es, ep', raw, z1, z2, hdat, get⟩ := dic_raw I hd c
    obtain ⟨rfl, rfl⟩ := data_one hod hdat
    obtain ⟨e, x, y, g1, g2, g3, g4, g5⟩ := get i (by omega)
    have hlt : i < es0.size := by omega
    refine wpAny_pyNext_values_item_raw st raw hlt fun h' st' sb => ?_
    have I1 : Inv X pins σ H { s with heap := h' } := I.turned (t' := s.toks) (fun b ob hb e => (sb.2 b hb).trans e) f0 f1 f3 f4 f5
    obtain ⟨oi, e1, e2, e3⟩ := id st'
    have eg : es0[i] = e := by rw [Array.getElem?_eq_getElem hlt] at g1; exact Option.some.inj g1
    exact ⟨_, rfl, go_of (s := { s with heap := h' }) e1 e2 e3 (by decide) ⟨y, H, I1, by rw [eg]; exact g5, ⟨rfl, g3⟩, st', fun b hb => (hf b hb).1⟩⟩
  done := by
    intro X hP hw hK hc i pins s σ H E I hf st hg
    subst hP hw hK
    obtain ⟨hd, hi⟩ := hg
    obtain ⟨f0, f1, f2, f3, f4, f5⟩ := hf it (by simp)
    obtain ⟨es, ep', raw, z1, z2, hdat, get⟩ := dic_raw I hd c
    obtain ⟨rfl, rfl⟩ := data_one hod hdat
    exact wpAny_pyNext_values_end_raw (I.ok.hd hc) st raw (by omega) fun h' eb => ⟨rfl, I.turned (t' := s.toks) (fun b ob hb e => eb b ob hb e) f0 f1 f3 f4 f5⟩
  self := fun _ _ _ _ _ st h => wpAny_pyIter_valiter st h
theorem turn_di {elts : List Expr} {kk : Nat} {tpos : Pos} (c : DicO o ks kv vv) {es0 : Array DictEntry} {ep : Nat} (hod : o.data = .dict es0 ep) (it : Addr) : Turn P w K (.Tuple elts kk tpos) (ItI d o kv vv) [it] it (fun i h => ∃ ok ov, IsItemIter h it d i es0.size ep ok ov) where
  mem := by simp
  obj := fun i h st b hb => by
    have e : b = it := by simpa using hb
    subst e
    obtain ⟨ok, ov, e⟩ := st
    exact ⟨_, e, fun v z => nomatch z⟩
  keep := fun i h h' st k => let ⟨ok, ov, e⟩ := st; ⟨ok, ov, k it (by simp) _ e⟩
  item := by
    intro X hP hw hK hc i pins s σ H E I hf st hg
    subst hP hw hK
    obtain ⟨hd, hi⟩ := hg
    obtain ⟨es, ep', raw, z1, z2, hdat, get⟩ := dic_raw I hd c
    obtain ⟨rfl, rfl⟩ := data_one hod hdat
    obtain ⟨e, x, y, g1, g2, g3, g4, g5⟩ := get i (by omega)
    have hlt : i < es0.size := by omega
    have eg : es0[i] = e := by rw [Array.getElem?_eq_getElem hlt] at g1; exact Option.some.inj g1
    obtain ⟨ok, ov, he⟩ := st
    have hil : it < s.heap.objs.size := Heap.lt_size he
    refine wpAny_pyNext_items_item_raw he raw hlt fun h' ho hT hz hk => ?_
    refine ⟨_, rfl, wpAny_letOwnedTupleGo_items (s := { s with heap := h' }) ho fun h'' he' sb => ?_⟩
    have hT2 : h''.get? s.heap.objs.size = some { cls := .type "tuple", data := .seq #[es0[i].key, es0[i].val] } := (sb.2 _ (Nat.ne_of_gt hil)).trans hT
    have new : ObjOk X.prog X.w (upd H s.heap.objs.size (.tup [x, y])) h'' s.heap.objs.size (.tup [x, y]) :=
      ⟨by show 2 ≤ sizeLine; decide, [es0[i].key, es0[i].val], .cons (by rw [eg]; exact g4) (.cons (by rw [eg]; exact g5) .nil), ⟨_, hT2, rfl, _, rfl⟩⟩
    have I1 : Inv X pins σ (upd H s.heap.objs.size (.tup [x, y])) { s with heap := h'' } :=
      I.turnedNew (t' := s.toks) (ch := [it]) (fun b ob hb e => (sb.2 b (by simpa using hb)).trans (hk b ob (by simpa using hb) e)) hf (Nat.le_refl _) new
    refine ⟨.ref s.heap.objs.size, _, I1, rfl, ⟨_, x, y, rfl, g2, g3, I.hok.fresh (Nat.le_refl _), rfl⟩, ⟨_, _, he'⟩, fun b hb => ?_⟩
    have e : b = it := by simpa using hb
    rw [e, upd_ne (Nat.ne_of_lt hil)]
    exact (hf it (by simp)).1
  done := by
    intro X hP hw hK hc i pins s σ H E I hf st hg
    subst hP hw hK
    obtain ⟨hd, hi⟩ := hg
    obtain ⟨f0, f1, f2, f3, f4, f5⟩ := hf it (by simp)
    obtain ⟨es, ep', raw, z1, z2, hdat, get⟩ := dic_raw I hd c
    obtain ⟨rfl, rfl⟩ := data_one hod hdat
    obtain ⟨ok, ov, he⟩ := st
    exact wpAny_pyNext_items_end_raw (I.ok.hd hc) he raw (by omega) fun h' eb => ⟨rfl, I.turned (t' := s.toks) (fun b ob hb e => eb b ob hb e) f0 f1 f3 f4 f5⟩
  self := fun A i s Q E st h => let ⟨_, _, e⟩ := st; wpAny_pyIter_itemiter e h
end
end Ev

set_option Elab.async false
set_option linter.all false
set_option maxRecDepth 100000
set_option maxHeartbeats 1000000
/-! the order of tuples of ints and of such tuples -/
namespace Ev
open PySem PySem.Spec PyProof.Rows L2
variable [TabsOf]
/-! ### rows of ints -/
theorem tOk_up : ∀ {n : Nat} {d : D}, tOk n d = true → tOk (n + 1) d = true
  | 0, .int _, _ => rfl
  | n + 1, .int _, _ => rfl
  | n + 1, .tup l, h => by
    unfold tOk at h ⊢
    exact List.all_eq_true.mpr fun x hx => tOk_up (List.all_eq_true.mp h x hx)
  | 0, .non, h => by cases h
  | 0, .bl _, h => by cases h
  | 0, .str _, h => by cases h
  | 0, .tup _, h => by cases h
  | 0, .lst _, h => by cases h
  | 0, .ref _, h => by cases h
  | 0, .rng _ _, h => by cases h
  | 0, .scr _, h => by cases h
  | 0, .fn _, h => by cases h
  | 0, .dic _ _, h => by cases h
  | n + 1, .non, h => by cases h
  | n + 1, .bl _, h => by cases h
  | n + 1, .str _, h => by cases h
  | n + 1, .lst _, h => by cases h
  | n + 1, .ref _, h => by cases h
  | n + 1, .rng _ _, h => by cases h
  | n + 1, .scr _, h => by cases h
  | n + 1, .fn _, h => by cases h
  | n + 1, .dic _ _, h => by cases h
/-- built of ints and tuples alone -/
inductive TOrd : D → Prop
  | int (i : Int) : TOrd (.int i)
  | tup {l : List D} : (∀ x ∈ l, TOrd x) → TOrd (.tup l)
theorem to_of : ∀ {n : Nat} {d : D}, tOk n d = true → TOrd d := by
  intro n
  induction n with
  | zero => intro d h; cases d <;> first | exact .int _ | cases h
  | succ n ih =>
    intro d h
    cases d with
    | int i => exact .int i
    | tup l => exact .tup fun x hx => ih (List.all_eq_true.mp (by unfold tOk at h; exact h) x hx)
    | _ => cases h
theorem TOrd.tl {x : D} {l : List D} (h : TOrd (.tup (x :: l))) : TOrd x ∧ TOrd (.tup l) := by
  cases h with
  | tup h => exact ⟨h x List.mem_cons_self, .tup fun y hy => h y (List.mem_cons_of_mem _ hy)⟩
theorem enc_head {x : D} (h : TOrd x) : ∃ c r, enc x = c :: r ∧ 0 < c := by
  cases h with
  | int i => exact ⟨1, [i], by unfold enc; rfl, by decide⟩
  | tup _ => exact ⟨2, _, by unfold enc; rfl, by decide⟩
/-- two rows that part at a place of both -/
def Part (a b : List Int) : Prop := ∃ p c d u v, a = p ++ c :: u ∧ b = p ++ d :: v ∧ c ≠ d
theorem Part.app {a b : List Int} (h : Part a b) (s t : List Int) : Part (a ++ s) (b ++ t) := by
  obtain ⟨p, c, d, u, v, rfl, rfl, n⟩ := h
  exact ⟨p, c, d, u ++ s, v ++ t, by simp, by simp, n⟩
theorem Part.pre {a b : List Int} (h : Part a b) (p : List Int) : Part (p ++ a) (p ++ b) := by
  obtain ⟨q, c, d, u, v, rfl, rfl, n⟩ := h
  exact ⟨p ++ q, c, d, u, v, by simp, by simp, n⟩
theorem encs_cons (x : D) (l : List D) : encs (x :: l) = enc x ++ encs l := by rw [encs]
theorem encs_nil : encs [] = [0] := by rw [encs]
mutual
theorem enc_part : ∀ (x y : D), TOrd x → TOrd y → x ≠ y → Part (enc x) (enc y)
  | .int i, .int j, _, _, n => ⟨[1], i, j, [], [], by unfold enc; rfl, by unfold enc; rfl, fun e => n (by rw [e])⟩
  | .int i, .tup l, _, _, _ => ⟨[], 1, 2, [i], encs l, by unfold enc; rfl, by unfold enc; rfl, by decide⟩
  | .tup l, .int i, _, _, _ => ⟨[], 2, 1, encs l, [i], by unfold enc; rfl, by unfold enc; rfl, by decide⟩
  | .tup l, .tup m, hx, hy, n => by
    unfold enc
    exact (encs_part l m hx hy fun e => n (by rw [e])).pre [2]
  | .non, _, h, _, _ => nomatch h
  | .bl _, _, h, _, _ => nomatch h
  | .str _, _, h, _, _ => nomatch h
  | .lst _, _, h, _, _ => nomatch h
  | .ref _, _, h, _, _ => nomatch h
  | .rng _ _, _, h, _, _ => nomatch h
  | .scr _, _, h, _, _ => nomatch h
  | .fn _, _, h, _, _ => nomatch h
  | .dic _ _, _, h, _, _ => nomatch h
  | .int _, .non, _, h, _ => nomatch h
  | .int _, .bl _, _, h, _ => nomatch h
  | .int _, .str _, _, h, _ => nomatch h
  | .int _, .lst _, _, h, _ => nomatch h
  | .int _, .ref _, _, h, _ => nomatch h
  | .int _, .rng _ _, _, h, _ => nomatch h
  | .int _, .scr _, _, h, _ => nomatch h
  | .int _, .fn _, _, h, _ => nomatch h
  | .int _, .dic _ _, _, h, _ => nomatch h
  | .tup _, .non, _, h, _ => nomatch h
  | .tup _, .bl _, _, h, _ => nomatch h
  | .tup _, .str _, _, h, _ => nomatch h
  | .tup _, .lst _, _, h, _ => nomatch h
  | .tup _, .ref _, _, h, _ => nomatch h
  | .tup _, .rng _ _, _, h, _ => nomatch h
  | .tup _, .scr _, _, h, _ => nomatch h
  | .tup _, .fn _, _, h, _ => nomatch h
  | .tup _, .dic _ _, _, h, _ => nomatch h
theorem encs_part : ∀ (l m : List D), TOrd (.tup l) → TOrd (.tup m) → l ≠ m → Part (encs l) (encs m)
  | [], [], _, _, n => absurd rfl n
  | [], y :: m, _, hy, _ => by
    obtain ⟨c, r, e, hc⟩ := enc_head hy.tl.1
    exact ⟨[], 0, c, [], r ++ encs m, encs_nil, by rw [encs_cons, e]; rfl, by omega⟩
  | x :: l, [], hx, _, _ => by
    obtain ⟨c, r, e, hc⟩ := enc_head hx.tl.1
    exact ⟨[], c, 0, r ++ encs l, [], by rw [encs_cons, e]; rfl, encs_nil, by omega⟩
  | x :: l, y :: m, hx, hy, n => by
    rw [encs_cons, encs_cons]
    by_cases e : x = y
    · subst e
      exact (encs_part l m hx.tl.2 hy.tl.2 fun z => n (by rw [z])).pre _
    · exact (enc_part x y hx.tl.1 hy.tl.1 e).app _ _
end
theorem lex_pre : ∀ p a b : List Int, HT.lexLt (p ++ a) (p ++ b) = HT.lexLt a b
  | [], _, _ => rfl
  | x :: p, a, b => by
    show HT.lexLt (x :: (p ++ a)) (x :: (p ++ b)) = _
    rw [HT.lexLt_cons, if_pos rfl, lex_pre p a b]
theorem lex_part {a b : List Int} (h : Part a b) (s t : List Int) : HT.lexLt (a ++ s) (b ++ t) = HT.lexLt a b := by
  obtain ⟨p, c, d, u, v, rfl, rfl, n⟩ := h
  rw [List.append_assoc, List.append_assoc, lex_pre, lex_pre]
  show HT.lexLt (c :: (u ++ s)) (d :: (v ++ t)) = HT.lexLt (c :: u) (d :: v)
  rw [HT.lexLt_cons, HT.lexLt_cons, if_neg n, if_neg n]
theorem enc_inj {x y : D} (hx : TOrd x) (hy : TOrd y) (h : enc x = enc y) : x = y := by
  by_cases e : x = y
  · exact e
  · obtain ⟨p, c, d, u, v, h1, h2, n⟩ := enc_part x y hx hy e
    rw [h1, h2] at h
    have := List.append_cancel_left h
    injection this with q
    exact absurd q n
/-- the first place that differs decides -/
def goL : List D → List D → Bool
  | [], [] => false
  | [], _ :: _ => true
  | _ :: _, [] => false
  | x :: xs, y :: ys => if eqv x y = true then goL xs ys else HT.lexLt (enc x) (enc y)
mutual
theorem eqv_to : ∀ (x y : D), TOrd x → TOrd y → (eqv x y = true ↔ x = y)
  | .int i, .int j, _, _ => by simp [eqv]
  | .int i, .tup l, _, _ => by simp [eqv]
  | .tup l, .int i, _, _ => by simp [eqv]
  | .tup l, .tup m, hx, hy => by
    have := eqvs_to l m hx hy
    simp only [eqv, this, D.tup.injEq]
  | .non, _, h, _ => nomatch h
  | .bl _, _, h, _ => nomatch h
  | .str _, _, h, _ => nomatch h
  | .lst _, _, h, _ => nomatch h
  | .ref _, _, h, _ => nomatch h
  | .rng _ _, _, h, _ => nomatch h
  | .scr _, _, h, _ => nomatch h
  | .fn _, _, h, _ => nomatch h
  | .dic _ _, _, h, _ => nomatch h
  | .int _, .non, _, h => nomatch h
  | .int _, .bl _, _, h => nomatch h
  | .int _, .str _, _, h => nomatch h
  | .int _, .lst _, _, h => nomatch h
  | .int _, .ref _, _, h => nomatch h
  | .int _, .rng _ _, _, h => nomatch h
  | .int _, .scr _, _, h => nomatch h
  | .int _, .fn _, _, h => nomatch h
  | .int _, .dic _ _, _, h => nomatch h
  | .tup _, .non, _, h => nomatch h
  | .tup _, .bl _, _, h => nomatch h
  | .tup _, .str _, _, h => nomatch h
  | .tup _, .lst _, _, h => nomatch h
  | .tup _, .ref _, _, h => nomatch h
  | .tup _, .rng _ _, _, h => nomatch h
  | .tup _, .scr _, _, h => nomatch h
  | .tup _, .fn _, _, h => nomatch h
  | .tup _, .dic _ _, _, h => nomatch h
theorem eqvs_to : ∀ (l m : List D), TOrd (.tup l) → TOrd (.tup m) → (eqvs l m = true ↔ l = m)
  | [], [], _, _ => by simp [eqvs]
  | [], _ :: _, _, _ => by simp [eqvs]
  | _ :: _, [], _, _ => by simp [eqvs]
  | x :: l, y :: m, hx, hy => by
    simp only [eqvs, Bool.and_eq_true, eqv_to x y hx.tl.1 hy.tl.1, eqvs_to l m hx.tl.2 hy.tl.2, List.cons.injEq]
end
theorem goL_enc : ∀ {l m : List D}, TOrd (.tup l) → TOrd (.tup m) → goL l m = HT.lexLt (encs l) (encs m)
  | [], [], _, _ => by
    rw [encs_nil, HT.lexLt_cons, if_pos rfl, HT.lexLt_nil_nil]
    rfl
  | [], y :: m, _, hy => by
    obtain ⟨c, r, e, hc⟩ := enc_head hy.tl.1
    rw [encs_nil, encs_cons, e]
    show true = HT.lexLt [0] (c :: (r ++ encs m))
    rw [HT.lexLt_cons, if_neg (by omega)]
    exact (decide_eq_true hc).symm
  | x :: l, [], hx, _ => by
    obtain ⟨c, r, e, hc⟩ := enc_head hx.tl.1
    rw [encs_nil, encs_cons, e]
    show false = HT.lexLt (c :: (r ++ encs l)) [0]
    rw [HT.lexLt_cons, if_neg (by omega)]
    exact (decide_eq_false (by omega)).symm
  | x :: l, y :: m, hx, hy => by
    rw [encs_cons, encs_cons]
    unfold goL
    by_cases e : x = y
    · subst e
      rw [if_pos ((eqv_to x x hx.tl.1 hx.tl.1).mpr rfl), lex_pre]
      exact goL_enc hx.tl.2 hy.tl.2
    · rw [if_neg (fun z => e ((eqv_to x y hx.tl.1 hy.tl.1).mp z)), lex_part (enc_part x y hx.tl.1 hy.tl.1 e)]
/-! ### values of the model -/
mutual
def VD (h : Heap) : D → Value → Prop
  | .int i, u => ∃ t, u = .int i t
  | .tup l, u => ∃ t its, u = .ref t ∧ IsTup h t its ∧ VDs h l its.toList
  | _, _ => False
def VDs (h : Heap) : List D → List Value → Prop
  | [], us => us = []
  | d :: ds, us => ∃ u r, us = u :: r ∧ VD h d u ∧ VDs h ds r
end
mutual
theorem VD.keep {h h' : Heap} (k : ∀ t its, IsTup h t its → IsTup h' t its) : ∀ (d : D) (u : Value), VD h d u → VD h' d u
  | .int _, _, x => x
  | .tup l, _, ⟨t, its, e, a, b⟩ => ⟨t, its, e, k t its a, VDs.keep k l _ b⟩
  | .non, _, x => x.elim
  | .bl _, _, x => x.elim
  | .str _, _, x => x.elim
  | .lst _, _, x => x.elim
  | .ref _, _, x => x.elim
  | .rng _ _, _, x => x.elim
  | .scr _, _, x => x.elim
  | .fn _, _, x => x.elim
  | .dic _ _, _, x => x.elim
theorem VDs.keep {h h' : Heap} (k : ∀ t its, IsTup h t its → IsTup h' t its) : ∀ (l : List D) (us : List Value), VDs h l us → VDs h' l us
  | [], _, x => x
  | d :: ds, _, ⟨u, r, e, a, b⟩ => ⟨u, r, e, VD.keep k d u a, VDs.keep k ds r b⟩
end
theorem isTup_one {h : Heap} {t : Addr} {a b : Array Value} (x : IsTup h t a) (y : IsTup h t b) : a = b := by
  obtain ⟨o, h1, _, n, d1⟩ := x
  obtain ⟨o', h2, _, m, d2⟩ := y
  rw [h1] at h2
  cases h2
  rw [d1] at d2
  cases d2
  rfl
mutual
theorem VD.one {h : Heap} : ∀ (d d' : D) (u : Value), VD h d u → VD h d' u → d = d'
  | .int i, .int j, _, ⟨t, e⟩, ⟨t', e'⟩ => by rw [e] at e'; cases e'; rfl
  | .int i, .tup l, _, ⟨t, e⟩, ⟨t', its, e', _⟩ => by rw [e] at e'; cases e'
  | .tup l, .int i, _, ⟨t', its, e', _⟩, ⟨t, e⟩ => by rw [e] at e'; cases e'
  | .tup l, .tup m, _, ⟨t, its, e, a, b⟩, ⟨t', its', e', a', b'⟩ => by
    rw [e] at e'
    cases e'
    rw [isTup_one a a'] at b
    rw [VDs.one l m _ b b']
  | .non, _, _, x, _ => x.elim
  | .bl _, _, _, x, _ => x.elim
  | .str _, _, _, x, _ => x.elim
  | .lst _, _, _, x, _ => x.elim
  | .ref _, _, _, x, _ => x.elim
  | .rng _ _, _, _, x, _ => x.elim
  | .scr _, _, _, x, _ => x.elim
  | .fn _, _, _, x, _ => x.elim
  | .dic _ _, _, _, x, _ => x.elim
  | .int _, .non, _, _, x => x.elim
  | .int _, .bl _, _, _, x => x.elim
  | .int _, .str _, _, _, x => x.elim
  | .int _, .lst _, _, _, x => x.elim
  | .int _, .ref _, _, _, x => x.elim
  | .int _, .rng _ _, _, _, x => x.elim
  | .int _, .scr _, _, _, x => x.elim
  | .int _, .fn _, _, _, x => x.elim
  | .int _, .dic _ _, _, _, x => x.elim
  | .tup _, .non, _, _, x => x.elim
  | .tup _, .bl _, _, _, x => x.elim
  | .tup _, .str _, _, _, x => x.elim
  | .tup _, .lst _, _, _, x => x.elim
  | .tup _, .ref _, _, _, x => x.elim
  | .tup _, .rng _ _, _, _, x => x.elim
  | .tup _, .scr _, _, _, x => x.elim
  | .tup _, .fn _, _, _, x => x.elim
  | .tup _, .dic _ _, _, _, x => x.elim
theorem VDs.one {h : Heap} : ∀ (l m : List D) (us : List Value), VDs h l us → VDs h m us → l = m
  | [], [], _, _, _ => rfl
  | [], _ :: _, _, e, ⟨u, r, e', _⟩ => by rw [show _ = [] from e] at e'; cases e'
  | _ :: _, [], _, ⟨u, r, e', _⟩, e => by rw [show _ = [] from e] at e'; cases e'
  | x :: l, y :: m, _, ⟨u, r, e, a, b⟩, ⟨u', r', e', a', b'⟩ => by
    rw [e] at e'
    cases e'
    rw [VD.one x y u a a', VDs.one l m r b b']
end
theorem VDs.length {h : Heap} : ∀ {l : List D} {us : List Value}, VDs h l us → us.length = l.length
  | [], _, e => by rw [show _ = [] from e]; rfl
  | _ :: _, _, ⟨u, r, e, _, b⟩ => by rw [e, List.length_cons, List.length_cons, b.length]
theorem VDs.get {h : Heap} : ∀ {l : List D} {us : List Value} {j : Nat} {d : D} {u : Value}, VDs h l us → l[j]? = some d → us[j]? = some u → VD h d u
  | [], _, _, _, _, _, e, _ => by simp at e
  | x :: l, _, 0, _, _, ⟨u, r, e, a, b⟩, h1, h2 => by
    subst e
    simp at h1 h2
    rw [← h1, ← h2]; exact a
  | x :: l, _, j + 1, _, _, ⟨u, r, e, a, b⟩, h1, h2 => by
    subst e
    exact b.get (j := j) (by simpa using h1) (by simpa using h2)
theorem tok_data : ∀ {n : Nat} {d : D}, tOk n d = true → isData n d = true := by
  intro n
  induction n with
  | zero => intro d h; cases d <;> first | rfl | cases h
  | succ n ih =>
    intro d h
    cases d with
    | int i => rfl
    | tup l => exact List.all_eq_true.mpr fun x hx => ih (List.all_eq_true.mp (by unfold tOk at h; exact h) x hx)
    | _ => cases h
theorem tok_lay : ∀ {n : Nat} {d : D}, tOk n d = true → (toPy d).canLay0 = true ∧ (toPy d).depth ≤ n := by
  intro n
  induction n with
  | zero => intro d h; cases d <;> first | exact ⟨rfl, Nat.le_refl _⟩ | cases h
  | succ n ih =>
    intro d h
    cases d with
    | int i => exact ⟨rfl, Nat.zero_le _⟩
    | tup l =>
      have h : ∀ x ∈ l, tOk n x = true := fun x hx => List.all_eq_true.mp (by unfold tOk at h; exact h) x hx
      have key : ∀ (l : List D), (∀ x ∈ l, tOk n x = true) → PyData.canLayAll0 (toPys l) = true ∧ PyData.depthAll (toPys l) ≤ n := by
        intro l
        induction l with
        | nil => intro _; exact ⟨rfl, Nat.zero_le _⟩
        | cons x l il =>
          intro h
          obtain ⟨a, b⟩ := ih (h x List.mem_cons_self)
          obtain ⟨c, d⟩ := il fun y hy => h y (List.mem_cons_of_mem _ hy)
          refine ⟨by simp [toPys, PyData.canLayAll0, a, c], ?_⟩
          simp only [toPys, PyData.depthAll]
          omega
      obtain ⟨a, b⟩ := key l h
      refine ⟨by simp [toPy, PyData.canLay0, a], ?_⟩
      simp only [toPy, PyData.depth]
      omega
    | _ => cases h
mutual
theorem VD.reads {h : Heap} : ∀ (d : D) (u : Value), VD h d u → ∃ as, Reads h u (toPy d) as
  | .int i, _, ⟨t, e⟩ => by subst e; exact ⟨_, .int i t⟩
  | .tup l, _, ⟨t, its, e, a, b⟩ => by
    subst e
    obtain ⟨as, r⟩ := VDs.reads l _ b
    obtain ⟨o, h1, h2, n, h3⟩ := a
    exact ⟨as, .tuple h1 h2 h3 r⟩
  | .non, _, x => x.elim
  | .bl _, _, x => x.elim
  | .str _, _, x => x.elim
  | .lst _, _, x => x.elim
  | .ref _, _, x => x.elim
  | .rng _ _, _, x => x.elim
  | .scr _, _, x => x.elim
  | .fn _, _, x => x.elim
  | .dic _ _, _, x => x.elim
theorem VDs.reads {h : Heap} : ∀ (l : List D) (us : List Value), VDs h l us → ∃ as, ReadsAll h us (toPys l) as
  | [], _, e => by rw [show _ = [] from e]; exact ⟨_, .nil⟩
  | d :: ds, _, ⟨u, r, e, a, b⟩ => by
    subst e
    obtain ⟨as, r1⟩ := VD.reads d u a
    obtain ⟨bs, r2⟩ := VDs.reads ds r b
    exact ⟨_, .cons r1 r2⟩
end
theorem VD.eqAt {A : Around} {s : Shared} {n : Nat} {a b : D} {x y : Value} (ha : tOk n a = true) (hb : tOk n b = true) (va : VD s.heap a x) (vb : VD s.heap b y) (hu : A.units + n < cLine) : SeqAt.EqAt A s x y (eqv a b) := by
  obtain ⟨as, ra⟩ := va.reads
  obtain ⟨bs, rb⟩ := vb.reads
  obtain ⟨l1, d1⟩ := tok_lay ha
  obtain ⟨l2, d2⟩ := tok_lay hb
  rw [← eqv_py n a b (tok_data ha) (tok_data hb)]
  exact SeqAt.eqAt_reads _ _ A s x y as bs ra rb l1 l2 (by omega)
theorem firstLt_go {e r : Nat → Bool} {fin : Bool} : ∀ (l m : List D) (i : Nat), (∀ (j : Nat) x y, l[j]? = some x → m[j]? = some y → e (i + j) = eqv x y ∧ r (i + j) = HT.lexLt (enc x) (enc y)) → fin = decide (l.length < m.length) →
    SeqAt.firstLt e r fin (List.range' i (min l.length m.length)) = goL l m
  | [], [], i, _, hf => by
    subst hf
    rfl
  | [], y :: m, i, _, hf => by
    subst hf
    show SeqAt.firstLt e r _ (List.range' i (min 0 _)) = true
    rw [Nat.zero_min]
    exact decide_eq_true (by simp)
  | x :: l, [], i, _, hf => by
    subst hf
    show SeqAt.firstLt e r _ (List.range' i (min _ 0)) = false
    rw [Nat.min_zero]
    exact decide_eq_false (by simp)
  | x :: l, y :: m, i, h, hf => by
    have e0 := h 0 x y rfl rfl
    rw [Nat.add_zero] at e0
    rw [List.length_cons, List.length_cons, Nat.succ_min_succ, List.range'_succ]
    unfold goL
    by_cases q : eqv x y = true
    · rw [if_pos q, SeqAt.firstLt_yes (by rw [e0.1]; exact q)]
      exact firstLt_go l m (i + 1) (fun j a b ha hb => by
        have := h (j + 1) a b (by simpa using ha) (by simpa using hb)
        rw [show i + 1 + j = i + (j + 1) by omega]
        exact this) (by rw [hf]; simp)
    · have q' : eqv x y = false := by
        cases z : eqv x y with
        | true => exact absurd z q
        | false => rfl
      rw [if_neg q, SeqAt.firstLt_no (by rw [e0.1]; exact q'), e0.2]
theorem cmpbs_get : ∀ {l m : List D} {j : Nat} {x y : D}, cmpbs l m = true → l[j]? = some x → m[j]? = some y → cmpb x y = true
  | [], _, _, _, _, _, h, _ => by simp at h
  | _ :: _, [], _, _, _, _, _, h => by simp at h
  | a :: l, b :: m, 0, _, _, h, h1, h2 => by
    unfold cmpbs at h
    simp only [Bool.and_eq_true] at h
    simp at h1 h2
    rw [← h1, ← h2]; exact h.1
  | a :: l, b :: m, j + 1, _, _, h, h1, h2 => by
    unfold cmpbs at h
    simp only [Bool.and_eq_true] at h
    exact cmpbs_get (j := j) h.2 (by simpa using h1) (by simpa using h2)
theorem VD.rcLt : ∀ (n : Nat) {A : Around} {s : Shared} {a b : D} {x y : Value}, tOk n a = true → tOk n b = true → cmpb a b = true → VD s.heap a x → VD s.heap b y → A.units + n + 1 < cLine → SeqAt.RcLt A s x y (HT.lexLt (enc a) (enc b)) := by
  intro n
  induction n with
  | zero =>
    intro A s a b x y ha hb hc va vb hu
    cases a <;> first | (cases ha; done) | skip
    cases b <;> first | (cases hb; done) | skip
    rename_i i j
    obtain ⟨t, rfl⟩ := va
    obtain ⟨t', rfl⟩ := vb
    have e : HT.lexLt (enc (.int i)) (enc (.int j)) = decide (i < j) := by
      unfold enc
      rw [HT.lexLt_cons, if_pos rfl, HT.lexLt_cons]
      split
      · rename_i q
        rw [HT.lexLt_nil_nil]
        exact (decide_eq_false (by omega)).symm
      · rfl
    rw [e]
    exact fun prog w E Q h => HT.rcLt_int A s i t j t' prog w E Q h
  | succ n ih =>
    intro A s a b x y ha hb hc va vb hu
    cases a <;> first | (cases ha; done) | skip
    · cases b <;> first | (cases hb; done) | (cases hc; done) | skip
      rename_i i j
      obtain ⟨t, rfl⟩ := va
      obtain ⟨t', rfl⟩ := vb
      have e : HT.lexLt (enc (.int i)) (enc (.int j)) = decide (i < j) := by
        unfold enc
        rw [HT.lexLt_cons, if_pos rfl, HT.lexLt_cons]
        split
        · rename_i q
          rw [HT.lexLt_nil_nil]
          exact (decide_eq_false (by omega)).symm
        · rfl
      rw [e]
      exact fun prog w E Q h => HT.rcLt_int A s i t j t' prog w E Q h
    · cases b <;> first | (cases hb; done) | (cases hc; done) | skip
      rename_i l m
      obtain ⟨t, its, rfl, hi, vl⟩ := va
      obtain ⟨t', its', rfl, hi', vm⟩ := vb
      have hl : ∀ x ∈ l, tOk n x = true := fun x hx => List.all_eq_true.mp (by unfold tOk at ha; exact ha) x hx
      have hm : ∀ x ∈ m, tOk n x = true := fun x hx => List.all_eq_true.mp (by unfold tOk at hb; exact hb) x hx
      have hcs : cmpbs l m = true := by unfold cmpb at hc; exact hc
      have z1 : its.size = l.length := by rw [← vl.length]; simp
      have z2 : its'.size = m.length := by rw [← vm.length]; simp
      have at_ : ∀ {ks : List D} {as : Array Value} (v : VDs s.heap ks as.toList) (j : Nat) (h1 : j < as.size), ∃ d, ks[j]? = some d ∧ VD s.heap d as[j] := fun {ks as} v j h1 => by
        have hz : as.size = ks.length := by rw [← v.length]; simp
        have hj : j < ks.length := by omega
        exact ⟨ks[j], List.getElem?_eq_getElem hj, v.get (List.getElem?_eq_getElem hj) (by rw [Array.getElem?_toList]; exact Array.getElem?_eq_getElem h1)⟩
      have q := SeqAt.RcLt.tuples (A := A) (s := s) (items := its) (items2 := its') (e := fun j => match l[j]?, m[j]? with | some a, some b => eqv a b | _, _ => false) (r := fun j => match l[j]?, m[j]? with | some a, some b => HT.lexLt (enc a) (enc b) | _, _ => false)
        (by exact hi) (by exact hi') (by omega)
        (fun j h1 h2 => by
          obtain ⟨d, e1, v1⟩ := at_ vl j h1
          obtain ⟨d', e2, v2⟩ := at_ vm j h2
          simp only [e1, e2]
          exact VD.eqAt (n := n) (hl d (List.mem_of_getElem? e1)) (hm d' (List.mem_of_getElem? e2)) v1 v2 (by show A.units + 1 + n < cLine; omega))
        (fun j h1 h2 _ => by
          obtain ⟨d, e1, v1⟩ := at_ vl j h1
          obtain ⟨d', e2, v2⟩ := at_ vm j h2
          simp only [e1, e2]
          exact ih (hl d (List.mem_of_getElem? e1)) (hm d' (List.mem_of_getElem? e2)) (cmpbs_get hcs e1 e2) v1 v2 (by show A.units + 1 + n + 1 < cLine; omega))
      rw [z1, z2, List.range_eq_range', firstLt_go l m 0 (fun j a b ea eb => by rw [Nat.zero_add]; simp only [ea, eb]; exact ⟨trivial, trivial⟩) rfl, goL_enc (to_of ha) (to_of hb)] at q
      unfold enc
      rw [HT.lexLt_cons, if_pos rfl]
      exact q
end Ev

set_option Elab.async false
set_option linter.all false
set_option maxRecDepth 100000
set_option maxHeartbeats 1000000
/-! sorted of lists and dicts: ints, tuples of ints -/
namespace Ev
open PySem PySem.Spec PyProof.Rows L2
variable [TabsOf]
/-! ### in plain Lean -/
theorem insL_perm (x : List Int) : ∀ l : List (List Int), (insL x l).Perm (x :: l)
  | [] => .refl _
  | y :: r => by
    unfold insL
    split
    · exact ((insL_perm x r).cons y).trans (.swap x y r)
    · exact .refl _
theorem sortL_perm : ∀ l : List (List Int), (sortL l).Perm l
  | [] => .refl _
  | x :: r => (insL_perm x _).trans ((sortL_perm r).cons x)
abbrev Ris (l : List (List Int)) : Prop := l.Pairwise fun x y => HT.lexLt y x = false
theorem insL_ris (x : List Int) : ∀ l : List (List Int), Ris l → Ris (insL x l)
  | [], _ => by simp [insL, Ris]
  | y :: r, h => by
    obtain ⟨h1, h2⟩ := List.pairwise_cons.mp h
    unfold insL
    split
    · rename_i hx
      refine List.pairwise_cons.mpr ⟨fun z hz => ?_, insL_ris x r h2⟩
      rcases List.mem_cons.mp ((insL_perm x r).mem_iff.mp hz) with e | hz
      · rw [e]; exact NtL.lex_asym _ _ hx
      · exact h1 z hz
    · rename_i hx
      have hx : HT.lexLt y x = false := by
        cases q : HT.lexLt y x with
        | false => rfl
        | true => exact absurd q hx
      refine List.pairwise_cons.mpr ⟨fun z hz => ?_, h⟩
      rcases List.mem_cons.mp hz with e | hz
      · rw [e]; exact hx
      · exact NtL.lex_tr _ _ _ hx (h1 z hz)
theorem sortL_ris : ∀ l : List (List Int), Ris (sortL l)
  | [] => .nil
  | x :: r => insL_ris x _ (sortL_ris r)
theorem lex_eq : ∀ x y : List Int, HT.lexLt x y = false → HT.lexLt y x = false → x = y
  | [], [], _, _ => rfl
  | [], y :: ys, h, _ => by rw [HT.lexLt_nil_cons] at h; cases h
  | x :: xs, [], _, h => by rw [HT.lexLt_nil_cons] at h; cases h
  | x :: xs, y :: ys, h1, h2 => by
    rw [HT.lexLt_cons] at h1 h2
    by_cases e : x = y
    · subst e
      rw [if_pos rfl] at h1 h2
      rw [lex_eq xs ys h1 h2]
    · rw [if_neg e] at h1
      rw [if_neg (Ne.symm e)] at h2
      have a := of_decide_eq_false h1
      have b := of_decide_eq_false h2
      omega
theorem ris_unique : ∀ {l m : List (List Int)}, Ris l → Ris m → l.Perm m → l = m
  | [], m, _, _, p => (List.perm_nil.mp p.symm).symm
  | x :: l, [], _, _, p => by simpa using p.length_eq
  | x :: l, y :: m, hl, hm, p => by
    obtain ⟨a1, a2⟩ := List.pairwise_cons.mp hl
    obtain ⟨b1, b2⟩ := List.pairwise_cons.mp hm
    have e : x = y := by
      rcases List.mem_cons.mp (p.mem_iff.mp List.mem_cons_self) with q | q
      · exact q
      · rcases List.mem_cons.mp (p.symm.mem_iff.mp List.mem_cons_self) with p' | p'
        · exact p'.symm
        · exact lex_eq _ _ (b1 x q) (a1 y p')
    subst e
    rw [ris_unique a2 b2 (List.Perm.cons_inv p)]
/-! sorted by their rows -/
theorem insE_perm (x : List Int × D) : ∀ l : List (List Int × D), (insE x l).Perm (x :: l)
  | [] => .refl _
  | y :: r => by
    unfold insE
    split
    · exact ((insE_perm x r).cons y).trans (.swap x y r)
    · exact .refl _
theorem sortE_perm : ∀ l : List (List Int × D), (sortE l).Perm l
  | [] => .refl _
  | x :: r => (insE_perm x _).trans ((sortE_perm r).cons x)
theorem insE_fst (x : List Int × D) : ∀ l : List (List Int × D), (insE x l).map Prod.fst = insL x.1 (l.map Prod.fst)
  | [] => rfl
  | y :: r => by
    unfold insE
    show _ = insL x.1 (y.1 :: r.map Prod.fst)
    unfold insL
    split
    · rw [List.map_cons, insE_fst x r]
    · rfl
theorem sortE_fst : ∀ l : List (List Int × D), (sortE l).map Prod.fst = sortL (l.map Prod.fst)
  | [] => rfl
  | x :: r => by
    unfold sortE
    rw [insE_fst, sortE_fst r]
    rfl
theorem sortE_enc (ks : List D) : ((sortE (ks.map fun d => (enc d, d))).map Prod.snd).map enc = sortL (ks.map enc) := by
  have h : ∀ p ∈ sortE (ks.map fun d => (enc d, d)), (enc ∘ Prod.snd) p = Prod.fst p := fun p hp => by
    obtain ⟨d, _, e⟩ := List.mem_map.mp ((sortE_perm _).mem_iff.mp hp)
    rw [← e]
    rfl
  have e : (ks.map fun d => (enc d, d)).map Prod.fst = ks.map enc := by
    rw [List.map_map]
    rfl
  rw [List.map_map, List.map_congr_left h, sortE_fst, e]
theorem sortE_mem {ks : List D} {d : D} (h : d ∈ (sortE (ks.map fun d => (enc d, d))).map Prod.snd) : d ∈ ks := by
  obtain ⟨p, hp, rfl⟩ := List.mem_map.mp h
  obtain ⟨d, hd, e⟩ := List.mem_map.mp ((sortE_perm _).mem_iff.mp hp)
  rw [← e]
  exact hd
/-! ### comparing -/
section
variable {prog : Program} {w : World} {A : Around} {E : Value → Shared → Prop} {s : Shared}
theorem lex_any {Q : Bool → Shared → Prop} {b : Bool} : ∀ {xs ys : List Value} {ns ms : List Int} (i : Nat) (hx : IntsAre xs ns) (hy : IntsAre ys ms) (h : Q (HT.lexLt ns ms) s), PySem.W.KatLex prog w A b (decide (ns.length < ms.length)) Q (xs.zip ys) i s
  | _, _, _, _, i, .nil, .nil, h => PySem.W.kat_nil h
  | _, _, _, _, i, .nil, .cons q u hy, h => by
    rw [HT.lexLt_nil_cons] at h
    refine PySem.W.kat_nil ?_
    simpa using h
  | _, _, _, _, i, .cons p t hx, .nil, h => by
    rw [HT.lexLt_cons_nil] at h
    refine PySem.W.kat_nil ?_
    simpa using h
  | _, _, _, _, i, @IntsAre.cons p t xs ns hx, @IntsAre.cons q u ys ms hy, h => by
    rw [HT.lexLt_cons] at h
    have el : decide ((p :: ns).length < (q :: ms).length) = decide (ns.length < ms.length) := by simp
    rw [el]
    refine PySem.W.kat_cons (wpAny_eqBool_int ?_)
    by_cases e : p = q
    · subst e
      rw [beq_self_eq_true]
      rw [if_pos rfl] at h
      exact PySem.W.kat_yes (lex_any (i + 1) hx hy h)
    · rw [show (p == q) = false from beq_eq_false_iff_ne.mpr e]
      rw [if_neg e] at h
      exact PySem.W.kat_no (TS.oneLt_ints _ h)
theorem firsts_any {h : Heap} : ∀ vs : List Value, (∀ v ∈ vs, ∃ ns, TS.TupInts h v ns ∧ ns ≠ []) → ∃ fs, PySem.W.KatTups h vs fs ∧ fs.length = vs.length ∧ ∀ f ∈ fs, ∃ n t, f = Value.int n t
  | [], _ => ⟨[], PySem.W.KatTups.nil, rfl, fun f hf => absurd hf (by simp)⟩
  | v :: vs, x => by
    obtain ⟨fs, k, hl, hi⟩ := firsts_any vs fun u hu => x u (List.mem_cons_of_mem _ hu)
    obtain ⟨ns, ⟨a, xs, rfl, ⟨o, ho, hc, n, hdt⟩, i⟩, hn⟩ := x v List.mem_cons_self
    obtain ⟨y, ys, e⟩ : ∃ y ys, xs.toList = y :: ys := by
      cases q : xs.toList with
      | nil =>
        rw [q] at i
        cases i
        exact absurd rfl hn
      | cons y ys => exact ⟨y, ys, rfl⟩
    obtain ⟨m, t, hy⟩ := i.all y (by rw [e]; exact List.mem_cons_self)
    refine ⟨y :: fs, PySem.W.KatTups.cons ho hc hdt ?_ k, by simp [hl], fun f hf => ?_⟩
    · have z := congrArg (fun l : List Value => l[0]?) e
      simpa using z
    · rcases List.mem_cons.mp hf with rfl | hf
      · exact ⟨m, t, hy⟩
      · exact hi f hf
theorem tups_sortable {h0 : Heap} {a : Addr} {vs : List Value} (h2 : 2 ≤ vs.length) (hk : ∀ b o, h0.get? b = some o → b ≠ a ∧ s.heap.get? b = some o) (ht : ∀ v ∈ vs, TS.TupInts h0 v (TS.intsOf h0 v) ∧ TS.intsOf h0 v ≠ []) :
    SrtO.SortableO prog w A s a vs fun v u => HT.lexLt (TS.intsOf h0 v) (TS.intsOf h0 u) := by
  intro h' keep
  have at' : ∀ v ∈ vs, TS.TupInts h' v (TS.intsOf h0 v) := fun v hv => (ht v hv).1.keeps fun b o e _ => let ⟨n, q⟩ := hk b o e; keep b o n q
  obtain ⟨fs, k, hl, hi⟩ := firsts_any (h := h') vs fun v hv => ⟨_, at' v hv, (ht v hv).2⟩
  refine ⟨_, fun Q E hq => PySem.W.kat_kind (s := { s with heap := h' }) (T := Value.type "int") k (by omega) (fun f hf => ?_) rfl hq, ?_⟩
  · obtain ⟨n, t, rfl⟩ := hi f hf
    exact PySem.W.Looks.of_pure rfl
  · intro p q hp hq
    have tp := at' _ hp
    have tq := at' _ hq
    show wpAny (model prog w) A (keyLt' _ p.1 q.1) (fun r s' => s' = { s with heap := h' } ∧ r = HT.lexLt (TS.intsOf h0 p.1) (TS.intsOf h0 q.1)) (fun _ _ => False) { s with heap := h' }
    generalize TS.intsOf h0 p.1 = ns at tp ⊢
    generalize TS.intsOf h0 q.1 = ms at tq ⊢
    obtain ⟨a1, xs, e1, ⟨o, ho, hc, n, hdt⟩, i⟩ := tp
    obtain ⟨a2, ys, e2, ⟨o', ho', hc', n', hdt'⟩, i'⟩ := tq
    rw [e1, e2]
    refine PySem.W.kat_lt ho hdt ho' hdt' ?_
    have sz : decide (xs.size < ys.size) = decide (ns.length < ms.length) := by
      have l1 := i.length
      have l2 := i'.length
      rw [Array.length_toList] at l1 l2
      rw [l1, l2]
    rw [sz]
    exact lex_any 0 i i' ⟨rfl, rfl⟩
end
/-! ### nested ones -/
open Classical in
/-- the row of a value -/
noncomputable def codeV (h : Heap) (u : Value) : List Int := if q : ∃ d, VD h d u then enc q.choose else []
theorem codeV_eq {h : Heap} {d : D} {u : Value} (v : VD h d u) : codeV h u = enc d := by
  unfold codeV
  have q : ∃ d, VD h d u := ⟨d, v⟩
  rw [dif_pos q, VD.one _ _ u q.choose_spec v]
section
variable {prog : Program} {w : World} {A : Around} {E : Value → Shared → Prop} {s : Shared}
theorem lex_N {Q : Bool → Shared → Prop} {b : Bool} {n : Nat} (hu : A.units + n + 1 < cLine) : ∀ {l m : List D} {us vs : List Value} (i : Nat), VDs s.heap l us → VDs s.heap m vs → (∀ x ∈ l, tOk n x = true) → (∀ x ∈ m, tOk n x = true) → cmpbs l m = true →
    ((b && i == 0) = true → ∀ x, l[0]? = some x → ∃ j, x = .int j) → Q (goL l m) s → PySem.W.KatLex prog w A b (decide (l.length < m.length)) Q (us.zip vs) i s
  | [], [], _, _, i, e, e', _, _, _, _, h => by
    rw [show _ = [] from e]
    exact PySem.W.kat_nil h
  | [], y :: m, _, _, i, e, ⟨v, r', e', _, _⟩, _, _, _, _, h => by
    rw [show _ = [] from e]
    refine PySem.W.kat_nil ?_
    simpa [goL] using h
  | x :: l, [], _, _, i, ⟨u, r, e, _, _⟩, e', _, _, _, _, h => by
    rw [show _ = [] from e', e]
    refine PySem.W.kat_nil ?_
    simpa [goL] using h
  | x :: l, y :: m, _, _, i, ⟨u, r, e, vx, vl⟩, ⟨v, r', e', vy, vm⟩, hl, hm, hc, hb, h => by
    subst e
    subst e'
    unfold cmpbs at hc
    simp only [Bool.and_eq_true] at hc
    have hx := hl x List.mem_cons_self
    have hy := hm y List.mem_cons_self
    have el : decide ((x :: l).length < (y :: m).length) = decide (l.length < m.length) := by simp
    rw [el]
    unfold goL at h
    refine PySem.W.kat_cons (VD.eqAt (n := n) hx hy vx vy (by omega) prog w _ _ ?_)
    by_cases q : eqv x y = true
    · rw [q]
      rw [if_pos q] at h
      exact PySem.W.kat_yes (lex_N hu (i + 1) vl vm (fun z hz => hl z (List.mem_cons_of_mem _ hz)) (fun z hz => hm z (List.mem_cons_of_mem _ hz)) hc.2 (fun z => by simp at z) h)
    · have q' : eqv x y = false := by
        cases z : eqv x y with
        | true => exact absurd z q
        | false => rfl
      rw [q']
      rw [if_neg q] at h
      refine PySem.W.kat_no ?_
      cases x <;> first | (cases n <;> cases hx; done) | skip
      · cases y <;> first | (cases hc.1; done) | skip
        rename_i j k
        obtain ⟨t, rfl⟩ := vx
        obtain ⟨t', rfl⟩ := vy
        have e : HT.lexLt (enc (.int j)) (enc (.int k)) = decide (j < k) := by
          unfold enc
          rw [HT.lexLt_cons, if_pos rfl, HT.lexLt_cons]
          split
          · rename_i q
            rw [HT.lexLt_nil_nil]
            exact (decide_eq_false (by omega)).symm
          · rfl
        rw [e] at h
        exact TS.oneLt_ints _ h
      · rename_i lx
        have hf : (b && i == 0) = false := by
          cases z : (b && i == 0) with
          | false => rfl
          | true => obtain ⟨j, e⟩ := hb z _ rfl; cases e
        rw [hf]
        exact PySem.W.kat_one _ _ ((VD.rcLt n hx hy hc.1 vx vy hu) prog w _ (PySem.W.BoolBack Q) h)
theorem firsts_N {h : Heap} {isI : Bool} : ∀ {ks : List D} {vs : List Value}, VDs h ks vs → ks.all (headKind isI) = true → ∃ fs, PySem.W.KatTups h vs fs ∧ fs.length = vs.length ∧ ∀ f ∈ fs, if isI = true then ∃ n t, f = Value.int n t else ∃ t its, f = Value.ref t ∧ IsTup h t its
  | [], _, e, _ => by rw [show _ = [] from e]; exact ⟨[], PySem.W.KatTups.nil, rfl, fun f hf => absurd hf (by simp)⟩
  | k :: ks, _, ⟨u, r, e, v, vs⟩, hk => by
    subst e
    simp only [List.all_cons, Bool.and_eq_true] at hk
    obtain ⟨fs, k1, hl, hi⟩ := firsts_N vs hk.2
    cases k with
    | tup l =>
      obtain ⟨t, its, rfl, ⟨o, ho, hc, n, hd⟩, vl⟩ := v
      cases l with
      | nil => cases hk.1
      | cons d l =>
        obtain ⟨f, r2, e2, vd, _⟩ := vl
        refine ⟨f :: fs, PySem.W.KatTups.cons ho hc hd ?_ k1, by simp [hl], fun z hz => ?_⟩
        · have z := congrArg (fun l : List Value => l[0]?) e2
          simpa using z
        · rcases List.mem_cons.mp hz with rfl | hz
          · cases d <;> first | (cases hk.1; done) | skip
            · cases isI with
              | true => obtain ⟨t, e⟩ := vd; exact ⟨_, t, e⟩
              | false => cases hk.1
            · cases isI with
              | true => cases hk.1
              | false => obtain ⟨t, its, e, a, _⟩ := vd; exact ⟨t, its, e, a⟩
          · exact hi z hz
    | _ => cases hk.1
theorem nest_lt (isI : Bool) {s : Shared} {d d' : D} {u u' : Value} (va : VD s.heap d u) (vb : VD s.heap d' u') (ha : tOk 6 d = true) (hb : tOk 6 d' = true) (hc : cmpb d d' = true) (hh : headKind isI d = true) (hu : A.units + 7 < cLine) :
    wpAny (model prog w) A (keyLt' (tuples' ((if isI = true then Value.type "int" else Value.type "tuple") != Value.type "tuple")) u u') (fun r s' => s' = s ∧ r = HT.lexLt (enc d) (enc d')) (fun _ _ => False) s := by
  cases d with
  | tup l =>
    cases d' with
    | tup m =>
      obtain ⟨t, its, rfl, ⟨o, ho, hcl, n, hd⟩, vl⟩ := va
      obtain ⟨t', its', rfl, ⟨o', ho', hcl', n', hd'⟩, vm⟩ := vb
      refine PySem.W.kat_lt ho hd ho' hd' ?_
      have z1 : its.size = l.length := by rw [← vl.length]; simp
      have z2 : its'.size = m.length := by rw [← vm.length]; simp
      rw [z1, z2]
      have eg : HT.lexLt (enc (.tup l)) (enc (.tup m)) = goL l m := by
        rw [goL_enc (to_of ha) (to_of hb)]
        unfold enc
        rw [HT.lexLt_cons, if_pos rfl]
      rw [eg]
      refine lex_N (n := 5) (by omega) 0 vl vm (fun x hx => List.all_eq_true.mp (by unfold tOk at ha; exact ha) x hx) (fun x hx => List.all_eq_true.mp (by unfold tOk at hb; exact hb) x hx) (by unfold cmpb at hc; exact hc) (fun z x hx => ?_) ⟨rfl, rfl⟩
      cases isI with
      | false => simp at z
      | true =>
        cases l with
        | nil => simp at hx
        | cons y l =>
          simp at hx
          subst hx
          cases y <;> first | exact ⟨_, rfl⟩ | cases hh
    | _ => cases hc
  | _ => cases hh
theorem nest_sortable {h0 : Heap} {a : Addr} {ks : List D} {vs : List Value} {isI : Bool} (h2 : 2 ≤ vs.length) (hu : A.units + 7 < cLine) (hk : ∀ b o, h0.get? b = some o → b ≠ a ∧ s.heap.get? b = some o) (v : VDs h0 ks vs) (ht : ks.all (tOk 6) = true) (hh : ks.all (headKind isI) = true)
    (hc : ks.all (fun a => ks.all (cmpb a)) = true) : SrtO.SortableO prog w A s a vs fun v u => HT.lexLt (codeV h0 v) (codeV h0 u) := by
  intro h' keep
  have kt : ∀ t its, IsTup h0 t its → IsTup h' t its := fun t its ⟨o, e, x⟩ => ⟨o, (let ⟨n, q⟩ := hk t o e; keep t o n q), x⟩
  have v' := VDs.keep kt ks vs v
  have mem : ∀ x ∈ vs, ∃ d ∈ ks, VD h0 d x ∧ VD h' d x := fun x hx => by
    obtain ⟨j, hj, e⟩ := List.mem_iff_getElem.mp hx
    have hl := v.length
    have e1 : vs[j]? = some x := by rw [List.getElem?_eq_getElem hj, e]
    have e2 : ks[j]? = some (ks[j]'(by omega)) := List.getElem?_eq_getElem (by omega)
    exact ⟨_, List.getElem_mem _, v.get e2 e1, v'.get e2 e1⟩
  obtain ⟨fs, k, hl, hi⟩ := firsts_N v' hh
  cases isI with
  | true =>
    refine ⟨_, fun Q E hq => PySem.W.kat_kind (s := { s with heap := h' }) (T := Value.type "int") k (by omega) (fun f hf => ?_) rfl hq, ?_⟩
    · obtain ⟨n, t, rfl⟩ := hi f hf
      exact PySem.W.Looks.of_pure rfl
    · intro p q hp hq
      obtain ⟨d, hd, va, va'⟩ := mem _ hp
      obtain ⟨d', hd', vb, vb'⟩ := mem _ hq
      show wpAny (model prog w) A (keyLt' _ p.1 q.1) (fun r s' => s' = { s with heap := h' } ∧ r = HT.lexLt (codeV h0 p.1) (codeV h0 q.1)) (fun _ _ => False) { s with heap := h' }
      rw [codeV_eq va, codeV_eq vb]
      exact nest_lt true va' vb' (List.all_eq_true.mp ht d hd) (List.all_eq_true.mp ht d' hd') (List.all_eq_true.mp (List.all_eq_true.mp hc d hd) d' hd') (List.all_eq_true.mp hh d hd) hu
  | false =>
    refine ⟨_, fun Q E hq => PySem.W.kat_kind (s := { s with heap := h' }) (T := Value.type "tuple") k (by omega) (fun f hf => ?_) rfl hq, ?_⟩
    · obtain ⟨t, its, rfl, o, ho, hcl, _⟩ := hi f hf
      exact fun A Q E s k q => wpAny_typeOf_ref (k _ _ ho) (by rw [hcl]; exact q)
    · intro p q hp hq
      obtain ⟨d, hd, va, va'⟩ := mem _ hp
      obtain ⟨d', hd', vb, vb'⟩ := mem _ hq
      show wpAny (model prog w) A (keyLt' _ p.1 q.1) (fun r s' => s' = { s with heap := h' } ∧ r = HT.lexLt (codeV h0 p.1) (codeV h0 q.1)) (fun _ _ => False) { s with heap := h' }
      rw [codeV_eq va, codeV_eq vb]
      exact nest_lt false va' vb' (List.all_eq_true.mp ht d hd) (List.all_eq_true.mp ht d' hd') (List.all_eq_true.mp (List.all_eq_true.mp hc d hd) d' hd') (List.all_eq_true.mp hh d hd) hu
end
/-! ### what is sorted -/
section
variable {X : Cx} {E : Str → Hp → Prop} {pins : List (Addr × Obj)} {σ : L2.St} {H : Hp} {s : Shared} {ρ : Rho} {ks : List D} {kv : List V} {vs : List Value} {st st1 : Store} {d : D}
theorem flatT_ok (I : Inv X pins σ H s) {k : D} {n : List Int} {v : V} {u : Value} (h : flatT k = some n) (r : Rp X.K ρ H k v) (rv : RelV v u) : ∃ t, v = .ref t ∧ u = .ref t ∧ H t = some (.tup (n.map V.int)) ∧ ρ.off t ∧ TS.TupInts s.heap u n := by
  cases k with
  | tup l =>
    obtain ⟨t, ws, rfl, h2, off, rl⟩ := r
    have e := intsOf_ok rl h
    subst e
    cases rv
    obtain ⟨_, its, r2, o, ho, hc, m, hd⟩ := I.hok _ _ h2
    refine ⟨t, rfl, rfl, h2, off, t, its.toArray, rfl, ⟨o, ho, hc, m, hd⟩, ?_⟩
    exact r2.ints
  | _ => cases h
theorem flats_ok (I : Inv X pins σ H s) : ∀ {ks : List D} {nss : List (List Int)} {kv : List V} {vs : List Value}, flats ks = some nss → Rps X.K ρ H ks kv → Vals kv vs →
    vs.map (TS.intsOf s.heap) = nss ∧ ∀ u ∈ vs, ∃ t, u = .ref t ∧ H t = some (.tup ((TS.intsOf s.heap u).map V.int)) ∧ ρ.off t ∧ TS.TupInts s.heap u (TS.intsOf s.heap u)
  | [], _, _, _, h, r, v => by
    cases h
    cases (show _ = [] from r)
    cases v
    exact ⟨rfl, fun u hu => absurd hu (by simp)⟩
  | k :: ks, nss, _, _, h, ⟨x, xs, e, r1, r2⟩, v => by
    subst e
    cases v with
    | @cons _ u _ us rv v =>
      unfold flats at h
      cases h1 : flatT k with
      | none => rw [h1] at h; cases h
      | some n =>
        cases h2 : flats ks with
        | none => rw [h1, h2] at h; cases h
        | some ns =>
          rw [h1, h2] at h
          cases h
          obtain ⟨i1, i2⟩ := flats_ok I h2 r2 v
          obtain ⟨t, e1, e2, e3, e4, e5⟩ := flatT_ok I h1 r1 rv
          have ei := e5.ints
          refine ⟨by rw [List.map_cons, ei, i1], fun z hz => ?_⟩
          rcases List.mem_cons.mp hz with q | q
          · subst q
            rw [ei]
            exact ⟨t, e2, e3, e4, e5⟩
          · exact i2 z q
theorem rps_out (h0 : Heap) : ∀ {out : List Value}, (∀ u ∈ out, ∃ t, u = .ref t ∧ H t = some (.tup ((TS.intsOf h0 u).map V.int)) ∧ ρ.off t) → Rps X.K ρ H (out.map fun u => .tup ((TS.intsOf h0 u).map D.int)) (out.map backV)
  | [], _ => rfl
  | u :: out, h => by
    obtain ⟨t, e, h1, h2⟩ := h u List.mem_cons_self
    refine ⟨backV u, _, rfl, ?_, rps_out h0 fun z hz => h z (List.mem_cons_of_mem _ hz)⟩
    subst e
    exact ⟨t, _, rfl, h1, h2, Rps.ints _⟩
mutual
theorem vd_of (I : Inv X pins σ H s) : ∀ (d : D) (v : V) (u : Value), TOrd d → Rp X.K ρ H d v → RelV v u → VD s.heap d u
  | .int i, _, _, _, e, r => by
    cases (show _ = V.int i from e)
    exact r
  | .tup l, _, _, t, ⟨a, vs, e, h2, off, rl⟩, r => by
    subst e
    cases r
    obtain ⟨_, its, r2, o, ho, hc, m, hd⟩ := I.hok _ _ h2
    exact ⟨a, its.toArray, rfl, ⟨o, ho, hc, m, hd⟩, vds_of I l vs its t rl r2⟩
  | .non, _, _, t, _, _ => nomatch t
  | .bl _, _, _, t, _, _ => nomatch t
  | .str _, _, _, t, _, _ => nomatch t
  | .lst _, _, _, t, _, _ => nomatch t
  | .ref _, _, _, t, _, _ => nomatch t
  | .rng _ _, _, _, t, _, _ => nomatch t
  | .scr _, _, _, t, _, _ => nomatch t
  | .fn _, _, _, t, _, _ => nomatch t
  | .dic _ _, _, _, t, _, _ => nomatch t
theorem vds_of (I : Inv X pins σ H s) : ∀ (l : List D) (vs : List V) (us : List Value), TOrd (.tup l) → Rps X.K ρ H l vs → Vals vs us → VDs s.heap l us
  | [], _, _, _, e, r => by
    cases (show _ = [] from e)
    cases r
    rfl
  | d :: ds, _, _, t, ⟨v, vs, e, a, b⟩, r => by
    subst e
    cases r with
    | cons r1 r2 => exact ⟨_, _, rfl, vd_of I d v _ t.tl.1 a r1, vds_of I ds vs _ t.tl.2 b r2⟩
end
theorem nest_mem (I : Inv X pins σ H s) : ∀ {ks : List D} {kv : List V} {vs : List Value}, (∀ d ∈ ks, ∃ l, d = .tup l ∧ TOrd d) → Rps X.K ρ H ks kv → Vals kv vs → ∀ u ∈ vs, ∃ d, TOrd d ∧ VD s.heap d u ∧ Rp X.K ρ H d (backV u) ∧ ∃ a, u = Value.ref a
  | [], _, _, _, e, r, u, hu => by
    cases (show _ = [] from e)
    cases r
    exact absurd hu (by simp)
  | d :: ds, _, _, ht, ⟨v, vs, e, a, b⟩, r, u, hu => by
    subst e
    cases r with
    | cons r1 r2 =>
      rcases List.mem_cons.mp hu with e | hu
      · subst e
        obtain ⟨l, rfl, t⟩ := ht d List.mem_cons_self
        obtain ⟨c, ws, e, h2⟩ := id a
        subst e
        have hv := vd_of I _ _ _ t a r1
        cases r1
        exact ⟨_, t, hv, a, c, rfl⟩
      · exact nest_mem I (fun z hz => ht z (List.mem_cons_of_mem _ hz)) b r2 u hu
theorem rps_nest (h : Heap) : ∀ {res : List D} {out : List Value}, out.map (codeV h) = res.map enc → (∀ d ∈ res, TOrd d) → (∀ u ∈ out, ∃ d, TOrd d ∧ VD h d u ∧ Rp X.K ρ H d (backV u)) → Rps X.K ρ H res (out.map backV)
  | [], [], _, _, _ => rfl
  | [], _ :: _, e, _, _ => by simp at e
  | _ :: _, [], e, _, _ => by simp at e
  | d :: res, u :: out, e, ht, hu => by
    simp only [List.map_cons, List.cons.injEq] at e
    obtain ⟨d', t', v', r'⟩ := hu u List.mem_cons_self
    have : d' = d := enc_inj t' (ht d List.mem_cons_self) (by rw [← codeV_eq v']; exact e.1)
    subst this
    exact ⟨_, _, rfl, r', rps_nest h e.2 (fun z hz => ht z (List.mem_cons_of_mem _ hz)) fun z hz => hu z (List.mem_cons_of_mem _ hz)⟩
theorem sort_spec (I : Inv X pins σ H s) (rk : Rps X.K ρ H ks kv) (rv : Vals kv vs) (h : sortAny ks st = .ok d st1) : ∃ res ltv, d = .lst res ∧ st1 = st ∧ SrtO.Swo ltv ∧
    (∀ (A : Around) (s1 : Shared) (a : Addr), A.units + 7 < cLine → (∀ b o, s.heap.get? b = some o → b ≠ a ∧ s1.heap.get? b = some o) → 2 ≤ vs.length → SrtO.SortableO X.prog X.w A s1 a vs ltv) ∧
    ∀ out, SrtO.Srtd ltv out → SrtO.Stb ltv out vs → ∃ zs, Vals zs out ∧ Rps X.K ρ H res zs := by
  unfold sortAny at h
  split at h
  · rename_i ns hi
    cases h
    have e := intsOf_ok rk hi
    subst e
    have hI : IntsAre vs ns := rv.ints
    refine ⟨_, SrtO.ltIv, rfl, rfl, SrtO.swo_int, fun A s1 a _ _ h2 => SrtO.ints_sortable hI h2, fun out h1 h2 => ?_⟩
    obtain ⟨k1, k2, k3⟩ := SrtO.ints_out hI h1 h2
    rw [← le_unique k3 (sortI_le ns) (k2.trans (sortI_perm ns).symm)]
    exact ⟨_, vals_of_ints k1, Rps.ints _⟩
  · unfold sortD at h
    split at h
    · rename_i nss hf
      split at h
      · rename_i hz
        cases h
        simp only [Bool.and_eq_true] at hz
        obtain ⟨g1, g2⟩ := flats_ok I hf rk rv
        have ne : ∀ u ∈ vs, TS.intsOf s.heap u ≠ [] := fun u hu e => by
          have hm : TS.intsOf s.heap u ∈ nss := by rw [← g1]; exact List.mem_map.mpr ⟨u, hu, rfl⟩
          have := List.all_eq_true.mp hz.1 _ hm
          rw [e] at this
          cases this
        refine ⟨_, fun v u => HT.lexLt (TS.intsOf s.heap v) (TS.intsOf s.heap u), rfl, rfl, NtL.swo_lexL _, fun A s1 a _ hk h2 => tups_sortable h2 hk fun v hv => ⟨(g2 v hv).choose_spec.2.2.2, ne v hv⟩, fun out h1 h2 => ?_⟩
        have mem : ∀ u ∈ out, u ∈ vs := fun u hu => h2.perm.mem_iff.mp hu
        have es : out.map (TS.intsOf s.heap) = sortL nss := by
          refine ris_unique (List.pairwise_map.mpr h1) (sortL_ris nss) ?_
          rw [← g1]
          exact (h2.perm.map _).trans (sortL_perm _).symm
        refine ⟨out.map backV, vals_back fun u hu => ?_, ?_⟩
        · obtain ⟨t, e, _⟩ := g2 u (mem u hu)
          exact ⟨t, e⟩
        · rw [← es, List.map_map]
          exact rps_out s.heap fun u hu => let ⟨t, e1, e2, e3, _⟩ := g2 u (mem u hu); ⟨t, e1, e2, e3⟩
      · cases h
    · unfold sortN at h
      split at h
      · rename_i hz
        cases h
        simp only [Bool.and_eq_true, Bool.or_eq_true] at hz
        obtain ⟨z1, z2, z3, z4⟩ := hz
        have hk : ∃ isI, ks.all (headKind isI) = true := z2.elim (fun q => ⟨_, q⟩) fun q => ⟨_, q⟩
        obtain ⟨isI, hk⟩ := hk
        have ht : ∀ d ∈ ks, TOrd d := fun d hd => to_of (List.all_eq_true.mp z1 d hd)
        have htt : ∀ d ∈ ks, ∃ l, d = .tup l ∧ TOrd d := fun d hd => by
          have := List.all_eq_true.mp hk d hd
          cases d with
          | tup l => exact ⟨l, rfl, ht _ hd⟩
          | _ => cases this
        have hv := vds_of I ks kv vs (.tup ht) rk rv
        have hm := nest_mem I htt rk rv
        refine ⟨_, fun v u => HT.lexLt (codeV s.heap v) (codeV s.heap u), rfl, rfl, NtL.swo_lexL _, fun A s1 a hu hk' h2 => nest_sortable h2 hu hk' hv z1 hk z3, fun out h1 h2 => ?_⟩
        have mem : ∀ u ∈ out, u ∈ vs := fun u hu => h2.perm.mem_iff.mp hu
        have ec : vs.map (codeV s.heap) = ks.map enc := by
          have key : ∀ (ks : List D) (vs : List Value), VDs s.heap ks vs → vs.map (codeV s.heap) = ks.map enc := by
            intro ks
            induction ks with
            | nil => intro vs e; rw [show _ = [] from e]; rfl
            | cons d ds ih =>
              intro vs e
              obtain ⟨u, r, e, a, b⟩ := e
              subst e
              rw [List.map_cons, List.map_cons, codeV_eq a, ih r b]
          exact key ks vs hv
        have es : out.map (codeV s.heap) = ((sortE (ks.map fun d => (enc d, d))).map Prod.snd).map enc := by
          rw [sortE_enc]
          refine ris_unique (List.pairwise_map.mpr h1) (sortL_ris _) ?_
          rw [← ec]
          exact (h2.perm.map _).trans (sortL_perm _).symm
        refine ⟨out.map backV, vals_back fun u hu => ?_, rps_nest s.heap es (fun d hd => ht d (sortE_mem hd)) fun u hu => ?_⟩
        · obtain ⟨d, _, _, _, a, e⟩ := hm u (mem u hu)
          exact ⟨a, e⟩
        · obtain ⟨d, t, v, r, _⟩ := hm u (mem u hu)
          exact ⟨d, t, v, r⟩
      · cases h
theorem vals_of_get : ∀ {xs : List V} {us : List Value}, us.length = xs.length → (∀ (i : Nat) x u, xs[i]? = some x → us[i]? = some u → RelV x u) → Vals xs us
  | [], [], _, _ => .nil
  | [], _ :: _, h, _ => by simp at h
  | _ :: _, [], h, _ => by simp at h
  | x :: xs, u :: us, h, f => .cons (f 0 x u rfl rfl) (vals_of_get (by simpa using h) fun i x u hx hu => f (i + 1) x u (by simpa using hx) (by simpa using hu))
theorem kdl_raw {prog : Program} {w : World} {a : Addr} {es : Array DictEntry} {ep : Nat} (lo : (a == sysModules) = false) : PySem.W.KdlSrc prog w "dict" a a es.size (fun i v => ∃ hi : i < es.size, v = es[i].key) (fun h => h.DictRaw a es ep) where
  type := fun _ hm => hm.typeIs
  there := fun _ hm => let ⟨_, ho, _⟩ := hm; ⟨Heap.lt_size ho, Heap.lt_size ho⟩
  keep := fun _ _ hm hk => hm.at fun o e => hk a (.inl rfl) o e
  notList := by decide
  notTuple := by decide
  hint := fun _ _ _ _ hm hq => PySem.W.kdl_hint_dict hm.typeIs hq
  iter := fun _ _ hh hm => ⟨_, _, (fun _ _ hq => wpAny_pyIter_dict_raw lo hm hq), Walks.rawKeys hh _ a (Nat.ne_of_lt (let ⟨_, ho, _⟩ := hm; Heap.lt_size ho)) es ep, ⟨⟨_, Heap.get?_push_size _ rfl, rfl, rfl⟩, hm.at fun _ e => Heap.get?_push_of_some _ e⟩⟩
theorem sorted_ok (hc : X.calm = true) (hu : X.A.units + 65 < cLine) : CallR X (.builtin "sorted") (rBl X.K E (bltop .sorted)) := by
  intro pins s σ H xs us Q I r h
  obtain ⟨ρ, st, ds, sr, rd0, p0⟩ := h
  match ds, rd0, p0 with
  | [], _, p => exact p.elim
  | d :: e :: l, _, p => exact p.elim
  | [d], rd, p =>
    clear p0 rd0
    obtain ⟨v, rfl, rv⟩ := rps1 rd
    obtain ⟨u, rfl, ru⟩ := vals1 r
    simp only [bltop] at p
    have okp : ∀ {l : List D}, PostE X.K E ρ H (sortAny l st) Q → ∃ d st1, sortAny l st = .ok d st1 := fun {l} p => by
      cases q : sortAny l st with
      | ok d st1 => exact ⟨d, st1, rfl⟩
      | exc x st' => unfold sortAny sortD sortN at q; (repeat' split at q) <;> cases q
      | bad => rw [q] at p; exact p.elim
    split at p
    · rename_i l hl
      obtain ⟨a, vs, rfl, ha, rl⟩ := rv.seqL sr hl
      obtain ⟨d', st1, hs⟩ := okp p
      rw [hs] at p
      cases ru
      obtain ⟨its, rvs, pl, hz⟩ := I.list (SqL.of ha)
      obtain ⟨res, ltv, rfl, rfl, O, sb, fin⟩ := sort_spec I rl rvs hs
      refine SrtO.sorted_ord O pl.isList (by rw [← rvs.length]; exact hz) (fun h2 h₁ a' _ hk => sb _ { s with heap := h₁ } a' (by show X.A.units + 1 + 1 + 7 < cLine; omega) hk h2) fun out h1 h2 => ?_
      obtain ⟨zs, z1, z2⟩ := fin out h1 h2
      obtain ⟨ep, he'⟩ := PyProof.Rows.sortedAll_at s.heap its out.toArray
      have hlen : zs.length ≤ sizeLine := by rw [z1.length, h2.len, ← rvs.length]; exact hz
      have nn : H (s.heap.objs.size + 1) = none := I.hok.fresh (Nat.le_succ _)
      exact ⟨.ref _, upd H (s.heap.objs.size + 1) (.lst zs), I.laid (t' := s.toks) (fun _ _ => PyProof.Rows.sortedAll_old) (Nat.le_succ _) ⟨hlen, out, ep, z1, he'⟩, rfl, PostE.new p sr nn fun ex off => ⟨_, zs, rfl, upd_same, off, z2.ext ex _ _⟩⟩
    · split at p
      · rename_i ks vs0 hd
        obtain ⟨a, o, kv, vv, rfl, d0, c, rk, rv2⟩ := rv.dicOf sr hd
        obtain ⟨d', st1, hs⟩ := okp p
        rw [hs] at p
        cases ru
        obtain ⟨es, ep, raw, z1, z2, hdat, get⟩ := dic_raw I d0 c
        have hsz : es.size ≤ sizeLine := by rw [z1, ← rk.length]; exact Nat.le_trans c.2.1 line_ok
        refine Calls.call_function_entry PyProof.Rows.kind_sorted PyProof.Rows.plain_sorted PyProof.Rows.entry_sorted (PyProof.Rows.args_sorted1 _) ?_
        unfold Builtin.«sorted»
        refine wpAny_bind (m := checkCount "sorted" 1 1 _) (wpAny_pure ?_)
        refine wpAny_bind (PySem.W.kdu_collect (A := X.A.in1) (kdl_raw d0.2.1) (I.ok.hd hc) raw hsz fun h' tk acc hk hacc => ?_)
        have hv : Vals kv acc.toList := by
          refine vals_of_get (by rw [Array.length_toList, hacc.1, z1]) fun i x u hx hu => ?_
          obtain ⟨hi, e⟩ := hacc.2 i u (by rw [← Array.getElem?_toList]; exact hu)
          obtain ⟨e', x', y', g1, g2, g3, g4, g5⟩ := get i hi
          rw [hx] at g2; cases g2
          rw [Array.getElem?_eq_getElem hi] at g1; cases g1
          rw [e]; exact g4
        have I1 : Inv X pins σ H { s with heap := h', toks := tk } := I.kept hk
        obtain ⟨res, ltv, rfl, rfl, O, sb, fin⟩ := sort_spec I1 rk hv hs
        have hal : acc.toList.length ≤ sizeLine := by rw [Array.length_toList, hacc.1]; exact hsz
        refine wpAny_bind (wpAny_newList ?_ hal)
        have hoL : (h'.push (seqObj "list" acc.toList.toArray 0)).get? h'.objs.size = some (seqObj "list" acc.toList.toArray 0) := Heap.get?_push_size _ rfl
        show wpAny _ _ _ _ _ { s with heap := h'.push (seqObj "list" acc.toList.toArray 0), toks := tk }
        refine wpAny_bind (wpAny_holding (wpAny_call_entry PyProof.Rows.slot_list_sort ⟨_, hoL, rfl⟩ PyProof.Rows.entry_list_sort
          (SrtO.list_sort_ord O hoL hal (fun h2 => sb _ { s with heap := h'.push (seqObj "list" acc.toList.toArray 0), toks := tk } _ (by show X.A.units + 1 + 1 + 7 < cLine; omega) (fun b ob e => ⟨Nat.ne_of_lt (Heap.lt_size e), Heap.get?_push_of_some _ e⟩) h2) fun out h1 h2 => ⟨_, rfl, ?_⟩) (PyProof.Rows.args_list_sort _)))
        obtain ⟨zs, y1, y2⟩ := fin out h1 h2
        obtain ⟨e', he'⟩ := PyProof.Rows.sortedHeap_at (vs := acc.toList) (out := out.toArray) hoL
        have hlen : zs.length ≤ sizeLine := by rw [y1.length, h2.len]; exact hal
        have nn : H h'.objs.size = none := I1.hok.fresh (Nat.le_refl _)
        refine wpAny_pure ⟨_, rfl, .ref h'.objs.size, upd H h'.objs.size (.lst zs), I1.laid (t' := tk) (fun b u e => ?_) (Nat.le_refl _) (show ObjOk X.prog X.w _ _ _ (.lst zs) from ⟨hlen, out, e', y1, he'⟩), rfl, PostE.new p sr nn fun ex off => ⟨_, zs, rfl, upd_same, off, y2.ext ex _ _⟩⟩
        have hb : b < h'.objs.size := Heap.lt_size e
        rw [PyProof.Rows.sortedHeap_old (Nat.ne_of_lt hb) (by rw [size_push']; exact Nat.lt_succ_of_lt hb)]
        exact Heap.get?_push_of_some _ e
      · exact p.elim
theorem list_ok (hc : X.calm = true) : CallR X (.type "list") (rBl X.K E (bltop .list)) := by
  intro pins s σ H xs us Q I r h
  obtain ⟨ρ, st, ds, sr, rd0, p0⟩ := h
  have lists : ∀ d, ds = [d] → PostE X.K E ρ H (match seqLT d st with
      | some l => .ok (.lst l) st
      | none => match dicOf d st with
        | some (ks, _) => .ok (.lst ks) st
        | none => .bad) Q → wpAny (model X.prog X.w) X.A (call (.type "list") us) (EP X pins σ Q) X.xe s := fun d e p2 => by
    subst e
    obtain ⟨v, rfl, rv⟩ := rps1 rd0
    split at p2
    · rename_i l hl
      obtain ⟨a, vs, rfl, ha, rl⟩ := rv.seqLT sr hl
      exact call_list_of pins s σ H _ us Q I r ⟨a, vs, rfl, ha.elim (fun h => .inl (.of h)) (fun h => .inr (.of h)), fun q hq => p2.new sr hq fun e n => ⟨q, vs, rfl, upd_same, n, rl.ext e _ _⟩⟩
    · split at p2
      · rename_i ks vs0 hd
        obtain ⟨a, o, kv, vv, rfl, d0, c, rk, rv2⟩ := rv.dicOf sr hd
        rw [Vals.ref1 r]
        obtain ⟨es, ep, raw, z1, z2, hdat, get⟩ := dic_raw I d0 c
        have hsz : es.size ≤ sizeLine := by rw [z1, ← rk.length]; exact Nat.le_trans c.2.1 line_ok
        refine PySem.W.kdl_call (kdl_raw d0.2.1) (I.ok.hd hc) raw hsz fun h' tk acc c' hk hL hacc => ?_
        have hv : Vals kv acc.toList := by
          refine vals_of_get (by rw [Array.length_toList, hacc.1, z1]) fun i x u hx hu => ?_
          obtain ⟨hi, e⟩ := hacc.2 i u (by rw [← Array.getElem?_toList]; exact hu)
          obtain ⟨e', x', y', g1, g2, g3, g4, g5⟩ := get i hi
          rw [hx] at g2; cases g2
          rw [Array.getElem?_eq_getElem hi] at g1; cases g1
          rw [e]; exact g4
        have nn : H s.heap.objs.size = none := I.hok.fresh (Nat.le_refl _)
        have hlen : kv.length ≤ sizeLine := by rw [← z1]; exact hsz
        exact ⟨.ref s.heap.objs.size, upd H s.heap.objs.size (.lst kv), I.laid (t' := tk) hk (Nat.le_refl _) (show ObjOk X.prog X.w _ _ _ (.lst kv) from ⟨hlen, acc.toList, c', hv, by rw [Array.toArray_toList]; exact hL⟩), rfl, p2.new sr nn fun ex off => ⟨_, kv, rfl, upd_same, off, rk.ext ex _ _⟩⟩
      · exact p2.elim
  match ds, rd0, p0 with
  | [], _, p => exact p.elim
  | d :: e :: l, _, p => cases d <;> exact p.elim
  | [.scr l], rd, p =>
    obtain ⟨v, rfl, rv⟩ := rps1 rd
    obtain ⟨a, rfl, ha⟩ := id rv
    exact call_list_of pins s σ H _ us Q I r ⟨a, _, rfl, .inl (scr_sq ha), fun q hq => p.new sr hq fun e n => ⟨q, _, rfl, upd_same, n, Rps.ints l⟩⟩
  | [.rng lo hi], rd, p =>
    have p : PostE X.K E ρ H (if -1000000 ≤ lo ∧ lo ≤ 1000000 ∧ -1000000 ≤ hi ∧ hi ≤ 1000000 then .ok (.lst (rangeL lo (hi - lo).toNat)) st else .bad) Q := p
    split at p
    · rename_i hb
      obtain ⟨v, rfl, rv⟩ := rps1 rd
      obtain ⟨t, rfl, h2, off⟩ := rv
      obtain ⟨t1, u1, v1, hr⟩ : ∃ t1 u1 v1, s.heap.get? t = some { cls := .type "range", data := .fields #[.int lo t1, .int hi u1, .int 1 v1] } := I.hok t _ h2
      rw [Vals.ref1 r]
      have hn : Builtin.Range.rangeSize lo hi 1 = (((hi - lo).toNat : Nat) : Int) := by rw [rangeSize_one]; split <;> omega
      refine call_list_range (n := (hi - lo).toNat) (I.ok.hd hc) (show IsRange s.heap t lo hi 1 t1 u1 v1 from hr) (small_one (by omega) (by omega) (by omega) (by omega)) hn (by omega) fun h' tk acc c' hk hL hacc => ?_
      have hacc' := vals_rg (a := lo) (b := hi) hacc
      have hz : (rgV lo hi).length ≤ sizeLine := by rw [rgV_length, sizeLine_eq]; omega
      exact ⟨.ref s.heap.objs.size, upd H s.heap.objs.size (.lst (rgV lo hi)), I.laid (t' := tk) hk (Nat.le_refl _) (show ObjOk X.prog X.w _ _ _ (.lst (rgV lo hi)) from ⟨hz, acc.toList, c', hacc', by rw [Array.toArray_toList]; exact hL⟩), rfl, p.new sr (I.hok.fresh (Nat.le_refl _)) fun e n => ⟨_, _, rfl, upd_same, n, rgV_rel _ _⟩⟩
    · exact p.elim
  | [.non], rd, p => exact lists _ rfl p
  | [.bl _], rd, p => exact lists _ rfl p
  | [.int _], rd, p => exact lists _ rfl p
  | [.str _], rd, p => exact lists _ rfl p
  | [.lst _], rd, p => exact lists _ rfl p
  | [.tup _], rd, p => exact lists _ rfl p
  | [.ref _], rd, p => exact lists _ rfl p
  | [.dic _ _], rd, p => exact lists _ rfl p
  | [.fn _], rd, p => exact lists _ rfl p
theorem cell_post {Q : VK} {p : Addr} {l : List D} {vs : List V} {ρ : Rho} {st : Store} (sr : StR X.K ρ H st) (hp : H p = none) (rl : Rps X.K ρ H l vs) (q : PostE X.K E ρ H (.ok (.ref st.length) (st ++ [.lst l])) Q) : Q (.ref p) (upd H p (.lst vs)) := by
  obtain ⟨ex, s2⟩ := sr.cellNew hp rl
  refine q _ _ _ ex s2 ⟨by simp [sr.len], fun a ha => ?_⟩
  rw [sr.len] at ha
  simp at ha
  rw [ha]
theorem listc_ok (hc : X.calm = true) : CallR X (.type "list") (rBl X.K E (bltop .listc)) := by
  intro pins s σ H xs us Q I r h
  obtain ⟨ρ, st, ds, sr, rd0, p0⟩ := h
  match ds, rd0, p0 with
  | [], _, p => exact p.elim
  | d :: e :: l, _, p => exact p.elim
  | [d], rd, p =>
    clear p0 rd0
    obtain ⟨v, rfl, rv⟩ := rps1 rd
    simp only [bltop] at p
    split at p
    · rename_i l hl
      obtain ⟨a, vs, rfl, ha, rl⟩ := rv.seqLT sr hl
      exact call_list_of pins s σ H _ us Q I r ⟨a, vs, rfl, ha.elim (fun h => .inl (.of h)) (fun h => .inr (.of h)), fun q hq => cell_post sr hq rl p⟩
    · split at p
      · rename_i ks vs0 hd
        obtain ⟨a, o, kv, vv, rfl, d0, c, rk, rv2⟩ := rv.dicOf sr hd
        rw [Vals.ref1 r]
        obtain ⟨es, ep, raw, z1, z2, hdat, get⟩ := dic_raw I d0 c
        have hsz : es.size ≤ sizeLine := by rw [z1, ← rk.length]; exact Nat.le_trans c.2.1 line_ok
        refine PySem.W.kdl_call (kdl_raw d0.2.1) (I.ok.hd hc) raw hsz fun h' tk acc c' hk hL hacc => ?_
        have hv : Vals kv acc.toList := by
          refine vals_of_get (by rw [Array.length_toList, hacc.1, z1]) fun i x u hx hu => ?_
          obtain ⟨hi, e⟩ := hacc.2 i u (by rw [← Array.getElem?_toList]; exact hu)
          obtain ⟨e', x', y', g1, g2, g3, g4, g5⟩ := get i hi
          rw [hx] at g2; cases g2
          rw [Array.getElem?_eq_getElem hi] at g1; cases g1
          rw [e]; exact g4
        have nn : H s.heap.objs.size = none := I.hok.fresh (Nat.le_refl _)
        have hlen : kv.length ≤ sizeLine := by rw [← z1]; exact hsz
        exact ⟨.ref s.heap.objs.size, upd H s.heap.objs.size (.lst kv), I.laid (t' := tk) hk (Nat.le_refl _) (show ObjOk X.prog X.w _ _ _ (.lst kv) from ⟨hlen, acc.toList, c', hv, by rw [Array.toArray_toList]; exact hL⟩), rfl, cell_post sr nn rk p⟩
      · exact p.elim
end
end Ev

set_option Elab.async false
set_option linter.all false
set_option maxRecDepth 100000
set_option maxHeartbeats 1000000
namespace Ev
open PySem PySem.Spec PyProof.Rows L2
variable [TabsOf]
variable {K : PySem.W.Frag}
theorem Move.refl (ρ : Rho) (H : Hp) : Move ρ H ρ H := (Ext.refl ρ H).move
theorem Move.trans {ρ ρ1 ρ2 : Rho} {H H1 H2 : Hp} (a : Move ρ H ρ1 H1) (b : Move ρ1 H1 ρ2 H2) : Move ρ H ρ2 H2 :=
  ⟨fun x o h t n => let ⟨p, q⟩ := a.keep x o h t n; b.keep x o p t q, Nat.le_trans a.len b.len, fun k hk => by
    rcases b.old k (Nat.lt_of_lt_of_le hk a.len) with q | q
    · rcases a.old k hk with p | p
      · exact .inl (q.trans p)
      · exact .inr (q.trans p)
    · exact .inr q⟩
/-- J gives the items, one after another, while what stands off the cells stays -/
structure Wk (K : PySem.W.Frag) (J : It) (ρ : Rho) (H : Hp) (xs : List D) : Prop where
  go : ∀ i ρ1 H1, i < xs.length → Move ρ H ρ1 H1 → J.go i H1
  stop : ∀ ρ1 H1, Move ρ H ρ1 H1 → J.stop xs.length H1
  yld : ∀ (i : Nat) d ρ1 H1 st1 x H2, xs[i]? = some d → Move ρ H ρ1 H1 → StR K ρ1 H1 st1 → J.yld i H1 x H2 → Ext ρ1 H1 ρ1 H2 ∧ StR K ρ1 H2 st1 ∧ Rp K ρ1 H2 d x
theorem wk_tup {ρ : Rho} {H : Hp} {a : Addr} {vs : List V} {l : List D} (h : H a = some (.tup vs)) (n : ρ.off a) (r : Rps K ρ H l vs) : Wk K (Itt K a) ρ H l where
  go := fun i ρ1 H1 hi m => by
    obtain ⟨v, hv, _⟩ := r.get (List.getElem?_eq_some_iff.mpr ⟨hi, rfl⟩)
    exact ⟨vs, v, .of (m.keep a _ h (by intro _ z; cases z) n).1, hv⟩
  stop := fun ρ1 H1 m => ⟨vs, .of (m.keep a _ h (by intro _ z; cases z) n).1, by rw [r.length]; exact Nat.le_refl _⟩
  yld := fun i d ρ1 H1 st1 x H2 hd m s y => by
    obtain ⟨rfl, y⟩ := y
    obtain ⟨v, hv, rv⟩ := r.get hd
    have := y vs (.of (m.keep a _ h (by intro _ z; cases z) n).1)
    rw [hv] at this; cases this
    exact ⟨.refl _ _, s, rv.move m⟩
theorem wk_lst {ρ : Rho} {H : Hp} {a : Addr} {vs : List V} {l : List D} (h : H a = some (.lst vs)) (n : ρ.off a) (r : Rps K ρ H l vs) : Wk K (Itl K a) ρ H l where
  go := fun i ρ1 H1 hi m => by
    obtain ⟨v, hv, _⟩ := r.get (List.getElem?_eq_some_iff.mpr ⟨hi, rfl⟩)
    exact ⟨vs, v, .of (m.keep a _ h (by intro _ z; cases z) n).1, hv⟩
  stop := fun ρ1 H1 m => ⟨vs, .of (m.keep a _ h (by intro _ z; cases z) n).1, by rw [r.length]; exact Nat.le_refl _⟩
  yld := fun i d ρ1 H1 st1 x H2 hd m s y => by
    obtain ⟨rfl, y⟩ := y
    obtain ⟨v, hv, rv⟩ := r.get hd
    have := y vs (.of (m.keep a _ h (by intro _ z; cases z) n).1)
    rw [hv] at this; cases this
    exact ⟨.refl _ _, s, rv.move m⟩
theorem rangeL_length : ∀ (n : Nat) (lo : Int), (rangeL lo n).length = n
  | 0, _ => rfl
  | n + 1, lo => by unfold rangeL; simp [rangeL_length n]
theorem rangeL_get : ∀ (n : Nat) (lo : Int) (i : Nat), i < n → (rangeL lo n)[i]? = some (.int (lo + i))
  | 0, _, i, h => by omega
  | n + 1, lo, 0, h => by unfold rangeL; simp
  | n + 1, lo, i + 1, h => by
    unfold rangeL
    rw [List.getElem?_cons_succ, rangeL_get n (lo + 1) i (by omega)]
    congr 2
    push_cast
    omega
theorem wk_rng {ρ : Rho} {H : Hp} {lo : Int} {n : Nat} : Wk K (Itr lo n) ρ H (rangeL lo n) where
  go := fun i ρ1 H1 hi m => by rw [rangeL_length] at hi; exact hi
  stop := fun ρ1 H1 m => by rw [rangeL_length]; exact Nat.le_refl n
  yld := fun i d ρ1 H1 st1 x H2 hd m s y => by
    obtain ⟨rfl, rfl⟩ := y
    have hi : i < n := by
      have := (List.getElem?_eq_some_iff.mp hd).1
      rw [rangeL_length] at this; exact this
    rw [rangeL_get n lo i hi] at hd
    cases hd
    exact ⟨.refl _ _, s, rfl⟩
theorem enumL_length : ∀ (l : List D) (i : Int), (enumL i l).length = l.length
  | [], _ => rfl
  | x :: r, i => by unfold enumL; simp [enumL_length r]
theorem enumL_get : ∀ (l : List D) (k : Int) (i : Nat) (d : D), (enumL k l)[i]? = some d → ∃ x, l[i]? = some x ∧ d = .tup [.int (k + i), x]
  | [], _, _, _, h => by simp [enumL] at h
  | x :: r, k, 0, d, h => by
    simp [enumL] at h
    exact ⟨x, by simp, by rw [← h]; simp⟩
  | x :: r, k, i + 1, d, h => by
    unfold enumL at h
    obtain ⟨y, h1, h2⟩ := enumL_get r (k + 1) i d (by simpa using h)
    refine ⟨y, by simpa using h1, ?_⟩
    rw [h2]
    congr 3
    push_cast
    omega
theorem pair_rp {ρ : Rho} {H : Hp} {st : Store} {T : Addr} {x y : V} {d e : D} (s : StR K ρ H st) (h : H T = none) (r1 : Rp K ρ H d x) (r2 : Rp K ρ H e y) :
    Ext ρ H ρ (upd H T (.tup [x, y])) ∧ StR K ρ (upd H T (.tup [x, y])) st ∧ Rp K ρ (upd H T (.tup [x, y])) (.tup [d, e]) (.ref T) := by
  obtain ⟨ex, s', off⟩ := s.laid (o := .tup [x, y]) h
  exact ⟨ex, s', T, [x, y], rfl, upd_same, off, .cons (r1.ext ex _ _) (.cons (r2.ext ex _ _) .nil)⟩
theorem wk_enumT {ρ : Rho} {H : Hp} {a : Addr} {vs : List V} {l : List D} (h : H a = some (.tup vs)) (n : ρ.off a) (r : Rps K ρ H l vs) : Wk K (IteT K a) ρ H (enumL 0 l) where
  go := fun i ρ1 H1 hi m => by
    rw [enumL_length] at hi
    obtain ⟨v, hv, _⟩ := r.get (List.getElem?_eq_some_iff.mpr ⟨hi, rfl⟩)
    exact ⟨vs, v, .of (m.keep a _ h (by intro _ z; cases z) n).1, hv⟩
  stop := fun ρ1 H1 m => ⟨vs, .of (m.keep a _ h (by intro _ z; cases z) n).1, by rw [enumL_length, r.length]⟩
  yld := fun i d ρ1 H1 st1 x H2 hd m s y => by
    obtain ⟨T, z, rfl, hT, rfl, y⟩ := y
    obtain ⟨w, hw, rfl⟩ := enumL_get l 0 i d hd
    obtain ⟨v, hv, rv⟩ := r.get hw
    have := y vs (.of (m.keep a _ h (by intro _ z; cases z) n).1)
    rw [hv] at this; cases this
    exact pair_rp s hT (by show V.int _ = V.int _; congr 1; omega) (rv.move m)
theorem wk_enumL {ρ : Rho} {H : Hp} {a : Addr} {vs : List V} {l : List D} (h : H a = some (.lst vs)) (n : ρ.off a) (r : Rps K ρ H l vs) : Wk K (Ite K a) ρ H (enumL 0 l) where
  go := fun i ρ1 H1 hi m => by
    rw [enumL_length] at hi
    obtain ⟨v, hv, _⟩ := r.get (List.getElem?_eq_some_iff.mpr ⟨hi, rfl⟩)
    exact ⟨vs, v, .of (m.keep a _ h (by intro _ z; cases z) n).1, hv⟩
  stop := fun ρ1 H1 m => ⟨vs, .of (m.keep a _ h (by intro _ z; cases z) n).1, by rw [enumL_length, r.length]; exact Nat.le_refl _⟩
  yld := fun i d ρ1 H1 st1 x H2 hd m s y => by
    obtain ⟨T, z, rfl, hT, rfl, y⟩ := y
    obtain ⟨w, hw, rfl⟩ := enumL_get l 0 i d hd
    obtain ⟨v, hv, rv⟩ := r.get hw
    have := y vs (.of (m.keep a _ h (by intro _ z; cases z) n).1)
    rw [hv] at this; cases this
    exact pair_rp s hT (by show V.int _ = V.int _; congr 1; omega) (rv.move m)
theorem zipL_length : ∀ (l m : List D), (zipL l m).length = min l.length m.length
  | [], _ => by simp [zipL]
  | _ :: _, [] => by simp [zipL]
  | x :: r, y :: q => by unfold zipL; simp [zipL_length r q]
theorem zipL_get : ∀ (l m : List D) (i : Nat) (d : D), (zipL l m)[i]? = some d → ∃ x y, l[i]? = some x ∧ m[i]? = some y ∧ d = .tup [x, y]
  | [], _, _, _, h => by simp [zipL] at h
  | _ :: _, [], _, _, h => by simp [zipL] at h
  | x :: r, y :: q, 0, d, h => by
    simp [zipL] at h
    exact ⟨x, y, by simp, by simp, h.symm⟩
  | x :: r, y :: q, i + 1, d, h => by
    unfold zipL at h
    obtain ⟨u, w, h1, h2, h3⟩ := zipL_get r q i d (by simpa using h)
    exact ⟨u, w, by simpa using h1, by simpa using h2, h3⟩
theorem wk_zipT {ρ : Rho} {H : Hp} {a b : Addr} {vs ws : List V} {l m : List D} (h : H a = some (.tup vs)) (n : ρ.off a) (r : Rps K ρ H l vs) (h2 : H b = some (.tup ws)) (n2 : ρ.off b) (r2 : Rps K ρ H m ws) : Wk K (RZ.ItzT K a b) ρ H (zipL l m) where
  go := fun i ρ1 H1 hi mv => by
    rw [zipL_length] at hi
    obtain ⟨v, hv, _⟩ := r.get (List.getElem?_eq_some_iff.mpr ⟨(show i < l.length by omega), rfl⟩)
    obtain ⟨w, hw, _⟩ := r2.get (List.getElem?_eq_some_iff.mpr ⟨(show i < m.length by omega), rfl⟩)
    exact ⟨vs, ws, v, w, .of (mv.keep a _ h (by intro _ z; cases z) n).1, .of (mv.keep b _ h2 (by intro _ z; cases z) n2).1, hv, hw⟩
  stop := fun ρ1 H1 mv => ⟨vs, ws, .of (mv.keep a _ h (by intro _ z; cases z) n).1, .of (mv.keep b _ h2 (by intro _ z; cases z) n2).1, by rw [zipL_length, r.length, r2.length]; omega⟩
  yld := fun i d ρ1 H1 st1 x H2 hd mv s y => by
    obtain ⟨T, z, u, rfl, hT, rfl, y, y'⟩ := y
    obtain ⟨p, q, hp, hq, rfl⟩ := zipL_get l m i d hd
    obtain ⟨v, hv, rv⟩ := r.get hp
    obtain ⟨w, hw, rw'⟩ := r2.get hq
    have := y vs (.of (mv.keep a _ h (by intro _ z; cases z) n).1)
    rw [hv] at this; cases this
    have := y' ws (.of (mv.keep b _ h2 (by intro _ z; cases z) n2).1)
    rw [hw] at this; cases this
    exact pair_rp s hT (rv.move mv) (rw'.move mv)
theorem wk_zipL {ρ : Rho} {H : Hp} {a b : Addr} {vs ws : List V} {l m : List D} (h : H a = some (.lst vs)) (n : ρ.off a) (r : Rps K ρ H l vs) (h2 : H b = some (.lst ws)) (n2 : ρ.off b) (r2 : Rps K ρ H m ws) : Wk K (Itz K a b) ρ H (zipL l m) where
  go := fun i ρ1 H1 hi mv => by
    rw [zipL_length] at hi
    obtain ⟨v, hv, _⟩ := r.get (List.getElem?_eq_some_iff.mpr ⟨(show i < l.length by omega), rfl⟩)
    obtain ⟨w, hw, _⟩ := r2.get (List.getElem?_eq_some_iff.mpr ⟨(show i < m.length by omega), rfl⟩)
    exact ⟨vs, ws, v, w, .of (mv.keep a _ h (by intro _ z; cases z) n).1, .of (mv.keep b _ h2 (by intro _ z; cases z) n2).1, hv, hw⟩
  stop := fun ρ1 H1 mv => ⟨vs, ws, .of (mv.keep a _ h (by intro _ z; cases z) n).1, .of (mv.keep b _ h2 (by intro _ z; cases z) n2).1, by rw [zipL_length, r.length, r2.length]; omega⟩
  yld := fun i d ρ1 H1 st1 x H2 hd mv s y => by
    obtain ⟨T, z, u, rfl, hT, rfl, y, y'⟩ := y
    obtain ⟨p, q, hp, hq, rfl⟩ := zipL_get l m i d hd
    obtain ⟨v, hv, rv⟩ := r.get hp
    obtain ⟨w, hw, rw'⟩ := r2.get hq
    have := y vs (.of (mv.keep a _ h (by intro _ z; cases z) n).1)
    rw [hv] at this; cases this
    have := y' ws (.of (mv.keep b _ h2 (by intro _ z; cases z) n2).1)
    rw [hw] at this; cases this
    exact pair_rp s hT (rv.move mv) (rw'.move mv)

/-- the keys or the values of a dict that stands -/
theorem wk_dk {ρ : Rho} {H : Hp} {a : Addr} {o : Obj} {ks : List D} {kv : List V} (h : DictAt H a o) (n : ρ.off a) (r : Rps K ρ H ks kv) : Wk K (ItK a o kv) ρ H ks where
  go := fun i ρ1 H1 hi m => ⟨⟨(m.keep a _ h.1 (.ext _) n).1, h.2⟩, by rw [← r.length]; exact hi⟩
  stop := fun ρ1 H1 m => ⟨⟨(m.keep a _ h.1 (.ext _) n).1, h.2⟩, by rw [r.length]; exact Nat.le_refl _⟩
  yld := fun i d ρ1 H1 st1 x H2 hd m s y => by
    obtain ⟨rfl, y⟩ := y
    obtain ⟨v, hv, rv⟩ := r.get hd
    rw [hv] at y; cases y
    exact ⟨.refl _ _, s, rv.move m⟩
theorem wk_di {ρ : Rho} {H : Hp} {a : Addr} {o : Obj} {ks vs : List D} {kv vv : List V} (h : DictAt H a o) (n : ρ.off a) (r : Rps K ρ H ks kv) (r2 : Rps K ρ H vs vv) (hl : ks.length = vs.length) : Wk K (ItI a o kv vv) ρ H (zipL ks vs) where
  go := fun i ρ1 H1 hi m => ⟨⟨(m.keep a _ h.1 (.ext _) n).1, h.2⟩, by rw [← r.length]; rw [zipL_length] at hi; omega⟩
  stop := fun ρ1 H1 m => ⟨⟨(m.keep a _ h.1 (.ext _) n).1, h.2⟩, by rw [zipL_length, ← r.length]; omega⟩
  yld := fun i d ρ1 H1 st1 x H2 hd m s y => by
    obtain ⟨T, y', z', rfl, y1, z1, hT, rfl⟩ := y
    obtain ⟨p, q, hp, hq, rfl⟩ := zipL_get ks vs i d hd
    obtain ⟨v, hv, rv⟩ := r.get hp
    obtain ⟨w, hw, rw'⟩ := r2.get hq
    rw [hv] at y1; cases y1
    rw [hw] at z1; cases z1
    exact pair_rp s hT (rv.move m) (rw'.move m)

/-! ### iterators' readings -/
def PostI (K : PySem.W.Frag) (E : Str → Hp → Prop) (ρ : Rho) (H : Hp) (r : R (List D)) (Q : It → Hp → Prop) : Prop := match r with
  | .ok xs st' => ∀ J ρ' H', Ext ρ H ρ' H' → StR K ρ' H' st' → Wk K J ρ' H' xs → Q J H'
  | .exc x st' => ∀ ρ' H', Ext ρ H ρ' H' → StR K ρ' H' st' → E x H'
  | .bad => False
abbrev Fl := Env → Store → R (List D)
def tI (K : PySem.W.Frag) (W : XW) (f : Fl) : TI := fun σ H Q => ∃ ρ env st, EnvR K ρ H env σ ∧ StR K ρ H st ∧ PostI K (W σ) ρ H (f env st) Q
abbrev Pi' (X : Cx) (W : XW) (tg e : Expr) (f : Fl) : Prop := PI X tg e (tI X.K W f)
section
variable {E : Str → Hp → Prop} {ρ ρ1 : Rho} {H H1 : Hp}
theorem PostI.later {r : R (List D)} {Q : It → Hp → Prop} (p : PostI K E ρ H r Q) (e : Ext ρ H ρ1 H1) : PostI K E ρ1 H1 r Q := by
  cases r with
  | ok d st' => exact fun v ρ' H' e' s r => p v ρ' H' (e.trans e') s r
  | exc x st' => exact fun ρ' H' e' s => p ρ' H' (e.trans e') s
  | bad => exact p
theorem PostI.imp {r : R (List D)} {Q Q' : It → Hp → Prop} (p : PostI K E ρ H r Q) (h : ∀ v H, Q v H → Q' v H) : PostI K E ρ H r Q' := by
  cases r with
  | ok d st' => exact fun v ρ' H' e' s r => h _ _ (p v ρ' H' e' s r)
  | exc x st' => exact p
  | bad => exact p
theorem PostI.step {r : R D} {g : D → Store → R (List D)} {Q : It → Hp → Prop} (p : PostI K E ρ H (r.bind g) Q) : PostE K E ρ H r (Mid K ρ H r fun ρ1 H1 d st1 => PostI K E ρ1 H1 (g d st1) Q) := by
  cases r with
  | ok d st1 => exact fun v ρ1 H1 e s r => ⟨ρ1, st1, d, e, s, r, rfl, PostI.later p e⟩
  | exc x st' => exact p
  | bad => exact p
end
theorem PI.mono {X : Cx} {tg e : Expr} {t t' : TI} (h : PI X tg e t) (m : ∀ σ H Q, t' σ H Q → t σ H Q) : PI X tg e t' := ⟨fun pins s σ H Q I q => h.run pins s σ H Q I (m σ H Q q)⟩
section
variable {X : Cx} {W : XW} {a b e tg : Expr} {fa fb f : Fe} {pos p : Pos}
/-- a tuple, a list, a range -/
theorem i_val (he : Pe X W e f) : Pi' X W tg e fun env st => (f env st).bind fun d st1 => R.of (itemsOf d st1) st1 := by
  refine ⟨fun pins s σ H Rq I ⟨ρ, env, st, er, sr, p⟩ => ?_⟩
  refine thn (he.run pins s σ H _ I ⟨ρ, env, st, er, sr, PostI.step p⟩) fun v s1 ⟨x, H1, I1, r1, ρ1, st1, d, e1, s1', rd, _, p1⟩ => ?_
  dsimp only at p1
  cases d with
  | tup l =>
    obtain ⟨t, vs, rfl, h2, off, rl⟩ := rd
    cases r1
    obtain ⟨its, rv, pl, hz⟩ := I1.tuple (SqT.of h2)
    refine wpAny_pyIter_tuple (show s1.heap.IsTuple t its.toArray from pl) ?_
    refine ⟨s1.heap.objs.size, [s1.heap.objs.size], _, _, H1, rfl, I1.kept (t' := s1.toks) fun b o e => Heap.get?_push_of_some _ e, turn_tuple t _, ⟨_, Heap.get?_push_size _ rfl, rfl, rfl⟩, fun b hb => ?_, p1 _ ρ1 H1 (.refl _ _) s1' (wk_tup h2 off rl)⟩
    have e : b = s1.heap.objs.size := by simpa using hb
    subst e
    exact I1.fpOk (Nat.le_refl _) (I1.hok.fresh (Nat.le_refl _))
  | lst l =>
    obtain ⟨t, vs, rfl, h2, off, rl⟩ := rd
    cases r1
    obtain ⟨its, rv, pl, hz⟩ := I1.list (SqL.of h2)
    refine wpAny_pyIter_list pl.isList ?_
    refine ⟨s1.heap.objs.size, [s1.heap.objs.size], _, _, H1, rfl, I1.kept (t' := s1.toks) fun b o e => Heap.get?_push_of_some _ e, turn_list t _, ⟨_, Heap.get?_push_size _ rfl, rfl, rfl⟩, fun b hb => ?_, p1 _ ρ1 H1 (.refl _ _) s1' (wk_lst h2 off rl)⟩
    have e : b = s1.heap.objs.size := by simpa using hb
    subst e
    exact I1.fpOk (Nat.le_refl _) (I1.hok.fresh (Nat.le_refl _))
  | rng lo hi =>
    obtain ⟨t, rfl, h2, off⟩ := rd
    cases r1
    unfold itemsOf at p1
    dsimp only at p1
    split at p1
    · rename_i hb
      obtain ⟨t1, u1, v1, hr⟩ : ∃ t1 u1 v1, s1.heap.get? t = some { cls := .type "range", data := .fields #[.int lo t1, .int hi u1, .int 1 v1] } := I1.hok t _ h2
      refine wpAny_pyIter_range (show IsRange s1.heap t lo hi 1 t1 u1 v1 from hr) (small_one (by omega) (by omega) (by omega) (by omega)) ?_
      refine ⟨s1.heap.objs.size, [s1.heap.objs.size], _, _, H1, rfl,
        I1.kept (t' := s1.toks) fun b o e => Heap.get?_push_of_some _ e, turn_range _ lo (hi - lo).toNat, ?_, fun b hb => ?_, p1 _ ρ1 H1 (.refl _ _) s1' wk_rng⟩
      · have e1 : lo + ((0 : Nat) : Int) * 1 = lo := by simp
        have e2 : (((hi - lo).toNat : Nat) : Int) - ((0 : Nat) : Int) = Builtin.Range.rangeSize lo hi 1 := by rw [rangeSize_one]; split <;> omega
        show IsRangeIter _ _ (lo + ((0 : Nat) : Int) * 1) ((((hi - lo).toNat : Nat) : Int) - ((0 : Nat) : Int)) 1
        rw [e1, e2]
        exact Heap.get?_push_size _ rfl
      · have e : b = s1.heap.objs.size := by simpa using hb
        subst e
        exact I1.fpOk (Nat.le_refl _) (I1.hok.fresh (Nat.le_refl _))
    · exact p1.elim
  | _ => exact p1.elim
/-- the keys of a dict -/
theorem i_keys (he : Pe X W e f) : Pi' X W tg e fun env st => (f env st).bind fun x st1 => match x with
    | .dic ks _ => .ok ks st1
    | _ => .bad := by
  refine ⟨fun pins s σ H Rq I ⟨ρ, env, st, er, sr, p⟩ => ?_⟩
  refine thn (he.run pins s σ H _ I ⟨ρ, env, st, er, sr, PostI.step p⟩) fun v s1 ⟨x, H1, I1, r1, ρ1, st1, d, e1, s1', rd, _, p1⟩ => ?_
  dsimp only at p1
  cases d with
  | dic ks vs =>
    obtain ⟨a, o, kv, vv, rfl, h2, off, c, rk, rv⟩ := rd
    cases r1
    obtain ⟨es, ep, raw, z1, z2, hdat, get⟩ := dic_raw I1 h2 c
    refine wpAny_pyIter_dict_raw h2.2.1 raw ?_
    refine ⟨s1.heap.objs.size, [s1.heap.objs.size], _, _, H1, rfl, I1.kept (t' := s1.toks) fun b o e => Heap.get?_push_of_some _ e, turn_dk c hdat _, ⟨_, Heap.get?_push_size _ rfl, rfl, rfl⟩, fun b hb => ?_, p1 _ ρ1 H1 (.refl _ _) s1' (wk_dk h2 off rk)⟩
    have e : b = s1.heap.objs.size := by simpa using hb
    subst e
    exact I1.fpOk (Nat.le_refl _) (I1.hok.fresh (Nat.le_refl _))
  | _ => exact p1.elim
def enF (x : D) (st1 : Store) : R (List D) := match x with
  | .tup xs => .ok (enumL 0 xs) st1
  | .lst xs => .ok (enumL 0 xs) st1
  | _ => .bad
theorem i_enum {elts : List Expr} {kk : Nat} {tpos : Pos} (hg : Gl X "enumerate") (hm : X.mg "enumerate" = none) (ha : Pe X W a fa) (hs : starEach [a] X.env = [(false, eval a X.env)]) :
    Pi' X W (.Tuple elts kk tpos) (.Call (.Name "enumerate" p) [a] [] pos) fun env st => (fa env st).bind enF := by
  refine ⟨fun pins s σ H Rq I ⟨ρ, env, st, er, sr, p⟩ => ?_⟩
  have ha' : PA X [a] (tCons (tE X.K W fa) tNil) := pa_cons ha pa_nil hs
  refine Call_ (ld_blt I hg hm boot_enumerate (PyProof.Rows.callWith_type1 (thn (ha'.run pos pins s σ H (fun xs H1 => ∃ w, xs = [w] ∧ Mid X.K ρ H (fa env st) (fun ρ1 H1 d st1 => PostI X.K (W σ) ρ1 H1 (enF d st1) Rq) w H1) I ⟨ρ, env, st, er, sr, PostE.imp (PostI.step p) fun v H1 m => ⟨v, rfl, m⟩⟩) fun us s1 ⟨vs, H1, I1, r1, q1⟩ => ?_) hs rfl))
  obtain ⟨x, ex, ρ1, st1, d, e1, s1', rd, _, p1⟩ := q1
  subst ex
  unfold enF at p1
  cases r1 with
  | cons r rr =>
    cases rr
    cases d with
    | tup l =>
      obtain ⟨t, ws, rfl, h2, off, rl⟩ := rd
      cases r
      obtain ⟨its, rv, pl, hz⟩ := I1.tuple (SqT.of h2)
      have htl : t < s1.heap.objs.size := I1.hok.lt h2
      refine ev_enum1 (begins_tuple t its.toArray) (show s1.heap.IsTuple t its.toArray from pl) fun h' he hit hsz hk => wpAny_pyIter_enum he ?_
      have I2 : Inv X pins σ H1 { s1 with heap := h' } := I1.kept (t' := s1.toks) hk
      refine ⟨s1.heap.objs.size + 1, [s1.heap.objs.size + 1, s1.heap.objs.size], _, _, H1, rfl, I2, turn_enumT t (s1.heap.objs.size + 1) s1.heap.objs.size,
        ⟨⟨.none, he⟩, ⟨_, hit, rfl, rfl⟩, Nat.succ_ne_self _, Nat.ne_of_gt (Nat.lt_succ_of_lt htl), Nat.ne_of_lt htl⟩, fun b hb => ?_, p1 _ ρ1 H1 (.refl _ _) s1' (wk_enumT h2 off rl)⟩
      have e' : b = s1.heap.objs.size + 1 ∨ b = s1.heap.objs.size := by simpa using hb
      have hle : s1.heap.objs.size ≤ b := by
        rcases e' with z | z
        · rw [z]; exact Nat.le_add_right _ _
        · rw [z]; exact Nat.le_refl _
      exact I1.fpOk hle (I1.hok.fresh hle)
    | lst l =>
      obtain ⟨t, ws, rfl, h2, off, rl⟩ := rd
      cases r
      obtain ⟨its, rv, pl, hz⟩ := I1.list (SqL.of h2)
      refine call_enumerate_list pl.isList fun h' he hit hsz hk => wpAny_pyIter_enum he ?_
      have I2 : Inv X pins σ H1 { s1 with heap := h' } := I1.kept (t' := s1.toks) hk
      refine ⟨s1.heap.objs.size + 1, [s1.heap.objs.size + 1, s1.heap.objs.size], _, _, H1, rfl, I2, turn_enum t (s1.heap.objs.size + 1) s1.heap.objs.size, ⟨⟨.none, he⟩, hit, Nat.succ_ne_self _⟩, fun b hb => ?_, p1 _ ρ1 H1 (.refl _ _) s1' (wk_enumL h2 off rl)⟩
      have e' : b = s1.heap.objs.size + 1 ∨ b = s1.heap.objs.size := by simpa using hb
      have hle : s1.heap.objs.size ≤ b := by
        rcases e' with z | z
        · rw [z]; exact Nat.le_add_right _ _
        · rw [z]; exact Nat.le_refl _
      exact I1.fpOk hle (I1.hok.fresh hle)
    | _ => exact p1.elim
theorem i_zip {elts : List Expr} {kk : Nat} {tpos : Pos} (hg : Gl X "zip") (hm : X.mg "zip" = none) (ha : Pe X W a fa) (hb : Pe X W b fb)
    (hs : starEach [a, b] X.env = (false, eval a X.env) :: starEach [b] X.env) (hs2 : starEach [b] X.env = (false, eval b X.env) :: starEach [] X.env) (hpl : (backTo pos (starEach [b] X.env)).any (·.1) = false) :
    Pi' X W (.Tuple elts kk tpos) (.Call (.Name "zip" p) [a, b] [] pos) fun env st => (fa env st).bind fun x st1 => (fb env st1).bind fun y st2 => match x, y with
      | .tup xs, .tup ys => .ok (zipL xs ys) st2
      | .lst xs, .lst ys => .ok (zipL xs ys) st2
      | _, _ => .bad :=
  PI.mono (RZ.pi_zipA hg hm (pa_cons ha (pa_cons hb pa_nil hs2) hs) hs hpl) fun σ H Q ⟨ρ, env, st, er, sr, p⟩ => ⟨ρ, env, st, er, sr, PostE.imp (PostI.step p) fun v H1 ⟨ρ1, st1, d, e1, s1, r1, _, p1⟩ =>
    ⟨ρ1, env, st1, er.ext e1, s1, PostE.imp (PostI.step p1) fun w H2 ⟨ρ2, st2, d2, e2, s2, r2, _, p2⟩ => by
      have r1 := r1.ext e2 _ _
      dsimp only at p2
      cases d with
      | tup l =>
        cases d2 with
        | tup m =>
          obtain ⟨t, vs, rfl, h1, n1, rl⟩ := r1
          obtain ⟨u, ws, rfl, h2, n2, rm⟩ := r2
          exact ⟨t, u, vs, ws, rfl, .inr ⟨.of h1, .of h2, p2 _ ρ2 H2 (.refl _ _) s2 (wk_zipT h1 n1 rl h2 n2 rm)⟩⟩
        | _ => exact p2.elim
      | lst l =>
        cases d2 with
        | lst m =>
          obtain ⟨t, vs, rfl, h1, n1, rl⟩ := r1
          obtain ⟨u, ws, rfl, h2, n2, rm⟩ := r2
          exact ⟨t, u, vs, ws, rfl, .inl ⟨.of h1, .of h2, p2 _ ρ2 H2 (.refl _ _) s2 (wk_zipL h1 n1 rl h2 n2 rm)⟩⟩
        | _ => exact p2.elim
      | _ => exact p2.elim⟩⟩
end
end Ev

set_option Elab.async false
set_option linter.all false
set_option maxRecDepth 100000
set_option maxHeartbeats 1000000
namespace Ev
open PySem PySem.Spec PyProof.Rows L2
variable [TabsOf]
section
variable {X : Cx} {W : XW} {e tg : Expr} {f : Fe} {apos cpos : Pos}
theorem i_items {elts : List Expr} {kk : Nat} {tpos : Pos} (he : Pe X W e f) (hbase : attributeBase e "items" X.env (eval e X.env) = eval e X.env) (hline : (apos.endLine == cpos.line) = true) :
    Pi' X W (.Tuple elts kk tpos) (.Call (.Attribute e "items" apos) [] [] cpos) fun env st => (f env st).bind fun x st1 => match x with
      | .dic ks vs => .ok (zipL ks vs) st1
      | _ => .bad := by
  refine ⟨fun pins s σ H Rq I ⟨ρ, env, st, er, sr, p⟩ => ?_⟩
  refine wpAny_Call_method (T := "dict") (id := "dict.items") hbase rfl hline F.plainAttrs_dict F.slot_dict_items F.type_dict_items (thn (he.run pins s σ H _ I ⟨ρ, env, st, er, sr, PostI.step p⟩) fun u s1 ⟨x, H1, I1, rx, ρ1, st1, d, e1, s1', rd, _, p1⟩ => ?_)
  dsimp only at p1
  cases d with
  | dic ks vs =>
    obtain ⟨a, o, kv, vv, rfl, d0, off, c, rk, rv⟩ := rd
    cases rx
    obtain ⟨es, ep, raw, z1, z2, hdat, get⟩ := dic_raw I1 d0 c
    have hl : ks.length = vs.length := by rw [rk.length, rv.length, ← z1, z2]
    refine ⟨(dict_ty I1 d0 c).1, fun b e => by cases e; exact (dict_ty I1 d0 c).2, ?_⟩
    have I2 : Inv X pins σ H1 { s1 with heap := s1.heap.push { cls := .type "dict_items", data := .fields #[.ref a] } } := I1.kept (t' := s1.toks) fun b ob q => Heap.get?_push_of_some _ q
    have raw2 : (s1.heap.push { cls := .type "dict_items", data := .fields #[.ref a] }).DictRaw a es ep := raw.at fun _ q => Heap.get?_push_of_some _ q
    have fin : wpAny (model X.prog X.w) X.A (pyIter (.ref s1.heap.objs.size)) (PIE X pins σ (.Tuple elts kk tpos) Rq) X.xe { s1 with heap := s1.heap.push { cls := .type "dict_items", data := .fields #[.ref a] } } := by
      refine wpAny_pyIter_items_raw (d := a) ⟨_, Heap.get?_push_size _ rfl, rfl, rfl⟩ raw2 (pi_one (tk := s1.toks) I2 _ (turn_di c hdat _) ⟨.none, .none, Heap.get?_push_size _ rfl⟩ (p1 _ ρ1 H1 (.refl _ _) s1' (wk_di d0 off rk rv hl)))
    show wpAny _ _ (callWith cpos (.builtin "dict.items") [.ref a] [] []) _ X.xe s1
    exact method_meetsIn F.slot_dict_items F.entry_dict_items rfl (PySem.evalArgs_none ⟨rfl, (dict_ty I1 d0 c).1, F.args_dict_items_1 _, _, meets_dict_items_raw a d0.2.1, ⟨es, ep, raw⟩, fin⟩)
  | _ => exact p1.elim
theorem i_vals (he : Pe X W e f) (hbase : attributeBase e "values" X.env (eval e X.env) = eval e X.env) (hline : (apos.endLine == cpos.line) = true) :
    Pi' X W tg (.Call (.Attribute e "values" apos) [] [] cpos) fun env st => (f env st).bind fun x st1 => match x with
      | .dic _ vs => .ok vs st1
      | _ => .bad := by
  refine ⟨fun pins s σ H Rq I ⟨ρ, env, st, er, sr, p⟩ => ?_⟩
  refine wpAny_Call_method (T := "dict") (id := "dict.values") hbase rfl hline F.plainAttrs_dict F.slot_dict_values F.type_dict_values (thn (he.run pins s σ H _ I ⟨ρ, env, st, er, sr, PostI.step p⟩) fun u s1 ⟨x, H1, I1, rx, ρ1, st1, d, e1, s1', rd, _, p1⟩ => ?_)
  dsimp only at p1
  cases d with
  | dic ks vs =>
    obtain ⟨a, o, kv, vv, rfl, d0, off, c, rk, rv⟩ := rd
    cases rx
    obtain ⟨es, ep, raw, z1, z2, hdat, get⟩ := dic_raw I1 d0 c
    refine ⟨(dict_ty I1 d0 c).1, fun b e => by cases e; exact (dict_ty I1 d0 c).2, ?_⟩
    have I2 : Inv X pins σ H1 { s1 with heap := s1.heap.push { cls := .type "dict_values", data := .fields #[.ref a] } } := I1.kept (t' := s1.toks) fun b ob q => Heap.get?_push_of_some _ q
    have raw2 : (s1.heap.push { cls := .type "dict_values", data := .fields #[.ref a] }).DictRaw a es ep := raw.at fun _ q => Heap.get?_push_of_some _ q
    have fin : wpAny (model X.prog X.w) X.A (pyIter (.ref s1.heap.objs.size)) (PIE X pins σ tg Rq) X.xe { s1 with heap := s1.heap.push { cls := .type "dict_values", data := .fields #[.ref a] } } := by
      refine wpAny_pyIter_values_raw (d := a) ⟨_, Heap.get?_push_size _ rfl, rfl, rfl⟩ raw2 (pi_one (tk := s1.toks) I2 _ (turn_dv c hdat _) ⟨_, Heap.get?_push_size _ rfl, rfl, rfl⟩ (p1 _ ρ1 H1 (.refl _ _) s1' (wk_dk d0 off rv)))
    show wpAny _ _ (callWith cpos (.builtin "dict.values") [.ref a] [] []) _ X.xe s1
    exact method_meetsIn F.slot_dict_values F.entry_dict_values rfl (PySem.evalArgs_none ⟨rfl, (dict_ty I1 d0 c).1, F.args_dict_values_1 _, _, meets_dict_values_raw a d0.2.1, ⟨es, ep, raw⟩, fin⟩)
  | _ => exact p1.elim
end
end Ev

set_option Elab.async false
set_option linter.all false
set_option maxRecDepth 100000
set_option maxHeartbeats 1000000
namespace Ev
open PySem PySem.Spec PyProof.Rows L2
variable [TabsOf]
variable {K : PySem.W.Frag}
/-! ### slots forgotten -/
theorem wipe_get (σ : L2.St) : ∀ (vs : List Nat) (i : Nat), (wipe σ vs)[i]? = if i ∈ vs then σ[i]?.map (fun _ => none) else σ[i]?
  | [], i => by simp [wipe]
  | v :: vs, i => by
    unfold wipe
    by_cases h : v = i
    · subst h
      rw [if_pos List.mem_cons_self]
      by_cases hl : v < σ.length
      · rw [List.getElem?_set_self (by rw [wipe_length]; exact hl), List.getElem?_eq_getElem hl]; rfl
      · rw [List.getElem?_eq_none (by rw [List.length_set, wipe_length]; omega), List.getElem?_eq_none (by omega)]; rfl
    · rw [List.getElem?_set_ne h, wipe_get σ vs i]
      have : i ∈ v :: vs ↔ i ∈ vs := by simp [Ne.symm h]
      simp only [this]
theorem wipe_set {σ : L2.St} {vs : List Nat} {i : Nat} {x : Option V} (h : i ∈ vs) : wipe (σ.set i x) vs = wipe σ vs := by
  refine List.ext_getElem? fun j => ?_
  rw [wipe_get, wipe_get]
  by_cases hj : j ∈ vs
  · rw [if_pos hj, if_pos hj]
    by_cases e : i = j
    · subst e
      by_cases hl : i < σ.length
      · rw [List.getElem?_set_self hl, List.getElem?_eq_getElem hl]; rfl
      · rw [List.getElem?_eq_none (by rw [List.length_set]; omega), List.getElem?_eq_none (by omega)]
    · rw [List.getElem?_set_ne e]
  · rw [if_neg hj, if_neg hj, List.getElem?_set_ne (fun (e : i = j) => hj (e ▸ h))]
theorem wipe_wipe {σ : L2.St} {vs : List Nat} : wipe (wipe σ vs) vs = wipe σ vs := by
  refine List.ext_getElem? fun j => ?_
  rw [wipe_get, wipe_get]
  by_cases hj : j ∈ vs
  · rw [if_pos hj, if_pos hj]
    cases σ[j]? <;> rfl
  · rw [if_neg hj, if_neg hj]
theorem wipeE_length (env : Env) : ∀ vs : List Nat, (wipeE env vs).length = env.length
  | [] => rfl
  | v :: vs => by unfold wipeE; rw [List.length_set, wipeE_length env vs]
theorem wipeE_get {env : Env} {i : Nat} {x : D} : ∀ {vs : List Nat}, (wipeE env vs)[i]? = some (some x) → env[i]? = some (some x) ∧ i ∉ vs
  | [], h => ⟨h, by simp⟩
  | v :: vs, h => by
    unfold wipeE at h
    by_cases hi : v = i
    · subst hi
      by_cases hv : v < (wipeE env vs).length
      · rw [List.getElem?_set_self hv] at h; cases h
      · rw [List.getElem?_eq_none (by simpa using hv)] at h; cases h
    · rw [List.getElem?_set_ne hi] at h
      obtain ⟨a, b⟩ := wipeE_get h
      exact ⟨a, by simp [Ne.symm hi, b]⟩
theorem EnvR.wipe {ρ : Rho} {H : Hp} {env : Env} {σ : L2.St} (r : EnvR K ρ H env σ) (vs : List Nat) : EnvR K ρ H (wipeE env vs) (wipe σ vs) :=
  ⟨by rw [wipeE_length, wipe_length]; exact r.len, fun i d h => by
    obtain ⟨h1, h2⟩ := wipeE_get h
    obtain ⟨v, h3, h4⟩ := r.get i d h1
    exact ⟨v, by rw [wipe_get, if_neg h2]; exact h3, h4⟩⟩
theorem EnvR.set {ρ : Rho} {H : Hp} {env : Env} {σ : L2.St} {i : Nat} {d : D} {v : V} (r : EnvR K ρ H env σ) (rd : Rp K ρ H d v) : EnvR K ρ H (env.set i (some d)) (σ.set i (some v)) :=
  ⟨by rw [List.length_set, List.length_set]; exact r.len, fun j x h => by
    by_cases e : i = j
    · subst e
      by_cases hl : i < env.length
      · rw [List.getElem?_set_self hl] at h
        cases h
        exact ⟨v, by rw [List.getElem?_set_self (by rw [← r.len]; exact hl)], rd⟩
      · rw [List.getElem?_eq_none (by rw [List.length_set]; omega)] at h; cases h
    · rw [List.getElem?_set_ne e] at h
      obtain ⟨w, h3, h4⟩ := r.get j x h
      exact ⟨w, by rw [List.getElem?_set_ne e]; exact h3, h4⟩⟩
/-! ### targets -/
def tG (K : PySem.W.Frag) (t : T) : TG := fun v σ H Q => ∃ ρ d env st env', EnvR K ρ H env σ ∧ StR K ρ H st ∧ Rp K ρ H d v ∧ bindT t d env = some env' ∧
  ∀ σ', EnvR K ρ H env' σ' → (∀ vs, (∀ i ∈ slots t, i ∈ vs) → wipe σ' vs = wipe σ vs) → Q σ' H
def tGs (K : PySem.W.Frag) (ts : List T) : TGs := fun us σ H Q => ∃ ρ ds env st env', EnvR K ρ H env σ ∧ StR K ρ H st ∧ Rps K ρ H ds us ∧ bindTs ts ds env = some env' ∧
  ∀ σ', EnvR K ρ H env' σ' → (∀ vs, (∀ i ∈ slotss ts, i ∈ vs) → wipe σ' vs = wipe σ vs) → Q σ' H
theorem PG.mono {X : Cx} {e : Expr} {t t' : TG} (h : PG X e t) (m : ∀ v σ H Q, t' v σ H Q → t v σ H Q) : PG X e t' := ⟨fun pins s σ H v u Q I r q => h.run pins s σ H v u Q I r (m v σ H Q q)⟩
theorem PGs.mono {X : Cx} {e : List Expr} {t t' : TGs} (h : PGs X e t) (m : ∀ v σ H Q, t' v σ H Q → t v σ H Q) : PGs X e t' := ⟨fun pins s σ H v u Q I r q => h.run pins s σ H v u Q I r (m v σ H Q q)⟩
section
variable {X : Cx} {pos : Pos} {e : Expr} {es : List Expr}
theorem g_name {i : Nat} {x : Str} (hN : X.N.Nodup) (hi : X.N[i]? = some x) (hx : Loc X.env.scope x) (hf : X.fn x = true ∨ X.env.scope.names.lookup x = some .local) : PG X (.Name x pos) (tG X.K (.name i)) :=
  PG.mono (pg_name hN hi hx hf) fun v σ H Q ⟨ρ, d, env, st, env', er, sr, rd, hb, q⟩ => by
    unfold bindT at hb
    split at hb
    · cases hb
      exact q _ (er.set rd) fun vs h => wipe_set (h i (by simp [slots]))
    · cases hb
theorem g_nil : PGs X [] (tGs X.K []) :=
  PGs.mono pgs_nil fun v σ H Q ⟨ρ, d, env, st, env', er, sr, rd, hb, q⟩ => by
    cases d with
    | nil =>
      cases hb
      exact ⟨rd, q σ er fun _ _ => rfl⟩
    | cons a b => cases hb
theorem g_cons {t : T} {ts : List T} (h1 : PG X e (tG X.K t)) (h2 : PGs X es (tGs X.K ts)) (hs : (assignEach (e :: es) X.env).map (·.2) = assign e X.env :: (assignEach es X.env).map (·.2)) : PGs X (e :: es) (tGs X.K (t :: ts)) :=
  PGs.mono (pgs_cons h1 h2 hs) fun v σ H Q ⟨ρ, ds, env, st, env', er, sr, rd, hb, q⟩ => by
    cases ds with
    | nil => cases hb
    | cons d ds =>
      obtain ⟨u, us, rfl, r1, r2⟩ := rd
      unfold bindTs at hb
      split at hb
      · rename_i env1 he
        exact ⟨u, us, rfl, ρ, d, env, st, env1, er, sr, r1, he, fun σ1 er1 hw1 => ⟨ρ, ds, env1, st, env', er1, sr, r2, hb, fun σ2 er2 hw2 =>
          q σ2 er2 fun vs h => (hw2 vs fun i hi => h i (by simp [slotss, hi])).trans (hw1 vs fun i hi => h i (by simp [slotss, hi]))⟩⟩
      · cases hb
theorem bindTs_len : ∀ {ts : List T} {ds : List D} {env env' : Env}, bindTs ts ds env = some env' → ts.length = ds.length
  | [], [], _, _, _ => rfl
  | [], _ :: _, _, _, h => by cases h
  | _ :: _, [], _, _, h => by cases h
  | t :: ts, d :: ds, env, env', h => by
    unfold bindTs at h
    split at h
    · simp [bindTs_len h]
    · cases h
theorem g_tup {ts : List T} {k : Nat} (hc : X.calm = true) (h : PGs X es (tGs X.K ts)) (hl : es.length = ts.length) (hn : (assignEach es X.env).length = es.length) (hst : (assignEach es X.env).findIdx? (·.1) = none) : PG X (.Tuple es k pos) (tG X.K (.tup ts)) :=
  PG.mono (pg_tup hc h hn hst) fun v σ H Q ⟨ρ, d, env, st, env', er, sr, rd, hb, q⟩ => by
    cases d with
    | tup l =>
      obtain ⟨a, vs, rfl, h2, off, rl⟩ := rd
      unfold bindT at hb
      exact ⟨a, vs, rfl, .of h2, by rw [← rl.length, hl, bindTs_len hb], ρ, l, env, st, env', er, sr, rl, hb, fun σ' e' w => q σ' e' fun vs h => w vs fun i hi => h i (by simpa [slots] using hi)⟩
    | _ => simp [bindT] at hb
end
/-! ### tests of a comprehension -/
def PostB (K : PySem.W.Frag) (E : Str → Hp → Prop) (ρ : Rho) (H : Hp) (r : R Bool) (Q : Bool → Hp → Prop) : Prop := match r with
  | .ok b st' => ∀ ρ' H', Ext ρ H ρ' H' → StR K ρ' H' st' → Q b H'
  | .exc x st' => ∀ ρ' H', Ext ρ H ρ' H' → StR K ρ' H' st' → E x H'
  | .bad => False
def tB' (K : PySem.W.Frag) (W : XW) (f : Env → Store → R Bool) : TT := fun σ H Q => ∃ ρ env st, EnvR K ρ H env σ ∧ StR K ρ H st ∧ PostB K (W σ) ρ H (f env st) Q
abbrev Fb := Env → Store → R Bool
theorem PTs.mono {X : Cx} {e : List Expr} {t t' : TT} (h : PTs X e t) (m : ∀ σ H Q, t' σ H Q → t σ H Q) : PTs X e t' := ⟨fun pins s σ H Q I q => h.run pins s σ H Q I (m σ H Q q)⟩
theorem b_nil {X : Cx} {W : XW} : PTs X [] (tB' X.K W fun _ st => .ok true st) := PTs.mono pts_nil fun σ H Q ⟨ρ, env, st, er, sr, p⟩ => p ρ H (.refl _ _) sr
theorem b_one {X : Cx} {W : XW} {c : Expr} {f : Fe} (h : Pt X W c f) : PTs X [c] (tB' X.K W fun env st => (f env st).bind fun d st1 => match truth d st1 with
    | some b => .ok b st1
    | none => .bad) :=
  PTs.mono (pts_one h) fun σ H Q ⟨ρ, env, st, er, sr, p⟩ => by
    refine ⟨ρ, env, st, er, sr, ?_⟩
    dsimp only at p
    cases q : f env st with
    | ok d st1 =>
      rw [q] at p
      change PostB X.K (W σ) ρ H (match truth d st1 with
        | some b => .ok b st1
        | none => .bad) Q at p
      cases q2 : truth d st1 with
      | none => rw [q2] at p; exact p.elim
      | some b => rw [q2] at p; exact ⟨b, q2, p⟩
    | exc x st' => rw [q] at p; exact p
    | bad => rw [q] at p; exact p
/-! ### a list under way -/
theorem Ext.ungrip {ρ ρ' : Rho} {H H' : Hp} {p : Addr} (e : Ext (ρ.grip p) H (ρ'.grip p) H') : Ext ρ H ρ' H' := ⟨e.keep, e.there, e.len, e.old, e.new, (List.cons.inj e.held).2⟩
theorem Ext.over {ρ ρ' : Rho} {H H' : Hp} {p : Addr} {o : HO} (e : Ext ρ H ρ' H') (h : H p = none) : Ext ρ H ρ' (upd H' p o) :=
  ⟨fun a x hx t n => by rw [upd_ne (ne_of_none hx h)]; exact e.keep a x hx t n, fun a x hx t => (e.there a x hx t).imp fun u q => ⟨by rw [upd_ne (fun z => by rw [z, h] at hx; cases hx)]; exact q.1, q.2⟩, e.len, e.old, e.new, e.held⟩
structure LS (K : PySem.W.Frag) (ρ : Rho) (H : Hp) (p : Addr) (ρ1 : Rho) (H1 : Hp) (st1 : Store) (ys : List D) : Prop where
  ext : Ext ρ H ρ1 H1
  st : StR K (ρ1.grip p) H1 st1
  at' : ∃ vs, H1 p = some (.lst vs) ∧ Rps K (ρ1.grip p) H1 ys vs
theorem LS.start {ρ : Rho} {H : Hp} {p : Addr} {st : Store} (s : StR K ρ H st) (h : H p = none) : LS K ρ H p ρ (upd H p (.lst [])) st [] :=
  ⟨(Ext.refl ρ H).over h, s.grip h, [], upd_same, rfl⟩
section
variable {ρ ρ1 ρ2 : Rho} {H H1 H2 : Hp} {p : Addr} {st1 st2 : Store} {ys : List D}
theorem LS.move (l : LS K ρ H p ρ1 H1 st1 ys) (h : H p = none) : Move ρ H (ρ1.grip p) H1 :=
  ⟨fun a o ha t n => ⟨l.ext.keep a o ha t n.1, (l.ext.notin ha t n).1, fun hm => by
    rcases List.mem_cons.mp hm with z | z
    · rw [z] at ha; rw [h] at ha; cases ha
    · exact (l.ext.notin ha t n).2 z⟩, l.ext.len, l.ext.old⟩
theorem LS.go (l : LS K ρ H p ρ1 H1 st1 ys) (e : Ext (ρ1.grip p) H1 ρ2 H2) (s : StR K ρ2 H2 st2) : ∃ ρ3, ρ2 = Rho.grip ρ3 p ∧ LS K ρ H p ρ3 H2 st2 ys := by
  obtain ⟨c, hd⟩ := ρ2
  have hh : hd = p :: ρ1.held := e.held
  subst hh
  refine ⟨⟨c, ρ1.held⟩, rfl, ⟨l.ext.trans (Ext.ungrip (ρ' := ⟨c, ρ1.held⟩) e), s, ?_⟩⟩
  obtain ⟨vs, h1, h2⟩ := l.at'
  exact ⟨vs, e.keep p _ h1 (.lst _) (l.st.hold p List.mem_cons_self).2, h2.ext e _ _⟩
theorem LS.app (l : LS K ρ H p ρ1 H1 st1 ys) (h : H p = none) {y : D} {v : V} (r : Rp K (ρ1.grip p) H1 y v) : ∃ acc, H1 p = some (.lst acc) ∧ acc.length = ys.length ∧ LS K ρ H p ρ1 (upd H1 p (.lst (acc ++ [v]))) st1 (ys ++ [y]) := by
  obtain ⟨vs, h1, h2⟩ := l.at'
  refine ⟨vs, h1, h2.length.symm, l.ext.over h, l.st.put List.mem_cons_self, vs ++ [v], upd_same, ?_⟩
  exact (h2.append (.cons r .nil)).move (.put List.mem_cons_self)
theorem LS.done (l : LS K ρ H p ρ1 H1 st1 ys) {st : Store} (s : StR K ρ H st) (h : H p = none) : StR K ρ1 H1 st1 ∧ Rp K ρ1 H1 (.lst ys) (.ref p) := by
  obtain ⟨vs, h1, h2⟩ := l.at'
  refine ⟨l.st.loose, p, vs, rfl, h1, ⟨(l.st.hold p List.mem_cons_self).2, ?_⟩, h2.move .loose⟩
  rw [l.ext.held]
  exact (s.free h).2
end
/-! ### comprehensions -/
def oneF (t : T) (ft : Fb) (fe : Fe) : D → Env → Store → R (List D) := fun x env st => match bindT t x env with
  | none => .bad
  | some env1 => (ft env1 st).bind fun b st1 => if b = true then (fe env1 st1).bind fun y st2 => .ok [y] st2 else .ok [] st1
def twoF (t : T) (ft : Fb) (fi : Fl) (vs1 : List Nat) (one : D → Env → Store → R (List D)) : D → Env → Store → R (List D) := fun x env st => match bindT t x env with
  | none => .bad
  | some env1 => (ft env1 st).bind fun b st1 => if b = true then (fi env1 st1).bind fun xs st2 => lcItems one xs (wipeE env1 vs1) st2 else .ok [] st1
def lcF (fi : Fl) (one : D → Env → Store → R (List D)) (own : List Nat) : Fe := fun env st => (fi env st).bind fun xs st1 => (lcItems one xs (wipeE env own) st1).calm.bind fun ys st2 =>
  if ys.length ≤ seqMax then .ok (.lst ys) st2 else .bad
abbrev W0 : XW := fun _ _ _ => False
theorem bind_ok {α β : Type} {r : R α} {f : α → Store → R β} {b : β} {st : Store} (h : r.bind f = .ok b st) : ∃ a st1, r = .ok a st1 ∧ f a st1 = .ok b st := by
  cases r with
  | ok a st1 => exact ⟨a, st1, rfl, h⟩
  | exc x st' => cases h
  | bad => cases h
theorem lcItems_drop {one : D → Env → Store → R (List D)} {xs : List D} {i : Nat} {d : D} {env : Env} {st stF : Store} {zs : List D} (hd : xs[i]? = some d) (h : lcItems one (xs.drop i) env st = .ok zs stF) :
    ∃ y st2 zs2, one d env st = .ok y st2 ∧ lcItems one (xs.drop (i + 1)) env st2 = .ok zs2 stF ∧ zs = y ++ zs2 := by
  obtain ⟨hl, he⟩ := List.getElem?_eq_some_iff.mp hd
  rw [List.drop_eq_getElem_cons hl, he] at h
  unfold lcItems at h
  obtain ⟨y, st2, h1, h2⟩ := bind_ok h
  obtain ⟨zs2, st3, h3, h4⟩ := bind_ok h2
  cases h4
  exact ⟨y, st2, zs2, h1, h3, rfl⟩
theorem one_ok {t : T} {ft : Fb} {fe : Fe} {x : D} {env : Env} {st st2 : Store} {ys : List D} (h : oneF t ft fe x env st = .ok ys st2) :
    ∃ env1 b st1, bindT t x env = some env1 ∧ ft env1 st = .ok b st1 ∧ ((b = true ∧ ∃ y, fe env1 st1 = .ok y st2 ∧ ys = [y]) ∨ (b = false ∧ ys = [] ∧ st2 = st1)) := by
  unfold oneF at h
  split at h
  · cases h
  · rename_i env1 he
    obtain ⟨b, st1, h1, h2⟩ := bind_ok h
    refine ⟨env1, b, st1, he, h1, ?_⟩
    cases b with
    | true =>
      rw [if_pos rfl] at h2
      obtain ⟨y, st3, h3, h4⟩ := bind_ok h2
      cases h4
      exact .inl ⟨rfl, y, h3, rfl⟩
    | false =>
      rw [if_neg Bool.false_ne_true] at h2
      cases h2
      exact .inr ⟨rfl, rfl, rfl⟩
theorem two_ok' {t : T} {ft : Fb} {fi : Fl} {vs1 : List Nat} {one : D → Env → Store → R (List D)} {x : D} {env : Env} {st st2 : Store} {ys : List D} (h : twoF t ft fi vs1 one x env st = .ok ys st2) :
    ∃ env1 b st1, bindT t x env = some env1 ∧ ft env1 st = .ok b st1 ∧ ((b = true ∧ ∃ xs st3, fi env1 st1 = .ok xs st3 ∧ lcItems one xs (wipeE env1 vs1) st3 = .ok ys st2) ∨ (b = false ∧ ys = [] ∧ st2 = st1)) := by
  unfold twoF at h
  split at h
  · cases h
  · rename_i env1 he
    obtain ⟨b, st1, h1, h2⟩ := bind_ok h
    refine ⟨env1, b, st1, he, h1, ?_⟩
    cases b with
    | true =>
      rw [if_pos rfl] at h2
      obtain ⟨xs, st3, h3, h4⟩ := bind_ok h2
      exact .inl ⟨rfl, xs, st3, h3, h4⟩
    | false =>
      rw [if_neg Bool.false_ne_true] at h2
      cases h2
      exact .inr ⟨rfl, rfl, rfl⟩
/-- a Walk by Wk -/
theorem Wk.walk {J : It} {ρ : Rho} {H : Hp} {xs : List D} (w : Wk K J ρ H xs) : Walk J xs.length (fun H1 => ∃ ρ1, Move ρ H ρ1 H1) (fun i H1 x H2 => J.yld i H1 x H2) :=
  ⟨fun i H1 hi ⟨ρ1, m⟩ => w.go i ρ1 H1 hi m, fun H1 ⟨ρ1, m⟩ => w.stop ρ1 H1 m, fun _ _ _ _ _ _ y => y⟩
/-- one turn's yield in the last walk: the target bound, the test, the item put on -/
theorem last_turn {K : PySem.W.Frag} {ρ ρ1 : Rho} {H H1 H2 : Hp} {p : Addr} {t : T} {ft : Fb} {fe : Fe} {J : It} {ρ0 : Rho} {H0 : Hp} {xs ys zs : List D} {st1 st2 : Store} {i : Nat} {d : D} {x : V} {env : Env} {σ : L2.St} {vs : List Nat} {Nx : Hp → Prop}
    (w : Wk K J ρ0 H0 xs) (l : LS K ρ H p ρ1 H1 st1 ys) (hp : H p = none) (mv : Move ρ0 H0 (ρ1.grip p) H1) (er : EnvR K (ρ1.grip p) H1 env σ) (hd : xs[i]? = some d) (h1 : oneF t ft fe d env st1 = .ok zs st2)
    (hz : (ys ++ zs).length ≤ seqMax) (hsl : ∀ i ∈ slots t, i ∈ vs) (hy : J.yld i H1 x H2)
    (next : ∀ ρ3 H3, LS K ρ H p ρ3 H3 st2 (ys ++ zs) → Move ρ0 H0 (ρ3.grip p) H3 → EnvR K (ρ3.grip p) H3 env σ → Nx H3) :
    tG K t x σ H2 fun σ2 H2 => wipe σ2 vs = wipe σ vs ∧ tB' K W0 ft σ2 H2 fun b H3 =>
      if b = true then tE K W0 fe σ2 H3 fun y H4 => ∃ acc, H4 p = some (.lst acc) ∧ acc.length < sizeLine ∧ Nx (upd H4 p (.lst (acc ++ [y]))) else Nx H3 := by
  obtain ⟨ex, s2, rx⟩ := w.yld i d (ρ1.grip p) H1 st1 x H2 hd mv l.st hy
  obtain ⟨env1, b, st3, hb, hft, hr⟩ := one_ok h1
  obtain ⟨ρ2, e2, l2⟩ := l.go ex s2
  have e2' : ρ2 = ρ1 := by
    obtain ⟨a, b⟩ := ρ1; obtain ⟨a', b'⟩ := ρ2
    cases e2; rfl
  subst e2'
  refine ⟨ρ2.grip p, d, env, st1, env1, er.ext ex, s2, rx, hb, fun σ1 er1 hw => ⟨hw vs hsl, ρ2.grip p, env1, st1, er1, s2, ?_⟩⟩
  rw [hft]
  intro ρ3' H3 e3 s3
  obtain ⟨ρ3, rfl, l3⟩ := l2.go e3 s3
  rcases hr with ⟨rfl, y, hfe, rfl⟩ | ⟨rfl, rfl, rfl⟩
  · rw [if_pos rfl]
    refine ⟨ρ3.grip p, env1, st3, er1.ext e3, s3, ?_⟩
    rw [hfe]
    intro v ρ4' H4 e4 s4 r4
    obtain ⟨ρ4, rfl, l4⟩ := l3.go e4 s4
    obtain ⟨acc, h5, h6, l5⟩ := l4.app hp r4
    refine ⟨acc, h5, ?_, next ρ4 _ l5 ((((mv.trans ex.move).trans e3.move).trans e4.move).trans (.put List.mem_cons_self)) ((((er.ext ex).ext e3).ext e4).move (.put List.mem_cons_self))⟩
    rw [h6]
    have : ys.length + 1 ≤ seqMax := by simpa using hz
    exact Nat.lt_of_lt_of_le (by omega) line_ok
  · rw [if_neg Bool.false_ne_true]
    exact next ρ3 H3 (by rw [List.append_nil]; exact l3) ((mv.trans ex.move).trans e3.move) ((er.ext ex).ext e3)
/-- the state ahead of a turn -/
def lcInv (K : PySem.W.Frag) (ρ1 : Rho) (H1 : Hp) (p : Addr) (one : D → Env → Store → R (List D)) (xs : List D) (env : Env) (stF : Store) (total : List D) (i : Nat) (H2 : Hp) : Prop :=
  ∃ ρ2 st2 ys zs, LS K ρ1 H1 p ρ2 H2 st2 ys ∧ lcItems one (xs.drop i) env st2 = .ok zs stF ∧ ys ++ zs = total
section
variable {X : Cx} {W : XW} {elt tg iter tg1 iter1 : Expr} {ifs ifs1 : List Expr} {scope : Scope} {own : List (Str × Nat)} {pos : Pos} {fi fi1 : Fl} {t t1 : T} {ft ft1 : Fb} {fe : Fe}
/-- the walk, from its iterator on: what is reached with the list under way -/
theorem lc_rest (hsl : ∀ i ∈ slots t, i ∈ own.map (·.2)) {env : Env} {σ : L2.St} {xs total : List D} {st1 stF : Store} {J : It} {ρ1 : Rho} {H1 : Hp} {Q : VK} (hz : total.length ≤ seqMax) (q : lcItems (oneF t ft fe) xs (wipeE env (own.map (·.2))) st1 = .ok total stF)
    (er1 : EnvR K ρ1 H1 env σ) (s1 : StR K ρ1 H1 st1) (wk : Wk K J ρ1 H1 xs) (fin : ∀ D ρ2 H2, H1 D = none → LS K ρ1 H1 D ρ2 H2 stF total → Q (.ref D) H2) : ∀ D, H1 D = none → ∃ W : Nat → Nat → Hp → Prop, (∃ m, W 0 m (upd H1 D (.lst []))) ∧ ∀ i m H, W i m H →
  (J.stop i H ∧ Q (.ref D) H) ∨ (J.go i H ∧ ∃ Nx : Hp → Prop, (∀ H', Nx H' → ∃ m', m' < m ∧ W (i + 1) m' H') ∧ ∀ x H', J.yld i H x H' → tG K t x (wipe σ (own.map (·.2))) H' fun σ2 H2 => wipe σ2 (own.map (·.2)) = wipe σ (own.map (·.2)) ∧ tB' K W0 ft σ2 H2 fun b H3 =>
    if b = true then tE K W0 fe σ2 H3 fun y H4 => ∃ acc, H4 D = some (.lst acc) ∧ acc.length < sizeLine ∧ Nx (upd H4 D (.lst (acc ++ [y]))) else Nx H3) := by
  intro D hD
  refine lc_it wk.walk (lcInv K ρ1 H1 D (oneF t ft fe) xs (wipeE env (own.map (·.2))) stF total)
    ⟨ρ1, st1, [], total, .start s1 hD, by rw [List.drop_zero]; exact q, rfl⟩ ?_ ?_ ?_
  · rintro i H2 _ ⟨ρ2, st2, ys, zs, l, _⟩
    exact ⟨ρ2.grip D, l.move hD⟩
  · rintro i x H2 H3 hi ⟨ρ2, st2, ys, zs, l, hr, rfl⟩ hy
    have hd : xs[i]? = some xs[i] := List.getElem?_eq_some_iff.mpr ⟨hi, rfl⟩
    obtain ⟨y, st3, zs2, h1, h2, rfl⟩ := lcItems_drop hd hr
    have z := last_turn (zs := y) (ys := ys) (Nx := lcInv K ρ1 H1 D (oneF t ft fe) xs (wipeE env (own.map (·.2))) stF (ys ++ (y ++ zs2)) (i + 1)) wk l hD (l.move hD) ((er1.move (l.move hD)).wipe (own.map (·.2))) hd h1 (by rw [List.length_append, List.length_append] at hz; rw [List.length_append]; omega) hsl hy (fun ρ3 H3 l3 _ _ => ⟨ρ3, st3, ys ++ y, zs2, l3, h2, by simp⟩)
    rw [wipe_wipe] at z
    exact z
  · rintro H2 ⟨ρ2, st2, ys, zs, l, hr, rfl⟩
    rw [List.drop_length] at hr
    cases hr
    exact fin D ρ2 H2 hD (by rw [List.append_nil]; exact l)
/-- what a fresh list becomes: a value, or a cell -/
def asCell (c : Bool) (l : List D) (st : Store) : R D := if c = true then .ok (.ref st.length) (st ++ [.lst l]) else .ok (.lst l) st
def lcG (c : Bool) (fi : Fl) (one : D → Env → Store → R (List D)) (own : List Nat) : Fe := fun env st => (fi env st).bind fun xs st1 => (lcItems one xs (wipeE env own) st1).calm.bind fun ys st2 =>
  if ys.length ≤ seqMax then asCell c ys st2 else .bad
theorem LS.fin {ρ ρ1 : Rho} {H H1 : Hp} {p : Addr} {st st1 : Store} {ys : List D} (l : LS K ρ H p ρ1 H1 st1 ys) (s : StR K ρ H st) (h : H p = none) {c : Bool} {E : Str → Hp → Prop} {ρ0 : Rho} {H0 : Hp} {Q : VK} (e0 : Ext ρ0 H0 ρ H) (q : PostE K E ρ0 H0 (asCell c ys st1) Q) : Q (.ref p) H1 := by
  obtain ⟨s3, r3⟩ := l.done s h
  cases c with
  | false => exact q _ ρ1 H1 (e0.trans l.ext) s3 r3
  | true =>
    obtain ⟨vs, h1, rl⟩ := l.at'
    have np : some p ∉ ρ1.cells := (l.st.hold p List.mem_cons_self).2
    have ex : Ext ρ H (ρ1.add p) H1 := by
      refine ⟨l.ext.keep, l.ext.there, by have := l.ext.len; simp; omega, fun k hk => ?_, fun k a hk hh => ?_, l.ext.held⟩
      · rw [List.getElem?_append_left (Nat.lt_of_lt_of_le hk l.ext.len)]
        exact l.ext.old k hk
      · by_cases hl : k < ρ1.cells.length
        · rw [List.getElem?_append_left hl] at hh
          exact l.ext.new k a hk hh
        · rw [List.getElem?_append_right (Nat.le_of_not_lt hl)] at hh
          have hm := List.mem_of_getElem? hh
          simp at hm
          intro o ho
          rw [hm, h] at ho; cases ho
    have mv : Move (ρ1.grip p) H1 (ρ1.add p) H1 := ⟨fun a o ho _ n => ⟨ho, fun hm => by
      rcases List.mem_append.mp hm with z | z
      · exact n.1 z
      · have : a = p := by simpa using z
        exact n.2 (by rw [this]; exact List.mem_cons_self), fun hm => n.2 (List.mem_cons_of_mem _ hm)⟩, by simp, fun k hk => .inl (List.getElem?_append_left hk)⟩
    have key : ∀ (k : Nat) a, (ρ1.cells ++ [some p])[k]? = some (some a) → (k < ρ1.cells.length ∧ ρ1.cells[k]? = some (some a)) ∨ (k = ρ1.cells.length ∧ a = p) := fun k a hk => by
      by_cases hl : k < ρ1.cells.length
      · rw [List.getElem?_append_left hl] at hk; exact .inl ⟨hl, hk⟩
      · rw [List.getElem?_append_right (Nat.le_of_not_lt hl)] at hk
        have hz : k - ρ1.cells.length = 0 := by
          cases z : k - ρ1.cells.length with
          | zero => rfl
          | succ n => rw [z] at hk; simp at hk
        rw [hz] at hk
        simp at hk
        exact .inr ⟨by omega, hk.symm⟩
    have sl : st1.length = ρ1.cells.length := l.st.len
    have s4 : StR K (ρ1.add p) H1 (st1 ++ [.lst ys]) := by
      refine ⟨by simp [sl], fun k a hk => ?_, fun j k a hj hk => ?_, fun k m hk hg => ?_, fun a ha => ?_, l.st.tabs⟩
      · rcases key k a hk with ⟨hl, hk⟩ | ⟨rfl, rfl⟩
        · obtain ⟨m, e1, e2⟩ := l.st.cell k a hk
          exact ⟨m, by rw [List.getElem?_append_left (by rw [sl]; exact hl)]; exact e1, e2.to (fun _ q _ => q) mv⟩
        · exact ⟨.lst ys, by rw [← sl]; simp, vs, h1, rl.move mv⟩
      · rcases key j a hj with ⟨_, gj⟩ | ⟨ej, ea⟩ <;> rcases key k a hk with ⟨_, gk⟩ | ⟨ek, eb⟩
        · exact l.st.inj j k a gj gk
        · subst eb; exact absurd (List.mem_of_getElem? gj) np
        · subst ea; exact absurd (List.mem_of_getElem? gk) np
        · rw [ej, ek]
      · by_cases hl : k < st1.length
        · rw [List.getElem?_append_left hl] at hk
          obtain ⟨a, ha⟩ := l.st.back k m hk hg
          exact ⟨a, by rw [List.getElem?_append_left (by rw [← sl]; exact hl)]; exact ha⟩
        · have hlt := (List.getElem?_eq_some_iff.mp hk).1
          rw [List.length_append] at hlt
          have : k = ρ1.cells.length := by simp at hlt; omega
          exact ⟨p, by rw [this]; simp⟩
      · have ha' : a ∈ ρ1.held := ha
        refine ⟨(l.st.hold a (List.mem_cons_of_mem _ ha')).1, fun hm => ?_⟩
        rcases List.mem_append.mp hm with z | z
        · exact (l.st.hold a (List.mem_cons_of_mem _ ha')).2 z
        · have e : a = p := by simpa using z
          rw [l.ext.held] at ha'
          obtain ⟨ws, q, _⟩ := (s.hold a ha').1.some
          rw [e, h] at q; cases q
    refine q (.ref p) (ρ1.add p) H1 (e0.trans ex) s4 ⟨by simp [sl], fun a ha => ?_⟩
    rcases key _ a ha with ⟨hl, _⟩ | ⟨_, rfl⟩
    · omega
    · rfl
theorem lc_readG (c : Bool) (hsl : ∀ i ∈ slots t, i ∈ own.map (·.2)) : ∀ σ H Q, tE K W (lcG c fi (oneF t ft fe) (own.map (·.2))) σ H Q → tLc (tI K W fi) (tG K t) (tB' K W0 ft) (tE K W0 fe) (own.map (·.2)) σ H Q := by
  intro σ H Q ⟨ρ, env, st, er, sr, p⟩
  refine ⟨ρ, env, st, er, sr, ?_⟩
  unfold lcG at p
  cases q : fi env st with
  | exc x st' => rw [q] at p; exact p
  | bad => rw [q] at p; exact p.elim
  | ok xs st1 =>
    rw [q] at p
    change PostE K (W σ) ρ H ((lcItems (oneF t ft fe) xs (wipeE env (own.map (·.2))) st1).calm.bind _) Q at p
    cases q2 : lcItems (oneF t ft fe) xs (wipeE env (own.map (·.2))) st1 with
    | exc x st' => rw [q2] at p; exact p.elim
    | bad => rw [q2] at p; exact p.elim
    | ok total stF =>
      rw [q2] at p
      change PostE K (W σ) ρ H (if total.length ≤ seqMax then asCell c total stF else .bad) Q at p
      split at p
      · rename_i hz
        intro J ρ1 H1 e1 s1 wk
        exact lc_rest hsl hz q2 (er.ext e1) s1 wk fun D ρ2 H2 hD l => l.fin s1 hD e1 p
      · exact p.elim
theorem lc_read (hsl : ∀ i ∈ slots t, i ∈ own.map (·.2)) : ∀ σ H Q, tE K W (lcF fi (oneF t ft fe) (own.map (·.2))) σ H Q → tLc (tI K W fi) (tG K t) (tB' K W0 ft) (tE K W0 fe) (own.map (·.2)) σ H Q := lc_readG false hsl
theorem x_lcG (c : Bool) (hc : X.calm = true) (hN : X.N.Nodup) (hi : Pi' X W tg iter fi) (ok : BlkOk X.N X.env.scope scope own)
    (hg : ∀ (s : Shared) (H : Hp) (C : Addr) (cl : List (Str × Addr)) (fp : List Addr), PG (X.blk s H scope (compEnvC scope cl C X.env) fp) tg (tG X.K t)) (ht : ∀ (s : Shared) (H : Hp) (C : Addr) (cl : List (Str × Addr)) (fp : List Addr), PTs (X.blk s H scope (compEnvC scope cl C X.env) fp) ifs (tB' X.K W0 ft))
    (he : ∀ (s : Shared) (H : Hp) (C : Addr) (cl : List (Str × Addr)) (fp : List Addr), Pe (X.blk s H scope (compEnvC scope cl C X.env) fp) W0 elt fe) (hs : ∀ x, foldedSetIterable iter X.env x = pure x) (hsl : ∀ i ∈ slots t, i ∈ own.map (·.2)) :
    Pe X W (.ListComp elt [⟨tg, iter, ifs, 0⟩] scope pos) (lcG c fi (oneF t ft fe) (own.map (·.2))) ∧
    ∀ (i : Nat) (y : Str) (py spos : Pos), X.N[i]? = some y → X.env.scope.names.lookup y = some .local → swapsWith (.ListComp elt [⟨tg, iter, ifs, 0⟩] scope pos) (some (.Name y py)) spos.line X.env = pure true →
      PS X (.Assign [.Name y py] (.ListComp elt [⟨tg, iter, ifs, 0⟩] scope pos) spos) (tAsg (tE X.K W (lcG c fi (oneF t ft fe) (own.map (·.2)))) (gName i)) :=
  ⟨PE.mono (pe_lc hc hN hi ok hg ht he hs) (lc_readG c hsl), fun i y py spos hy hyl hsw => PS.mono (ps_setLc hc hN hy hyl hsw hi ok hg ht he hs) fun D σ H q => lc_readG c hsl σ H _ q⟩
theorem x_lc (hc : X.calm = true) (hN : X.N.Nodup) (hi : Pi' X W tg iter fi) (ok : BlkOk X.N X.env.scope scope own)
    (hg : ∀ (s : Shared) (H : Hp) (C : Addr) (cl : List (Str × Addr)) (fp : List Addr), PG (X.blk s H scope (compEnvC scope cl C X.env) fp) tg (tG X.K t)) (ht : ∀ (s : Shared) (H : Hp) (C : Addr) (cl : List (Str × Addr)) (fp : List Addr), PTs (X.blk s H scope (compEnvC scope cl C X.env) fp) ifs (tB' X.K W0 ft))
    (he : ∀ (s : Shared) (H : Hp) (C : Addr) (cl : List (Str × Addr)) (fp : List Addr), Pe (X.blk s H scope (compEnvC scope cl C X.env) fp) W0 elt fe) (hs : ∀ x, foldedSetIterable iter X.env x = pure x) (hsl : ∀ i ∈ slots t, i ∈ own.map (·.2)) :
    Pe X W (.ListComp elt [⟨tg, iter, ifs, 0⟩] scope pos) (lcF fi (oneF t ft fe) (own.map (·.2))) ∧
    ∀ (i : Nat) (y : Str) (py spos : Pos), X.N[i]? = some y → X.env.scope.names.lookup y = some .local → swapsWith (.ListComp elt [⟨tg, iter, ifs, 0⟩] scope pos) (some (.Name y py)) spos.line X.env = pure true →
      PS X (.Assign [.Name y py] (.ListComp elt [⟨tg, iter, ifs, 0⟩] scope pos) spos) (tAsg (tE X.K W (lcF fi (oneF t ft fe) (own.map (·.2)))) (gName i)) := x_lcG false hc hN hi ok hg ht he hs hsl
/-! two walks -/
/-- the state ahead of an inner turn -/
def lcInv1 (K : PySem.W.Frag) (ρ1 : Rho) (H1 : Hp) (p : Addr) (ρ0 : Rho) (H0 : Hp) (one : D → Env → Store → R (List D)) (xs : List D) (env : Env) (σ : L2.St) (stM : Store) (mid : List D) (i : Nat) (H2 : Hp) : Prop :=
  ∃ ρ2 st2 ys zs, LS K ρ1 H1 p ρ2 H2 st2 ys ∧ Move ρ0 H0 (ρ2.grip p) H2 ∧ EnvR K (ρ2.grip p) H2 env σ ∧ lcItems one (xs.drop i) env st2 = .ok zs stM ∧ ys ++ zs = mid
theorem lc2_read {vs1 : List Nat} (hsl : ∀ i ∈ slots t, i ∈ own.map (·.2)) (hsl1 : ∀ i ∈ slots t1, i ∈ vs1) :
    ∀ σ H Q, tE K W (lcF fi (twoF t ft fi1 vs1 (oneF t1 ft1 fe)) (own.map (·.2))) σ H Q → tLc2 (tI K W fi) (tG K t) (tB' K W0 ft) (tI K W0 fi1) (tG K t1) (tB' K W0 ft1) (tE K W0 fe) (own.map (·.2)) vs1 σ H Q := by
  intro σ H Q ⟨ρ, env, st, er, sr, p⟩
  refine ⟨ρ, env, st, er, sr, ?_⟩
  unfold lcF at p
  cases q : fi env st with
  | exc x st' => rw [q] at p; exact p
  | bad => rw [q] at p; exact p.elim
  | ok xs st1 =>
    rw [q] at p
    change PostE K (W σ) ρ H ((lcItems (twoF t ft fi1 vs1 (oneF t1 ft1 fe)) xs (wipeE env (own.map (·.2))) st1).calm.bind _) Q at p
    cases q2 : lcItems (twoF t ft fi1 vs1 (oneF t1 ft1 fe)) xs (wipeE env (own.map (·.2))) st1 with
    | exc x st' => rw [q2] at p; exact p.elim
    | bad => rw [q2] at p; exact p.elim
    | ok total stF =>
      rw [q2] at p
      change PostE K (W σ) ρ H (if total.length ≤ seqMax then .ok (.lst total) stF else .bad) Q at p
      split at p
      · rename_i hz
        intro J ρ1 H1 e1 s1 wk D hD
        have er1 := er.ext e1
        refine ⟨fun i m H2 => m = xs.length - i ∧ i ≤ xs.length ∧ lcInv K ρ1 H1 D (twoF t ft fi1 vs1 (oneF t1 ft1 fe)) xs (wipeE env (own.map (·.2))) stF total i H2,
          ⟨xs.length, by simp, Nat.zero_le _, ρ1, st1, [], total, .start s1 hD, by rw [List.drop_zero]; exact q2, rfl⟩, ?_⟩
        rintro i m H2 ⟨rfl, hi, ρ2, st2, ys, zs, l, hr, rfl⟩
        by_cases hlt : i < xs.length
        · refine .inr ⟨wk.go i _ H2 hlt (l.move hD), lcInv K ρ1 H1 D (twoF t ft fi1 vs1 (oneF t1 ft1 fe)) xs (wipeE env (own.map (·.2))) stF (ys ++ zs) (i + 1),
            fun H' h => ⟨xs.length - (i + 1), by omega, rfl, hlt, h⟩, ?_⟩
          intro x H3 hy
          have hd : xs[i]? = some xs[i] := List.getElem?_eq_some_iff.mpr ⟨hlt, rfl⟩
          obtain ⟨y, st3, zs2, h1, h2, rfl⟩ := lcItems_drop hd hr
          obtain ⟨ex, s2, rx⟩ := wk.yld i _ (ρ2.grip D) H2 st2 x H3 hd (l.move hD) l.st hy
          obtain ⟨env1, b, st4, hb, hft, hrest⟩ := two_ok' h1
          obtain ⟨ρ3, e3, l2⟩ := l.go ex s2
          have e3' : ρ3 = ρ2 := by
            obtain ⟨a, b⟩ := ρ2; obtain ⟨a', b'⟩ := ρ3
            cases e3; rfl
          subst e3'
          refine ⟨ρ3.grip D, _, _, st2, env1, ((er1.move (l.move hD)).wipe (own.map (·.2))).ext ex, s2, rx, hb, fun σ2 er2 hw2 => ⟨(hw2 _ hsl).trans wipe_wipe, ρ3.grip D, env1, st2, er2, s2, ?_⟩⟩
          rw [hft]
          intro ρ4' H4 e4 s4
          obtain ⟨ρ4, rfl, l4⟩ := l2.go e4 s4
          rcases hrest with ⟨rfl, xs1, st5, hfi1, hin⟩ | ⟨rfl, rfl, rfl⟩
          · rw [if_pos rfl]
            refine ⟨ρ4.grip D, env1, st4, er2.ext e4, s4, ?_⟩
            rw [hfi1]
            intro J1 ρ5' H5 e5 s5 wk1
            obtain ⟨ρ5, rfl, l5⟩ := l4.go e5 s5
            refine ⟨fun j k H6 => k = xs1.length - j ∧ j ≤ xs1.length ∧ lcInv1 K ρ1 H1 D (ρ5.grip D) H5 (oneF t1 ft1 fe) xs1 (wipeE env1 vs1) (wipe σ2 vs1) st3 (ys ++ y) j H6,
              ⟨xs1.length, by simp, Nat.zero_le _, ρ5, st5, ys, y, l5, .refl _ _, ((er2.ext e4).ext e5).wipe vs1, by rw [List.drop_zero]; exact hin, rfl⟩, ?_⟩
            rintro j k H6 ⟨rfl, hj, ρ6, st6, ys6, zs6, l6, mv6, er6, hr6, hmid⟩
            by_cases hlt1 : j < xs1.length
            · refine .inr ⟨wk1.go j _ H6 hlt1 mv6, lcInv1 K ρ1 H1 D (ρ5.grip D) H5 (oneF t1 ft1 fe) xs1 (wipeE env1 vs1) (wipe σ2 vs1) st3 (ys ++ y) (j + 1), fun H' h => ⟨xs1.length - (j + 1), by omega, rfl, hlt1, h⟩, ?_⟩
              intro x1 H7 hy1
              have hd1 : xs1[j]? = some xs1[j] := List.getElem?_eq_some_iff.mpr ⟨hlt1, rfl⟩
              obtain ⟨y1, st7, zs7, g1, g2, rfl⟩ := lcItems_drop hd1 hr6
              have hl7 : (ys6 ++ y1).length ≤ seqMax := by
                have e := congrArg List.length hmid
                rw [List.length_append, List.length_append, List.length_append] at e
                rw [List.length_append, List.length_append] at hz
                rw [List.length_append]
                omega
              have z := last_turn (zs := y1) (ys := ys6) (Nx := lcInv1 K ρ1 H1 D (ρ5.grip D) H5 (oneF t1 ft1 fe) xs1 (wipeE env1 vs1) (wipe σ2 vs1) st3 (ys ++ y) (j + 1)) wk1 l6 hD mv6 er6 hd1 g1 hl7 hsl1 hy1
                (fun ρ8 H8 l8 m8 er8 => ⟨ρ8, st7, ys6 ++ y1, zs7, l8, m8, er8, g2, by rw [List.append_assoc]; exact hmid⟩)
              rw [wipe_wipe] at z
              exact z
            · have e : j = xs1.length := by omega
              subst e
              rw [List.drop_length] at hr6
              cases hr6
              refine .inl ⟨wk1.stop _ H6 mv6, ρ6, _, ys6, zs2, l6, h2, ?_⟩
              rw [← List.append_assoc, ← hmid, List.append_nil]
          · rw [if_neg Bool.false_ne_true]
            exact ⟨ρ4, _, ys, zs2, l4, h2, by simp⟩
        · have e : i = xs.length := by omega
          subst e
          rw [List.drop_length] at hr
          cases hr
          obtain ⟨s3, r3⟩ := l.done s1 hD
          exact .inl ⟨wk.stop _ H2 (l.move hD), p _ ρ2 H2 (e1.trans l.ext) s3 (by rw [List.append_nil]; exact r3)⟩
      · exact p.elim
theorem x_lc2 {vs1 : List Nat} (hc : X.calm = true) (hN : X.N.Nodup) (hi : Pi' X W tg iter fi) (ok : BlkOk X.N X.env.scope scope own) (hv : ∀ i ∈ vs1, i ∈ own.map (·.2))
    (hg : ∀ (s : Shared) (H : Hp) (C : Addr) (cl : List (Str × Addr)) (fp : List Addr), PG (X.blk s H scope (compEnvC scope cl C X.env) fp) tg (tG X.K t)) (ht : ∀ (s : Shared) (H : Hp) (C : Addr) (cl : List (Str × Addr)) (fp : List Addr), PTs (X.blk s H scope (compEnvC scope cl C X.env) fp) ifs (tB' X.K W0 ft))
    (hi1 : ∀ (s : Shared) (H : Hp) (C : Addr) (cl : List (Str × Addr)) (fp : List Addr), Pi' (X.blk s H scope (compEnvC scope cl C X.env) fp) W0 tg1 iter1 fi1)
    (hg1 : ∀ (s : Shared) (H : Hp) (C : Addr) (cl : List (Str × Addr)) (fp : List Addr), PG (X.blk s H scope (compEnvC scope cl C X.env) fp) tg1 (tG X.K t1)) (ht1 : ∀ (s : Shared) (H : Hp) (C : Addr) (cl : List (Str × Addr)) (fp : List Addr), PTs (X.blk s H scope (compEnvC scope cl C X.env) fp) ifs1 (tB' X.K W0 ft1))
    (he : ∀ (s : Shared) (H : Hp) (C : Addr) (cl : List (Str × Addr)) (fp : List Addr), Pe (X.blk s H scope (compEnvC scope cl C X.env) fp) W0 elt fe) (hs : ∀ x, foldedSetIterable iter X.env x = pure x) (hs1 : ∀ env x, foldedSetIterable iter1 env x = pure x)
    (hsl : ∀ i ∈ slots t, i ∈ own.map (·.2)) (hsl1 : ∀ i ∈ slots t1, i ∈ vs1) :
    Pe X W (.ListComp elt [⟨tg, iter, ifs, 0⟩, ⟨tg1, iter1, ifs1, 0⟩] scope pos) (lcF fi (twoF t ft fi1 vs1 (oneF t1 ft1 fe)) (own.map (·.2))) ∧
    ∀ (i : Nat) (y : Str) (py spos : Pos), X.N[i]? = some y → X.env.scope.names.lookup y = some .local → swapsWith (.ListComp elt [⟨tg, iter, ifs, 0⟩, ⟨tg1, iter1, ifs1, 0⟩] scope pos) (some (.Name y py)) spos.line X.env = pure true →
      PS X (.Assign [.Name y py] (.ListComp elt [⟨tg, iter, ifs, 0⟩, ⟨tg1, iter1, ifs1, 0⟩] scope pos) spos) (tAsg (tE X.K W (lcF fi (twoF t ft fi1 vs1 (oneF t1 ft1 fe)) (own.map (·.2)))) (gName i)) :=
  ⟨PE.mono (pe_lc2 hc hN hi ok hv hg ht hi1 hg1 ht1 he hs hs1) (lc2_read hsl hsl1), fun i y py spos hy hyl hsw => PS.mono (ps_setLc2 hc hN hy hyl hsw hi ok hv hg ht hi1 hg1 ht1 he hs hs1) fun D σ H q => lc2_read hsl hsl1 σ H _ q⟩
end
end Ev

set_option Elab.async false
set_option linter.all false
set_option maxRecDepth 100000
set_option maxHeartbeats 2000000
/-! list comprehensions with three generators: the loops one by one -/
namespace Ev
open PySem PySem.Spec PyProof.Rows L2
variable [TabsOf]
abbrev e3 (elt t0 i0 t1 i1 t2 i2 : Expr) (f0 f1 f2 : List Expr) (scope : Scope) (pos : Pos) : Expr := .ListComp elt [⟨t0, i0, f0, 0⟩, ⟨t1, i1, f1, 0⟩, ⟨t2, i2, f2, 0⟩] scope pos
/-- no frame of its own -/
structure TreeC (e : Expr) : Prop where
  und : ∀ (A : Around) (k : Nat) (it acc : Value) (env : PySem.Env), A.under (Code.compLoop e k it acc env) = A
  den : ∀ (prog : Program) (w : World) (k : Nat) (it acc : Value) (env : PySem.Env), (model prog w).den (Code.compLoop e k it acc env) = (compTurn e k it acc env).onRaise (fun x => do noteFrame x env; theTreesLotGoes x)
/-- a turn of an outer loop: the next source's loop runs within -/
def OutAt (e : Expr) (k : Nat) (t i : Expr) (ifs : List Expr) (j : Expr) : Prop := TreeC e ∧ ∀ (it acc : Value) (env : PySem.Env), compTurn e k it acc env = (do
  standAt i.pos
  match ← pyNext it with
  | none => pure (.done .next)
  | some v =>
    letOwnedTupleGo t it v
    assign t env v
    let mut ok := true
    for c in ifs do
      if ok then ok ← isTrue c env (eval c env)
    if ok then
      let x ← eval j env
      standAt j.pos
      let x ← foldedSetIterable j env x
      let _ ← runOwn (.compStart e (k + 1) (← holding [x] (pyIter x)) acc env) env
    again (.compLoop e k it acc env))
def InAt (e : Expr) (k : Nat) (t i : Expr) (ifs : List Expr) (elt : Expr) : Prop := TreeC e ∧ ∀ (it acc : Value) (env : PySem.Env), compTurn e k it acc env = (do
  standAt i.pos
  match ← pyNext it with
  | none => pure (.done .next)
  | some v =>
    letOwnedTupleGo t it v
    assign t env v
    let mut ok := true
    for c in ifs do
      if ok then ok ← isTrue c env (eval c env)
    if ok then
      (do let _ ← call (.builtin "list.append") [acc, ← eval elt env])
    again (.compLoop e k it acc env))
section
variable {elt t0 i0 t1 i1 t2 i2 : Expr} {f0 f1 f2 : List Expr} {scope : Scope} {pos : Pos}
theorem out0 : OutAt (e3 elt t0 i0 t1 i1 t2 i2 f0 f1 f2 scope pos) 0 t0 i0 f0 i1 := ⟨⟨fun _ _ _ _ _ => rfl, fun _ _ _ _ _ _ => rfl⟩, fun _ _ _ => rfl⟩
theorem out1 : OutAt (e3 elt t0 i0 t1 i1 t2 i2 f0 f1 f2 scope pos) 1 t1 i1 f1 i2 := ⟨⟨fun _ _ _ _ _ => rfl, fun _ _ _ _ _ _ => rfl⟩, fun _ _ _ => rfl⟩
theorem in2 : InAt (e3 elt t0 i0 t1 i1 t2 i2 f0 f1 f2 scope pos) 2 t2 i2 f2 elt := ⟨⟨fun _ _ _ _ _ => rfl, fun _ _ _ _ _ _ => rfl⟩, fun _ _ _ => rfl⟩
end
section
variable {prog : Program} {w : World} {A : Around} {R : Result → Shared → Prop} {s : Shared} {e elt t i j : Expr} {ifs : List Expr} {k : Nat} {it acc : Value} {env : PySem.Env}
abbrev nb (prog : Program) (w : World) (A : Around) (env : PySem.Env) (R : Result → Shared → Prop) : Value → Shared → Prop := notedBy (model prog w) A env fun e s' => R (.error e) s'
theorem loop_out (O : OutAt e k t i ifs j) (hs : ∀ x, foldedSetIterable j env x = pure x) (I : Nat → Shared → Prop)
    (turn : ∀ n s, I n s → wpAny (model prog w) A (pyNext it) (fun r s₁ => match r with
      | none => R (.ok .next) s₁
      | some v => wpAny (model prog w) A (letOwnedTupleGo t it v) (fun _ sa => wpAny (model prog w) A (assign t env v) (fun _ s₂ =>
          wpAny (model prog w) A (forIn ifs true fun c r => if r = true then do let ok ← isTrue c env (eval c env); pure (ForInStep.yield ok) else pure (ForInStep.yield r)) (fun ok s₃ =>
            if ok = true then wpAny (model prog w) A (eval j env) (fun x s₄ => wpAny (model prog w) A (pyIter x) (fun it1 s₅ =>
              codeAny (model prog w) A (.compStart e (k + 1) it1 acc env) (fun r s' => match r with
                | .ok _ => ∃ m, m < n ∧ I m s'
                | .error _ => False) s₅) (nb prog w A env R) s₄) (nb prog w A env R) s₃
            else ∃ m, m < n ∧ I m s₃) (nb prog w A env R) s₂) (nb prog w A env R) sa) (nb prog w A env R) s₁) (nb prog w A env R) s)
    (n : Nat) (h : I n s) : codeAny (model prog w) A (.compLoop e k it acc env) R s := by
  refine codeAny_loop rfl I (fun n s hI => ?_) n h
  rw [O.1.und, O.1.den]
  refine wpAny_noted ?_
  rw [O.2 it acc env]
  refine wpAny_bind (wpAny_standAt (wpAny_bind (wpAny_mono (turn n s hI) (fun r sb hb => ?_) fun _ _ z => z)))
  cases r with
  | none => exact wpAny_pure hb
  | some v =>
    refine wpAny_bind (wpAny_mono hb (fun _ sc hc => wpAny_bind (wpAny_mono hc (fun _ sd hd => wpAny_bind (wpAny_mono hd (fun ok se he => ?_) fun _ _ z => z)) fun _ _ z => z)) fun _ _ z => z)
    cases ok with
    | false => exact wpAny_pure ⟨rfl, he⟩
    | true =>
      refine wpAny_bind (wpAny_mono he (fun x sf hf => wpAny_bind (wpAny_standAt (wpAny_bind (wpAny_of_eq (hs x) (wpAny_bind (wpAny_holding (wpAny_mono hf (fun it1 sg hg => wpAny_bind (wpAny_runOwn ?_)) fun _ _ z => z))))))) fun _ _ z => z)
      rw [Around.mark_none]
      refine codeAny_mono hg fun r s' hr => ?_
      cases r with
      | ok f =>
        first
          | exact wpAny_pure ⟨rfl, hr⟩
          | exact wpAny_bind (wpAny_pure (wpAny_pure ⟨rfl, hr⟩))
      | error e => exact hr.elim
theorem loop_in (O : InAt e k t i ifs elt) (I : Nat → Shared → Prop)
    (turn : ∀ n s, I n s → wpAny (model prog w) A (pyNext it) (fun r s₁ => match r with
      | none => R (.ok .next) s₁
      | some v => wpAny (model prog w) A (letOwnedTupleGo t it v) (fun _ sa => wpAny (model prog w) A (assign t env v) (fun _ s₂ =>
          wpAny (model prog w) A (forIn ifs true fun c r => if r = true then do let ok ← isTrue c env (eval c env); pure (ForInStep.yield ok) else pure (ForInStep.yield r)) (fun ok s₃ =>
            if ok = true then wpAny (model prog w) A (eval elt env) (fun x s₄ => wpAny (model prog w) A (call (.builtin "list.append") [acc, x]) (fun _ s₅ => ∃ m, m < n ∧ I m s₅) (nb prog w A env R) s₄) (nb prog w A env R) s₃
            else ∃ m, m < n ∧ I m s₃) (nb prog w A env R) s₂) (nb prog w A env R) sa) (nb prog w A env R) s₁) (nb prog w A env R) s)
    (n : Nat) (h : I n s) : codeAny (model prog w) A (.compLoop e k it acc env) R s := by
  refine codeAny_loop rfl I (fun n s hI => ?_) n h
  rw [O.1.und, O.1.den]
  refine wpAny_noted ?_
  rw [O.2 it acc env]
  refine wpAny_bind (wpAny_standAt (wpAny_bind (wpAny_mono (turn n s hI) (fun r sb hb => ?_) fun _ _ z => z)))
  cases r with
  | none => exact wpAny_pure hb
  | some v =>
    refine wpAny_bind (wpAny_mono hb (fun _ sc hc => wpAny_bind (wpAny_mono hc (fun _ sd hd => wpAny_bind (wpAny_mono hd (fun ok se he => ?_) fun _ _ z => z)) fun _ _ z => z)) fun _ _ z => z)
    cases ok with
    | false => exact wpAny_pure ⟨rfl, he⟩
    | true => exact wpAny_bind (wpAny_bind (wpAny_mono he (fun x sf hf => wpAny_bind (wpAny_mono hf (fun _ sg hg => wpAny_pure (wpAny_pure ⟨rfl, hg⟩)) fun _ _ z => z)) fun _ _ z => z))
end
section
variable {prog : Program} {w : World} {A : Around} {R : Result → Shared → Prop} {s : Shared} {elt t0 i0 t1 i1 t2 i2 : Expr} {f0 f1 f2 : List Expr} {scope : Scope} {pos : Pos} {it acc : Value} {env : PySem.Env}
theorem start1 (h0 : codeAny (model prog w) A (.compLoop (e3 elt t0 i0 t1 i1 t2 i2 f0 f1 f2 scope pos) 1 it acc env) R s)
    (h : wpAny (model prog w) A (pyIter it) (fun it' s' => codeAny (model prog w) A (.compLoop (e3 elt t0 i0 t1 i1 t2 i2 f0 f1 f2 scope pos) 1 it' acc env) R s') (nb prog w A env R) s) : codeAny (model prog w) A (.compStart (e3 elt t0 i0 t1 i1 t2 i2 f0 f1 f2 scope pos) 1 it acc env) R s := by
  refine codeAny_of_tree ?_
  show wpAny _ _ ((compStart _ _ it acc env).onRaise (fun x => do noteFrame x env; standAt theWindowsPlace)) _ _ s
  refine wpAny_notedAt ?_; unfold compStart
  show wpAny _ _ (ask >>= _) _ _ s
  refine wpAny_bind (wpAny_askSetting (wpAny_ite ?_)); split
  · first
      | exact wpAny_bind (wpAny_pure (wpAny_pure (And.intro rfl h0)))
      | exact wpAny_pure (And.intro rfl h0)
  · first
      | exact wpAny_bind (wpAny_rule (wpAny_bind (wpAny_standAt (wpAny_bind (wpAny_mono h (fun it' s' h' => wpAny_pure (And.intro rfl h')) fun _ _ x => x)))))
      | (refine wpAny_bind (wpAny_rule ?_); show wpAny _ _ (standAt (Expr.pos i1) >>= _) _ _ s; exact wpAny_bind (wpAny_standAt (wpAny_bind (wpAny_mono h (fun it' s' h' => wpAny_pure (And.intro rfl h')) fun _ _ x => x))))
theorem start2 (h0 : codeAny (model prog w) A (.compLoop (e3 elt t0 i0 t1 i1 t2 i2 f0 f1 f2 scope pos) 2 it acc env) R s)
    (h : wpAny (model prog w) A (pyIter it) (fun it' s' => codeAny (model prog w) A (.compLoop (e3 elt t0 i0 t1 i1 t2 i2 f0 f1 f2 scope pos) 2 it' acc env) R s') (nb prog w A env R) s) : codeAny (model prog w) A (.compStart (e3 elt t0 i0 t1 i1 t2 i2 f0 f1 f2 scope pos) 2 it acc env) R s := by
  refine codeAny_of_tree ?_
  show wpAny _ _ ((compStart _ _ it acc env).onRaise (fun x => do noteFrame x env; standAt theWindowsPlace)) _ _ s
  refine wpAny_notedAt ?_; unfold compStart
  show wpAny _ _ (ask >>= _) _ _ s
  refine wpAny_bind (wpAny_askSetting (wpAny_ite ?_)); split
  · first
      | exact wpAny_bind (wpAny_pure (wpAny_pure (And.intro rfl h0)))
      | exact wpAny_pure (And.intro rfl h0)
  · first
      | exact wpAny_bind (wpAny_rule (wpAny_bind (wpAny_standAt (wpAny_bind (wpAny_mono h (fun it' s' h' => wpAny_pure (And.intro rfl h')) fun _ _ x => x)))))
      | (refine wpAny_bind (wpAny_rule ?_); show wpAny _ _ (standAt (Expr.pos i2) >>= _) _ _ s; exact wpAny_bind (wpAny_standAt (wpAny_bind (wpAny_mono h (fun it' s' h' => wpAny_pure (And.intro rfl h')) fun _ _ x => x))))
end
end Ev

set_option Elab.async false
set_option linter.all false
set_option maxRecDepth 100000
set_option maxHeartbeats 2000000
namespace Ev
open PySem PySem.Spec PyProof.Rows L2
variable [TabsOf]
/-- a walk's reading: what a turn is to reach is told by N1 -/
def rdW (J : It) (H : Hp) (Nx : Hp → Prop) (turn : Nat → V → Hp → (Hp → Prop) → Prop) : Prop :=
  ∃ W : Nat → Nat → Hp → Prop, (∃ m, W 0 m H) ∧ ∀ j k H, W j k H → (J.stop j H ∧ Nx H) ∨ (J.go j H ∧ ∃ N1 : Hp → Prop, (∀ H', N1 H' → ∃ k', k' < k ∧ W (j + 1) k' H') ∧ ∀ x H', J.yld j H x H' → turn j x H' N1)
abbrev Rd := It → L2.St → Hp → (Hp → Prop) → Prop
def rdIn (D : Addr) (g : TG) (tt : TT) (te : TE) (vs : List Nat) : Rd := fun J σ H Nx => rdW J H Nx fun _ x H' N1 => g x (wipe σ vs) H' fun σ3 H5 => wipe σ3 vs = wipe σ vs ∧ tt σ3 H5 fun b H6 =>
  if b = true then te σ3 H6 fun y H7 => ∃ acc, H7 D = some (.lst acc) ∧ acc.length < sizeLine ∧ N1 (upd H7 D (.lst (acc ++ [y]))) else N1 H6
def rdOut (g : TG) (tt : TT) (wi : TI) (rn : Rd) (vs : List Nat) : Rd := fun J σ H Nx => rdW J H Nx fun _ x H' N1 => g x (wipe σ vs) H' fun σ3 H5 => wipe σ3 vs = wipe σ vs ∧ tt σ3 H5 fun b H6 =>
  if b = true then wi σ3 H6 fun J1 H7 => rn J1 σ3 H7 N1 else N1 H6
section
variable {X : Cx} {s0 : Shared} {H0 : Hp} {scope : Scope} {ce : PySem.Env} {fp0 : List Addr} {D : Addr} {e elt t i j : Expr} {ifs : List Expr} {k : Nat} {vs vs' : List Nat} {g : TG} {tt : TT} {te : TE} {wi : TI}
/-- a loop of a block reaches what its reading wishes -/
def LoopOk (X : Cx) (s0 : Shared) (H0 : Hp) (scope : Scope) (ce : PySem.Env) (fp0 : List Addr) (D : Addr) (e : Expr) (k : Nat) (tg : Expr) (vs : List Nat) (rd : Rd) : Prop :=
  ∀ (pins : List (Addr × Obj)) (σ : L2.St) (H : Hp) (s : Shared) (it : Addr) (fp : List Addr) (tn : Nat → Heap → Prop) (J : It) (Nx : Hp → Prop), Inv (X.blk s0 H0 scope ce fp0) pins σ H s → Turn X.prog X.w X.K tg J fp it tn → tn 0 s.heap →
    (∀ b ∈ fp, FpOk (X.blk s0 H0 scope ce fp0) pins H b) → rd J σ H Nx →
    codeAny (model X.prog X.w) X.A (.compLoop e k (.ref it) (.ref D) ce) (fun r s' => r = .ok .next ∧ ∃ H', Inv (X.blk s0 H0 scope ce fp0) pins (wipe σ vs) H' s' ∧ Nx H') s
theorem loop_last (hc : X.calm = true) (O : InAt e k t i ifs elt) (pg : PG (X.blk s0 H0 scope ce fp0) t g) (pt : PTs (X.blk s0 H0 scope ce fp0) ifs tt) (pe : PE (X.blk s0 H0 scope ce fp0) elt te) :
    LoopOk X s0 H0 scope ce fp0 D e k t vs (rdIn D g tt te vs) := by
  intro pins σ H s it fp tn J Nx I T st f ⟨W, ⟨m0, w0⟩, turn⟩
  have stat : ∀ {H' : Hp}, (∀ b ∈ fp, H' b = none) → ∀ b ∈ fp, FpOk (X.blk s0 H0 scope ce fp0) pins H' b := fun hn b hb => ⟨hn b hb, (f b hb).2⟩
  refine loop_in O (fun n s' => ∃ i H', Inv (X.blk s0 H0 scope ce fp0) pins (wipe σ vs) H' s' ∧ tn i s'.heap ∧ (∀ b ∈ fp, H' b = none) ∧ W i n H') ?_ m0 ⟨0, H, I.weak (wipe_length _ _) (fun j v e => (wipe_some e).1), st, fun b hb => (f b hb).1, w0⟩
  rintro n sa ⟨q, Ha, Ia, sta, na, wa⟩
  rcases turn q n Ha wa with ⟨stop, nx⟩ | ⟨go, N1, hN, step⟩
  · refine thnF (T.done (X.blk s0 H0 scope ce fp0) rfl rfl rfl hc q _ sa _ Ha (fun _ _ => False) Ia (stat na) sta stop) fun r sb ⟨hr, Ib⟩ => ?_
    subst hr
    exact ⟨rfl, Ha, Ib, nx⟩
  · refine thnF (T.item (X.blk s0 H0 scope ce fp0) rfl rfl rfl hc q _ sa _ Ha (fun _ _ => False) Ia (stat na) sta go) fun r sb ⟨u, hr, hb⟩ => ?_
    subst hr
    refine thnF hb fun _ sc ⟨x, Hc, Ic, rc, yc, stc, nc⟩ => ?_
    have Ic' := Ic.pinned (stat nc) (T.obj _ _ stc)
    refine thnF (pg.run _ sc _ Hc x u _ Ic' rc (step x Hc yc)) fun _ sd ⟨σd, Hd, Id, hwd, qd⟩ => thnF (pt.run _ sd σd Hd _ Id qd) fun b se ⟨He, Ie, qe⟩ => ?_
    have again : ∀ {s' : Shared} {H' : Hp}, Inv (X.blk s0 H0 scope ce fp0) (pins ++ pinsAt fp sc.heap) σd H' s' → N1 H' → ∃ m, m < n ∧ ∃ i H', Inv (X.blk s0 H0 scope ce fp0) pins (wipe σ vs) H' s' ∧ tn i s'.heap ∧ (∀ b ∈ fp, H' b = none) ∧ W i m H' := fun {s' H'} I' nx => by
      obtain ⟨m', hm, w'⟩ := hN H' nx
      have pin' : ∀ b ∈ fp, ∀ o, sc.heap.get? b = some o → s'.heap.get? b = some o ∧ H' b = none := fun b hb o e =>
        let z := I'.pin (b, o) (List.mem_append_right _ (List.mem_append_right _ (mem_pinsAt hb e)))
        ⟨z.1, z.2.1⟩
      refine ⟨m', hm, q + 1, H', I'.unpinned.weak (by rw [← hwd, wipe_length]) (fun j v e => by rw [← hwd] at e; exact (wipe_some e).1), T.keep _ _ _ stc fun b hb o e => (pin' b hb o e).1, fun b hb => ?_, w'⟩
      obtain ⟨o, e, _⟩ := T.obj _ _ stc b hb
      exact (pin' b hb o e).2
    cases b with
    | false =>
      simp only [Bool.false_eq_true, if_false] at qe ⊢
      exact again Ie qe
    | true =>
      simp only [if_true] at qe ⊢
      exact thnF (pe.run _ se σd He _ Ie qe) fun z sf ⟨yv, Hf, If, rf, acc, hDf, hzf, nx⟩ => app_ok (X := X.blk s0 H0 scope ce fp0) If hDf hzf rf fun sg Ig => again Ig nx
theorem loop_next {rn : Rd} (hc : X.calm = true) (O : OutAt e k t i ifs j) (hs : ∀ x, foldedSetIterable j ce x = pure x) (hv : ∀ q ∈ vs', q ∈ vs) {tg1 : Expr}
    (start : ∀ {R : Result → Shared → Prop} {s : Shared} {it acc : Value}, codeAny (model X.prog X.w) X.A (.compLoop e (k + 1) it acc ce) R s → wpAny (model X.prog X.w) X.A (pyIter it) (fun it' s' => codeAny (model X.prog X.w) X.A (.compLoop e (k + 1) it' acc ce) R s') (nb X.prog X.w X.A ce R) s → codeAny (model X.prog X.w) X.A (.compStart e (k + 1) it acc ce) R s)
    (pg : PG (X.blk s0 H0 scope ce fp0) t g) (pt : PTs (X.blk s0 H0 scope ce fp0) ifs tt) (pi : PI (X.blk s0 H0 scope ce fp0) tg1 j wi) (L : LoopOk X s0 H0 scope ce fp0 D e (k + 1) tg1 vs' rn) :
    LoopOk X s0 H0 scope ce fp0 D e k t vs (rdOut g tt wi rn vs) := by
  intro pins σ H s it fp tn J Nx I T st f ⟨W, ⟨m0, w0⟩, turn⟩
  have stat : ∀ {H' : Hp}, (∀ b ∈ fp, H' b = none) → ∀ b ∈ fp, FpOk (X.blk s0 H0 scope ce fp0) pins H' b := fun hn b hb => ⟨hn b hb, (f b hb).2⟩
  refine loop_out O hs (fun n s' => ∃ i H', Inv (X.blk s0 H0 scope ce fp0) pins (wipe σ vs) H' s' ∧ tn i s'.heap ∧ (∀ b ∈ fp, H' b = none) ∧ W i n H') ?_ m0 ⟨0, H, I.weak (wipe_length _ _) (fun j v e => (wipe_some e).1), st, fun b hb => (f b hb).1, w0⟩
  rintro n sa ⟨q, Ha, Ia, sta, na, wa⟩
  rcases turn q n Ha wa with ⟨stop, nx⟩ | ⟨go, N1, hN, step⟩
  · refine thnF (T.done (X.blk s0 H0 scope ce fp0) rfl rfl rfl hc q _ sa _ Ha (fun _ _ => False) Ia (stat na) sta stop) fun r sb ⟨hr, Ib⟩ => ?_
    subst hr
    exact ⟨rfl, Ha, Ib, nx⟩
  · refine thnF (T.item (X.blk s0 H0 scope ce fp0) rfl rfl rfl hc q _ sa _ Ha (fun _ _ => False) Ia (stat na) sta go) fun r sb ⟨u, hr, hb⟩ => ?_
    subst hr
    refine thnF hb fun _ sc ⟨x, Hc, Ic, rc, yc, stc, nc⟩ => ?_
    have Ic' := Ic.pinned (stat nc) (T.obj _ _ stc)
    refine thnF (pg.run _ sc _ Hc x u _ Ic' rc (step x Hc yc)) fun _ sd ⟨σd, Hd, Id, hwd, qd⟩ => thnF (pt.run _ sd σd Hd _ Id qd) fun b se ⟨He, Ie, qe⟩ => ?_
    have again : ∀ {σ9 : L2.St} {s' : Shared} {H' : Hp}, Inv (X.blk s0 H0 scope ce fp0) (pins ++ pinsAt fp sc.heap) σ9 H' s' → (wipe σ vs).length = σ9.length → (∀ (j : Nat) v, (wipe σ vs)[j]? = some (some v) → σ9[j]? = some (some v)) → N1 H' →
        ∃ m, m < n ∧ ∃ i H', Inv (X.blk s0 H0 scope ce fp0) pins (wipe σ vs) H' s' ∧ tn i s'.heap ∧ (∀ b ∈ fp, H' b = none) ∧ W i m H' := fun {σ9 s' H'} I' hl hk nx => by
      obtain ⟨m', hm, w'⟩ := hN H' nx
      have pin' : ∀ b ∈ fp, ∀ o, sc.heap.get? b = some o → s'.heap.get? b = some o ∧ H' b = none := fun b hb o e =>
        let z := I'.pin (b, o) (List.mem_append_right _ (List.mem_append_right _ (mem_pinsAt hb e)))
        ⟨z.1, z.2.1⟩
      refine ⟨m', hm, q + 1, H', I'.unpinned.weak hl hk, T.keep _ _ _ stc fun b hb o e => (pin' b hb o e).1, fun b hb => ?_, w'⟩
      obtain ⟨o, e, _⟩ := T.obj _ _ stc b hb
      exact (pin' b hb o e).2
    have hl8 : (wipe σ vs).length = σd.length := by rw [← hwd, wipe_length]
    have hk8 : ∀ (j : Nat) v, (wipe σ vs)[j]? = some (some v) → σd[j]? = some (some v) := fun j v e => by
      rw [← hwd] at e
      exact (wipe_some e).1
    have hk9 : ∀ (j : Nat) v, (wipe σ vs)[j]? = some (some v) → (wipe σd vs')[j]? = some (some v) := fun j v e => by
      rw [← hwd] at e
      obtain ⟨e1, e2⟩ := wipe_some e
      rw [wipe_out fun z => e2 (hv j z)]
      exact e1
    cases b with
    | false =>
      simp only [Bool.false_eq_true, if_false] at qe ⊢
      exact again Ie hl8 hk8 qe
    | true =>
      simp only [if_true] at qe ⊢
      refine thnF (pi.run _ se σd He _ Ie qe) fun xv sf hx => thnF hx fun itv sg hg => ?_
      obtain ⟨it1, fp1, tn1, J1, Hg, e1, Ig, T1, stg, fg, rdn⟩ := hg
      subst e1
      have lp := codeAny_mono (L _ σd Hg sg it1 fp1 tn1 J1 N1 Ig T1 stg fg rdn) (R' := fun r s' => match r with
        | .ok _ => ∃ m, m < n ∧ ∃ i H', Inv (X.blk s0 H0 scope ce fp0) pins (wipe σ vs) H' s' ∧ tn i s'.heap ∧ (∀ b ∈ fp, H' b = none) ∧ W i m H'
        | .error _ => False) fun r s' ⟨hr, H', I', nx⟩ => by
          subst hr
          exact again I' (hl8.trans (wipe_length σd vs').symm) hk9 nx
      exact start lp (T1.self X.A 0 _ _ _ stg lp)
end
end Ev

set_option Elab.async false
set_option linter.all false
set_option maxRecDepth 100000
set_option maxHeartbeats 2000000
namespace Ev
open PySem PySem.Spec PyProof.Rows L2
variable [TabsOf]
section
variable {X : Cx} {elt t0 i0 t1 i1 t2 i2 : Expr} {f0 f1 f2 : List Expr} {scope : Scope} {own : List (Str × Nat)} {pos pos' : Pos} {wi : TI} {rd : Addr → Rd}
def tLc3 (wi : TI) (rd : Addr → Rd) (vs : List Nat) : TE := fun σ H Q => wi σ H fun J H1 => ∀ D, H1 D = none → rd D J (wipe σ vs) (upd H1 D (.lst [])) fun H' => Q (.ref D) H'
theorem lc3_go {pins : List (Addr × Obj)} {s : Shared} {σ : L2.St} {H : Hp} {Q : VK} {use : Option (Value → Sem Unit)} {Qf : Value → Shared → Prop} (hc : X.calm = true) (hN : X.N.Nodup) (I : Inv X pins σ H s) (hi : PI X t0 i0 wi) (ok : BlkOk X.N X.env.scope scope own)
    (hL : ∀ (s : Shared) (H : Hp) (C : Addr) (cl : List (Str × Addr)) (fp : List Addr) (D : Addr), LoopOk X s H scope (compEnvC scope cl C X.env) fp D (e3 elt t0 i0 t1 i1 t2 i2 f0 f1 f2 scope pos) 0 t0 (own.map (·.2)) (rd D))
    (hs : ∀ x, foldedSetIterable i0 X.env x = pure x) (h : tLc3 wi rd (own.map (·.2)) σ H Q)
    (fin : ∀ D C s' m H', Inv X pins σ H' s' → Q (.ref D) H' → s'.heap.Ns C m → FpOk X pins H' C → compPost (model X.prog X.w) X.A X.xe use Qf (.ref D) C (.ok .next) s') :
    wpAny (model X.prog X.w) X.A (comprehension (e3 elt t0 i0 t1 i1 t2 i2 f0 f1 f2 scope pos) scope X.env pos' (newList []) false (eval i0 X.env) use) Qf X.xe s := by
  refine wpAny_comprehension_free (use := use) rfl hs (closure_ok fun y hy e => (ok.free y hy e).elim (fun k => I.ok.has _ (.inl k)) fun k => I.ok.has _ (.inr k)) ok.kind (fun y hy e => by rw [ok.uniq y hy, e]) (thn (hi.run pins s σ H _ I h) fun xv sa hx => thn hx fun itv sb hb => ?_)
  obtain ⟨it, fp, tn, J, Hb, rfl, Ib, T, stb, fb, q⟩ := hb
  refine wpAny_newObj_type (newEnv_comp ?_) (by show 0 ≤ sizeLine; decide)
  have nD : Hb sb.heap.objs.size = none := Ib.hok.fresh (Nat.le_refl _)
  have rdD := q sb.heap.objs.size nD
  have ltb : ∀ b ∈ fp, b < sb.heap.objs.size := fun b hb => by
    obtain ⟨o, e, _⟩ := T.obj _ _ stb b hb
    exact Heap.lt_size e
  generalize hsc : ({ sb with heap := sb.heap.push { cls := .type "list", data := .seq ([] : List Value).toArray } } : Shared) = sc
  have hscH : sc.heap = sb.heap.push { cls := .type "list", data := .seq ([] : List Value).toArray } := by rw [← hsc]
  have Ic : Inv X pins σ (upd Hb sb.heap.objs.size (.lst [])) sc := by
    rw [← hsc]
    exact Ib.laid (t' := sb.toks) (fun b o e => Heap.get?_push_of_some _ e) (Nat.le_refl _) ⟨Nat.zero_le _, [], 0, .nil, Heap.get?_push_size _ rfl⟩
  generalize hD : sb.heap.objs.size = D at nD rdD Ic ltb
  have fc : ∀ b ∈ fp, FpOk X pins (upd Hb D (.lst [])) b ∧ b < sc.heap.objs.size := fun b hb => ⟨⟨by rw [upd_ne (Nat.ne_of_lt (ltb b hb))]; exact (fb b hb).1, (fb b hb).2⟩, by rw [hscH, Heap.size_push, hD]; exact Nat.lt_succ_of_lt (ltb b hb)⟩
  have stc : tn 0 sc.heap := T.keep _ _ _ stb fun b _ o e => by rw [hscH]; exact Heap.get?_push_of_some _ e
  generalize hHc : upd Hb D (.lst []) = Hc at Ic fc rdD
  have Id := block_start (fp := fp) Ic ok hN fc
  have L := hL sc Hc sc.heap.objs.size (cellsFrom (sc.heap.objs.size + 1) scope.names (cloFrom X.env.cells scope.names [])) fp D
  show codeAny _ _ (.compStart (e3 elt t0 i0 t1 i1 t2 i2 f0 f1 f2 scope pos) 0 (.ref it) (.ref D) (compEnvC scope (cellsFrom (sc.heap.objs.size + 1) scope.names (cloFrom X.env.cells scope.names [])) sc.heap.objs.size X.env)) (compPost (model X.prog X.w) X.A X.xe use Qf (.ref D) sc.heap.objs.size) { sc with heap := pushCells (sc.heap.push { cls := .type "dict", data := .dict #[] }) scope.names }
  generalize hce : compEnvC scope (cellsFrom (sc.heap.objs.size + 1) scope.names (cloFrom X.env.cells scope.names [])) sc.heap.objs.size X.env = ce at Id L ⊢
  have cL : ce.locals = sc.heap.objs.size := by subst hce; rfl
  generalize hsd : ({ sc with heap := pushCells (sc.heap.push { cls := .type "dict", data := .dict #[] }) scope.names } : Shared) = sd at Id ⊢
  have std : tn 0 sd.heap := T.keep _ _ _ stc fun b _ o e => by rw [← hsd]; exact pushCells_keeps _ _ _ _ (Heap.get?_push_of_some _ e)
  have fd : ∀ b ∈ fp, FpOk (X.blk sc Hc scope ce fp) [] Hc b := fun b hb => ⟨(fc b hb).1.1, (Id.ok.exf b hb).1, Id.ok.exfs b hb, .inl hb, fun x c e => (Id.ok.exf b hb).2 x c e, fun p hp => absurd (show p ∈ ([] : List (Addr × Obj)) ++ [] from hp) (by simp)⟩
  have loop : codeAny (model X.prog X.w) X.A (.compLoop (e3 elt t0 i0 t1 i1 t2 i2 f0 f1 f2 scope pos) 0 (.ref it) (.ref D) ce) (compPost (model X.prog X.w) X.A X.xe use Qf (.ref D) sc.heap.objs.size) sd := by
    refine codeAny_mono (L [] _ Hc sd it fp tn J _ Id T std fd rdD) fun r sf ⟨hr, He, If, qq⟩ => ?_
    subst hr
    have Ig : Inv X pins σ He sf := Ic.call' (ch := fp) If.os If.base If.hok If.bare fun b hb => ⟨(fc b hb).1.2.2.2.1, (fc b hb).1.2.1, (fc b hb).1.2.2.2.2.1, (fc b hb).1.2.2.2.2.2⟩
    have nC : He sc.heap.objs.size = none := by rw [← cL]; exact If.free
    obtain ⟨m, hn, _⟩ := If.loc
    exact fin D sc.heap.objs.size sf m He Ig qq (by rw [← cL]; exact hn) (Ic.fpOk (Nat.le_refl _) nC)
  exact codeAny_compStart_list loop (T.self X.A 0 _ _ _ std loop)
theorem pe_lc3 (hc : X.calm = true) (hN : X.N.Nodup) (hi : PI X t0 i0 wi) (ok : BlkOk X.N X.env.scope scope own)
    (hL : ∀ (s : Shared) (H : Hp) (C : Addr) (cl : List (Str × Addr)) (fp : List Addr) (D : Addr), LoopOk X s H scope (compEnvC scope cl C X.env) fp D (e3 elt t0 i0 t1 i1 t2 i2 f0 f1 f2 scope pos) 0 t0 (own.map (·.2)) (rd D))
    (hs : ∀ x, foldedSetIterable i0 X.env x = pure x) : PE X (e3 elt t0 i0 t1 i1 t2 i2 f0 f1 f2 scope pos) (tLc3 wi rd (own.map (·.2))) := by
  refine ⟨fun pins s σ H Q I h => ?_⟩
  rw [eval_ListComp]
  refine lc3_go hc hN I hi ok hL hs h fun D C s' m H' I' q hn f => ⟨m, hn, fun h'' sb => ?_⟩
  exact ⟨.ref D, H', I'.turned (t' := s'.toks) (fun b o hb e => (sb.2 b hb).trans e) f.1 f.2.1 f.2.2.2.1 f.2.2.2.2.1 f.2.2.2.2.2, rfl, q⟩
theorem ps_setLc3 {i : Nat} {y : Str} {py spos : Pos} (hc : X.calm = true) (hN : X.N.Nodup) (hy : X.N[i]? = some y) (hyl : X.env.scope.names.lookup y = some .local)
    (hsw : swapsWith (e3 elt t0 i0 t1 i1 t2 i2 f0 f1 f2 scope pos) (some (.Name y py)) spos.line X.env = pure true) (hi : PI X t0 i0 wi) (ok : BlkOk X.N X.env.scope scope own)
    (hL : ∀ (s : Shared) (H : Hp) (C : Addr) (cl : List (Str × Addr)) (fp : List Addr) (D : Addr), LoopOk X s H scope (compEnvC scope cl C X.env) fp D (e3 elt t0 i0 t1 i1 t2 i2 f0 f1 f2 scope pos) 0 t0 (own.map (·.2)) (rd D))
    (hs : ∀ x, foldedSetIterable i0 X.env x = pure x) : PS X (.Assign [.Name y py] (e3 elt t0 i0 t1 i1 t2 i2 f0 f1 f2 scope pos) spos) (tAsg (tLc3 wi rd (own.map (·.2))) (gName i)) := by
  refine ⟨fun pins s σ H D I h => ?_⟩
  rw [exec_Assign_Name_used _ _ _ _ hsw]
  refine wpAny_bind (wpAny_standAt (wpAny_bind ?_))
  show wpAny _ X.A (do let _ ← comprehension (e3 elt t0 i0 t1 i1 t2 i2 f0 f1 f2 scope pos) scope X.env (firstIterPos [⟨t0, i0, f0, 0⟩, ⟨t1, i1, f1, 0⟩, ⟨t2, i2, f2, 0⟩] pos) (newList []) false (eval i0 X.env) (some (assign (.Name y py) X.env))) _ _ s
  refine wpAny_bind (thn (lc3_go (Q := fun x H1 => gName i x σ H1 D.nx) (Qf := fun _ s' => SP X pins D .next s') hc hN I hi ok hL hs h fun L C s' m H' I' q hn f => ?_) fun _ s' hq => wpAny_pure (wpAny_pure hq))
  show wpAny _ _ (assign (.Name y py) X.env (.ref L)) _ _ _
  refine wpAny_assign_Name (store_ok2 (v := V.ref L) I' hN hy (.inl hyl) rfl (fun st It ⟨a, sb, ha⟩ => ⟨m, hn.sameBut sb (ha.elim (fun z => by rw [z]; exact f.2.1) fun z e => f.2.2.2.2.1 y a z e.symm), fun h3 sb3 => ?_⟩) (.inr hyl))
  exact ⟨_, H', It.turned (t' := st.toks) (fun b o hb e => (sb3.2 b hb).trans e) f.1 f.2.1 f.2.2.2.1 f.2.2.2.2.1 f.2.2.2.2.2, q⟩
end
end Ev

set_option Elab.async false
set_option linter.all false
set_option maxRecDepth 100000
set_option maxHeartbeats 2000000
namespace Ev
open PySem PySem.Spec PyProof.Rows L2
variable [TabsOf]
section
variable {K : PySem.W.Frag} {ρ : Rho} {H : Hp} {p : Addr}
theorem Wk.mv {J : It} {ρ ρ1 : Rho} {H H1 : Hp} {xs : List D} (w : Wk K J ρ H xs) (m : Move ρ H ρ1 H1) : Wk K J ρ1 H1 xs :=
  ⟨fun i ρ2 H2 hi m2 => w.go i ρ2 H2 hi (m.trans m2), fun ρ2 H2 m2 => w.stop ρ2 H2 (m.trans m2), fun i d ρ2 H2 st x H3 hd m2 s y => w.yld i d ρ2 H2 st x H3 hd (m.trans m2) s y⟩
/-- what a loop's reading asks, by the evaluator's walk -/
def RdOk (K : PySem.W.Frag) (ρ : Rho) (H : Hp) (p : Addr) (one : D → Env → Store → R (List D)) (vs : List Nat) (rn : Rd) : Prop :=
  ∀ (J : It) (xs : List D) (ρ1 : Rho) (H1 : Hp) (st1 : Store) (ys zs : List D) (stF : Store) (env : Env) (σ : L2.St) (Nx : Hp → Prop), Wk K J (ρ1.grip p) H1 xs → LS K ρ H p ρ1 H1 st1 ys → EnvR K (ρ1.grip p) H1 env σ →
    lcItems one xs (wipeE env vs) st1 = .ok zs stF → (ys ++ zs).length ≤ seqMax → (∀ ρ3 H3, LS K ρ H p ρ3 H3 stF (ys ++ zs) → Move (ρ1.grip p) H1 (ρ3.grip p) H3 → Nx H3) → rn J σ H1 Nx
/-- the state ahead of a turn -/
def rdInv (K : PySem.W.Frag) (ρ : Rho) (H : Hp) (p : Addr) (ρ1 : Rho) (H1 : Hp) (one : D → Env → Store → R (List D)) (xs : List D) (env : Env) (stF : Store) (total : List D) (j : Nat) (H' : Hp) : Prop :=
  ∃ ρ2 st2 ys2 zs2, LS K ρ H p ρ2 H' st2 ys2 ∧ Move (ρ1.grip p) H1 (ρ2.grip p) H' ∧ lcItems one (xs.drop j) env st2 = .ok zs2 stF ∧ ys2 ++ zs2 = total
theorem rd_walk {J : It} {xs : List D} {ρ1 : Rho} {H1 : Hp} {st1 stF : Store} {ys zs : List D} {env : Env} {one : D → Env → Store → R (List D)} {Nx : Hp → Prop} {turn : Nat → V → Hp → (Hp → Prop) → Prop} (wk : Wk K J (ρ1.grip p) H1 xs) (l : LS K ρ H p ρ1 H1 st1 ys)
    (hl : lcItems one xs env st1 = .ok zs stF) (next : ∀ ρ3 H3, LS K ρ H p ρ3 H3 stF (ys ++ zs) → Move (ρ1.grip p) H1 (ρ3.grip p) H3 → Nx H3)
    (ht : ∀ j (hj : j < xs.length) x H2 H' ρ2 st2 ys2 y st3 zs2, LS K ρ H p ρ2 H2 st2 ys2 → Move (ρ1.grip p) H1 (ρ2.grip p) H2 → one xs[j] env st2 = .ok y st3 → ys2 ++ (y ++ zs2) = ys ++ zs → lcItems one (xs.drop (j + 1)) env st3 = .ok zs2 stF → J.yld j H2 x H' →
      turn j x H' (rdInv K ρ H p ρ1 H1 one xs env stF (ys ++ zs) (j + 1))) : rdW J H1 Nx turn := by
  refine ⟨fun j k H' => k = xs.length - j ∧ j ≤ xs.length ∧ rdInv K ρ H p ρ1 H1 one xs env stF (ys ++ zs) j H', ⟨xs.length, by simp, Nat.zero_le _, ρ1, st1, ys, zs, l, ⟨fun a o h _ n => ⟨h, n⟩, Nat.le_refl _, fun _ _ => .inl rfl⟩, by rw [List.drop_zero]; exact hl, rfl⟩, ?_⟩
  rintro j k H2 ⟨rfl, hj, ρ2, st2, ys2, zs2, l2, mv2, hr, he⟩
  by_cases hlt : j < xs.length
  · have hd : xs[j]? = some xs[j] := List.getElem?_eq_some_iff.mpr ⟨hlt, rfl⟩
    obtain ⟨y, st3, zs3, h1, h2, rfl⟩ := lcItems_drop hd hr
    exact .inr ⟨wk.go j _ H2 hlt mv2, rdInv K ρ H p ρ1 H1 one xs env stF (ys ++ zs) (j + 1), fun H' q => ⟨xs.length - (j + 1), by omega, rfl, hlt, q⟩, fun x H' yl => ht j hlt x H2 H' ρ2 st2 ys2 y st3 zs3 l2 mv2 h1 he h2 yl⟩
  · have e : j = xs.length := by omega
    subst e
    rw [List.drop_length] at hr
    cases hr
    rw [List.append_nil] at he
    subst he
    exact .inl ⟨wk.stop _ H2 mv2, next ρ2 H2 l2 mv2⟩
variable {t : T} {ft : Fb} {fe : Fe} {fi : Fl} {vs vs1 : List Nat}
theorem rd_in_ok (hp : H p = none) (hsl : ∀ i ∈ slots t, i ∈ vs) : RdOk K ρ H p (oneF t ft fe) vs (rdIn p (tG K t) (tB' K W0 ft) (tE K W0 fe) vs) := by
  intro J xs ρ1 H1 st1 ys zs stF env σ Nx wk l er hl hz next
  refine rd_walk wk l hl next fun j hj x H2 H' ρ2 st2 ys2 y st3 zs2 l2 mv2 h1 he h2 yl => ?_
  have hd : xs[j]? = some xs[j] := List.getElem?_eq_some_iff.mpr ⟨hj, rfl⟩
  have z := last_turn (zs := y) (ys := ys2) (Nx := rdInv K ρ H p ρ1 H1 (oneF t ft fe) xs (wipeE env vs) stF (ys ++ zs) (j + 1)) wk l2 hp mv2 ((er.move mv2).wipe vs) hd h1 (by rw [← he] at hz; simp only [List.length_append] at hz ⊢; omega) hsl yl
    (fun ρ3 H3 l3 m3 _ => ⟨ρ3, st3, ys2 ++ y, zs2, l3, m3, h2, by rw [← he]; simp⟩)
  rw [wipe_wipe] at z
  exact z
theorem rd_out_ok {one : D → Env → Store → R (List D)} {rn : Rd} (hp : H p = none) (hsl : ∀ i ∈ slots t, i ∈ vs) (hn : RdOk K ρ H p one vs1 rn) : RdOk K ρ H p (twoF t ft fi vs1 one) vs (rdOut (tG K t) (tB' K W0 ft) (tI K W0 fi) rn vs) := by
  intro J xs ρ1 H1 st1 ys zs stF env σ Nx wk l er hl hz next
  refine rd_walk wk l hl next fun j hj x H2 H' ρ2 st2 ys2 y st3 zs2 l2 mv2 h1 he h2 yl => ?_
  have hd : xs[j]? = some xs[j] := List.getElem?_eq_some_iff.mpr ⟨hj, rfl⟩
  obtain ⟨env1, b, st4, hb, hft, hr⟩ := two_ok' h1
  obtain ⟨ex, s2, rx⟩ := wk.yld j _ (ρ2.grip p) H2 st2 x H' hd mv2 l2.st yl
  obtain ⟨ρ3, e3, l3⟩ := l2.go ex s2
  have e3' : ρ3 = ρ2 := by
    obtain ⟨a, b⟩ := ρ2; obtain ⟨a', b'⟩ := ρ3
    cases e3; rfl
  subst e3'
  refine ⟨ρ3.grip p, xs[j], wipeE env vs, st2, env1, ((er.move mv2).wipe vs).ext ex, s2, rx, hb, fun σ1 er1 hw => ⟨(hw vs hsl).trans wipe_wipe, ρ3.grip p, env1, st2, er1, s2, ?_⟩⟩
  rw [hft]
  intro ρ4' H4 e4 s4
  obtain ⟨ρ4, rfl, l4⟩ := l3.go e4 s4
  have mv4 := (mv2.trans ex.move).trans e4.move
  rcases hr with ⟨rfl, xs1, st5, hfi, hone⟩ | ⟨rfl, rfl, rfl⟩
  · rw [if_pos rfl]
    refine ⟨ρ4.grip p, env1, st4, er1.ext e4, s4, ?_⟩
    rw [hfi]
    intro J1 ρ5' H5 e5 s5 wk5
    obtain ⟨ρ5, rfl, l5⟩ := l4.go e5 s5
    exact hn J1 xs1 ρ5 H5 st5 ys2 y st3 env1 _ _ wk5 l5 ((er1.ext e4).ext e5) hone (by rw [← he] at hz; simp only [List.length_append] at hz ⊢; omega)
      fun ρ6 H6 l6 m6 => ⟨ρ6, st3, ys2 ++ y, zs2, l6, (mv4.trans e5.move).trans m6, h2, by rw [← he]; simp⟩
  · rw [if_neg Bool.false_ne_true]
    exact ⟨ρ4, st3, ys2, zs2, l4, mv4, h2, by rw [← he]; simp⟩
end
theorem wipeE_wipeE (env : Env) (vs : List Nat) : wipeE (wipeE env vs) vs = wipeE env vs := by
  have key : ∀ (vs : List Nat) (env : Env) (j : Nat), (wipeE env vs)[j]? = if j ∈ vs then (env[j]?).map fun _ => none else env[j]? := fun vs => by
    induction vs with
    | nil => intro env j; simp [wipeE]
    | cons v vs ih =>
      intro env j
      unfold wipeE
      by_cases e : v = j
      · subst e
        rw [if_pos List.mem_cons_self]
        by_cases hl : v < (wipeE env vs).length
        · rw [List.getElem?_set_self hl]
          rw [wipeE_length] at hl
          rw [List.getElem?_eq_getElem hl]; rfl
        · rw [List.getElem?_eq_none (by rw [List.length_set]; omega)]
          rw [wipeE_length] at hl
          rw [List.getElem?_eq_none (by omega)]; rfl
      · rw [List.getElem?_set_ne e, ih]
        have : j ∈ v :: vs ↔ j ∈ vs := by simp [Ne.symm e]
        simp only [this]
  refine List.ext_getElem? fun j => ?_
  rw [key, key]
  by_cases hj : j ∈ vs
  · rw [if_pos hj, if_pos hj]
    cases env[j]? <;> rfl
  · rw [if_neg hj, if_neg hj]
section
variable {X : Cx} {W : XW} {elt tg iter tg1 iter1 tg2 iter2 : Expr} {ifs ifs1 ifs2 : List Expr} {scope : Scope} {own : List (Str × Nat)} {pos : Pos} {fi fi1 fi2 : Fl} {t t1 t2 : T} {ft ft1 ft2 : Fb} {fe : Fe} {vs1 vs2 : List Nat}
abbrev rd3 (K : PySem.W.Frag) (t t1 t2 : T) (ft ft1 ft2 : Fb) (fi1 fi2 : Fl) (fe : Fe) (vs vs1 vs2 : List Nat) (D : Addr) : Rd :=
  rdOut (tG K t) (tB' K W0 ft) (tI K W0 fi1) (rdOut (tG K t1) (tB' K W0 ft1) (tI K W0 fi2) (rdIn D (tG K t2) (tB' K W0 ft2) (tE K W0 fe) vs2) vs1) vs
abbrev lc3F (c : Bool) (fi fi1 fi2 : Fl) (t t1 t2 : T) (ft ft1 ft2 : Fb) (fe : Fe) (vs vs1 vs2 : List Nat) : Fe := lcG c fi (twoF t ft fi1 vs1 (twoF t1 ft1 fi2 vs2 (oneF t2 ft2 fe))) vs
theorem lc3_read (c : Bool) (h0 : ∀ i ∈ slots t, i ∈ own.map (·.2)) (h1 : ∀ i ∈ slots t1, i ∈ vs1) (h2 : ∀ i ∈ slots t2, i ∈ vs2) : ∀ σ H Q, tE X.K W (lc3F c fi fi1 fi2 t t1 t2 ft ft1 ft2 fe (own.map (·.2)) vs1 vs2) σ H Q → tLc3 (tI X.K W fi) (rd3 X.K t t1 t2 ft ft1 ft2 fi1 fi2 fe (own.map (·.2)) vs1 vs2) (own.map (·.2)) σ H Q := by
  intro σ H Q ⟨ρ, env, st, er, sr, p⟩
  refine ⟨ρ, env, st, er, sr, ?_⟩
  unfold lc3F lcG at p
  cases q : fi env st with
  | exc x st' => rw [q] at p; exact p
  | bad => rw [q] at p; exact p.elim
  | ok xs st1 =>
    rw [q] at p
    change PostE X.K (W σ) ρ H ((lcItems (twoF t ft fi1 vs1 (twoF t1 ft1 fi2 vs2 (oneF t2 ft2 fe))) xs (wipeE env (own.map (·.2))) st1).calm.bind _) Q at p
    cases q2 : lcItems (twoF t ft fi1 vs1 (twoF t1 ft1 fi2 vs2 (oneF t2 ft2 fe))) xs (wipeE env (own.map (·.2))) st1 with
    | exc x st' => rw [q2] at p; exact p.elim
    | bad => rw [q2] at p; exact p.elim
    | ok total stF =>
      rw [q2] at p
      change PostE X.K (W σ) ρ H (if total.length ≤ seqMax then asCell c total stF else .bad) Q at p
      split at p
      · rename_i hz
        intro J ρ1 H1 e1 s1 wk D hD
        refine rd_out_ok (K := X.K) (ρ := ρ1) (H := H1) (p := D) hD h0 (rd_out_ok hD h1 (rd_in_ok hD h2)) J xs ρ1 (upd H1 D (.lst [])) st1 [] total stF (wipeE env (own.map (·.2))) _ _ (wk.mv (.grip hD)) (.start s1 hD) (((er.ext e1).move (.grip hD)).wipe _) (by rw [wipeE_wipeE]; exact q2) hz fun ρ3 H3 l3 _ => ?_
        exact l3.fin s1 hD e1 p
      · exact p.elim
theorem x_lc3 (c : Bool) (hc : X.calm = true) (hN : X.N.Nodup) (hi : Pi' X W tg iter fi) (ok : BlkOk X.N X.env.scope scope own) (hv0 : ∀ i ∈ slots t, i ∈ own.map (·.2)) (hv1 : ∀ i ∈ slots t1, i ∈ vs1) (hv2 : ∀ i ∈ slots t2, i ∈ vs2) (hs1 : ∀ i ∈ vs1, i ∈ own.map (·.2)) (hs2 : ∀ i ∈ vs2, i ∈ vs1)
    (hg : ∀ (s : Shared) (H : Hp) (C : Addr) (cl : List (Str × Addr)) (fp : List Addr), PG (X.blk s H scope (compEnvC scope cl C X.env) fp) tg (tG X.K t)) (ht : ∀ (s : Shared) (H : Hp) (C : Addr) (cl : List (Str × Addr)) (fp : List Addr), PTs (X.blk s H scope (compEnvC scope cl C X.env) fp) ifs (tB' X.K W0 ft))
    (hi1 : ∀ (s : Shared) (H : Hp) (C : Addr) (cl : List (Str × Addr)) (fp : List Addr), Pi' (X.blk s H scope (compEnvC scope cl C X.env) fp) W0 tg1 iter1 fi1)
    (hg1 : ∀ (s : Shared) (H : Hp) (C : Addr) (cl : List (Str × Addr)) (fp : List Addr), PG (X.blk s H scope (compEnvC scope cl C X.env) fp) tg1 (tG X.K t1)) (ht1 : ∀ (s : Shared) (H : Hp) (C : Addr) (cl : List (Str × Addr)) (fp : List Addr), PTs (X.blk s H scope (compEnvC scope cl C X.env) fp) ifs1 (tB' X.K W0 ft1))
    (hi2 : ∀ (s : Shared) (H : Hp) (C : Addr) (cl : List (Str × Addr)) (fp : List Addr), Pi' (X.blk s H scope (compEnvC scope cl C X.env) fp) W0 tg2 iter2 fi2)
    (hg2 : ∀ (s : Shared) (H : Hp) (C : Addr) (cl : List (Str × Addr)) (fp : List Addr), PG (X.blk s H scope (compEnvC scope cl C X.env) fp) tg2 (tG X.K t2)) (ht2 : ∀ (s : Shared) (H : Hp) (C : Addr) (cl : List (Str × Addr)) (fp : List Addr), PTs (X.blk s H scope (compEnvC scope cl C X.env) fp) ifs2 (tB' X.K W0 ft2))
    (he : ∀ (s : Shared) (H : Hp) (C : Addr) (cl : List (Str × Addr)) (fp : List Addr), Pe (X.blk s H scope (compEnvC scope cl C X.env) fp) W0 elt fe) (hf0 : ∀ x, foldedSetIterable iter X.env x = pure x) (hf1 : ∀ env x, foldedSetIterable iter1 env x = pure x) (hf2 : ∀ env x, foldedSetIterable iter2 env x = pure x) :
    Pe X W (e3 elt tg iter tg1 iter1 tg2 iter2 ifs ifs1 ifs2 scope pos) (lc3F c fi fi1 fi2 t t1 t2 ft ft1 ft2 fe (own.map (·.2)) vs1 vs2) ∧
    ∀ (i : Nat) (y : Str) (py spos : Pos), X.N[i]? = some y → X.env.scope.names.lookup y = some .local → swapsWith (e3 elt tg iter tg1 iter1 tg2 iter2 ifs ifs1 ifs2 scope pos) (some (.Name y py)) spos.line X.env = pure true →
      PS X (.Assign [.Name y py] (e3 elt tg iter tg1 iter1 tg2 iter2 ifs ifs1 ifs2 scope pos) spos) (tAsg (tE X.K W (lc3F c fi fi1 fi2 t t1 t2 ft ft1 ft2 fe (own.map (·.2)) vs1 vs2)) (gName i)) := by
  have L : ∀ (s : Shared) (H : Hp) (C : Addr) (cl : List (Str × Addr)) (fp : List Addr) (D : Addr), LoopOk X s H scope (compEnvC scope cl C X.env) fp D (e3 elt tg iter tg1 iter1 tg2 iter2 ifs ifs1 ifs2 scope pos) 0 tg (own.map (·.2)) (rd3 X.K t t1 t2 ft ft1 ft2 fi1 fi2 fe (own.map (·.2)) vs1 vs2 D) :=
    fun s H C cl fp D => loop_next hc out0 (hf1 _) hs1 start1 (hg s H C cl fp) (ht s H C cl fp) (hi1 s H C cl fp) (loop_next hc out1 (hf2 _) hs2 start2 (hg1 s H C cl fp) (ht1 s H C cl fp) (hi2 s H C cl fp) (loop_last hc in2 (hg2 s H C cl fp) (ht2 s H C cl fp) (he s H C cl fp)))
  exact ⟨PE.mono (pe_lc3 hc hN hi ok L hf0) (lc3_read c hv0 hv1 hv2), fun i y py spos hy hyl hsw => PS.mono (ps_setLc3 hc hN hy hyl hsw hi ok L hf0) fun D σ H q => lc3_read c hv0 hv1 hv2 σ H _ q⟩
end
end Ev

set_option Elab.async false
set_option linter.all false
set_option maxRecDepth 100000
set_option maxHeartbeats 2000000
/-! dict comprehensions with one or two generators -/
namespace Ev
open PySem PySem.Spec PyProof.Rows L2
variable [TabsOf]
abbrev d1 (kx vx t0 i0 : Expr) (f0 : List Expr) (scope : Scope) (pos : Pos) : Expr := .DictComp kx vx [⟨t0, i0, f0, 0⟩] scope pos
abbrev d2 (kx vx t0 i0 t1 i1 : Expr) (f0 f1 : List Expr) (scope : Scope) (pos : Pos) : Expr := .DictComp kx vx [⟨t0, i0, f0, 0⟩, ⟨t1, i1, f1, 0⟩] scope pos
def InD (e : Expr) (k : Nat) (t i : Expr) (ifs : List Expr) (kx vx : Expr) (kp : Pos) : Prop := TreeC e ∧ ∀ (it : Value) (D : Addr) (env : PySem.Env), compTurn e k it (.ref D) env = (do
  standAt i.pos
  match ← pyNext it with
  | none => pure (.done .next)
  | some v =>
    letOwnedTupleGo t it v
    assign t env v
    let mut ok := true
    for c in ifs do
      if ok then ok ← isTrue c env (eval c env)
    if ok then
      (do
        let kv ← eval kx env
        let vv ← holding [kv] (eval vx env)
        standAt kp
        holding [kv, vv] (dictSet D kv vv))
    again (.compLoop e k it (.ref D) env))
section
variable {kx vx t0 i0 t1 i1 : Expr} {f0 f1 : List Expr} {scope : Scope} {pos : Pos}
theorem d1_in0 : InD (d1 kx vx t0 i0 f0 scope pos) 0 t0 i0 f0 kx vx { kx.pos with endLine := vx.pos.endLine, endCol := vx.pos.endCol } := ⟨⟨fun _ _ _ _ _ => rfl, fun _ _ _ _ _ _ => rfl⟩, fun _ _ _ => rfl⟩
theorem d2_out0 : OutAt (d2 kx vx t0 i0 t1 i1 f0 f1 scope pos) 0 t0 i0 f0 i1 := ⟨⟨fun _ _ _ _ _ => rfl, fun _ _ _ _ _ _ => rfl⟩, fun _ _ _ => rfl⟩
theorem d2_in1 : InD (d2 kx vx t0 i0 t1 i1 f0 f1 scope pos) 1 t1 i1 f1 kx vx { kx.pos with endLine := vx.pos.endLine, endCol := vx.pos.endCol } := ⟨⟨fun _ _ _ _ _ => rfl, fun _ _ _ _ _ _ => rfl⟩, fun _ _ _ => rfl⟩
end
section
variable {prog : Program} {w : World} {A : Around} {R : Result → Shared → Prop} {s : Shared} {e kx vx t i : Expr} {ifs : List Expr} {k : Nat} {it : Value} {D : Addr} {env : PySem.Env} {kp : Pos}
theorem loop_inD (O : InD e k t i ifs kx vx kp) (I : Nat → Shared → Prop)
    (turn : ∀ n s, I n s → wpAny (model prog w) A (pyNext it) (fun r s₁ => match r with
      | none => R (.ok .next) s₁
      | some v => wpAny (model prog w) A (letOwnedTupleGo t it v) (fun _ sa => wpAny (model prog w) A (assign t env v) (fun _ s₂ =>
          wpAny (model prog w) A (forIn ifs true fun c r => if r = true then do let ok ← isTrue c env (eval c env); pure (ForInStep.yield ok) else pure (ForInStep.yield r)) (fun ok s₃ =>
            if ok = true then wpAny (model prog w) A (eval kx env) (fun x s₄ => wpAny (model prog w) A (eval vx env) (fun y s₅ => wpAny (model prog w) A (dictSet D x y) (fun _ s₆ => ∃ m, m < n ∧ I m s₆) (nb prog w A env R) s₅) (nb prog w A env R) s₄) (nb prog w A env R) s₃
            else ∃ m, m < n ∧ I m s₃) (nb prog w A env R) s₂) (nb prog w A env R) sa) (nb prog w A env R) s₁) (nb prog w A env R) s)
    (n : Nat) (h : I n s) : codeAny (model prog w) A (.compLoop e k it (.ref D) env) R s := by
  refine codeAny_loop rfl I (fun n s hI => ?_) n h
  rw [O.1.und, O.1.den]
  refine wpAny_noted ?_
  rw [O.2 it D env]
  refine wpAny_bind (wpAny_standAt (wpAny_bind (wpAny_mono (turn n s hI) (fun r sb hb => ?_) fun _ _ z => z)))
  cases r with
  | none => exact wpAny_pure hb
  | some v =>
    refine wpAny_bind (wpAny_mono hb (fun _ sc hc => wpAny_bind (wpAny_mono hc (fun _ sd hd => wpAny_bind (wpAny_mono hd (fun ok se he => ?_) fun _ _ z => z)) fun _ _ z => z)) fun _ _ z => z)
    cases ok with
    | false => exact wpAny_pure ⟨rfl, he⟩
    | true => exact wpAny_bind (wpAny_bind (wpAny_mono he (fun x sf hf => wpAny_bind (wpAny_holding (wpAny_mono hf (fun y sg hg => wpAny_bind (wpAny_standAt (wpAny_holding (wpAny_mono hg (fun _ sh hh => wpAny_pure ⟨rfl, hh⟩) fun _ _ z => z)))) fun _ _ z => z))) fun _ _ z => z))
end
section
variable {prog : Program} {w : World} {A : Around} {R : Result → Shared → Prop} {s : Shared} {kx vx t0 i0 t1 i1 : Expr} {f0 f1 : List Expr} {scope : Scope} {pos : Pos} {it acc : Value} {env : PySem.Env}
theorem d2_start1 (h0 : codeAny (model prog w) A (.compLoop (d2 kx vx t0 i0 t1 i1 f0 f1 scope pos) 1 it acc env) R s)
    (h : wpAny (model prog w) A (pyIter it) (fun it' s' => codeAny (model prog w) A (.compLoop (d2 kx vx t0 i0 t1 i1 f0 f1 scope pos) 1 it' acc env) R s') (nb prog w A env R) s) : codeAny (model prog w) A (.compStart (d2 kx vx t0 i0 t1 i1 f0 f1 scope pos) 1 it acc env) R s := by
  refine codeAny_of_tree ?_
  show wpAny _ _ ((compStart _ _ it acc env).onRaise (fun x => do noteFrame x env; standAt theWindowsPlace)) _ _ s
  refine wpAny_notedAt ?_; unfold compStart
  show wpAny _ _ (ask >>= _) _ _ s
  refine wpAny_bind (wpAny_askSetting (wpAny_ite ?_)); split
  · first
      | exact wpAny_bind (wpAny_pure (wpAny_pure (And.intro rfl h0)))
      | exact wpAny_pure (And.intro rfl h0)
  · first
      | exact wpAny_bind (wpAny_rule (wpAny_bind (wpAny_standAt (wpAny_bind (wpAny_mono h (fun it' s' h' => wpAny_pure (And.intro rfl h')) fun _ _ x => x)))))
      | (refine wpAny_bind (wpAny_rule ?_); show wpAny _ _ (standAt (Expr.pos i1) >>= _) _ _ s; exact wpAny_bind (wpAny_standAt (wpAny_bind (wpAny_mono h (fun it' s' h' => wpAny_pure (And.intro rfl h')) fun _ _ x => x))))
end
/-- a pair put into the dict at D -/
def putD (K : PySem.W.Frag) (D : Addr) (y z : V) (H : Hp) (N : Hp → Prop) : Prop :=
  ∃ ρ o ks vs kv vv kd vd, DictAt H D o ∧ DicO o ks kv vv ∧ Rps K ρ H ks kv ∧ Rps K ρ H vs vv ∧ Rp K ρ H kd y ∧ Rp K ρ H vd z ∧ kindOk kd ks = true ∧ ks.length < seqMax ∧
    ∀ o' kv' vv', DictAt (upd H D (DX D o')) D o' → DicO o' (dputK ks vs kd) kv' vv' → Rps K ρ H (dputK ks vs kd) kv' → Rps K ρ H (dputV ks vs kd vd) vv' → N (upd H D (DX D o'))
def rdInD (K : PySem.W.Frag) (D : Addr) (g : TG) (tt : TT) (tk tv : TE) (vs : List Nat) : Rd := fun J σ H Nx => rdW J H Nx fun _ x H' N1 => g x (wipe σ vs) H' fun σ3 H5 => wipe σ3 vs = wipe σ vs ∧ tt σ3 H5 fun b H6 =>
  if b = true then tk σ3 H6 fun y H7 => tv σ3 H7 fun z H8 => putD K D y z H8 N1 else N1 H6
section
variable {X : Cx} {s0 : Shared} {H0 : Hp} {scope : Scope} {ce : PySem.Env} {fp0 : List Addr} {D : Addr} {e kx vx t i : Expr} {ifs : List Expr} {k : Nat} {vs : List Nat} {g : TG} {tt : TT} {tk tv : TE} {kp : Pos}
theorem loop_lastD (hc : X.calm = true) (hu : X.A.units + 9 < cLine) (O : InD e k t i ifs kx vx kp) (pg : PG (X.blk s0 H0 scope ce fp0) t g) (pt : PTs (X.blk s0 H0 scope ce fp0) ifs tt) (pk : PE (X.blk s0 H0 scope ce fp0) kx tk) (pv : PE (X.blk s0 H0 scope ce fp0) vx tv) :
    LoopOk X s0 H0 scope ce fp0 D e k t vs (rdInD X.K D g tt tk tv vs) := by
  intro pins σ H s it fp tn J Nx I T st f ⟨W, ⟨m0, w0⟩, turn⟩
  have stat : ∀ {H' : Hp}, (∀ b ∈ fp, H' b = none) → ∀ b ∈ fp, FpOk (X.blk s0 H0 scope ce fp0) pins H' b := fun hn b hb => ⟨hn b hb, (f b hb).2⟩
  refine loop_inD O (fun n s' => ∃ i H', Inv (X.blk s0 H0 scope ce fp0) pins (wipe σ vs) H' s' ∧ tn i s'.heap ∧ (∀ b ∈ fp, H' b = none) ∧ W i n H') ?_ m0 ⟨0, H, I.weak (wipe_length _ _) (fun j v e => (wipe_some e).1), st, fun b hb => (f b hb).1, w0⟩
  rintro n sa ⟨q, Ha, Ia, sta, na, wa⟩
  rcases turn q n Ha wa with ⟨stop, nx⟩ | ⟨go, N1, hN, step⟩
  · refine thnF (T.done (X.blk s0 H0 scope ce fp0) rfl rfl rfl hc q _ sa _ Ha (fun _ _ => False) Ia (stat na) sta stop) fun r sb ⟨hr, Ib⟩ => ?_
    subst hr
    exact ⟨rfl, Ha, Ib, nx⟩
  · refine thnF (T.item (X.blk s0 H0 scope ce fp0) rfl rfl rfl hc q _ sa _ Ha (fun _ _ => False) Ia (stat na) sta go) fun r sb ⟨u, hr, hb⟩ => ?_
    subst hr
    refine thnF hb fun _ sc ⟨x, Hc, Ic, rc, yc, stc, nc⟩ => ?_
    have Ic' := Ic.pinned (stat nc) (T.obj _ _ stc)
    refine thnF (pg.run _ sc _ Hc x u _ Ic' rc (step x Hc yc)) fun _ sd ⟨σd, Hd, Id, hwd, qd⟩ => thnF (pt.run _ sd σd Hd _ Id qd) fun b se ⟨He, Ie, qe⟩ => ?_
    have again : ∀ {s' : Shared} {H' : Hp}, Inv (X.blk s0 H0 scope ce fp0) (pins ++ pinsAt fp sc.heap) σd H' s' → N1 H' → ∃ m, m < n ∧ ∃ i H', Inv (X.blk s0 H0 scope ce fp0) pins (wipe σ vs) H' s' ∧ tn i s'.heap ∧ (∀ b ∈ fp, H' b = none) ∧ W i m H' := fun {s' H'} I' nx => by
      obtain ⟨m', hm, w'⟩ := hN H' nx
      have pin' : ∀ b ∈ fp, ∀ o, sc.heap.get? b = some o → s'.heap.get? b = some o ∧ H' b = none := fun b hb o e =>
        let z := I'.pin (b, o) (List.mem_append_right _ (List.mem_append_right _ (mem_pinsAt hb e)))
        ⟨z.1, z.2.1⟩
      refine ⟨m', hm, q + 1, H', I'.unpinned.weak (by rw [← hwd, wipe_length]) (fun j v e => by rw [← hwd] at e; exact (wipe_some e).1), T.keep _ _ _ stc fun b hb o e => (pin' b hb o e).1, fun b hb => ?_, w'⟩
      obtain ⟨o, e, _⟩ := T.obj _ _ stc b hb
      exact (pin' b hb o e).2
    cases b with
    | false =>
      simp only [Bool.false_eq_true, if_false] at qe ⊢
      exact again Ie qe
    | true =>
      simp only [if_true] at qe ⊢
      exact thnF (pk.run _ se σd He _ Ie qe) fun y sf ⟨yv, Hf, If, rf, qf⟩ => thnF (pv.run _ sf σd Hf _ If qf) fun z sg ⟨zv, Hg, Ig, rg, ρ, o, ks, vs', kv, vv, kd, vd, h1, h2, h3, h4, h5, h6, h7, h8, nx⟩ =>
        dd_dictSet (X := X.blk s0 H0 scope ce fp0) hu Ig h1 h2 h3 h4 h5 rf h7 h8 h6 rg fun o' kv' vv' s' I' g1 g2 g3 g4 => again I' (nx o' kv' vv' g1 g2 g3 g4)
end
/-! ### what the evaluator's walk gives, for any state that is kept -/
section
variable {K : PySem.W.Frag} {p : Addr}
abbrev Stt := Rho → Hp → Store → List D → Prop
structure SttOk (K : PySem.W.Frag) (p : Addr) (S : Stt) : Prop where
  st : ∀ {ρ1 H1 st1 ys}, S ρ1 H1 st1 ys → StR K (ρ1.grip p) H1 st1
  go : ∀ {ρ1 H1 st1 ys ρ2 H2 st2}, S ρ1 H1 st1 ys → Ext (ρ1.grip p) H1 ρ2 H2 → StR K ρ2 H2 st2 → ∃ ρ3, ρ2 = Rho.grip ρ3 p ∧ S ρ3 H2 st2 ys
def RdS (K : PySem.W.Frag) (p : Addr) (S : Stt) (Tot : List D → Prop) (one : D → Env → Store → R (List D)) (vs : List Nat) (rn : Rd) : Prop :=
  ∀ (J : It) (xs : List D) (ρ1 : Rho) (H1 : Hp) (st1 : Store) (ys zs : List D) (stF : Store) (env : Env) (σ : L2.St) (Nx : Hp → Prop), Wk K J (ρ1.grip p) H1 xs → S ρ1 H1 st1 ys → EnvR K (ρ1.grip p) H1 env σ →
    lcItems one xs (wipeE env vs) st1 = .ok zs stF → Tot (ys ++ zs) → (∀ ρ3 H3, S ρ3 H3 stF (ys ++ zs) → Move (ρ1.grip p) H1 (ρ3.grip p) H3 → Nx H3) → rn J σ H1 Nx
def rdInvS (S : Stt) (p : Addr) (ρ1 : Rho) (H1 : Hp) (one : D → Env → Store → R (List D)) (xs : List D) (env : Env) (stF : Store) (total : List D) (j : Nat) (H' : Hp) : Prop :=
  ∃ ρ2 st2 ys2 zs2, S ρ2 H' st2 ys2 ∧ Move (ρ1.grip p) H1 (ρ2.grip p) H' ∧ lcItems one (xs.drop j) env st2 = .ok zs2 stF ∧ ys2 ++ zs2 = total
theorem rd_walkS {S : Stt} {J : It} {xs : List D} {ρ1 : Rho} {H1 : Hp} {st1 stF : Store} {ys zs : List D} {env : Env} {one : D → Env → Store → R (List D)} {Nx : Hp → Prop} {turn : Nat → V → Hp → (Hp → Prop) → Prop} (wk : Wk K J (ρ1.grip p) H1 xs) (l : S ρ1 H1 st1 ys)
    (hl : lcItems one xs env st1 = .ok zs stF) (next : ∀ ρ3 H3, S ρ3 H3 stF (ys ++ zs) → Move (ρ1.grip p) H1 (ρ3.grip p) H3 → Nx H3)
    (ht : ∀ j (hj : j < xs.length) x H2 H' ρ2 st2 ys2 y st3 zs2, S ρ2 H2 st2 ys2 → Move (ρ1.grip p) H1 (ρ2.grip p) H2 → one xs[j] env st2 = .ok y st3 → ys2 ++ (y ++ zs2) = ys ++ zs → lcItems one (xs.drop (j + 1)) env st3 = .ok zs2 stF → J.yld j H2 x H' →
      turn j x H' (rdInvS S p ρ1 H1 one xs env stF (ys ++ zs) (j + 1))) : rdW J H1 Nx turn := by
  refine ⟨fun j k H' => k = xs.length - j ∧ j ≤ xs.length ∧ rdInvS S p ρ1 H1 one xs env stF (ys ++ zs) j H', ⟨xs.length, by simp, Nat.zero_le _, ρ1, st1, ys, zs, l, ⟨fun a o h _ n => ⟨h, n⟩, Nat.le_refl _, fun _ _ => .inl rfl⟩, by rw [List.drop_zero]; exact hl, rfl⟩, ?_⟩
  rintro j k H2 ⟨rfl, hj, ρ2, st2, ys2, zs2, l2, mv2, hr, he⟩
  by_cases hlt : j < xs.length
  · have hd : xs[j]? = some xs[j] := List.getElem?_eq_some_iff.mpr ⟨hlt, rfl⟩
    obtain ⟨y, st3, zs3, h1, h2, rfl⟩ := lcItems_drop hd hr
    exact .inr ⟨wk.go j _ H2 hlt mv2, rdInvS S p ρ1 H1 one xs env stF (ys ++ zs) (j + 1), fun H' q => ⟨xs.length - (j + 1), by omega, rfl, hlt, q⟩, fun x H' yl => ht j hlt x H2 H' ρ2 st2 ys2 y st3 zs3 l2 mv2 h1 he h2 yl⟩
  · have e : j = xs.length := by omega
    subst e
    rw [List.drop_length] at hr
    cases hr
    rw [List.append_nil] at he
    subst he
    exact .inl ⟨wk.stop _ H2 mv2, next ρ2 H2 l2 mv2⟩
variable {t : T} {ft : Fb} {fk fv : Fe} {fi : Fl} {vs vs1 : List Nat} {S : Stt} {Tot : List D → Prop}
theorem rd_outS {one : D → Env → Store → R (List D)} {rn : Rd} (hS : SttOk K p S) (hsl : ∀ i ∈ slots t, i ∈ vs) (hT : ∀ a b, Tot (a ++ b) → Tot a) (hn : RdS K p S Tot one vs1 rn) : RdS K p S Tot (twoF t ft fi vs1 one) vs (rdOut (tG K t) (tB' K W0 ft) (tI K W0 fi) rn vs) := by
  intro J xs ρ1 H1 st1 ys zs stF env σ Nx wk l er hl hz next
  refine rd_walkS wk l hl next fun j hj x H2 H' ρ2 st2 ys2 y st3 zs2 l2 mv2 h1 he h2 yl => ?_
  have hd : xs[j]? = some xs[j] := List.getElem?_eq_some_iff.mpr ⟨hj, rfl⟩
  obtain ⟨env1, b, st4, hb, hft, hr⟩ := two_ok' h1
  obtain ⟨ex, s2, rx⟩ := wk.yld j _ (ρ2.grip p) H2 st2 x H' hd mv2 (hS.st l2) yl
  obtain ⟨ρ3, e3, l3⟩ := hS.go l2 ex s2
  have e3' : ρ3 = ρ2 := by
    obtain ⟨a, b⟩ := ρ2; obtain ⟨a', b'⟩ := ρ3
    cases e3; rfl
  subst e3'
  refine ⟨ρ3.grip p, xs[j], wipeE env vs, st2, env1, ((er.move mv2).wipe vs).ext ex, s2, rx, hb, fun σ1 er1 hw => ⟨(hw vs hsl).trans wipe_wipe, ρ3.grip p, env1, st2, er1, s2, ?_⟩⟩
  rw [hft]
  intro ρ4' H4 e4 s4
  obtain ⟨ρ4, rfl, l4⟩ := hS.go l3 e4 s4
  have mv4 := (mv2.trans ex.move).trans e4.move
  rcases hr with ⟨rfl, xs1, st5, hfi, hone⟩ | ⟨rfl, rfl, rfl⟩
  · rw [if_pos rfl]
    refine ⟨ρ4.grip p, env1, st4, er1.ext e4, s4, ?_⟩
    rw [hfi]
    intro J1 ρ5' H5 e5 s5 wk5
    obtain ⟨ρ5, rfl, l5⟩ := hS.go l4 e5 s5
    exact hn J1 xs1 ρ5 H5 st5 ys2 y st3 env1 _ _ wk5 l5 ((er1.ext e4).ext e5) hone (hT _ zs2 (by rw [List.append_assoc, he]; exact hz))
      fun ρ6 H6 l6 m6 => ⟨ρ6, st3, ys2 ++ y, zs2, l6, (mv4.trans e5.move).trans m6, h2, by rw [← he]; simp⟩
  · rw [if_neg Bool.false_ne_true]
    exact ⟨ρ4, st3, ys2, zs2, l4, mv4, h2, by rw [← he]; simp⟩
end
/-! ### the dict under way -/
theorem dfold_app : ∀ (a b ks vs : List D), dfold (a ++ b) ks vs = (dfold a ks vs).bind fun q => dfold b q.1 q.2
  | [], b, ks, vs => rfl
  | .tup [k, v] :: a, b, ks, vs => by
    show (if _ then _ else _) = (if _ then _ else _ : Option _).bind _
    split
    · exact dfold_app a b _ _
    · rfl
  | .non :: _, _, _, _ => rfl
  | .bl _ :: _, _, _, _ => rfl
  | .int _ :: _, _, _, _ => rfl
  | .str _ :: _, _, _, _ => rfl
  | .lst _ :: _, _, _, _ => rfl
  | .ref _ :: _, _, _, _ => rfl
  | .rng _ _ :: _, _, _, _ => rfl
  | .scr _ :: _, _, _, _ => rfl
  | .fn _ :: _, _, _, _ => rfl
  | .dic _ _ :: _, _, _, _ => rfl
  | .tup [] :: _, _, _, _ => rfl
  | .tup [_] :: _, _, _, _ => rfl
  | .tup (_ :: _ :: _ :: _) :: _, _, _, _ => rfl
def TotD (l : List D) : Prop := (dfold l [] []).isSome = true
theorem totD_pre (a b : List D) (h : TotD (a ++ b)) : TotD a := by
  unfold TotD at *
  rw [dfold_app] at h
  cases q : dfold a [] [] with
  | none => rw [q] at h; cases h
  | some q => rfl
structure DS (K : PySem.W.Frag) (ρ : Rho) (H : Hp) (p : Addr) (ρ1 : Rho) (H1 : Hp) (st1 : Store) (ys : List D) : Prop where
  ext : Ext ρ H ρ1 H1
  st : StR K (ρ1.grip p) H1 st1
  at' : ∃ o ks vs kv vv, dfold ys [] [] = some (ks, vs) ∧ DictAt H1 p o ∧ DicO o ks kv vv ∧ Rps K (ρ1.grip p) H1 ks kv ∧ Rps K (ρ1.grip p) H1 vs vv
theorem StR.gripD {K : PySem.W.Frag} {ρ : Rho} {H : Hp} {st : Store} {p : Addr} {o : Obj} (r : StR K ρ H st) (h : H p = none) (d : DictAt (upd H p (DX p o)) p o) : StR K (ρ.grip p) (upd H p (DX p o)) st := by
  refine ⟨r.len, fun k a hk => ?_, r.inj, r.back, fun a ha => ?_, tabs_upd r.tabs (.inl h)⟩
  · obtain ⟨c, h1, h2⟩ := r.cell k a hk
    exact ⟨c, h1, h2.to (fun o q _ => by rw [upd_ne (ne_of_none q h)]; exact q) (.grip h)⟩
  · rcases List.mem_cons.mp ha with z | z
    · subst z
      exact ⟨.inr ⟨o, d⟩, (r.free h).1⟩
    · obtain ⟨q1, q2⟩ := r.hold a z
      exact ⟨q1.same fun o q _ => by rw [upd_ne (ne_of_none q h)]; exact q, q2⟩
theorem StR.putD {K : PySem.W.Frag} {ρ : Rho} {H : Hp} {st : Store} {p : Addr} {o : Obj} (r : StR K ρ H st) (hp : p ∈ ρ.held) (d : DictAt (upd H p (DX p o)) p o) : StR K ρ (upd H p (DX p o)) st := by
  refine ⟨r.len, fun k a hk => ?_, r.inj, r.back, fun a ha => ?_, tabs_upd r.tabs (.inr (r.hold p hp).1)⟩
  · obtain ⟨c, h1, h2⟩ := r.cell k a hk
    have np : a ≠ p := fun z => (r.hold p hp).2 (by rw [← z]; exact List.mem_of_getElem? hk)
    exact ⟨c, h1, h2.to (fun o q _ => by rw [upd_ne np]; exact q) (.put hp)⟩
  · by_cases z : a = p
    · subst z
      exact ⟨.inr ⟨o, d⟩, (r.hold _ hp).2⟩
    · obtain ⟨q1, q2⟩ := r.hold a ha
      exact ⟨q1.same fun o q _ => by rw [upd_ne z]; exact q, q2⟩
section
variable {K : PySem.W.Frag} {ρ ρ1 ρ2 : Rho} {H H1 H2 : Hp} {p : Addr} {st1 st2 : Store} {ys : List D}
theorem DS.start {st : Store} (s : StR K ρ H st) (h : H p = none) (d : DictAt (upd H p (DX p emptyD)) p emptyD) : DS K ρ H p ρ (upd H p (DX p emptyD)) st [] :=
  ⟨(Ext.refl ρ H).over h, s.gripD h d, emptyD, [], [], [], [], rfl, d, dic_empty, rfl, rfl⟩
theorem ds_ok : SttOk K p (DS K ρ H p) where
  st := fun l => l.st
  go := fun {ρ1 H1 st1 ys ρ2 H2 st2} l e s => by
    obtain ⟨c, hd⟩ := ρ2
    have hh : hd = p :: ρ1.held := e.held
    subst hh
    refine ⟨⟨c, ρ1.held⟩, rfl, ⟨l.ext.trans (Ext.ungrip (ρ' := ⟨c, ρ1.held⟩) e), s, ?_⟩⟩
    obtain ⟨o, ks, vs, kv, vv, h1, h2, h3, h4, h5⟩ := l.at'
    exact ⟨o, ks, vs, kv, vv, h1, ⟨e.keep p _ h2.1 (.ext _) (l.st.hold p List.mem_cons_self).2, h2.2⟩, h3, h4.ext e _ _, h5.ext e _ _⟩
variable {t : T} {ft : Fb} {fk fv : Fe} {vs : List Nat}
theorem rd_inD (hp : H p = none) (hsl : ∀ i ∈ slots t, i ∈ vs) : RdS K p (DS K ρ H p) TotD (oneF t ft (pairF fk fv)) vs (rdInD K p (tG K t) (tB' K W0 ft) (tE K W0 fk) (tE K W0 fv) vs) := by
  intro J xs ρ1 H1 st1 ys zs stF env σ Nx wk l er hl hz next
  refine rd_walkS wk l hl next fun j hj x H2 H' ρ2 st2 ys2 y st3 zs2 l2 mv2 h1 he h2 yl => ?_
  have hd : xs[j]? = some xs[j] := List.getElem?_eq_some_iff.mpr ⟨hj, rfl⟩
  obtain ⟨env1, b, st4, hb, hft, hr⟩ := one_ok h1
  obtain ⟨ex, s2, rx⟩ := wk.yld j _ (ρ2.grip p) H2 st2 x H' hd mv2 l2.st yl
  obtain ⟨ρ3, e3, l3⟩ := ds_ok.go l2 ex s2
  have e3' : ρ3 = ρ2 := by
    obtain ⟨a, b⟩ := ρ2; obtain ⟨a', b'⟩ := ρ3
    cases e3; rfl
  subst e3'
  refine ⟨ρ3.grip p, xs[j], wipeE env vs, st2, env1, ((er.move mv2).wipe vs).ext ex, s2, rx, hb, fun σ1 er1 hw => ⟨(hw vs hsl).trans wipe_wipe, ρ3.grip p, env1, st2, er1, s2, ?_⟩⟩
  rw [hft]
  intro ρ4' H4 e4 s4
  obtain ⟨ρ4, rfl, l4⟩ := ds_ok.go l3 e4 s4
  have mv4 := (mv2.trans ex.move).trans e4.move
  rcases hr with ⟨rfl, y', hfe, rfl⟩ | ⟨rfl, rfl, rfl⟩
  · rw [if_pos rfl]
    unfold pairF at hfe
    obtain ⟨kd, st5, hk, hfe⟩ := bind_ok hfe
    obtain ⟨vd, st6, hv, hfe⟩ := bind_ok hfe
    cases hfe
    refine ⟨ρ4.grip p, env1, st4, er1.ext e4, s4, ?_⟩
    rw [hk]
    intro kx ρ5' H5 e5 s5 r5
    obtain ⟨ρ5, rfl, l5⟩ := ds_ok.go l4 e5 s5
    refine ⟨ρ5.grip p, env1, st5, (er1.ext e4).ext e5, s5, ?_⟩
    rw [hv]
    intro vx ρ6' H6 e6 s6 r6
    obtain ⟨ρ6, rfl, l6⟩ := ds_ok.go l5 e6 s6
    obtain ⟨o, ks, vs', kv, vv, g1, g2, g3, g4, g5⟩ := l6.at'
    have hz' : TotD (ys2 ++ [.tup [kd, vd]]) := totD_pre _ zs2 (by rw [List.append_assoc, he]; exact hz)
    have hq : dfold (ys2 ++ [.tup [kd, vd]]) [] [] = dfold [.tup [kd, vd]] ks vs' := by rw [dfold_app, g1]; rfl
    have hk2 : kindOk kd ks = true ∧ ks.length < seqMax := by
      unfold TotD at hz'
      rw [hq] at hz'
      by_cases c : kindOk kd ks = true ∧ ks.length < seqMax
      · exact c
      · unfold dfold at hz'
        rw [if_neg c] at hz'
        cases hz'
    have hq2 : dfold (ys2 ++ [.tup [kd, vd]]) [] [] = some (dputK ks vs' kd, dputV ks vs' kd vd) := by
      rw [hq]
      unfold dfold
      rw [if_pos hk2]
      rfl
    refine ⟨ρ6.grip p, o, ks, vs', kv, vv, kd, vd, g2, g3, g4, g5, r5.ext e6 _ _, r6, hk2.1, hk2.2, fun o' kv' vv' d' c' k' v' => ?_⟩
    have mvp : Move (ρ6.grip p) H6 (ρ6.grip p) (upd H6 p (DX p o')) := .put List.mem_cons_self
    exact ⟨ρ6, _, _, zs2, ⟨l6.ext.over hp, s6.putD List.mem_cons_self d', o', _, _, kv', vv', hq2, d', c', k'.move mvp, v'.move mvp⟩, ((mv4.trans e5.move).trans e6.move).trans mvp, h2, by rw [← he]; simp⟩
  · rw [if_neg Bool.false_ne_true]
    exact ⟨ρ4, st3, ys2, zs2, l4, mv4, h2, by rw [← he]; simp⟩
end
end Ev

set_option Elab.async false
set_option linter.all false
set_option maxRecDepth 100000
set_option maxHeartbeats 2000000
namespace Ev
open PySem PySem.Spec PyProof.Rows L2
variable [TabsOf]
section
variable {X : Cx} {kx vx t0 i0 : Expr} {f0 : List Expr} {gs : List Comprehension} {scope : Scope} {own : List (Str × Nat)} {pos pos' : Pos} {wi : TI} {rd : Addr → Rd}
abbrev dE (kx vx t0 i0 : Expr) (f0 : List Expr) (gs : List Comprehension) (scope : Scope) (pos : Pos) : Expr := .DictComp kx vx (⟨t0, i0, f0, 0⟩ :: gs) scope pos
def tDcs (wi : TI) (rd : Addr → Rd) (vs : List Nat) : TE := fun σ H Q => wi σ H fun J H1 => ∀ D, H1 D = none → DictAt (upd H1 D (DX D emptyD)) D emptyD → rd D J (wipe σ vs) (upd H1 D (DX D emptyD)) fun H' => Q (.ref D) H'
theorem dcs_go {pins : List (Addr × Obj)} {s : Shared} {σ : L2.St} {H : Hp} {Q : VK} {use : Option (Value → Sem Unit)} {Qf : Value → Shared → Prop} (hc : X.calm = true) (hN : X.N.Nodup) (I : Inv X pins σ H s) (hi : PI X t0 i0 wi) (ok : BlkOk X.N X.env.scope scope own)
    (hL : ∀ (s : Shared) (H : Hp) (C : Addr) (cl : List (Str × Addr)) (fp : List Addr) (D : Addr), LoopOk X s H scope (compEnvC scope cl C X.env) fp D (dE kx vx t0 i0 f0 gs scope pos) 0 t0 (own.map (·.2)) (rd D))
    (hs : ∀ x, foldedSetIterable i0 X.env x = pure x) (h : tDcs wi rd (own.map (·.2)) σ H Q)
    (fin : ∀ D C s' m H', Inv X pins σ H' s' → Q (.ref D) H' → s'.heap.Ns C m → FpOk X pins H' C → compPost (model X.prog X.w) X.A X.xe use Qf (.ref D) C (.ok .next) s') :
    wpAny (model X.prog X.w) X.A (comprehension (dE kx vx t0 i0 f0 gs scope pos) scope X.env pos' newDict false (eval i0 X.env) use) Qf X.xe s := by
  refine wpAny_comprehension_free (use := use) rfl hs (closure_ok fun y hy e => (ok.free y hy e).elim (fun k => I.ok.has _ (.inl k)) fun k => I.ok.has _ (.inr k)) ok.kind (fun y hy e => by rw [ok.uniq y hy, e]) (thn (hi.run pins s σ H _ I h) fun xv sa hx => thn hx fun itv sb hb => ?_)
  obtain ⟨it, fp, tn, J, Hb, rfl, Ib, T, stb, fb, q⟩ := hb
  refine wpAny_newObj_type (newEnv_comp ?_)
  have nD : Hb sb.heap.objs.size = none := Ib.hok.fresh (Nat.le_refl _)
  have ltb : ∀ b ∈ fp, b < sb.heap.objs.size := fun b hb => by
    obtain ⟨o, e, _⟩ := T.obj _ _ stb b hb
    exact Heap.lt_size e
  generalize hsc : ({ sb with heap := sb.heap.push { cls := .type "dict", data := .dict #[] } } : Shared) = sc
  have hscH : sc.heap = sb.heap.push emptyD := by rw [← hsc]; rfl
  have ge : sc.heap.get? sb.heap.objs.size = some emptyD := by rw [hscH]; exact Heap.get?_push_size _ rfl
  have Ic : Inv X pins σ (upd Hb sb.heap.objs.size (DX sb.heap.objs.size emptyD)) sc := by
    rw [← hsc]
    have ge' : (sb.heap.push emptyD).get? sb.heap.objs.size = some emptyD := Heap.get?_push_size _ rfl
    exact Ib.laid (t' := sb.toks) (fun b o e => Heap.get?_push_of_some _ e) (Nat.le_refl _) ⟨ge', ⟨_, ge'⟩, fun h1 h2 e k => k _ e⟩
  have dA : DictAt (upd Hb sb.heap.objs.size (DX sb.heap.objs.size emptyD)) sb.heap.objs.size emptyD := ⟨upd_same, beq_eq_false_iff_ne.mpr (Ne.symm (Nat.ne_of_lt Ib.big)), ⟨#[], 0, rfl⟩, _, ge⟩
  have rdD := q sb.heap.objs.size nD dA
  clear ge
  generalize hD : sb.heap.objs.size = D at nD rdD Ic ltb dA
  have fc : ∀ b ∈ fp, FpOk X pins (upd Hb D (DX D emptyD)) b ∧ b < sc.heap.objs.size := fun b hb => ⟨⟨by rw [upd_ne (Nat.ne_of_lt (ltb b hb))]; exact (fb b hb).1, (fb b hb).2⟩, by rw [hscH, Heap.size_push, hD]; exact Nat.lt_succ_of_lt (ltb b hb)⟩
  have stc : tn 0 sc.heap := T.keep _ _ _ stb fun b _ o e => by rw [hscH]; exact Heap.get?_push_of_some _ e
  clear dA
  generalize hHc : upd Hb D (DX D emptyD) = Hc at Ic fc rdD
  have Id := block_start (fp := fp) Ic ok hN fc
  have L := hL sc Hc sc.heap.objs.size (cellsFrom (sc.heap.objs.size + 1) scope.names (cloFrom X.env.cells scope.names [])) fp D
  show codeAny _ _ (.compStart (dE kx vx t0 i0 f0 gs scope pos) 0 (.ref it) (.ref D) (compEnvC scope (cellsFrom (sc.heap.objs.size + 1) scope.names (cloFrom X.env.cells scope.names [])) sc.heap.objs.size X.env)) (compPost (model X.prog X.w) X.A X.xe use Qf (.ref D) sc.heap.objs.size) { sc with heap := pushCells (sc.heap.push { cls := .type "dict", data := .dict #[] }) scope.names }
  generalize hce : compEnvC scope (cellsFrom (sc.heap.objs.size + 1) scope.names (cloFrom X.env.cells scope.names [])) sc.heap.objs.size X.env = ce at Id L ⊢
  have cL : ce.locals = sc.heap.objs.size := by subst hce; rfl
  generalize hsd : ({ sc with heap := pushCells (sc.heap.push { cls := .type "dict", data := .dict #[] }) scope.names } : Shared) = sd at Id ⊢
  have std : tn 0 sd.heap := T.keep _ _ _ stc fun b _ o e => by rw [← hsd]; exact pushCells_keeps _ _ _ _ (Heap.get?_push_of_some _ e)
  have fd : ∀ b ∈ fp, FpOk (X.blk sc Hc scope ce fp) [] Hc b := fun b hb => ⟨(fc b hb).1.1, (Id.ok.exf b hb).1, Id.ok.exfs b hb, .inl hb, fun x c e => (Id.ok.exf b hb).2 x c e, fun p hp => absurd (show p ∈ ([] : List (Addr × Obj)) ++ [] from hp) (by simp)⟩
  have loop : codeAny (model X.prog X.w) X.A (.compLoop (dE kx vx t0 i0 f0 gs scope pos) 0 (.ref it) (.ref D) ce) (compPost (model X.prog X.w) X.A X.xe use Qf (.ref D) sc.heap.objs.size) sd := by
    refine codeAny_mono (L [] _ Hc sd it fp tn J _ Id T std fd rdD) fun r sf ⟨hr, He, If, qq⟩ => ?_
    subst hr
    have Ig : Inv X pins σ He sf := Ic.call' (ch := fp) If.os If.base If.hok If.bare fun b hb => ⟨(fc b hb).1.2.2.2.1, (fc b hb).1.2.1, (fc b hb).1.2.2.2.2.1, (fc b hb).1.2.2.2.2.2⟩
    have nC : He sc.heap.objs.size = none := by rw [← cL]; exact If.free
    obtain ⟨m, hn, _⟩ := If.loc
    exact fin D sc.heap.objs.size sf m He Ig qq (by rw [← cL]; exact hn) (Ic.fpOk (Nat.le_refl _) nC)
  exact codeAny_compStart_dict loop (T.self X.A 0 _ _ _ std loop)
theorem pe_dcs (hc : X.calm = true) (hN : X.N.Nodup) (hi : PI X t0 i0 wi) (ok : BlkOk X.N X.env.scope scope own)
    (hL : ∀ (s : Shared) (H : Hp) (C : Addr) (cl : List (Str × Addr)) (fp : List Addr) (D : Addr), LoopOk X s H scope (compEnvC scope cl C X.env) fp D (dE kx vx t0 i0 f0 gs scope pos) 0 t0 (own.map (·.2)) (rd D))
    (hs : ∀ x, foldedSetIterable i0 X.env x = pure x) : PE X (dE kx vx t0 i0 f0 gs scope pos) (tDcs wi rd (own.map (·.2))) := by
  refine ⟨fun pins s σ H Q I h => ?_⟩
  rw [arm_eval_DictComp]
  refine dcs_go hc hN I hi ok hL hs h fun D C s' m H' I' q hn f => ⟨m, hn, fun h'' sb => ?_⟩
  exact ⟨.ref D, H', I'.turned (t' := s'.toks) (fun b o hb e => (sb.2 b hb).trans e) f.1 f.2.1 f.2.2.2.1 f.2.2.2.2.1 f.2.2.2.2.2, rfl, q⟩
theorem ps_setDcs {i : Nat} {y : Str} {py spos : Pos} (hc : X.calm = true) (hN : X.N.Nodup) (hy : X.N[i]? = some y) (hyl : X.env.scope.names.lookup y = some .local)
    (hsw : swapsWith (dE kx vx t0 i0 f0 gs scope pos) (some (.Name y py)) spos.line X.env = pure true) (hi : PI X t0 i0 wi) (ok : BlkOk X.N X.env.scope scope own)
    (hL : ∀ (s : Shared) (H : Hp) (C : Addr) (cl : List (Str × Addr)) (fp : List Addr) (D : Addr), LoopOk X s H scope (compEnvC scope cl C X.env) fp D (dE kx vx t0 i0 f0 gs scope pos) 0 t0 (own.map (·.2)) (rd D))
    (hs : ∀ x, foldedSetIterable i0 X.env x = pure x) : PS X (.Assign [.Name y py] (dE kx vx t0 i0 f0 gs scope pos) spos) (tAsg (tDcs wi rd (own.map (·.2))) (gName i)) := by
  refine ⟨fun pins s σ H D I h => ?_⟩
  rw [exec_Assign_Name_used _ _ _ _ hsw]
  refine wpAny_bind (wpAny_standAt (wpAny_bind ?_))
  show wpAny _ X.A (do let _ ← comprehension (dE kx vx t0 i0 f0 gs scope pos) scope X.env (firstIterPos (⟨t0, i0, f0, 0⟩ :: gs) pos) newDict false (eval i0 X.env) (some (assign (.Name y py) X.env))) _ _ s
  refine wpAny_bind (thn (dcs_go (Q := fun x H1 => gName i x σ H1 D.nx) (Qf := fun _ s' => SP X pins D .next s') hc hN I hi ok hL hs h fun L C s' m H' I' q hn f => ?_) fun _ s' hq => wpAny_pure (wpAny_pure hq))
  show wpAny _ _ (assign (.Name y py) X.env (.ref L)) _ _ _
  refine wpAny_assign_Name (store_ok2 (v := V.ref L) I' hN hy (.inl hyl) rfl (fun st It ⟨a, sb, ha⟩ => ⟨m, hn.sameBut sb (ha.elim (fun z => by rw [z]; exact f.2.1) fun z e => f.2.2.2.2.1 y a z e.symm), fun h3 sb3 => ?_⟩) (.inr hyl))
  exact ⟨_, H', It.turned (t' := st.toks) (fun b o hb e => (sb3.2 b hb).trans e) f.1 f.2.1 f.2.2.2.1 f.2.2.2.2.1 f.2.2.2.2.2, q⟩
end
/-! ### by the evaluator's words -/
def dcF (c : Bool) (fi : Fl) (one : D → Env → Store → R (List D)) (own : List Nat) : Fe := fun env st => (fi env st).bind fun xs st1 => (lcItems one xs (wipeE env own) st1).calm.bind fun ys st2 => dictD c ys st2
theorem DS.fin {K : PySem.W.Frag} {ρ ρ1 : Rho} {H H1 : Hp} {p : Addr} {st st1 : Store} {ys : List D} (l : DS K ρ H p ρ1 H1 st1 ys) (s : StR K ρ H st) (h : H p = none) {c : Bool} {E : Str → Hp → Prop} {ρ0 : Rho} {H0 : Hp} {Q : VK} (e0 : Ext ρ0 H0 ρ H) (q : PostE K E ρ0 H0 (dictD c ys st1) Q) : Q (.ref p) H1 := by
  obtain ⟨o, ks, vs, kv, vv, h0, h1, h2, rk, rv⟩ := l.at'
  have np : some p ∉ ρ1.cells := (l.st.hold p List.mem_cons_self).2
  unfold dictD at q
  rw [h0] at q
  dsimp only at q
  cases c with
  | false =>
    refine q _ ρ1 H1 (e0.trans l.ext) l.st.loose ⟨p, o, kv, vv, rfl, h1, ⟨np, ?_⟩, h2, rk.move .loose, rv.move .loose⟩
    rw [l.ext.held]
    exact (s.free h).2
  | true =>
    have ex : Ext ρ H (ρ1.add p) H1 := by
      refine ⟨l.ext.keep, l.ext.there, by have := l.ext.len; simp; omega, fun k hk => ?_, fun k a hk hh => ?_, l.ext.held⟩
      · rw [List.getElem?_append_left (Nat.lt_of_lt_of_le hk l.ext.len)]
        exact l.ext.old k hk
      · by_cases hl : k < ρ1.cells.length
        · rw [List.getElem?_append_left hl] at hh
          exact l.ext.new k a hk hh
        · rw [List.getElem?_append_right (Nat.le_of_not_lt hl)] at hh
          have hm := List.mem_of_getElem? hh
          simp at hm
          intro o ho
          rw [hm, h] at ho; cases ho
    have mv : Move (ρ1.grip p) H1 (ρ1.add p) H1 := ⟨fun a o ho _ n => ⟨ho, fun hm => by
      rcases List.mem_append.mp hm with z | z
      · exact n.1 z
      · have : a = p := by simpa using z
        exact n.2 (by rw [this]; exact List.mem_cons_self), fun hm => n.2 (List.mem_cons_of_mem _ hm)⟩, by simp, fun k hk => .inl (List.getElem?_append_left hk)⟩
    have key : ∀ (k : Nat) a, (ρ1.cells ++ [some p])[k]? = some (some a) → (k < ρ1.cells.length ∧ ρ1.cells[k]? = some (some a)) ∨ (k = ρ1.cells.length ∧ a = p) := fun k a hk => by
      by_cases hl : k < ρ1.cells.length
      · rw [List.getElem?_append_left hl] at hk; exact .inl ⟨hl, hk⟩
      · rw [List.getElem?_append_right (Nat.le_of_not_lt hl)] at hk
        have hz : k - ρ1.cells.length = 0 := by
          cases z : k - ρ1.cells.length with
          | zero => rfl
          | succ n => rw [z] at hk; simp at hk
        rw [hz] at hk
        simp at hk
        exact .inr ⟨by omega, hk.symm⟩
    have sl : st1.length = ρ1.cells.length := l.st.len
    have s4 : StR K (ρ1.add p) H1 (st1 ++ [.dic ks vs]) := by
      refine ⟨by simp [sl], fun k a hk => ?_, fun j k a hj hk => ?_, fun k m hk hg => ?_, fun a ha => ?_, l.st.tabs⟩
      · rcases key k a hk with ⟨hl, hk⟩ | ⟨rfl, rfl⟩
        · obtain ⟨m, e1, e2⟩ := l.st.cell k a hk
          exact ⟨m, by rw [List.getElem?_append_left (by rw [sl]; exact hl)]; exact e1, e2.to (fun o q _ => q) mv⟩
        · exact ⟨.dic ks vs, by rw [← sl]; simp, o, kv, vv, h1, h2, rk.move mv, rv.move mv⟩
      · rcases key j a hj with ⟨h1, h2⟩ | ⟨h1, h2⟩ <;> rcases key k a hk with ⟨h3, h4⟩ | ⟨h3, h4⟩
        · exact l.st.inj j k a h2 h4
        · subst h4; exact absurd (List.mem_of_getElem? h2) np
        · subst h2; exact absurd (List.mem_of_getElem? h4) np
        · rw [h1, h3]
      · by_cases hl : k < st1.length
        · rw [List.getElem?_append_left hl] at hk
          obtain ⟨a, ha⟩ := l.st.back k m hk hg
          exact ⟨a, by rw [List.getElem?_append_left (by rw [← sl]; exact hl)]; exact ha⟩
        · rw [List.getElem?_append_right (Nat.le_of_not_lt hl)] at hk
          have hz : k = st1.length := by
            cases z : k - st1.length with
            | zero => omega
            | succ n => rw [z] at hk; simp at hk
          exact ⟨p, by rw [hz, sl]; simp⟩
      · obtain ⟨q1, q2⟩ := l.st.hold a (List.mem_cons_of_mem _ ha)
        refine ⟨q1, fun hm => ?_⟩
        rcases List.mem_append.mp hm with z | z
        · exact q2 z
        · have : a = p := by simpa using z
          have ha : a ∈ ρ1.held := ha
          rw [l.ext.held, this] at ha
          exact (s.free h).2 ha
    refine q _ (ρ1.add p) H1 (e0.trans ex) s4 ⟨by simp [sl], fun a ha => ?_⟩
    have ha : (ρ1.cells ++ [some p])[st1.length]? = some (some a) := ha
    rw [sl] at ha
    simp at ha
    rw [ha]
section
variable {X : Cx} {W : XW} {kx vx tg iter tg1 iter1 : Expr} {ifs ifs1 : List Expr} {gs : List Comprehension} {scope : Scope} {own : List (Str × Nat)} {pos : Pos} {fi fi1 : Fl} {t t1 : T} {ft ft1 : Fb} {fk fv : Fe} {vs1 : List Nat}
theorem dc_read (c : Bool) {one : D → Env → Store → R (List D)} {rd : Addr → Rd} (hr : ∀ ρ H D, H D = none → RdS X.K D (DS X.K ρ H D) TotD one (own.map (·.2)) (rd D)) :
    ∀ σ H Q, tE X.K W (dcF c fi one (own.map (·.2))) σ H Q → tDcs (tI X.K W fi) rd (own.map (·.2)) σ H Q := by
  intro σ H Q ⟨ρ, env, st, er, sr, p⟩
  refine ⟨ρ, env, st, er, sr, ?_⟩
  unfold dcF at p
  cases q : fi env st with
  | exc x st' => rw [q] at p; exact p
  | bad => rw [q] at p; exact p.elim
  | ok xs st1 =>
    rw [q] at p
    change PostE X.K (W σ) ρ H ((lcItems one xs (wipeE env (own.map (·.2))) st1).calm.bind _) Q at p
    cases q2 : lcItems one xs (wipeE env (own.map (·.2))) st1 with
    | exc x st' => rw [q2] at p; exact p.elim
    | bad => rw [q2] at p; exact p.elim
    | ok total stF =>
      rw [q2] at p
      change PostE X.K (W σ) ρ H (dictD c total stF) Q at p
      have hz : TotD total := by
        unfold TotD
        cases z : dfold total [] [] with
        | none => unfold dictD at p; rw [z] at p; exact p.elim
        | some q => rfl
      intro J ρ1 H1 e1 s1 wk D hD dA
      refine hr ρ1 H1 D hD J xs ρ1 (upd H1 D (DX D emptyD)) st1 [] total stF (wipeE env (own.map (·.2))) _ _ (wk.mv (.grip hD)) (.start s1 hD dA) (((er.ext e1).move (.grip hD)).wipe _) (by rw [wipeE_wipeE]; exact q2) hz fun ρ3 H3 l3 _ => ?_
      exact l3.fin s1 hD e1 p
abbrev dc1F (c : Bool) (fi : Fl) (t : T) (ft : Fb) (fk fv : Fe) (vs : List Nat) : Fe := dcF c fi (oneF t ft (pairF fk fv)) vs
abbrev dc2F (c : Bool) (fi fi1 : Fl) (t t1 : T) (ft ft1 : Fb) (fk fv : Fe) (vs vs1 : List Nat) : Fe := dcF c fi (twoF t ft fi1 vs1 (oneF t1 ft1 (pairF fk fv))) vs
theorem x_dc1 (c : Bool) (hc : X.calm = true) (hu : X.A.units + 9 < cLine) (hN : X.N.Nodup) (hi : Pi' X W tg iter fi) (ok : BlkOk X.N X.env.scope scope own) (hv0 : ∀ i ∈ slots t, i ∈ own.map (·.2))
    (hg : ∀ (s : Shared) (H : Hp) (C : Addr) (cl : List (Str × Addr)) (fp : List Addr), PG (X.blk s H scope (compEnvC scope cl C X.env) fp) tg (tG X.K t)) (ht : ∀ (s : Shared) (H : Hp) (C : Addr) (cl : List (Str × Addr)) (fp : List Addr), PTs (X.blk s H scope (compEnvC scope cl C X.env) fp) ifs (tB' X.K W0 ft))
    (hk : ∀ (s : Shared) (H : Hp) (C : Addr) (cl : List (Str × Addr)) (fp : List Addr), Pe (X.blk s H scope (compEnvC scope cl C X.env) fp) W0 kx fk)
    (hv : ∀ (s : Shared) (H : Hp) (C : Addr) (cl : List (Str × Addr)) (fp : List Addr), Pe (X.blk s H scope (compEnvC scope cl C X.env) fp) W0 vx fv) (hf0 : ∀ x, foldedSetIterable iter X.env x = pure x) :
    Pe X W (d1 kx vx tg iter ifs scope pos) (dc1F c fi t ft fk fv (own.map (·.2))) ∧
    ∀ (i : Nat) (y : Str) (py spos : Pos), X.N[i]? = some y → X.env.scope.names.lookup y = some .local → swapsWith (d1 kx vx tg iter ifs scope pos) (some (.Name y py)) spos.line X.env = pure true →
      PS X (.Assign [.Name y py] (d1 kx vx tg iter ifs scope pos) spos) (tAsg (tE X.K W (dc1F c fi t ft fk fv (own.map (·.2)))) (gName i)) := by
  have L : ∀ (s : Shared) (H : Hp) (C : Addr) (cl : List (Str × Addr)) (fp : List Addr) (D : Addr), LoopOk X s H scope (compEnvC scope cl C X.env) fp D (d1 kx vx tg iter ifs scope pos) 0 tg (own.map (·.2)) (rdInD X.K D (tG X.K t) (tB' X.K W0 ft) (tE X.K W0 fk) (tE X.K W0 fv) (own.map (·.2))) :=
    fun s H C cl fp D => loop_lastD hc hu d1_in0 (hg s H C cl fp) (ht s H C cl fp) (hk s H C cl fp) (hv s H C cl fp)
  have rd := dc_read (X := X) (W := W) (fi := fi) (own := own) c (one := oneF t ft (pairF fk fv)) (rd := fun D => rdInD X.K D (tG X.K t) (tB' X.K W0 ft) (tE X.K W0 fk) (tE X.K W0 fv) (own.map (·.2))) fun ρ H D hD => rd_inD hD hv0
  exact ⟨PE.mono (pe_dcs (gs := []) hc hN hi ok L hf0) rd, fun i y py spos hy hyl hsw => PS.mono (ps_setDcs (gs := []) hc hN hy hyl hsw hi ok L hf0) fun D σ H q => rd σ H _ q⟩
theorem x_dc2 (c : Bool) (hc : X.calm = true) (hu : X.A.units + 9 < cLine) (hN : X.N.Nodup) (hi : Pi' X W tg iter fi) (ok : BlkOk X.N X.env.scope scope own) (hv0 : ∀ i ∈ slots t, i ∈ own.map (·.2)) (hv1 : ∀ i ∈ slots t1, i ∈ vs1) (hs1 : ∀ i ∈ vs1, i ∈ own.map (·.2))
    (hg : ∀ (s : Shared) (H : Hp) (C : Addr) (cl : List (Str × Addr)) (fp : List Addr), PG (X.blk s H scope (compEnvC scope cl C X.env) fp) tg (tG X.K t)) (ht : ∀ (s : Shared) (H : Hp) (C : Addr) (cl : List (Str × Addr)) (fp : List Addr), PTs (X.blk s H scope (compEnvC scope cl C X.env) fp) ifs (tB' X.K W0 ft))
    (hi1 : ∀ (s : Shared) (H : Hp) (C : Addr) (cl : List (Str × Addr)) (fp : List Addr), Pi' (X.blk s H scope (compEnvC scope cl C X.env) fp) W0 tg1 iter1 fi1)
    (hg1 : ∀ (s : Shared) (H : Hp) (C : Addr) (cl : List (Str × Addr)) (fp : List Addr), PG (X.blk s H scope (compEnvC scope cl C X.env) fp) tg1 (tG X.K t1)) (ht1 : ∀ (s : Shared) (H : Hp) (C : Addr) (cl : List (Str × Addr)) (fp : List Addr), PTs (X.blk s H scope (compEnvC scope cl C X.env) fp) ifs1 (tB' X.K W0 ft1))
    (hk : ∀ (s : Shared) (H : Hp) (C : Addr) (cl : List (Str × Addr)) (fp : List Addr), Pe (X.blk s H scope (compEnvC scope cl C X.env) fp) W0 kx fk)
    (hv : ∀ (s : Shared) (H : Hp) (C : Addr) (cl : List (Str × Addr)) (fp : List Addr), Pe (X.blk s H scope (compEnvC scope cl C X.env) fp) W0 vx fv) (hf0 : ∀ x, foldedSetIterable iter X.env x = pure x) (hf1 : ∀ env x, foldedSetIterable iter1 env x = pure x) :
    Pe X W (d2 kx vx tg iter tg1 iter1 ifs ifs1 scope pos) (dc2F c fi fi1 t t1 ft ft1 fk fv (own.map (·.2)) vs1) ∧
    ∀ (i : Nat) (y : Str) (py spos : Pos), X.N[i]? = some y → X.env.scope.names.lookup y = some .local → swapsWith (d2 kx vx tg iter tg1 iter1 ifs ifs1 scope pos) (some (.Name y py)) spos.line X.env = pure true →
      PS X (.Assign [.Name y py] (d2 kx vx tg iter tg1 iter1 ifs ifs1 scope pos) spos) (tAsg (tE X.K W (dc2F c fi fi1 t t1 ft ft1 fk fv (own.map (·.2)) vs1)) (gName i)) := by
  have L : ∀ (s : Shared) (H : Hp) (C : Addr) (cl : List (Str × Addr)) (fp : List Addr) (D : Addr), LoopOk X s H scope (compEnvC scope cl C X.env) fp D (d2 kx vx tg iter tg1 iter1 ifs ifs1 scope pos) 0 tg (own.map (·.2)) (rdOut (tG X.K t) (tB' X.K W0 ft) (tI X.K W0 fi1) (rdInD X.K D (tG X.K t1) (tB' X.K W0 ft1) (tE X.K W0 fk) (tE X.K W0 fv) vs1) (own.map (·.2))) :=
    fun s H C cl fp D => loop_next hc d2_out0 (hf1 _) hs1 d2_start1 (hg s H C cl fp) (ht s H C cl fp) (hi1 s H C cl fp) (loop_lastD hc hu d2_in1 (hg1 s H C cl fp) (ht1 s H C cl fp) (hk s H C cl fp) (hv s H C cl fp))
  have rd := dc_read (X := X) (W := W) (fi := fi) (own := own) c (one := twoF t ft fi1 vs1 (oneF t1 ft1 (pairF fk fv))) (rd := fun D => rdOut (tG X.K t) (tB' X.K W0 ft) (tI X.K W0 fi1) (rdInD X.K D (tG X.K t1) (tB' X.K W0 ft1) (tE X.K W0 fk) (tE X.K W0 fv) vs1) (own.map (·.2))) fun ρ H D hD => rd_outS ds_ok hv0 totD_pre (rd_inD hD hv1)
  exact ⟨PE.mono (pe_dcs hc hN hi ok L hf0) rd, fun i y py spos hy hyl hsw => PS.mono (ps_setDcs hc hN hy hyl hsw hi ok L hf0) fun D σ H q => rd σ H _ q⟩
end
end Ev

set_option Elab.async false
set_option linter.all false
set_option maxRecDepth 100000
set_option maxHeartbeats 1000000
namespace Ev
open PySem PySem.Spec PyProof.Rows L2
variable [TabsOf]
variable {K : PySem.W.Frag}
/-! ### slices -/
def PostO (K : PySem.W.Frag) (E : Str → Hp → Prop) (ρ : Rho) (H : Hp) (r : R (Option Int)) (Q : Option Int → Hp → Prop) : Prop := match r with
  | .ok d st' => ∀ ρ' H', Ext ρ H ρ' H' → StR K ρ' H' st' → Q d H'
  | .exc x st' => ∀ ρ' H', Ext ρ H ρ' H' → StR K ρ' H' st' → E x H'
  | .bad => False
abbrev Fo := Env → Store → R (Option Int)
def tO (K : PySem.W.Frag) (W : XW) (f : Fo) : TO := fun σ H Q => ∃ ρ env st, EnvR K ρ H env σ ∧ StR K ρ H st ∧ PostO K (W σ) ρ H (f env st) Q
theorem PO.mono {X : Cx} {e : Option Expr} {t t' : TO} (h : PO X e t) (m : ∀ σ H Q, t' σ H Q → t σ H Q) : PO X e t' := ⟨fun pins s σ H Q I q => h.run pins s σ H Q I (m σ H Q q)⟩
section
variable {E : Str → Hp → Prop} {ρ ρ1 : Rho} {H H1 : Hp}
theorem PostO.imp {r : R (Option Int)} {Q Q' : Option Int → Hp → Prop} (p : PostO K E ρ H r Q) (h : ∀ v H, Q v H → Q' v H) : PostO K E ρ H r Q' := by
  cases r with
  | ok d st' => exact fun ρ' H' e' s => h _ _ (p ρ' H' e' s)
  | exc x st' => exact p
  | bad => exact p
theorem PostE.stepO {r : R (Option Int)} {g : Option Int → Store → R D} {Q : VK} (p : PostE K E ρ H (r.bind g) Q) :
    PostO K E ρ H r fun o H1 => ∃ ρ1 st1, Ext ρ H ρ1 H1 ∧ StR K ρ1 H1 st1 ∧ PostE K E ρ1 H1 (g o st1) Q := by
  cases r with
  | ok d st1 => exact fun ρ1 H1 e s => ⟨ρ1, st1, e, s, p.later e⟩
  | exc x st' => exact p
  | bad => exact p
end
section
variable {X : Cx} {W : XW} {a : Expr} {lo hi : Option Expr} {fa f : Fe} {fl fh : Fo} {pos p p2 q q2 : Pos}
theorem o_none : PO X none (tO X.K W fun _ st => .ok none st) := PO.mono po_none fun σ H Q ⟨ρ, env, st, er, sr, p⟩ => p ρ H (.refl _ _) sr
theorem o_some (ha : Pe X W a f) : PO X (some a) (tO X.K W fun env st => (f env st).bind fun d st1 => match d with
    | .int i => .ok (some i) st1
    | _ => .bad) :=
  PO.mono (po_some ha) fun σ H Q ⟨ρ, env, st, er, sr, p⟩ => by
    refine ⟨ρ, env, st, er, sr, ?_⟩
    dsimp only at p
    cases e : f env st with
    | ok d st1 =>
      rw [e] at p
      cases d with
      | int i => exact fun v ρ' H' e s r => ⟨i, r, p ρ' H' e s⟩
      | _ => exact p.elim
    | exc x st' => rw [e] at p; exact p
    | bad => rw [e] at p; exact p
theorem x_sl (ha : Pe X W a fa) (hl : PO X lo (tO X.K W fl)) (hh : PO X hi (tO X.K W fh)) : Pe X W (.Subscript a (.Slice lo hi none p2) pos) fun env st => (fa env st).bind fun x st1 => (fl env st1).bind fun l st2 => (fh env st2).bind fun h st3 => slop x l h st3 := by
  refine ⟨fun pins s σ H Q I ⟨ρ, env, st, er, sr, p⟩ => ?_⟩
  refine (pe_slice (sl_ok (E := W σ)) ha hl hh).run pins s σ H Q I ?_
  refine ⟨ρ, env, st, er, sr, PostE.imp (PostE.step p) fun v H1 ⟨ρ1, st1, d, e1, s1, r1, _, p1⟩ => ?_⟩
  refine ⟨ρ1, env, st1, er.ext e1, s1, PostO.imp (PostE.stepO p1) fun o H2 ⟨ρ2, st2, e2, s2, p2⟩ => ?_⟩
  refine ⟨ρ2, env, st2, (er.ext e1).ext e2, s2, PostO.imp (PostE.stepO p2) fun o2 H3 ⟨ρ3, st3, e3, s3, p3⟩ => ?_⟩
  exact ⟨ρ3, st3, d, s3, (r1.ext e2 _ _).ext e3 _ _, p3⟩
theorem x_slc (ha : Pe X W a fa) (hl : PO X lo (tO X.K W fl)) (hh : PO X hi (tO X.K W fh)) : Pe X W (.Subscript a (.Slice lo hi none p2) pos) fun env st => (fa env st).bind fun x st1 => (fl env st1).bind fun l st2 => (fh env st2).bind fun h st3 => slcop x l h st3 := by
  refine ⟨fun pins s σ H Q I ⟨ρ, env, st, er, sr, p⟩ => ?_⟩
  refine (pe_slice (slc_ok (E := W σ)) ha hl hh).run pins s σ H Q I ?_
  refine ⟨ρ, env, st, er, sr, PostE.imp (PostE.step p) fun v H1 ⟨ρ1, st1, d, e1, s1, r1, _, p1⟩ => ?_⟩
  refine ⟨ρ1, env, st1, er.ext e1, s1, PostO.imp (PostE.stepO p1) fun o H2 ⟨ρ2, st2, e2, s2, p2⟩ => ?_⟩
  refine ⟨ρ2, env, st2, (er.ext e1).ext e2, s2, PostO.imp (PostE.stepO p2) fun o2 H3 ⟨ρ3, st3, e3, s3, p3⟩ => ?_⟩
  exact ⟨ρ3, st3, d, s3, (r1.ext e2 _ _).ext e3 _ _, p3⟩
theorem x_rev {k : Nat} {p1 p3 : Pos} (ha : Pe X W a fa) : Pe X W (.Subscript a (backSl k p1 p2 p3) pos) fun env st => (fa env st).bind fun x st1 => revop x st1 :=
  PE.mono (rev_tup ha) fun σ H Q ⟨ρ, env, st, er, sr, p⟩ => ⟨ρ, env, st, er, sr, PostE.imp (PostE.step p) fun v H1 ⟨ρ1, st1, d, e1, s1, r1, _, p1⟩ => by
    have lst : ∀ l, seqL d st1 = some l → revop d st1 = .ok (.lst l.reverse) st1 → ∃ a xs, v = .ref a ∧ H1 a = some (.lst xs) ∧ ∀ p, H1 p = none → Q (.ref p) (upd H1 p (.lst xs.reverse)) := fun l hl he => by
      dsimp only at p1
      rw [he] at p1
      obtain ⟨a, vs, rfl, h2, h3⟩ := r1.seqL s1 hl
      exact ⟨a, vs, rfl, h2, fun p hp => PostE.new (d := .lst l.reverse) (st := st1) p1 s1 hp fun ex off => ⟨p, _, rfl, upd_same, off, (h3.ext ex _ _).reverse⟩⟩
    cases d with
    | tup l =>
      obtain ⟨a, vs, rfl, h2, off, h3⟩ := r1
      exact ⟨a, vs, rfl, .inr ⟨h2, fun p hp => PostE.new (d := .tup l.reverse) (st := st1) p1 s1 hp fun ex off => ⟨p, _, rfl, upd_same, off, (h3.ext ex _ _).reverse⟩⟩⟩
    | lst l =>
      obtain ⟨a, xs, h1, h2, h3⟩ := lst l rfl rfl
      exact ⟨a, xs, h1, .inl ⟨h2, h3⟩⟩
    | ref k =>
      dsimp only [revop] at p1
      split at p1
      · rename_i l hl
        obtain ⟨a, xs, h1, h2, h3⟩ := lst l hl (by unfold revop; simp only [hl])
        exact ⟨a, xs, h1, .inl ⟨h2, h3⟩⟩
      · exact p1.elim
    | _ => exact p1.elim⟩
end
/-! ### methods of lists -/
abbrev methF (m : Mth) (fa : Fe) (fl : Fl) : Fe := fun env st => (fa env st).bind fun x st1 => if liveC x st1 = true then (fl env st1).bind fun ds st2 => methop m x ds st2 else .bad
theorem live_ok {ρ : Rho} {H : Hp} {st : Store} {d : D} {v : V} (s : StR K ρ H st) (r : Rp K ρ H d v) (h : liveC d st = true) : ∃ k a vs, d = .ref k ∧ v = .ref a ∧ H a = some (.lst vs) := by
  cases d with
  | ref k =>
    unfold liveC at h
    dsimp only at h
    split at h
    · rename_i l hl
      obtain ⟨a, ha⟩ := s.back k _ hl (by simp)
      obtain ⟨l', h1, h2⟩ := s.cell k a ha
      rw [hl] at h1; cases h1
      obtain ⟨vs, h2, h3⟩ := h2
      exact ⟨k, a, vs, rfl, r.2 a ha, h2⟩
    · cases h
  | _ => cases h
theorem mth_read {W : XW} {fa : Fe} (m : Mth) {rr : V → List V → Hp → VK → Prop} {fl : Fl}
    (hop : ∀ (E : Str → Hp → Prop) (ρ : Rho) (st : Store) (k : Nat) (l : List D) (a : Addr) (vs : List V) (ds : List D) (us : List V) (H : Hp) (Q : VK), StR K ρ H st → st[k]? = some (.lst l) → ρ.cells[k]? = some (some a) → H a = some (.lst vs) → Rps K ρ H l vs → Rps K ρ H ds us → PostE K E ρ H (methop m (.ref k) ds st) Q → rr (.ref a) us H Q) :
    ∀ σ H Q, tE K W (methF m fa fl) σ H Q → tBM K "list" rr (tE K W fa) (tL K W fl) σ H Q :=
  fun σ H Q ⟨ρ, env, st, er, sr, p⟩ => ⟨ρ, env, st, er, sr, PostE.imp (PostE.step p) fun v H1 ⟨ρ1, st1, d, e1, s1, r1, _, p1⟩ => by
    dsimp only at p1
    split at p1
    · rename_i hlive
      obtain ⟨k, a, vs, rfl, rfl, ha⟩ := live_ok s1 r1 hlive
      refine ⟨.inl ⟨rfl, vs, .of ha⟩, ρ1, env, st1, er.ext e1, s1, PostL.imp (PostE.stepL p1) fun us H2 ⟨ρ2, st2, ds, e2, s2, r2, _, p2⟩ => ?_⟩
      have r1' := r1.ext e2 _ _
      cases q : st2[k]? with
      | none => unfold methop at p2; simp only [q] at p2; exact p2.elim
      | some c =>
        cases c with
        | gone => unfold methop at p2; simp only [q] at p2; exact p2.elim
        | dic _ _ => unfold methop at p2; simp only [q] at p2; exact p2.elim
        | lst l =>
          obtain ⟨a2, ha2⟩ := s2.back k _ q (by simp)
          obtain ⟨l', h1, h2⟩ := s2.cell k a2 ha2
          rw [q] at h1; cases h1
          obtain ⟨ws, h2, h3⟩ := h2
          have e : V.ref a = V.ref a2 := r1'.2 a2 ha2
          cases e
          exact hop _ ρ2 st2 k l a ws ds us H2 Q s2 q ha2 h2 h3 r2 p2
    · exact p1.elim⟩
theorem append_read {W : XW} {fa : Fe} {fl : Fl} : ∀ σ H Q, tE K W (methF .append fa fl) σ H Q → tBM K "list" rAppend (tE K W fa) (tL K W fl) σ H Q :=
  mth_read .append fun E ρ st k l a vs ds us H Q s q ha h2 h3 r2 p => by
    unfold methop at p
    simp only [q] at p
    split at p <;> rename_i hm <;> try (cases hm; done)
    · rename_i d
      split at p
      · rename_i hz
        obtain ⟨v, rfl, rv⟩ := rps1 r2
        obtain ⟨ex, s'⟩ := s.write ha (h3.append (.cons rv .nil))
        exact ⟨a, vs, v, rfl, rfl, h2, by rw [← h3.length]; exact Nat.lt_of_lt_of_le hz line_ok, p .non ρ _ ex s' rfl⟩
      · exact p.elim
    · exact p.elim
theorem extend_read {W : XW} {fa : Fe} {fl : Fl} : ∀ σ H Q, tE K W (methF .extend fa fl) σ H Q → tBM K "list" rExtend (tE K W fa) (tL K W fl) σ H Q :=
  mth_read .extend fun E ρ st k l a vs ds us H Q s q ha h2 h3 r2 p => by
    unfold methop at p
    simp only [q] at p
    split at p <;> rename_i hm <;> try (cases hm; done)
    · rename_i m
      split at p
      · rename_i hz
        obtain ⟨v, rfl, b, zs, rfl, hb, off, rz⟩ := rps1 r2
        obtain ⟨ex, s'⟩ := s.write ha (h3.append rz)
        exact ⟨a, b, vs, zs, rfl, rfl, h2, hb, by rw [← h3.length, ← rz.length]; exact Nat.le_trans hz line_ok, p .non ρ _ ex s' rfl⟩
      · exact p.elim
    · exact p.elim
theorem pop_read {W : XW} {fa : Fe} : ∀ σ H Q, tE K W (methF .pop fa fun _ st => .ok [] st) σ H Q → tBM0 K "list" rPop (tE K W fa) σ H Q := by
  intro σ H Q h
  have := mth_read (K := K) (W := W) (fa := fa) (rr := rPop) (fl := fun _ st => .ok [] st) .pop (fun E ρ st k l a vs ds us H Q s q ha h2 h3 r2 p => by
    unfold methop at p
    simp only [q] at p
    split at p <;> rename_i hm <;> try (cases hm; done)
    · split at p
      · rename_i d hd
        cases (show us = [] from r2)
        obtain ⟨y, hy, ry⟩ := h3.get hd
        have rd : Rps K ρ H l.dropLast vs.dropLast := by
          rw [List.dropLast_eq_take, List.dropLast_eq_take, ← h3.length]
          exact h3.take _
        obtain ⟨ex, s'⟩ := s.write ha rd
        exact ⟨a, vs, y, rfl, rfl, h2, by rw [← h3.length]; exact hy, p y ρ _ ex s' (ry.ext ex _ _)⟩
      · exact p.elim
    · exact p.elim) σ H Q h
  obtain ⟨ρ, env, st, er, sr, p⟩ := this
  refine ⟨ρ, env, st, er, sr, PostE.imp p fun v H1 ⟨ty, ρ1, env1, st1, er1, sr1, p1⟩ => ⟨ty, ?_⟩⟩
  exact p1 [] ρ1 H1 (.refl _ _) sr1 rfl
section
variable {X : Cx} {W : XW} {a e : Expr} {fa : Fe} {fl : Fl} {apos cpos : Pos}
theorem x_append (ha : Pe X W a fa) (hl : Pl X W [e] fl) (hb : attributeBase a "append" X.env (eval a X.env) = eval a X.env) (hfew : ((backTo cpos (starEach [e] X.env)).all (fun x => !x.1) && (backToKw cpos (keywordEach [] X.env)).all (fun x => x.1.isSome)
      && decide (([e] : List Expr).length + ([] : List Keyword).length + (if ([] : List Keyword).isEmpty then 0 else 1) < 30)) = true) (hline : (apos.endLine == cpos.line) = true) (hs : starEach [e] X.env = (false, eval e X.env) :: starEach [] X.env) (hp : (backTo cpos (starEach [] X.env)).any (·.1) = false) :
    Pe X W (.Call (.Attribute a "append" apos) [e] [] cpos) (methF .append fa fl) := PE.mono (pe_bm PySem.F.plainAttrs_list PySem.F.slot_list_append PySem.F.type_list_append mt_append ha hl hb hfew hline hs hp) append_read
theorem x_extend (ha : Pe X W a fa) (hl : Pl X W [e] fl) (hb : attributeBase a "extend" X.env (eval a X.env) = eval a X.env) (hfew : ((backTo cpos (starEach [e] X.env)).all (fun x => !x.1) && (backToKw cpos (keywordEach [] X.env)).all (fun x => x.1.isSome)
      && decide (([e] : List Expr).length + ([] : List Keyword).length + (if ([] : List Keyword).isEmpty then 0 else 1) < 30)) = true) (hline : (apos.endLine == cpos.line) = true) (hs : starEach [e] X.env = (false, eval e X.env) :: starEach [] X.env) (hp : (backTo cpos (starEach [] X.env)).any (·.1) = false) :
    Pe X W (.Call (.Attribute a "extend" apos) [e] [] cpos) (methF .extend fa fl) := PE.mono (pe_bm PySem.F.plainAttrs_list PySem.F.slot_list_extend PySem.F.type_list_extend mt_extend ha hl hb hfew hline hs hp) extend_read
theorem x_pop (ha : Pe X W a fa) (hb : attributeBase a "pop" X.env (eval a X.env) = eval a X.env) (hline : (apos.endLine == cpos.line) = true) :
    Pe X W (.Call (.Attribute a "pop" apos) [] [] cpos) (methF .pop fa fun _ st => .ok [] st) := PE.mono (pe_bm0 PySem.F.plainAttrs_list PySem.F.slot_list_pop PySem.F.type_list_pop mt_pop ha hb hline) pop_read
end
/-! ### sorted(set(..)) -/
section
variable {X : Cx} {W : XW} {a : Expr} {pos p q q2 : Pos}
theorem x_ss {fl : Fl} {x y : Str} (hc : X.calm = true) (hg : Gl X x) (hm : X.mg x = none) (hv : bootBuiltins x = some (.builtin "sorted")) (hn : x ≠ "__name__") (hd : (x == ("__debug__" : Str)) = false)
    (hg2 : Gl X y) (hm2 : X.mg y = none) (hv2 : bootBuiltins y = some (.type "set")) (hn2 : y ≠ "__name__") (hd2 : (y == ("__debug__" : Str)) = false)
    (hl : Pl X W [a] fl) (hs : starEach [a] X.env = (false, eval a X.env) :: starEach [] X.env) (hpl : (backTo q2 (starEach [] X.env)).any (·.1) = false)
    (hs1 : starEach [.Call (.Name y q) [a] [] q2] X.env = (false, eval (.Call (.Name y q) [a] [] q2) X.env) :: starEach [] X.env) (hpl1 : (backTo pos (starEach [] X.env)).any (·.1) = false) :
    Pe X W (.Call (.Name x p) [.Call (.Name y q) [a] [] q2] [] pos) fun env st => (fl env st).bind fun ds st1 => bltop .sortedSet ds st1 := by
  have h1 := pe_callTy (cr_setL hc) hg2 hm2 hv2 hl hn2 hd2 hs hpl (p := q)
  refine PE.mono (pe_callB (cr_sortedSet hc) hg hm hv (pa_cons h1 pa_nil hs1) hn hd hs1 hpl1) fun σ H Q ⟨ρ, env, st, er, sr, p⟩ => ⟨ρ, env, st, er, sr, PostL.imp (PostE.stepL p) fun vs H1 ⟨ρ1, st1, ds, e1, s1, r1, _, p1⟩ => ?_⟩
  dsimp only at p1
  cases ds with
  | nil => exact p1.elim
  | cons d r =>
  cases r with
  | cons e r => exact p1.elim
  | nil =>
  change PostE X.K (W σ) ρ1 H1 (match seqLT d st1 with
    | some l => match intsOf l with
      | some ns => if ns.length < 1000 ∧ (sortSet ns).length < 64 then .ok (.lst ((sortSet ns).map D.int)) st1 else .bad
      | none => .bad
    | none => .bad) Q at p1
  obtain ⟨v, rfl, rv⟩ := rps1 r1
  cases h2 : seqLT d st1 with
  | none => rw [h2] at p1; exact p1.elim
  | some l =>
    rw [h2] at p1
    obtain ⟨b, ws, rfl, h3, h4⟩ := rv.seqLT s1 h2
    cases h5 : intsOf l with
    | none => simp only [h5] at p1; exact p1.elim
    | some ns =>
      simp only [h5] at p1
      have := intsOf_ok h4 h5
      subst this
      split at p1
      · rename_i hz
        refine ⟨b, ns, rfl, h3, hz.1, fun p c hp hcn => ?_⟩
        refine ⟨p, fun j => decide (j ∈ ns), c, rfl, upd_same, by omega, fun ms p' hms hmem _ hp' => ?_⟩
        have e : ms = sortSet ns := lt_unique hms (sortSet_lt ns) fun k => by rw [hmem k, sortSet_mem]; simp
        subst e
        obtain ⟨ex1, s2, _⟩ := s1.laid (o := SetO X.w p (fun j => decide (j ∈ ns)) c) hp
        exact PostE.new (d := .lst ((sortSet ns).map D.int)) (st := st1) (PostE.later p1 ex1) s2 hp' fun ex off => ⟨p', _, rfl, upd_same, off, Rps.ints _⟩
      · exact p1.elim
end
end Ev

set_option Elab.async false
set_option linter.all false
set_option maxRecDepth 100000
set_option maxHeartbeats 1000000
namespace Ev
open PySem PySem.Spec PyProof.Rows L2
variable [TabsOf]
variable {K : PySem.W.Frag}
def PostS (K : PySem.W.Frag) (W : XW) (D : Ends) (ρ : Rho) (H : Hp) (r : R F) : Prop := match r with
  | .ok f st' => match f with
    | .next env' => ∀ σ' ρ' H', Ext ρ H ρ' H' → StR K ρ' H' st' → EnvR K ρ' H' env' σ' → D.nx σ' H'
    | .brk env' => ∀ σ' ρ' H', Ext ρ H ρ' H' → StR K ρ' H' st' → EnvR K ρ' H' env' σ' → D.bk σ' H'
    | .cont env' => ∀ σ' ρ' H', Ext ρ H ρ' H' → StR K ρ' H' st' → EnvR K ρ' H' env' σ' → D.ct σ' H'
    | .ret d => ∀ v ρ' H', Ext ρ H ρ' H' → StR K ρ' H' st' → Rp K ρ' H' d v → D.rt v H'
  | .exc x st' => ∀ σ' ρ' H', Ext ρ H ρ' H' → StR K ρ' H' st' → W σ' x H'
  | .bad => False
abbrev Fs := Env → Store → R F
def tS (K : PySem.W.Frag) (W : XW) (f : Fs) : TS := fun D σ H => ∃ ρ env st, EnvR K ρ H env σ ∧ StR K ρ H st ∧ PostS K W D ρ H (f env st)
abbrev Ps (X : Cx) (W : XW) (s : Stmt) (f : Fs) : Prop := PS X s (tS X.K W f)
abbrev Pss (X : Cx) (W : XW) (s : List Stmt) (f : Fs) : Prop := PSs X s (tS X.K W f)
section
variable {W : XW} {D : Ends} {ρ ρ1 : Rho} {H H1 : Hp} {σ : L2.St}
theorem PostS.later {r : R F} (p : PostS K W D ρ H r) (e : Ext ρ H ρ1 H1) : PostS K W D ρ1 H1 r := by
  cases r with
  | ok f st' =>
    cases f with
    | next env' => exact fun σ' ρ' H' e' s r => p σ' ρ' H' (e.trans e') s r
    | brk env' => exact fun σ' ρ' H' e' s r => p σ' ρ' H' (e.trans e') s r
    | cont env' => exact fun σ' ρ' H' e' s r => p σ' ρ' H' (e.trans e') s r
    | ret d => exact fun v ρ' H' e' s r => p v ρ' H' (e.trans e') s r
  | exc x st' => exact fun σ' ρ' H' e' s => p σ' ρ' H' (e.trans e') s
  | bad => exact p
theorem PostS.step (σ : L2.St) {r : R Ev.D} {g : Ev.D → Store → R F} (p : PostS K W D ρ H (r.bind g)) : PostE K (W σ) ρ H r (Mid K ρ H r fun ρ1 H1 d st1 => PostS K W D ρ1 H1 (g d st1)) := by
  cases r with
  | ok d st1 => exact fun v ρ1 H1 e s r => ⟨ρ1, st1, d, e, s, r, rfl, PostS.later p e⟩
  | exc x st' => exact fun ρ' H' e s => p σ ρ' H' e s
  | bad => exact p
theorem PostS.stepL (σ : L2.St) {r : R (List Ev.D)} {g : List Ev.D → Store → R F} (p : PostS K W D ρ H (r.bind g)) : PostL K (W σ) ρ H r (MidL K ρ H r fun ρ1 H1 d st1 => PostS K W D ρ1 H1 (g d st1)) := by
  cases r with
  | ok d st1 => exact fun v ρ1 H1 e s r => ⟨ρ1, st1, d, e, s, r, rfl, PostS.later p e⟩
  | exc x st' => exact fun ρ' H' e s => p σ ρ' H' e s
  | bad => exact p
theorem PostS.stepI (σ : L2.St) {r : R (List Ev.D)} {g : List Ev.D → Store → R F} (p : PostS K W D ρ H (r.bind g)) :
    PostI K (W σ) ρ H r fun J H1 => ∃ ρ1 st1 xs, Ext ρ H ρ1 H1 ∧ StR K ρ1 H1 st1 ∧ Wk K J ρ1 H1 xs ∧ r = .ok xs st1 ∧ PostS K W D ρ1 H1 (g xs st1) := by
  cases r with
  | ok d st1 => exact fun v ρ1 H1 e s r => ⟨ρ1, st1, d, e, s, r, rfl, PostS.later p e⟩
  | exc x st' => exact fun ρ' H' e s => p σ ρ' H' e s
  | bad => exact p
theorem PostS.test (σ : L2.St) {r : R Ev.D} {g : Bool → Ev.D → Store → R F} (p : PostS K W D ρ H (r.bind fun d st1 => match truth d st1 with
    | some b => g b d st1
    | none => .bad)) : PostT K (W σ) ρ H r fun b H1 => ∃ ρ1 st1 d, Ext ρ H ρ1 H1 ∧ StR K ρ1 H1 st1 ∧ r = .ok d st1 ∧ truth d st1 = some b ∧ PostS K W D ρ1 H1 (g b d st1) := by
  cases r with
  | ok d st1 =>
    change PostS K W D ρ H (match truth d st1 with
    | some b => g b d st1
    | none => .bad) at p
    cases h : truth d st1 with
    | none => rw [h] at p; exact p.elim
    | some b => rw [h] at p; exact ⟨b, h, fun ρ1 H1 e s => ⟨ρ1, st1, d, e, s, rfl, h, PostS.later p e⟩⟩
  | exc x st' => exact fun ρ' H' e s => p σ ρ' H' e s
  | bad => exact p
end
section
variable {X : Cx} {W : XW} {a o i e c : Expr} {fe fo fi fc f : Fe} {fa fb : Fs} {s : Stmt} {pos p : Pos} {A B rest : List Stmt}
theorem s_never {f : Fs} (h : ∀ env st, f env st = .bad) : Ps X W s f := ⟨fun pins s σ H D I ⟨ρ, env, st, er, sr, p⟩ => by rw [h] at p; exact p.elim⟩
theorem ss_never {f : Fs} (h : ∀ env st, f env st = .bad) : Pss X W A f := ⟨fun pins s σ H D I ⟨ρ, env, st, er, sr, p⟩ => by rw [h] at p; exact p.elim⟩
theorem s_pass : Ps X W (.Pass pos) fun env st => .ok (.next env) st := PS.mono ps_pass fun D σ H ⟨ρ, env, st, er, sr, p⟩ => p σ ρ H (.refl _ _) sr er
theorem s_brk : Ps X W (.Break pos) fun env st => .ok (.brk env) st := PS.mono ps_break fun D σ H ⟨ρ, env, st, er, sr, p⟩ => p σ ρ H (.refl _ _) sr er
theorem s_cont : Ps X W (.Continue pos) fun env st => .ok (.cont env) st := PS.mono ps_continue fun D σ H ⟨ρ, env, st, er, sr, p⟩ => p σ ρ H (.refl _ _) sr er
abbrev setF (t : T) (fe : Fe) : Fs := fun env st => (fe env st).bind fun d st1 => match bindT t d env with
  | some env1 => .ok (.next env1) st1
  | none => .bad
theorem set_read {j : Nat} : ∀ D σ H, tS K W (setF (.name j) fe) D σ H → tAsg (tE K W fe) (gName j) D σ H :=
  fun D σ H ⟨ρ, env, st, er, sr, p⟩ => ⟨ρ, env, st, er, sr, PostE.imp (PostS.step σ p) fun v H1 ⟨ρ1, st1, d, e1, s1, r1, _, p1⟩ => by
    unfold bindT at p1
    split at p1
    · rename_i env1 hb
      split at hb
      · cases hb
        exact p1 _ ρ1 H1 (.refl _ _) s1 ((er.ext e1).set r1)
      · cases hb
    · exact p1.elim⟩
theorem asg_read {t : T} : ∀ D σ H, tS K W (setF t fe) D σ H → tAsg (tE K W fe) (tG K t) D σ H :=
  fun D σ H ⟨ρ, env, st, er, sr, p⟩ => ⟨ρ, env, st, er, sr, PostE.imp (PostS.step σ p) fun v H1 ⟨ρ1, st1, d, e1, s1, r1, _, p1⟩ => by
    dsimp only at p1
    split at p1
    · rename_i env1 hb
      exact ⟨ρ1, d, env, st1, env1, er.ext e1, s1, r1, hb, fun σ' er' _ => p1 σ' ρ1 H1 (.refl _ _) s1 er'⟩
    · exact p1.elim⟩
theorem s_set {j : Nat} {x : Str} {pos' : Pos} (hN : X.N.Nodup) (hi : X.N[j]? = some x) (hx : Loc X.env.scope x) (he : Pe X W e fe) (hs : swapsWith e (some (.Name x pos')) pos.line X.env = pure false) (hf : X.fn x = true ∨ X.env.scope.names.lookup x = some .local) :
    Ps X W (.Assign [.Name x pos'] e pos) (setF (.name j) fe) := PS.mono (ps_set hN hi hx he hs hf) set_read
theorem s_asg {tg : Expr} {t : T} (he : Pe X W e fe) (hg : PG X tg (tG X.K t)) (hs : swapsWithSole [tg] e pos.line X.env = pure false) (hw : swappedStores [tg] e X.env = pure none) (h1 : (assignEach [tg] X.env).map (·.2) = [assign tg X.env]) :
    Ps X W (.Assign [tg] e pos) (setF t fe) := PS.mono (ps_asg he hg hs hw h1) asg_read
/-- a, b = x, y -/
theorem s_par {j k : Nat} {x y : Str} {a b : Expr} {fl : Fl} {px py pt : Pos} {kt k2 : Nat} {pt2 : Pos} (hc : X.calm = true) (hN : X.N.Nodup) (hi : X.N[j]? = some x) (hj : X.N[k]? = some y) (hij : j ≠ k)
    (hx : X.env.scope.names.lookup x = some .local) (hy : X.env.scope.names.lookup y = some .local) (ha : Pl X W [a, b] fl)
    (hw : swappedStores [.Tuple [.Name x px, .Name y py] kt pt] (.Tuple [a, b] k2 pt2) X.env = pure (some [x, y]))
    (hs : swapsWithSole [.Tuple [.Name x px, .Name y py] kt pt] (.Tuple [a, b] k2 pt2) pos.line X.env = pure false) :
    Ps X W (.Assign [.Tuple [.Name x px, .Name y py] kt pt] (.Tuple [a, b] k2 pt2) pos) (setF (.tup [.name j, .name k]) fun env st => (fl env st).bind fun ds st1 => .ok (.tup ds) st1) :=
  PS.mono (ps_par hc hN hi hj hij hx hy ha hw hs) fun D σ H ⟨ρ, env, st, er, sr, p⟩ => by
    refine ⟨ρ, env, st, er, sr, ?_⟩
    have p : PostS X.K W D ρ H ((fl env st).bind fun ds st1 => match bindT (.tup [.name j, .name k]) (.tup ds) env with
      | some env1 => .ok (.next env1) st1
      | none => .bad) := by
      cases q : fl env st <;> (have p := p; unfold setF at p; dsimp only at p; rw [q] at p; exact p)
    refine PostL.imp (PostS.stepL σ p) fun vs H1 ⟨ρ1, st1, ds, e1, s1, r1, _, p1⟩ => ?_
    dsimp only at p1
    split at p1
    · rename_i env1 hb
      unfold bindT at hb
      have hl := bindTs_len hb
      match ds, hl with
      | [d1, d2], _ =>
        obtain ⟨v1, v2, rfl, q1, q2⟩ := rps2 r1
        refine ⟨v1, v2, rfl, ?_⟩
        unfold bindTs bindT bindTs bindT bindTs at hb
        split at hb
        · rename_i env2 hb2
          split at hb2
          · cases hb2
            split at hb
            · rename_i env3 hb3
              split at hb3
              · cases hb3; cases hb
                exact p1 _ ρ1 H1 (.refl _ _) s1 (((er.ext e1).set q1).set q2)
              · cases hb3
            · cases hb
          · cases hb2
        · cases hb
    · exact p1.elim
theorem s_par3 {j k l : Nat} {x y z : Str} {a b c : Expr} {fl : Fl} {px py pz pt : Pos} {kt k2 : Nat} {pt2 : Pos} (hc : X.calm = true) (hN : X.N.Nodup) (hi : X.N[j]? = some x) (hj : X.N[k]? = some y) (hl : X.N[l]? = some z) (hij : j ≠ k) (hil : j ≠ l) (hjl : k ≠ l)
    (hx : X.env.scope.names.lookup x = some .local) (hy : X.env.scope.names.lookup y = some .local) (hz : X.env.scope.names.lookup z = some .local) (ha : Pl X W [a, b, c] fl)
    (hw : swappedStores [.Tuple [.Name x px, .Name y py, .Name z pz] kt pt] (.Tuple [a, b, c] k2 pt2) X.env = pure (some [x, y, z]))
    (hs : swapsWithSole [.Tuple [.Name x px, .Name y py, .Name z pz] kt pt] (.Tuple [a, b, c] k2 pt2) pos.line X.env = pure false) :
    Ps X W (.Assign [.Tuple [.Name x px, .Name y py, .Name z pz] kt pt] (.Tuple [a, b, c] k2 pt2) pos) (setF (.tup [.name j, .name k, .name l]) fun env st => (fl env st).bind fun ds st1 => .ok (.tup ds) st1) :=
  PS.mono (ps_par3 hc hN hi hj hl hij hil hjl hx hy hz ha hw hs) fun D σ H ⟨ρ, env, st, er, sr, p⟩ => by
    refine ⟨ρ, env, st, er, sr, ?_⟩
    have p : PostS X.K W D ρ H ((fl env st).bind fun ds st1 => match bindT (.tup [.name j, .name k, .name l]) (.tup ds) env with
      | some env1 => .ok (.next env1) st1
      | none => .bad) := by
      cases q : fl env st <;> (have p := p; unfold setF at p; dsimp only at p; rw [q] at p; exact p)
    refine PostL.imp (PostS.stepL σ p) fun vs H1 ⟨ρ1, st1, ds, e1, s1, r1, _, p1⟩ => ?_
    dsimp only at p1
    split at p1
    · rename_i env1 hb
      unfold bindT at hb
      have hl := bindTs_len hb
      match ds, hl with
      | [d1, d2, d3], _ =>
        obtain ⟨v1, rr, rfl, q1, r2⟩ := r1
        obtain ⟨v2, v3, rfl, q2, q3⟩ := rps2 r2
        refine ⟨v1, v2, v3, rfl, ?_⟩
        unfold bindTs bindT bindTs bindT bindTs bindT bindTs at hb
        split at hb
        · rename_i env2 hb2
          split at hb2
          · cases hb2
            split at hb
            · rename_i env3 hb3
              split at hb3
              · cases hb3
                split at hb
                · rename_i env4 hb4
                  split at hb4
                  · cases hb4; cases hb
                    exact p1 _ ρ1 H1 (.refl _ _) s1 ((((er.ext e1).set q1).set q2).set q3)
                  · cases hb4
                · cases hb
              · cases hb3
            · cases hb
          · cases hb2
        · cases hb
    · exact p1.elim
/-- a place of a list or of a dict is written, on related values -/
def rSubD (K : PySem.W.Frag) : V → V → V → Hp → (Hp → Prop) → Prop := fun o i v H Q => ∃ ρ st x y d st4, StR K ρ H st ∧ Rp K ρ H x o ∧ Rp K ρ H y i ∧ Rp K ρ H d v ∧ subop x y d st = some st4 ∧ ∀ H4, Ext ρ H ρ H4 → StR K ρ H4 st4 → Q H4
theorem set_sub (hu : X.A.units + 65 < cLine) : PSet X (rSubD X.K) := by
  intro pins s σ H o i v ov iv u Q I ro ri rv h
  obtain ⟨ρ, st, x, y, d, st4, sr, rx, ry, rd, hs, q⟩ := h
  cases x with
  | ref k =>
    unfold subop at hs
    dsimp only at hs
    cases hk : st[k]? with
    | none => rw [hk] at hs; cases hs
    | some c =>
      rw [hk] at hs
      cases c with
      | gone => cases hs
      | lst l =>
        obtain ⟨a, ha⟩ := sr.back k _ hk (by simp)
        obtain ⟨c, h1, h2⟩ := sr.cell k a ha
        rw [hk] at h1; cases h1
        obtain ⟨vs, h2, h3⟩ := h2
        have hw : o = .ref a := rx.2 a ha
        subst hw
        dsimp only at hs
        cases y with
        | int n =>
          dsimp only at hs
          cases q2 : ixN l.length n with
          | none => rw [q2] at hs; cases hs
          | some j =>
            rw [q2] at hs; cases hs
            cases (show i = _ from ry)
            obtain ⟨ex, s4⟩ := sr.write ha (h3.set rd j)
            exact set_list pins s σ H _ _ v ov iv u Q I ro ri rv ⟨a, vs, n, j, rfl, rfl, h2, by rw [← h3.length]; exact q2, q _ ex s4⟩
        | _ => cases hs
      | dic ks vs =>
        obtain ⟨a, ha⟩ := sr.back k _ hk (by simp)
        obtain ⟨c, h1, h2⟩ := sr.cell k a ha
        rw [hk] at h1; cases h1
        obtain ⟨ob, kv, vv, d1, d2, d3, d4⟩ := h2
        have hw : o = .ref a := rx.2 a ha
        subst hw
        cases (show ov = Value.ref a from ro)
        dsimp only at hs
        split at hs
        · rename_i hc
          cases hs
          refine dd_setItem (by omega) I d1 d2 d3 d4 ry ri hc.1 hc.2 rd rv fun o' kv' vv' s' I' e1 e2 e3 e4 => ?_
          obtain ⟨ex, s4⟩ := sr.write' (c := .dic (dputK ks vs y) (dputV ks vs y d)) ha (NoT.ext _) fun ex => ⟨o', kv', vv', e1, e2, e3.ext ex _ _, e4.ext ex _ _⟩
          exact ⟨_, I', q _ ex s4⟩
        · cases hs
  | _ => cases hs
/-- o[i] = e -/
abbrev subF (fe fo fi : Fe) : Fs := fun env st => (fe env st).bind fun d st1 => (fo env st1).bind fun x st2 => (fi env st2).bind fun y st3 => match subop x y d st3 with
  | some st4 => .ok (.next env) st4
  | none => .bad
theorem s_sub (hu : X.A.units + 65 < cLine) (he : Pe X W e fe) (ho : Pe X W o fo) (hi : Pe X W i fi) (hs : swapsWithSole [.Subscript o i p] e pos.line X.env = pure false) (hw : swappedStores [.Subscript o i p] e X.env = pure none) (h1 : (assignEach [.Subscript o i p] X.env).map (·.2) = [assign (.Subscript o i p) X.env])
    (ha : ∀ v, assign (.Subscript o i p) X.env v = (do
      let ov ← holding [v] (eval o X.env)
      let iv ← holding [v, ov] (eval i X.env)
      standAt p
      holding [v, ov, iv] (setItem ov iv v)
      release [v, ov, iv] [])) : Ps X W (.Assign [.Subscript o i p] e pos) (subF fe fo fi) :=
  PS.mono (ps_asg he (pg_sub ho hi (set_sub hu) ha) hs hw h1) fun D σ H ⟨ρ, env, st, er, sr, p⟩ => ⟨ρ, env, st, er, sr, PostE.imp (PostS.step σ p) fun v H1 ⟨ρ1, st1, d, e1, s1, r1, _, p1⟩ =>
    ⟨ρ1, env, st1, er.ext e1, s1, PostE.imp (PostS.step σ p1) fun w H2 ⟨ρ2, st2, d2, e2, s2, r2, _, p2⟩ =>
      ⟨ρ2, env, st2, (er.ext e1).ext e2, s2, PostE.imp (PostS.step σ p2) fun u H3 ⟨ρ3, st3, d3, e3, s3, r3, _, p3⟩ => by
        dsimp only at p3
        split at p3
        · rename_i st4 hsub
          exact ⟨ρ3, st3, d2, d3, d, st4, s3, r2.ext e3 _ _, r3, (r1.ext e2 _ _).ext e3 _ _, hsub, fun H4 ex s4 => p3 σ ρ3 H4 ex s4 ((((er.ext e1).ext e2).ext e3).ext ex)⟩
        · exact p3.elim⟩⟩⟩
theorem s_ex (he : Pe X W e fe) (hs : swapsWith e none pos.line X.env = pure false) : Ps X W (.Expr e pos) fun env st => (fe env st).bind fun _ st1 => .ok (.next env) st1 :=
  PS.mono (ps_expr he hs) fun D σ H ⟨ρ, env, st, er, sr, p⟩ => ⟨ρ, env, st, er, sr, PostE.imp (PostS.step σ p) fun v H1 ⟨ρ1, st1, d, e1, s1, r1, _, p1⟩ => p1 σ ρ1 H1 (.refl _ _) s1 (er.ext e1)⟩
theorem s_ret (he : Pe X W e fe) : Ps X W (.Return (some e) pos) fun env st => (fe env st).bind fun d st1 => .ok (.ret d) st1 :=
  PS.mono (ps_ret he) fun D σ H ⟨ρ, env, st, er, sr, p⟩ => ⟨ρ, env, st, er, sr, PostE.imp (PostS.step σ p) fun v H1 ⟨ρ1, st1, d, e1, s1, r1, _, p1⟩ => p1 v ρ1 H1 (.refl _ _) s1 r1⟩
theorem s_retN : Ps X W (.Return none pos) fun env st => .ok (.ret .non) st := PS.mono ps_retN fun D σ H ⟨ρ, env, st, er, sr, p⟩ => p .non ρ H (.refl _ _) sr rfl
theorem s_if (hc : Pt X W c fc) (ha : Pss X W A fa) (hb : Pss X W B fb) : Ps X W (.If c A B pos) fun env st => (fc env st).bind fun x st1 => match truth x st1 with
    | some k => if k = true then fa env st1 else fb env st1
    | none => .bad :=
  PS.mono (ps_if hc ha hb) fun D σ H ⟨ρ, env, st, er, sr, p⟩ => ⟨ρ, env, st, er, sr, PostT.imp (PostS.test σ (g := fun k _ st1 => if k = true then fa env st1 else fb env st1) p) fun k H1 ⟨ρ1, st1, d, e1, s1, _, _, p1⟩ => by
    cases k with
    | true => exact ⟨ρ1, env, st1, er.ext e1, s1, p1⟩
    | false => exact ⟨ρ1, env, st1, er.ext e1, s1, p1⟩⟩
theorem ss_nil : Pss X W [] fun env st => .ok (.next env) st := PSs.mono pss_nil fun D σ H ⟨ρ, env, st, er, sr, p⟩ => p σ ρ H (.refl _ _) sr er
abbrev seqF (f1 f2 : Fs) : Fs := fun env st => (f1 env st).bind fun f st1 => match f with
  | .next env1 => f2 env1 st1
  | _ => .ok f st1
theorem ss_cons {f1 f2 : Fs} (h1 : Ps X W s f1) (h2 : Pss X W rest f2) : Pss X W (s :: rest) (seqF f1 f2) :=
  PSs.mono (pss_cons h1 h2) fun D σ H ⟨ρ, env, st, er, sr, p⟩ => by
    refine ⟨ρ, env, st, er, sr, ?_⟩
    unfold seqF at p
    cases q : f1 env st with
    | ok f st1 =>
      rw [q] at p
      cases f with
      | next env1 => exact fun σ' ρ' H' e s r => ⟨ρ', env1, st1, r, s, PostS.later p e⟩
      | brk env1 => exact p
      | cont env1 => exact p
      | ret d => exact p
    | exc x st' => rw [q] at p; exact p
    | bad => rw [q] at p; exact p
/-! ### loops -/
theorem s_for {tg it : Expr} {fi : Fl} {t : T} {fb : Fs} (hp : PassesOwn (model X.prog X.w) X.A X.env X.xe) (hc : X.calm = true) (hi : Pi' X W tg it fi) (hg : PG X tg (tG X.K t)) (hb : Pss X W A fb) (hs : ∀ x, foldedSetIterable it X.env x = pure x) :
    Ps X W (.For tg it A [] pos) fun env st => (fi env st).bind fun xs st1 => forGo fb t xs env st1 :=
  PS.mono (ps_for hp hc hi hg hb hs) fun D σ H ⟨ρ, env, st, er, sr, p⟩ => by
    refine ⟨ρ, env, st, er, sr, PostI.imp (PostS.stepI σ p) fun J H1 ⟨ρ1, st1, xs, e1, s1, wk, _, p1⟩ => ?_⟩
    refine for_it wk.walk (fun i σ2 H2 => ∃ ρ2 env2 st2, Ext ρ1 H1 ρ2 H2 ∧ StR X.K ρ2 H2 st2 ∧ EnvR X.K ρ2 H2 env2 σ2 ∧ PostS X.K W D ρ2 H2 (forGo fb t (xs.drop i) env2 st2))
      ⟨ρ1, env, st1, .refl _ _, s1, er.ext e1, by rw [List.drop_zero]; exact p1⟩ ?_ ?_ ?_
    · rintro i σ2 H2 _ ⟨ρ2, env2, st2, e2, _⟩
      exact ⟨ρ2, e2.move⟩
    · rintro i x σ2 H2 H3 hlt ⟨ρ2, env2, st2, e2, s2, er2, p2⟩ hy
      obtain ⟨ex, s3, rx⟩ := wk.yld i _ ρ2 H2 st2 x H3 (List.getElem?_eq_some_iff.mpr ⟨hlt, rfl⟩) e2.move s2 hy
      rw [List.drop_eq_getElem_cons hlt] at p2
      unfold forGo at p2
      split at p2
      · exact p2.elim
      · rename_i env3 hb3
        refine ⟨ρ2, _, env2, st2, env3, er2.ext ex, s3, rx, hb3, fun σ3 er3 _ => ⟨ρ2, env3, st2, er3, s3, ?_⟩⟩
        have p2 := p2.later ex
        cases q : fb env3 st2 with
        | ok f st3 =>
          rw [q] at p2
          cases f with
          | next env4 => exact fun σ' ρ' H' e s r => ⟨ρ', env4, st3, (e2.trans ex).trans e, s, r, PostS.later p2 e⟩
          | cont env4 => exact fun σ' ρ' H' e s r => ⟨ρ', env4, st3, (e2.trans ex).trans e, s, r, PostS.later p2 e⟩
          | brk env4 => exact p2
          | ret d => exact p2
        | exc x st' => rw [q] at p2; exact p2
        | bad => rw [q] at p2; exact p2
    · rintro σ2 H2 ⟨ρ2, env2, st2, e2, s2, er2, p2⟩
      rw [List.drop_length] at p2
      exact p2 σ2 ρ2 H2 (.refl _ _) s2 er2
theorem s_while {n : Nat} {fb : Fs} (hp : PassesOwn (model X.prog X.w) X.A X.env X.xe) (hc : Pt X W c fc) (hb : Pss X W A fb) : Ps X W (.While c A [] pos) fun env st => whileGo fc fb n env st :=
  PS.mono (ps_while hp hc hb) fun D σ H ⟨ρ, env, st, er, sr, p⟩ => by
    refine ⟨fun m σ2 H2 => ∃ ρ2 env2 st2, StR X.K ρ2 H2 st2 ∧ EnvR X.K ρ2 H2 env2 σ2 ∧ PostS X.K W D ρ2 H2 (whileGo fc fb m env2 st2), ⟨n, ρ, env, st, sr, er, p⟩, ?_⟩
    rintro m σ2 H2 ⟨ρ2, env2, st2, s2, er2, p2⟩
    cases m with
    | zero => exact p2.elim
    | succ m =>
      unfold whileGo at p2
      have p2 : PostS X.K W D ρ2 H2 ((fc env2 st2).bind fun d st1 => match truth d st1 with
        | some b => if b = true then (fb env2 st1).bind fun f st2 => (match f with
            | .next env2 => whileGo fc fb m env2 st2
            | .cont env2 => whileGo fc fb m env2 st2
            | .brk env2 => .ok (.next env2) st2
            | .ret d => .ok (.ret d) st2) else .ok (.next env2) st1
        | none => .bad) := by
        cases q : fc env2 st2 with
        | ok d st1 =>
          rw [q] at p2
          have p2 : PostS X.K W D ρ2 H2 (match truth d st1 with
            | none => .bad
            | some b => _) := p2
          show PostS X.K W D ρ2 H2 (match truth d st1 with
            | some b => _
            | none => .bad)
          cases q2 : truth d st1 with
          | none => rw [q2] at p2; exact p2
          | some b => rw [q2] at p2; exact p2
        | exc x st' => rw [q] at p2; exact p2
        | bad => rw [q] at p2; exact p2
      refine ⟨ρ2, env2, st2, er2, s2, PostT.imp (PostS.test σ2 (g := fun b _ st1 => if b = true then (fb env2 st1).bind fun f st2 => (match f with
            | .next env2 => whileGo fc fb m env2 st2
            | .cont env2 => whileGo fc fb m env2 st2
            | .brk env2 => .ok (.next env2) st2
            | .ret d => .ok (.ret d) st2) else .ok (.next env2) st1) p2) fun k H3 ⟨ρ3, st3, d, e3, s3, _, _, p3⟩ => ?_⟩
      cases k with
      | false =>
        rw [if_neg Bool.false_ne_true] at p3 ⊢
        exact p3 σ2 ρ3 H3 (.refl _ _) s3 (er2.ext e3)
      | true =>
        rw [if_pos rfl] at p3 ⊢
        refine ⟨fun σ' H' => ∃ ρ2 env2 st2, StR X.K ρ2 H' st2 ∧ EnvR X.K ρ2 H' env2 σ' ∧ PostS X.K W D ρ2 H' (whileGo fc fb m env2 st2), fun σ' H' h => ⟨m, Nat.lt_succ_self m, h⟩, ρ3, env2, st3, er2.ext e3, s3, ?_⟩
        cases q : fb env2 st3 with
        | ok f st4 =>
          rw [q] at p3
          cases f with
          | next env4 => exact fun σ' ρ' H' e s r => ⟨ρ', env4, st4, s, r, PostS.later p3 e⟩
          | cont env4 => exact fun σ' ρ' H' e s r => ⟨ρ', env4, st4, s, r, PostS.later p3 e⟩
          | brk env4 => exact p3
          | ret d => exact p3
        | exc x st' => rw [q] at p3; exact p3
        | bad => rw [q] at p3; exact p3
/-- raise X('..') -/
theorem s_raise {x m : Str} {j : Nat} {q p2 : Pos} {B newId initId : String} {bmB : List Value} {C : Addr} (hc : X.calm = true) (tk : L2N.Takes X (wxOf X.mg W)) (Fx : ExcBaseFacts B newId initId bmB) (hq : PySem.W.excIn X.K C bmB newId = true) (gC : X.mg x = some (.ref C)) (kC : PySem.W.keepIn X.K (.ref C) = true) (r : Raises X (.ref C)) (hg : Gl X x)
    (hdb : (x == ("__debug__" : Str)) = false) : Ps X W (.Raise (some (.Call (.Name x p) [.Constant (.str m) j p2] [] q)) none pos) fun _ st => .exc x st :=
  PS.mono (L2N.ps_raise hc tk (L2N.pmk_own Fx hq gC kC r hg hdb)) fun D σ H ⟨ρ, env, st, er, sr, p⟩ => ⟨x, C, rfl, rfl, gC, p σ ρ H (.refl _ _) sr⟩
end
end Ev

set_option Elab.async false
set_option linter.all false
set_option maxRecDepth 100000
set_option maxHeartbeats 1000000
namespace Ev
open PySem PySem.Spec PyProof.Rows L2
variable [TabsOf]
section
variable {X : Cx} {W : XW} {o1 i1 o2 i2 e1 e2 : Expr} {fo1 fi1 fo2 fi2 fe1 fe2 : Fe} {p1 p2 pt pt2 pos : Pos} {kt k2 : Nat}
abbrev sub2F (fo1 fi1 fo2 fi2 fe1 fe2 : Fe) : Fs := fun env st => (fe1 env st).bind fun d1 st1 => (fe2 env st1).bind fun d2 st2 => (fo1 env st2).bind fun x1 st3 => (fi1 env st3).bind fun y1 st4 => match subop x1 y1 d1 st4 with
  | some st5 => (fo2 env st5).bind fun x2 st6 => (fi2 env st6).bind fun y2 st7 => match subop x2 y2 d2 st7 with
    | some st8 => .ok (.next env) st8
    | none => .bad
  | none => .bad
abbrev SubAs (X : Cx) (o i : Expr) (p : Pos) : Prop := ∀ v, assign (.Subscript o i p) X.env v = (do
      let ov ← holding [v] (eval o X.env)
      let iv ← holding [v, ov] (eval i X.env)
      standAt p
      holding [v, ov, iv] (setItem ov iv v)
      release [v, ov, iv] [])
theorem s_sub2 (hc : X.calm = true) (hu : X.A.units + 65 < cLine) (h1 : Pe X W e1 fe1) (h2 : Pe X W e2 fe2) (ho1 : Pe X W o1 fo1) (hi1 : Pe X W i1 fi1) (ho2 : Pe X W o2 fo2) (hi2 : Pe X W i2 fi2)
    (hs1 : starEach [e1, e2] X.env = (false, eval e1 X.env) :: starEach [e2] X.env) (hs2 : starEach [e2] X.env = (false, eval e2 X.env) :: starEach [] X.env) (a1 : SubAs X o1 i1 p1) (a2 : SubAs X o2 i2 p2)
    (hs : swapsWithSole [.Tuple [.Subscript o1 i1 p1, .Subscript o2 i2 p2] kt pt] (.Tuple [e1, e2] k2 pt2) pos.line X.env = pure false) (hw : swappedStores [.Tuple [.Subscript o1 i1 p1, .Subscript o2 i2 p2] kt pt] (.Tuple [e1, e2] k2 pt2) X.env = pure none) :
    Ps X W (.Assign [.Tuple [.Subscript o1 i1 p1, .Subscript o2 i2 p2] kt pt] (.Tuple [e1, e2] k2 pt2) pos) (sub2F fo1 fi1 fo2 fi2 fe1 fe2) := by
  have pl := l_cons h1 (l_cons h2 l_nil hs2) hs1
  have pe := x_tup (x1 := k2) (pos := pt2) pl (fun env st ds st' q => by
    obtain ⟨d1, st1, _, q⟩ := bind_ok q
    obtain ⟨ds', st2, q2, q⟩ := bind_ok q
    obtain ⟨d2, st3, _, q2⟩ := bind_ok q2
    obtain ⟨ds2, st4, q3, q2⟩ := bind_ok q2
    cases q3; cases q2; cases q
    show 2 ≤ seqMax
    decide)
  have pg := pg_tup (pos := pt) (k := kt) (n := 2) hc (pgs_cons (pg_sub (pos := p1) ho1 hi1 (set_sub hu) a1) (pgs_cons (pg_sub (pos := p2) ho2 hi2 (set_sub hu) a2) pgs_nil rfl) rfl) rfl rfl
  refine PS.mono (ps_asg pe pg hs hw rfl) fun D σ H ⟨ρ, env, st, er, sr, p⟩ => ⟨ρ, env, st, er, sr, ?_⟩
  dsimp only
  unfold sub2F at p
  cases q1 : fe1 env st with
  | bad => rw [q1] at p; exact p.elim
  | exc x st' => rw [q1] at p; exact fun ρ' H' e s => p σ ρ' H' e s
  | ok d1 st1 =>
    rw [q1] at p
    change PostS X.K W D ρ H ((fe2 env st1).bind _) at p
    show PostE X.K (W σ) ρ H ((((fe2 env st1).bind _).bind _).bind _) _
    cases q2 : fe2 env st1 with
    | bad => rw [q2] at p; exact p.elim
    | exc x st' => rw [q2] at p; exact fun ρ' H' e s => p σ ρ' H' e s
    | ok d2 st2 =>
      rw [q2] at p
      intro v ρ1 H1 ex1 s1 r1
      obtain ⟨a, vs, rfl, ha, off, rl⟩ := r1
      obtain ⟨v1, r, rfl, r1, w, rr, rfl, r2, rn⟩ := rl
      cases (show rr = [] from rn)
      have er1 := er.ext ex1
      refine ⟨a, [v1, w], rfl, .of ha, rfl, v1, [w], rfl, ?_⟩
      have p1 := PostS.later p ex1
      refine ⟨ρ1, env, st2, er1, s1, PostE.imp (PostS.step σ p1) fun x1 H2 ⟨ρ2, st3, dx, ex2, s2, rx, _, p2⟩ => ?_⟩
      refine ⟨ρ2, env, st3, er1.ext ex2, s2, PostE.imp (PostS.step σ p2) fun y1 H3 ⟨ρ3, st4, dy, ex3, s3, ry, _, p3⟩ => ?_⟩
      dsimp only at p3
      split at p3
      · rename_i st5 hsub
        refine ⟨ρ3, st4, dx, dy, d1, st5, s3, rx.ext ex3 _ _, ry, (r1.ext ex2 _ _).ext ex3 _ _, hsub, fun H4 ex4 s4 => ?_⟩
        have er4 := ((er1.ext ex2).ext ex3).ext ex4
        have r24 := ((r2.ext ex2 _ _).ext ex3 _ _).ext ex4 _ _
        refine ⟨w, [], rfl, ?_⟩
        have p4 := PostS.later p3 ex4
        refine ⟨ρ3, env, st5, er4, s4, PostE.imp (PostS.step σ p4) fun x2 H5 ⟨ρ5, st6, dx2, ex5, s5, rx2, _, p5⟩ => ?_⟩
        refine ⟨ρ5, env, st6, er4.ext ex5, s5, PostE.imp (PostS.step σ p5) fun y2 H6 ⟨ρ6, st7, dy2, ex6, s6, ry2, _, p6⟩ => ?_⟩
        dsimp only at p6
        split at p6
        · rename_i st8 hsub2
          exact ⟨ρ6, st7, dx2, dy2, d2, st8, s6, rx2.ext ex6 _ _, ry2, (r24.ext ex5 _ _).ext ex6 _ _, hsub2, fun H7 ex7 s7 => ⟨rfl, p6 σ ρ6 H7 ex7 s7 (((er4.ext ex5).ext ex6).ext ex7)⟩⟩
        · exact p6.elim
      · exact p3.elim
end
end Ev

set_option Elab.async false
set_option linter.all false
set_option maxRecDepth 100000
set_option maxHeartbeats 1000000
/-! walking a list that is a cell, and stays as it is meanwhile -/
namespace Ev
open PySem PySem.Spec PyProof.Rows L2
mutual
theorem sameD_eq : ∀ (a b : D), sameD a b = true → a = b
  | .non, b, h => by cases b <;> first | rfl | cases h
  | .bl x, b, h => by cases b <;> first | (cases h; done) | (simp only [sameD, beq_iff_eq] at h; rw [h])
  | .int x, b, h => by cases b <;> first | (cases h; done) | (simp only [sameD, beq_iff_eq] at h; rw [h])
  | .str x, b, h => by cases b <;> first | (cases h; done) | (simp only [sameD, eqS_eq, beq_iff_eq] at h; rw [h])
  | .fn x, b, h => by cases b <;> first | (cases h; done) | (simp only [sameD, eqS_eq, beq_iff_eq] at h; rw [h])
  | .ref x, b, h => by cases b <;> first | (cases h; done) | (simp only [sameD, beq_iff_eq] at h; rw [h])
  | .rng x y, b, h => by cases b <;> first | (cases h; done) | (simp only [sameD, Bool.and_eq_true, beq_iff_eq] at h; rw [h.1, h.2])
  | .scr x, b, h => by cases b <;> first | (cases h; done) | (simp only [sameD, beq_iff_eq] at h; rw [h])
  | .tup x, b, h => by cases b <;> first | (cases h; done) | (rename_i y; simp only [sameD] at h; rw [sameL_eq x y h])
  | .lst x, b, h => by cases b <;> first | (cases h; done) | (rename_i y; simp only [sameD] at h; rw [sameL_eq x y h])
  | .dic x y, b, h => by cases b <;> first | (cases h; done) | (rename_i u w; simp only [sameD, Bool.and_eq_true] at h; rw [sameL_eq x u h.1, sameL_eq y w h.2])
theorem sameL_eq : ∀ (a b : List D), sameL a b = true → a = b
  | [], [], _ => rfl
  | [], _ :: _, h => by cases h
  | _ :: _, [], h => by cases h
  | x :: xs, y :: ys, h => by
    simp only [sameL, Bool.and_eq_true] at h
    rw [sameD_eq x y h.1, sameL_eq xs ys h.2]
end
theorem held_eq {k : Nat} {l : List D} {st : Store} (h : heldCell k l st = true) : st[k]? = some (.lst l) := by
  unfold heldCell at h
  split at h
  · rename_i m hm
    rw [hm, sameL_eq m l h]
  · cases h
variable [TabsOf]
section
variable {K : PySem.W.Frag}
/-- the cell's list stands there -/
def CW (a : Addr) (n : Nat) (H : Hp) : Prop := ∃ vs, H a = some (.lst vs) ∧ vs.length = n
theorem cw_walk {a : Addr} {n : Nat} : Walk (Itl K a) n (CW a n) (fun i H1 x H2 => (Itl K a).yld i H1 x H2) :=
  ⟨fun i H hi ⟨vs, h, e⟩ => ⟨vs, vs[i]'(by omega), .of h, List.getElem?_eq_getElem (by omega)⟩, fun H ⟨vs, h, e⟩ => ⟨vs, .of h, by omega⟩, fun _ _ _ _ _ _ y => y⟩
/-- what a state tells of the cell -/
theorem cell_now {ρ ρ1 : Rho} {H H1 : Hp} {st : Store} {k : Nat} {a : Addr} {l : List D} (s : StR K ρ1 H1 st) (m : Move ρ H ρ1 H1) (ha : ρ.cells[k]? = some (some a)) (hl : st[k]? = some (.lst l)) : ∃ vs, H1 a = some (.lst vs) ∧ Rps K ρ1 H1 l vs := by
  obtain ⟨a', ha'⟩ := s.back k _ hl (by simp)
  have hk : k < ρ.cells.length := (List.getElem?_eq_some_iff.mp ha).1
  have e : a' = a := by
    rcases m.old k hk with q | q
    · rw [ha', ha] at q; cases q; rfl
    · rw [ha'] at q; cases q
  subst e
  obtain ⟨c, h1, h2⟩ := s.cell k a' ha'
  rw [hl] at h1
  cases h1
  exact h2
/-- a walk of one item, known already -/
def ItOne (x : V) : It := ⟨fun _ _ => True, fun i H y H' => H' = H ∧ y = x, fun _ _ => True⟩
theorem wk_one {ρ : Rho} {H : Hp} {d : D} {x : V} (r : Rp K ρ H d x) : Wk K (ItOne x) ρ H [d] where
  go := fun _ _ _ _ _ => trivial
  stop := fun _ _ _ => trivial
  yld := fun i d' ρ1 H1 st1 y H2 hd m s yl => by
    obtain ⟨rfl, rfl⟩ := yl
    cases i with
    | zero => simp at hd; subst hd; exact ⟨.refl _ _, s, r.move m⟩
    | succ i => simp at hd
end
/-- the reading of what is walked: a cell -/
def tIW (K : PySem.W.Frag) (W : XW) (f : Fe) : TI := fun σ H Q => ∃ ρ env st, EnvR K ρ H env σ ∧ StR K ρ H st ∧ PostE K (W σ) ρ H (f env st) fun v H1 => ∃ ρ1 st1 k a l, Ext ρ H ρ1 H1 ∧ StR K ρ1 H1 st1 ∧ f env st = .ok (.ref k) st1 ∧ st1[k]? = some (.lst l) ∧ ρ1.cells[k]? = some (some a) ∧ v = .ref a ∧ Q (Itl K a) H1
section
variable {X : Cx} {W : XW} {tg e elt : Expr} {f fe : Fe} {pos : Pos}
theorem i_cell (he : Pe X W e f) : PI X tg e (tIW X.K W f) := by
  refine ⟨fun pins s σ H Rq I ⟨ρ, env, st, er, sr, p⟩ => ?_⟩
  refine thn (he.run pins s σ H _ I ⟨ρ, env, st, er, sr, p⟩) fun v s1 ⟨x, H1, I1, r1, ρ1, st1, k, a, l, e1, s1', _, hl, ha, ex, q⟩ => ?_
  subst ex
  cases r1
  obtain ⟨vs, h2, rl⟩ := cell_now s1' (Move.refl ρ1 H1) ha hl
  obtain ⟨its, rv, pl, hz⟩ := I1.list (SqL.of h2)
  refine wpAny_pyIter_list pl.isList ?_
  refine ⟨s1.heap.objs.size, [s1.heap.objs.size], _, _, H1, rfl, I1.kept (t' := s1.toks) fun b o e => Heap.get?_push_of_some _ e, turn_list a _, ⟨_, Heap.get?_push_size _ rfl, rfl, rfl⟩, fun b hb => ?_, q⟩
  have e : b = s1.heap.objs.size := by simpa using hb
  subst e
  exact I1.fpOk (Nat.le_refl _) (I1.hok.fresh (Nat.le_refl _))
variable {ifs : List Expr} {scope : Scope} {own : List (Str × Nat)} {t : T} {ft : Fb}
abbrev lcwF (f : Fe) (t : T) (ft : Fb) (fe : Fe) (own : List Nat) : Fe := fun env st => (f env st).bind fun d st1 => match d with
  | .ref k => match st1[k]? with
    | some (.lst l) => (lcItems (grd (heldCell k l) (oneF t ft fe)) l (wipeE env own) st1).calm.bind fun ys st2 => if heldCell k l st2 = true ∧ ys.length ≤ seqMax then .ok (.lst ys) st2 else .bad
    | _ => .bad
  | _ => .bad
theorem lcw_read (hsl : ∀ i ∈ slots t, i ∈ own.map (·.2)) : ∀ σ H Q, tE X.K W (lcwF f t ft fe (own.map (·.2))) σ H Q → tLc (tIW X.K W f) (tG X.K t) (tB' X.K W0 ft) (tE X.K W0 fe) (own.map (·.2)) σ H Q := by
  intro σ H Q ⟨ρ, env, st, er, sr, p⟩
  refine ⟨ρ, env, st, er, sr, ?_⟩
  unfold lcwF at p
  cases q : f env st with
  | exc x st' => rw [q] at p; exact p
  | bad => rw [q] at p; exact p.elim
  | ok d st1 =>
    rw [q] at p
    cases d with
    | ref k =>
      cases hc : st1[k]? with
      | none => simp only [R.bind, hc] at p; exact p.elim
      | some c =>
        cases c with
        | lst l =>
          simp only [R.bind, hc] at p
          cases q2 : lcItems (grd (heldCell k l) (oneF t ft fe)) l (wipeE env (own.map (·.2))) st1 with
          | exc x st' => rw [q2] at p; exact p.elim
          | bad => rw [q2] at p; exact p.elim
          | ok total stF =>
            rw [q2] at p
            change PostE X.K (W σ) ρ H (if heldCell k l stF = true ∧ total.length ≤ seqMax then .ok (.lst total) stF else .bad) Q at p
            split at p
            · rename_i hz
              obtain ⟨hF, hz⟩ := hz
              intro v ρ1 H1 e1 s1 rv
              obtain ⟨a, ha⟩ := s1.back k _ hc (by simp)
              refine ⟨ρ1, st1, k, a, l, e1, s1, rfl, hc, ha, rv.2 a ha, fun D hD => ?_⟩
              have er1 := er.ext e1
              -- the guard, where the walk stands
              have stands : ∀ {i : Nat} {zs : List Ev.D} {st2 : Store}, lcItems (grd (heldCell k l) (oneF t ft fe)) (l.drop i) (wipeE env (own.map (·.2))) st2 = .ok zs stF → st2[k]? = some (.lst l) := fun {i zs st2} hr => by
                by_cases hi : i < l.length
                · have hd : l[i]? = some l[i] := List.getElem?_eq_some_iff.mpr ⟨hi, rfl⟩
                  obtain ⟨y, st3, zs2, h1, _, _⟩ := lcItems_drop hd hr
                  unfold grd at h1
                  split at h1
                  · rename_i g; exact held_eq g
                  · cases h1
                · rw [List.drop_of_length_le (by omega)] at hr
                  cases hr
                  exact held_eq hF
              refine lc_it (cw_walk (K := X.K) (a := a) (n := l.length)) (lcInv X.K ρ1 H1 D (grd (heldCell k l) (oneF t ft fe)) l (wipeE env (own.map (·.2))) stF total)
                ⟨ρ1, st1, [], total, .start s1 hD, by rw [List.drop_zero]; exact q2, rfl⟩ ?_ ?_ ?_
              · rintro i H2 _ ⟨ρ2, st2, ys, zs, ll, hr, _⟩
                obtain ⟨vs, h1, h2⟩ := cell_now ll.st (ll.move hD) ha (stands hr)
                exact ⟨vs, h1, h2.length.symm⟩
              · rintro i x H2 H3 hi ⟨ρ2, st2, ys, zs, ll, hr, rfl⟩ hy
                have hd : l[i]? = some l[i] := List.getElem?_eq_some_iff.mpr ⟨hi, rfl⟩
                obtain ⟨vs, h1', h2'⟩ := cell_now ll.st (ll.move hD) ha (stands hr)
                obtain ⟨y, st3, zs2, h1, h2, rfl⟩ := lcItems_drop hd hr
                have h1 : oneF t ft fe l[i] (wipeE env (own.map (·.2))) st2 = .ok y st3 := by
                  unfold grd at h1
                  split at h1
                  · exact h1
                  · cases h1
                obtain ⟨rfl, hy⟩ := hy
                obtain ⟨w, hw, rw'⟩ := h2'.get hd
                have := hy vs (.of h1')
                rw [hw] at this
                cases this
                have z := last_turn (zs := y) (ys := ys) (Nx := lcInv X.K ρ1 H1 D (grd (heldCell k l) (oneF t ft fe)) l (wipeE env (own.map (·.2))) stF (ys ++ (y ++ zs2)) (i + 1)) (wk_one rw') ll hD (Move.refl _ _) ((er1.move (ll.move hD)).wipe (own.map (·.2))) (i := 0) rfl h1
                  (by rw [List.length_append, List.length_append] at hz; rw [List.length_append]; omega) hsl ⟨rfl, rfl⟩ (fun ρ3 H3 l3 _ _ => ⟨ρ3, st3, ys ++ y, zs2, l3, h2, by simp⟩)
                rw [wipe_wipe] at z
                exact z
              · rintro H2 ⟨ρ2, st2, ys, zs, ll, hr, rfl⟩
                rw [List.drop_length] at hr
                cases hr
                rw [List.append_nil] at p
                exact ll.fin (c := false) s1 hD e1 p
            · exact p.elim
        | _ => simp only [R.bind, hc] at p; exact p.elim
    | _ => exact p.elim
theorem x_lcw {iter : Expr} (hc : X.calm = true) (hN : X.N.Nodup) (hi : Pe X W iter f) (ok : BlkOk X.N X.env.scope scope own)
    (hg : ∀ (s : Shared) (H : Hp) (C : Addr) (cl : List (Str × Addr)) (fp : List Addr), PG (X.blk s H scope (compEnvC scope cl C X.env) fp) tg (tG X.K t)) (ht : ∀ (s : Shared) (H : Hp) (C : Addr) (cl : List (Str × Addr)) (fp : List Addr), PTs (X.blk s H scope (compEnvC scope cl C X.env) fp) ifs (tB' X.K W0 ft))
    (he : ∀ (s : Shared) (H : Hp) (C : Addr) (cl : List (Str × Addr)) (fp : List Addr), Pe (X.blk s H scope (compEnvC scope cl C X.env) fp) W0 elt fe) (hs : ∀ x, foldedSetIterable iter X.env x = pure x) (hsl : ∀ i ∈ slots t, i ∈ own.map (·.2)) :
    Pe X W (.ListComp elt [⟨tg, iter, ifs, 0⟩] scope pos) (lcwF f t ft fe (own.map (·.2))) ∧
    ∀ (i : Nat) (y : Str) (py spos : Pos), X.N[i]? = some y → X.env.scope.names.lookup y = some .local → swapsWith (.ListComp elt [⟨tg, iter, ifs, 0⟩] scope pos) (some (.Name y py)) spos.line X.env = pure true →
      PS X (.Assign [.Name y py] (.ListComp elt [⟨tg, iter, ifs, 0⟩] scope pos) spos) (tAsg (tE X.K W (lcwF f t ft fe (own.map (·.2)))) (gName i)) :=
  ⟨PE.mono (pe_lc hc hN (i_cell hi) ok hg ht he hs) (lcw_read hsl), fun i y py spos hy hyl hsw => PS.mono (ps_setLc hc hN hy hyl hsw (i_cell hi) ok hg ht he hs) fun D σ H q => lcw_read hsl σ H _ q⟩
/-- for over a cell -/
abbrev forwF (f : Fe) (fb : Fs) (t : T) : Fs := fun env st => (f env st).bind fun d st1 => match d with
  | .ref k => match st1[k]? with
    | some (.lst l) => (forGo (fun e st => grd (heldCell k l) (fun (_ : Unit) e st => fb e st) () e st) t l env st1).bind fun f st2 => match f with
      | .next _ => if heldCell k l st2 = true then .ok f st2 else .bad
      | _ => .ok f st2
    | _ => .bad
  | _ => .bad
/-- what stands behind the walk -/
def endCW (k : Nat) (l : List D) (f : F) (st : Store) : R F := match f with
  | .next _ => if heldCell k l st = true then .ok f st else .bad
  | _ => .ok f st
theorem forw_stands {D : Ends} {ρ : Rho} {H : Hp} {k : Nat} {l : List Ev.D} {fb : Fs} {env : Env} {st : Store} {i : Nat}
    (p : PostS X.K W D ρ H ((forGo (fun e st => grd (heldCell k l) (fun (_ : Unit) e st => fb e st) () e st) t (l.drop i) env st).bind (endCW k l))) : st[k]? = some (.lst l) := by
  by_cases hi : i < l.length
  · rw [List.drop_eq_getElem_cons hi] at p
    unfold forGo at p
    split at p
    · exact p.elim
    · unfold grd at p
      split at p
      · rename_i g; exact held_eq g
      · exact p.elim
  · rw [List.drop_of_length_le (by omega)] at p
    unfold forGo at p
    change PostS X.K W D ρ H (if heldCell k l st = true then .ok (.next env) st else .bad) at p
    split at p
    · rename_i g; exact held_eq g
    · exact p.elim
theorem s_forw {A : List Stmt} {m : Expr} {fb : Fs} (hp : PassesOwn (model X.prog X.w) X.A X.env X.xe) (hc : X.calm = true) (hi : Pe X W m f) (hg : PG X tg (tG X.K t)) (hb : Pss X W A fb) (hs : ∀ x, foldedSetIterable m X.env x = pure x) :
    Ps X W (.For tg m A [] pos) (forwF f fb t) :=
  PS.mono (ps_for hp hc (i_cell hi) hg hb hs) fun D σ H ⟨ρ, env, st, er, sr, p⟩ => by
    refine ⟨ρ, env, st, er, sr, ?_⟩
    unfold forwF at p
    cases q : f env st with
    | exc x st' => rw [q] at p; exact fun ρ' H' e s => p σ ρ' H' e s
    | bad => rw [q] at p; exact p.elim
    | ok d st1 =>
      rw [q] at p
      cases d with
      | ref k =>
        cases hk : st1[k]? with
        | none => simp only [R.bind, hk] at p; exact p.elim
        | some c =>
          cases c with
          | lst l =>
            simp only [R.bind, hk] at p
            change PostS X.K W D ρ H ((forGo (fun e st => grd (heldCell k l) (fun (_ : Unit) e st => fb e st) () e st) t l env st1).bind (endCW k l)) at p
            intro v ρ1 H1 e1 s1 rv
            obtain ⟨a, ha⟩ := s1.back k _ hk (by simp)
            refine ⟨ρ1, st1, k, a, l, e1, s1, rfl, hk, ha, rv.2 a ha, ?_⟩
            refine for_it (cw_walk (K := X.K) (a := a) (n := l.length)) (fun i σ2 H2 => ∃ ρ2 env2 st2, Ext ρ1 H1 ρ2 H2 ∧ StR X.K ρ2 H2 st2 ∧ EnvR X.K ρ2 H2 env2 σ2 ∧ PostS X.K W D ρ2 H2 ((forGo (fun e st => grd (heldCell k l) (fun (_ : Unit) e st => fb e st) () e st) t (l.drop i) env2 st2).bind (endCW k l)))
              ⟨ρ1, env, st1, .refl _ _, s1, er.ext e1, by rw [List.drop_zero]; exact p.later e1⟩ ?_ ?_ ?_
            · rintro i σ2 H2 _ ⟨ρ2, env2, st2, e2, s2, _, p2⟩
              obtain ⟨vs, h1, h2⟩ := cell_now s2 e2.move ha (forw_stands p2)
              exact ⟨vs, h1, h2.length.symm⟩
            · rintro i x σ2 H2 H3 hlt ⟨ρ2, env2, st2, e2, s2, er2, p2⟩ hy
              have hst := forw_stands p2
              obtain ⟨vs, h1', h2'⟩ := cell_now s2 e2.move ha hst
              obtain ⟨rfl, hy⟩ := hy
              obtain ⟨w, hw, rx⟩ := h2'.get (List.getElem?_eq_some_iff.mpr ⟨hlt, rfl⟩)
              have := hy vs (.of h1')
              rw [hw] at this
              cases this
              rw [List.drop_eq_getElem_cons hlt] at p2
              unfold forGo at p2
              split at p2
              · exact p2.elim
              · rename_i env3 hb3
                refine ⟨ρ2, _, env2, st2, env3, er2, s2, rx, hb3, fun σ3 er3 _ => ⟨ρ2, env3, st2, er3, s2, ?_⟩⟩
                unfold grd at p2
                split at p2
                · dsimp only at p2
                  cases q : fb env3 st2 with
                  | ok f st3 =>
                    rw [q] at p2
                    cases f with
                    | next env4 => exact fun σ' ρ' H' e s r => ⟨ρ', env4, st3, e2.trans e, s, r, PostS.later p2 e⟩
                    | cont env4 => exact fun σ' ρ' H' e s r => ⟨ρ', env4, st3, e2.trans e, s, r, PostS.later p2 e⟩
                    | brk env4 =>
                      change PostS X.K W D ρ2 H3 (if heldCell k l st3 = true then .ok (.next env4) st3 else .bad) at p2
                      split at p2
                      · exact p2
                      · exact p2.elim
                    | ret d => exact p2
                  | exc x st' => rw [q] at p2; exact p2
                  | bad => rw [q] at p2; exact p2
                · exact p2.elim
            · rintro σ2 H2 ⟨ρ2, env2, st2, e2, s2, er2, p2⟩
              rw [List.drop_length] at p2
              change PostS X.K W D ρ2 H2 (if heldCell k l st2 = true then .ok (.next env2) st2 else .bad) at p2
              split at p2
              · exact p2 σ2 ρ2 H2 (.refl _ _) s2 er2
              · exact p2.elim
          | _ => simp only [R.bind, hk] at p; exact p.elim
      | _ => exact p.elim
end
end Ev

set_option Elab.async false
set_option linter.all false
set_option maxRecDepth 100000
set_option maxHeartbeats 1000000
namespace Ev
open PySem PySem.Spec PyProof.Rows L2
variable [TabsOf]
section
variable {X : Cx} {W : XW} {o e f : Expr} {fo fe ff : Fe} {pos apos cpos : Pos}
/-- {} -/
theorem x_dnew (c : Bool) : Pe X W (.Dict [] [] pos) fun _ st => newD c st :=
  PE.mono pe_dnew fun σ H Q ⟨ρ, env, st, er, sr, p⟩ q hq d => by
    cases c with
    | true =>
      obtain ⟨ex, s2⟩ := sr.cellNew' (c := .dic [] []) (o := DX q emptyD) hq fun e => ⟨emptyD, [], [], d, dic_empty, rfl, rfl⟩
      refine p _ _ _ ex s2 ⟨by simp [sr.len], fun a ha => ?_⟩
      rw [sr.len] at ha
      simp at ha
      rw [ha]
    | false =>
      exact PostE.new p sr hq fun e n => ⟨q, emptyD, [], [], rfl, d, n, dic_empty, rfl, rfl⟩
theorem x_dget1 (hu : X.A.units + 65 < cLine) (ho : Pe X W o fo) (he : Pe X W e fe) (m : M1 X o "get" apos e cpos) : Pe X W (.Call (.Attribute o "get" apos) [e] [] cpos) fun env st => (fo env st).bind fun d st1 => match dicOf d st1 with
    | some _ => (fe env st1).bind fun y st2 => getD1 d y st2
    | none => .bad := by
  refine ⟨fun pins s σ H Q I ⟨ρ, env, st, er, sr, p⟩ => ?_⟩
  refine wpAny_Call_method m.base m.few m.line PySem.F.plainAttrs_dict PySem.F.slot_dict_get PySem.F.type_dict_get (thn (ho.run pins s σ H _ I ⟨ρ, env, st, er, sr, PostE.step p⟩) fun u s1 ⟨x, H1, I1, rx, ρ1, st1, d, e1, s1', rd, _, p1⟩ => ?_)
  dsimp only at p1
  split at p1
  · rename_i q hq
    obtain ⟨ks, vs⟩ := q
    obtain ⟨a, ob, kv, vv, rfl, d1, d2, d3, d4⟩ := rd.dicOf s1' hq
    obtain rfl : u = Value.ref a := rx
    obtain ⟨t1, ob', t2, t3⟩ := dict_ty I1 d1 d2
    refine ⟨t1, fun b hb => by cases hb; exact ⟨ob', t2, t3⟩, ?_⟩
    rw [m.trees]
    refine Calls.callWith_builtin rfl (Calls.evalArgs_plain (Calls.spliced_cons (thn (he.run pins s1 σ H1 _ I1 ⟨ρ1, env, st1, er.ext e1, s1', PostE.step p1⟩) fun iv s2 ⟨y, H2, I2, ry, ρ2, st2, yd, e2, s2', ryd, _, p2⟩ => Calls.spliced_nil ?_)))
    have rd2 := rd.ext e2 _ _
    dsimp only at p2
    unfold getD1 at p2
    cases hd : dicOf d st2 with
    | none => rw [hd] at p2; exact p2.elim
    | some q =>
      obtain ⟨ks2, vs2⟩ := q
      rw [hd] at p2
      dsimp only at p2
      split at p2
      · rename_i hk
        obtain ⟨a2, ob2, kv2, vv2, ea, f1, f2, f3, f4⟩ := rd2.dicOf s2' hd
        cases ea
        exact dd_get1 (by omega) I2 f1 f2 f3 f4 ryd ry hk fun v w' s' I' r1 r2 => ⟨v, H2, I', r2, p2.here s2' r1⟩
      · exact p2.elim
  · exact p1.elim
theorem x_dget2 (hu : X.A.units + 65 < cLine) (ho : Pe X W o fo) (he : Pe X W e fe) (hf : Pe X W f ff) (m : M2 X o "get" apos e f cpos) : Pe X W (.Call (.Attribute o "get" apos) [e, f] [] cpos) fun env st => (fo env st).bind fun d st1 => match dicOf d st1 with
    | some _ => (fe env st1).bind fun y st2 => (ff env st2).bind fun z st3 => getD2 d y z st3
    | none => .bad := by
  refine ⟨fun pins s σ H Q I ⟨ρ, env, st, er, sr, p⟩ => ?_⟩
  refine wpAny_Call_method m.base m.few m.line PySem.F.plainAttrs_dict PySem.F.slot_dict_get PySem.F.type_dict_get (thn (ho.run pins s σ H _ I ⟨ρ, env, st, er, sr, PostE.step p⟩) fun u s1 ⟨x, H1, I1, rx, ρ1, st1, d, e1, s1', rd, _, p1⟩ => ?_)
  dsimp only at p1
  split at p1
  · rename_i q hq
    obtain ⟨ks, vs⟩ := q
    obtain ⟨a, ob, kv, vv, rfl, d1, d2, d3, d4⟩ := rd.dicOf s1' hq
    obtain rfl : u = Value.ref a := rx
    obtain ⟨t1, ob', t2, t3⟩ := dict_ty I1 d1 d2
    refine ⟨t1, fun b hb => by cases hb; exact ⟨ob', t2, t3⟩, ?_⟩
    rw [m.trees]
    refine Calls.callWith_builtin rfl (Calls.evalArgs_plain (Calls.spliced_cons (thn (he.run pins s1 σ H1 _ I1 ⟨ρ1, env, st1, er.ext e1, s1', PostE.step p1⟩) fun iv s2 ⟨y, H2, I2, ry, ρ2, st2, yd, e2, s2', ryd, _, p2⟩ =>
      Calls.spliced_cons (thn (hf.run pins s2 σ H2 _ I2 ⟨ρ2, env, st2, (er.ext e1).ext e2, s2', PostE.step p2⟩) fun fv s3 ⟨z, H3, I3, rz, ρ3, st3, zd, e3, s3', rzd, _, p3⟩ => Calls.spliced_nil ?_))))
    have rd3 := (rd.ext e2 _ _).ext e3 _ _
    have ry3 := ryd.ext e3 _ _
    dsimp only at p3
    unfold getD2 at p3
    cases hd : dicOf d st3 with
    | none => rw [hd] at p3; exact p3.elim
    | some q =>
      obtain ⟨ks2, vs2⟩ := q
      rw [hd] at p3
      dsimp only at p3
      split at p3
      · rename_i hk
        obtain ⟨a2, ob2, kv2, vv2, ea, f1, f2, f3, f4⟩ := rd3.dicOf s3' hd
        cases ea
        exact dd_get2 (by omega) I3 f1 f2 f3 f4 ry3 ry hk rzd rz fun v w' s' I' r1 r2 => ⟨v, H3, I', r2, p3.here s3' r1⟩
      · exact p3.elim
  · exact p1.elim
end
/-! ### a dict sealed: no cell any more -/
theorem seal_ok {K : PySem.W.Frag} {ρ : Rho} {H : Hp} {st : Store} {k : Nat} {ks vs : List D} {v : V} (sr : StR K ρ H st) (h : st[k]? = some (.dic ks vs)) (r : Rp K ρ H (.ref k) v) :
    ∃ ρ', Ext ρ H ρ' H ∧ StR K ρ' H (st.set k .gone) ∧ Rp K ρ' H (.dic ks vs) v := by
  obtain ⟨a, ha⟩ := sr.back k _ h (by simp)
  obtain ⟨c, h1, h2⟩ := sr.cell k a ha
  rw [h] at h1; cases h1
  obtain ⟨o, kv, vv, d1, d2, d3, d4⟩ := h2
  have hl : k < ρ.cells.length := (List.getElem?_eq_some_iff.mp ha).1
  have get : ∀ (j : Nat), (ρ.cells.set k none)[j]? = if j = k then some none else ρ.cells[j]? := fun j => by
    by_cases q : j = k
    · subst q; rw [List.getElem?_set_self hl]; simp
    · rw [List.getElem?_set_ne (fun z => q z.symm)]; simp [q]
  have out : some a ∉ ρ.cells.set k none := fun hm => by
    obtain ⟨j, hj⟩ := mem_ix hm
    rw [get j] at hj
    split at hj
    · cases hj
    · rename_i q
      exact q (sr.inj j k a hj ha)
  have sub : ∀ b, some b ∈ ρ.cells.set k none → some b ∈ ρ.cells := fun b hm => by
    obtain ⟨j, hj⟩ := mem_ix hm
    rw [get j] at hj
    split at hj
    · cases hj
    · exact List.mem_of_getElem? hj
  have ex : Ext ρ H ⟨ρ.cells.set k none, ρ.held⟩ H := by
    refine ⟨fun _ _ h _ _ => h, fun _ o h t => ⟨o, h, t⟩, by simp, fun j hj => ?_, fun j b hj hh => ?_, rfl⟩
    · show (ρ.cells.set k none)[j]? = _ ∨ (ρ.cells.set k none)[j]? = _
      rw [get j]
      split
      · exact .inr rfl
      · exact .inl rfl
    · have hh : (ρ.cells.set k none)[j]? = some (some b) := hh
      rw [List.getElem?_eq_none (by simpa using hj)] at hh; cases hh
  refine ⟨⟨ρ.cells.set k none, ρ.held⟩, ex, ⟨by simp [sr.len], fun j b hj => ?_, fun i j b hi hj => ?_, fun j c hj hg => ?_, fun b hb => ⟨(sr.hold b hb).1, fun hm => (sr.hold b hb).2 (sub b hm)⟩, sr.tabs⟩, ?_⟩
  · have hj : (ρ.cells.set k none)[j]? = some (some b) := hj
    rw [get j] at hj
    split at hj
    · cases hj
    · rename_i q
      obtain ⟨c, e1, e2⟩ := sr.cell j b hj
      exact ⟨c, by rw [List.getElem?_set_ne (fun z => q z.symm)]; exact e1, e2.to (fun _ q _ => q) ex.move⟩
  · have hi : (ρ.cells.set k none)[i]? = some (some b) := hi
    have hj : (ρ.cells.set k none)[j]? = some (some b) := hj
    rw [get i] at hi
    rw [get j] at hj
    split at hi
    · cases hi
    · split at hj
      · cases hj
      · exact sr.inj i j b hi hj
  · by_cases q : j = k
    · subst q
      rw [List.getElem?_set_self (List.getElem?_eq_some_iff.mp h).1] at hj
      cases hj
      exact absurd rfl hg
    · rw [List.getElem?_set_ne (fun z => q z.symm)] at hj
      obtain ⟨b, hb⟩ := sr.back j c hj hg
      exact ⟨b, by show (ρ.cells.set k none)[j]? = _; rw [get j, if_neg q]; exact hb⟩
  · exact ⟨a, o, kv, vv, r.2 a ha, d1, ⟨out, fun hm => (sr.hold a hm).2 (List.mem_of_getElem? ha)⟩, d2, d3.ext ex _ _, d4.ext ex _ _⟩
theorem x_seal {X : Cx} {W : XW} {e : Expr} {fe : Fe} (he : Pe X W e fe) : Pe X W e fun env st => (fe env st).bind fun d st1 => sealD d st1 :=
  PE.mono he fun σ H Q ⟨ρ, env, st, er, sr, p⟩ => ⟨ρ, env, st, er, sr, PostE.imp (PostE.step p) fun v H1 ⟨ρ1, st1, d, e1, s1, r1, _, p1⟩ => by
    unfold sealD at p1
    cases d with
    | ref k =>
      dsimp only at p1
      cases hk : st1[k]? with
      | none => rw [hk] at p1; exact p1.elim
      | some c =>
        rw [hk] at p1
        cases c with
        | dic ks vs =>
          obtain ⟨ρ', ex, s2, r2⟩ := seal_ok s1 hk r1
          exact p1 v ρ' H1 ex s2 r2
        | _ => exact p1.elim
    | _ => exact p1.elim⟩
end Ev

set_option Elab.async false
set_option linter.all false
set_option maxRecDepth 100000
set_option maxHeartbeats 1000000
namespace Ev
open PySem PySem.Spec PyProof.Rows L2
variable [TabsOf]
section
variable {X : Cx} {W : XW} {k v : Expr} {fk fv : Fe} {pos : Pos}
/-- {k: v} -/
theorem x_dic1 (c : Bool) (hu : X.A.units + 9 < cLine) (hk : Pe X W k fk) (hv : Pe X W v fv) : Pe X W (.Dict [some k] [v] pos) fun env st => (fk env st).bind fun x st1 => (fv env st1).bind fun y st2 => dictD c [.tup [x, y]] st2 := by
  refine ⟨fun pins s σ H Q I ⟨ρ, env, st, er, sr, p⟩ => ?_⟩
  dsimp only at p
  rw [arm_eval_Dict]
  have sh : (evalEachOpt [some k] X.env).zip ((evalEach [v] X.env).map fun v => do let x ← v; standAt pos; pure x) = ([(eval k X.env, do let x ← eval v X.env; standAt pos; pure x)] : List (Sem Value × Sem Value)).map fun p => (some p.1, p.2) := rfl
  rw [sh, dictDisplay_pairs _ (by simp) (by simp)]
  refine wpAny_bind (wpAny_standAt (wpAny_bind ?_))
  unfold subDict
  refine wpAny_bind (wpAny_alloc ?_)
  have e : (s.heap.push emptyD).get? s.heap.objs.size = some emptyD := Heap.get?_push_size _ rfl
  have I1 : Inv X pins σ (upd H s.heap.objs.size (DX s.heap.objs.size emptyD)) { s with heap := s.heap.push emptyD } :=
    I.laid (a := s.heap.objs.size) (t' := s.toks) (fun _ _ q => Heap.get?_push_of_some _ q) (Nat.le_refl _) ⟨e, ⟨_, e⟩, fun h1 h2 e k => k _ e⟩
  have hp : H s.heap.objs.size = none := I.hok.fresh (Nat.le_refl _)
  have dA : DictAt (upd H s.heap.objs.size (DX s.heap.objs.size emptyD)) s.heap.objs.size emptyD := ⟨upd_same, beq_eq_false_iff_ne.mpr (Ne.symm (Nat.ne_of_lt I.big)), ⟨#[], 0, rfl⟩, _, e⟩
  refine wpAny_bind (wpAny_holding ?_)
  rw [if_pos (by simp)]
  show wpAny (model X.prog X.w) X.A _ _ X.xe { s with heap := s.heap.push emptyD }
  generalize s.heap.objs.size = a at I1 hp dA ⊢
  generalize ({ s with heap := s.heap.push emptyD } : Shared) = s1 at I1 ⊢
  have l1 : DS X.K ρ H a ρ (upd H a (DX a emptyD)) st [] := .start sr hp dA
  have er1 : EnvR X.K (ρ.grip a) (upd H a (DX a emptyD)) env σ := er.move (.grip hp)
  generalize upd H a (DX a emptyD) = H1 at I1 l1 er1
  clear dA
  refine wpAny_bind (evalPairs_cons ?_)
  refine thn (hk.run pins s1 σ H1 (fun x H2 => ∃ ρ2 st2 kd, DS X.K ρ H a ρ2 H2 st2 [] ∧ EnvR X.K (ρ2.grip a) H2 env σ ∧ Rp X.K (ρ2.grip a) H2 kd x ∧ PostE X.K (W σ) ρ H ((fv env st2).bind fun y st3 => dictD c [.tup [kd, y]] st3) Q) I1 ⟨ρ.grip a, env, st, er1, l1.st, ?_⟩) fun kv s2 ⟨x, H2, I2, r2, ρ2, st2, kd, l2, er2, rk, p2⟩ => ?_
  · cases q : fk env st with
    | bad => rw [q] at p; exact p.elim
    | exc x st' =>
      rw [q] at p
      intro ρ' H' e' s'
      obtain ⟨ρ3, rfl, l3⟩ := ds_ok.go l1 e' s'
      exact p ρ3 H' l3.ext l3.st.loose
    | ok d st2 =>
      rw [q] at p
      intro x ρ' H' e' s' r'
      obtain ⟨ρ3, rfl, l3⟩ := ds_ok.go l1 e' s'
      exact ⟨ρ3, st2, d, l3, er1.ext e', r', p⟩
  · refine wpAny_bind (thn (hv.run pins s2 σ H2 (fun y H3 => ∃ ρ3 st3 vd, DS X.K ρ H a ρ3 H3 st3 [] ∧ Rp X.K (ρ3.grip a) H3 kd x ∧ Rp X.K (ρ3.grip a) H3 vd y ∧ PostE X.K (W σ) ρ H (dictD c [.tup [kd, vd]] st3) Q) I2 ⟨ρ2.grip a, env, st2, er2, l2.st, ?_⟩) fun vv s3 ⟨y, H3, I3, r3, ρ3, st3, vd, l3, rk3, rv3, p3⟩ => ?_)
    · cases q : fv env st2 with
      | bad => rw [q] at p2; exact p2.elim
      | exc x st' =>
        rw [q] at p2
        intro ρ' H' e' s'
        obtain ⟨ρ3, rfl, l3⟩ := ds_ok.go l2 e' s'
        exact p2 ρ3 H' l3.ext l3.st.loose
      | ok d st3 =>
        rw [q] at p2
        intro y ρ' H' e' s' r'
        obtain ⟨ρ3, rfl, l3⟩ := ds_ok.go l2 e' s'
        exact ⟨ρ3, st3, d, l3, rk.ext e' _ _, r', p2⟩
    · refine wpAny_bind (wpAny_standAt (wpAny_pure (evalPairs_nil ?_)))
      refine wpAny_holding ?_
      rw [List.forIn_cons]
      obtain ⟨o, ks, vs, kv', vv', g1, g2, g3, g4, g5⟩ := l3.at'
      cases g1
      have hq : kindOk kd [] = true ∧ ([] : List D).length < seqMax := by
        by_cases z : kindOk kd [] = true ∧ ([] : List D).length < seqMax
        · exact z
        · unfold dictD dfold at p3
          rw [if_neg z] at p3
          exact p3.elim
      refine wpAny_bind (wpAny_bind (wpAny_bind (dd_dictSet hu I3 g2 g3 g4 g5 rk3 r2 hq.1 hq.2 rv3 r3 fun o' kv2 vv2 s4 I4 d4 c4 k4 v4 => wpAny_pure ?_)))
      have mvp : Move (ρ3.grip a) H3 (ρ3.grip a) (upd H3 a (DX a o')) := .put List.mem_cons_self
      have hf : dfold [.tup [kd, vd]] [] [] = some (dputK [] [] kd, dputV [] [] kd vd) := by
        unfold dfold
        rw [if_pos hq]
        rfl
      have l4 : DS X.K ρ H a ρ3 (upd H3 a (DX a o')) st3 [.tup [kd, vd]] := ⟨l3.ext.over hp, l3.st.putD List.mem_cons_self d4, o', _, _, kv2, vv2, hf, d4, c4, k4.move mvp, v4.move mvp⟩
      have q := l4.fin sr hp (.refl _ _) p3
      show wpAny _ _ (forIn ([] : List (Value × Value)) _ _) _ _ _
      rw [List.forIn_nil]
      exact wpAny_pure (wpAny_pure (wpAny_pure (wpAny_pure ⟨.ref a, _, I4, rfl, q⟩)))
end
end Ev

set_option Elab.async false
set_option linter.all false
set_option maxRecDepth 100000
set_option maxHeartbeats 1000000
/-! o.index(x) of lists and tuples of data -/
namespace Ev
open PySem PySem.Spec PyProof.Rows L2
variable [TabsOf]
theorem idxL_ok {y : D} : ∀ {l : List D} {k i : Nat}, idxL y l k = some i → ∃ j z, i = k + j ∧ l[j]? = some z ∧ eqv z y = true ∧ ∀ (m : Nat) z', m < j → l[m]? = some z' → eqv z' y = false
  | [], k, i, h => by cases h
  | x :: r, k, i, h => by
    unfold idxL at h
    split at h
    · rename_i hx
      cases h
      exact ⟨0, x, rfl, rfl, hx, fun m z' hm => absurd hm (Nat.not_lt_zero _)⟩
    · rename_i hx
      obtain ⟨j, z, h1, h2, h3, h4⟩ := idxL_ok h
      refine ⟨j + 1, z, by omega, by simpa using h2, h3, fun m z' hm hz => ?_⟩
      cases m with
      | zero =>
        simp at hz
        subst hz
        cases q : eqv x y with
        | false => rfl
        | true => exact absurd q hx
      | succ m => exact h4 m z' (by omega) (by simpa using hz)
theorem toPys_get : ∀ (l : List D) (j : Nat), (toPys l)[j]? = (l[j]?).map toPy
  | [], j => by simp [toPys]
  | x :: r, 0 => by simp [toPys]
  | x :: r, j + 1 => by simp [toPys, toPys_get r j]
theorem shaped_of' {d : PyData} (h1 : d.canLay0 = true) (h2 : d.depth ≤ 60) : SeqAt.shaped d = true := by
  unfold SeqAt.shaped
  rw [h1, decide_eq_true (by omega)]; rfl
section
variable {X : Cx} {W : XW} {o e : Expr} {fo fe : Fe} {apos cpos : Pos}
/-- the first place, in the model's words -/
theorem idx_py {l : List D} {b : D} {i : Nat} (hb : isData 50 b = true) (hd : ∀ z ∈ l, isData 50 z = true) (hi : idxL b l 0 = some i) :
    ∃ z, (toPys l)[i]? = some z ∧ PyData.eqv z (toPy b) = true ∧ ∀ (m : Nat) z', m < i → (toPys l)[m]? = some z' → PyData.eqv z' (toPy b) = false := by
  obtain ⟨j, z, h1, h2, h3, h4⟩ := idxL_ok hi
  have e : i = j := by omega
  subst e
  refine ⟨toPy z, by rw [toPys_get, h2]; rfl, by rw [eqv_py 50 z b (hd z (List.mem_of_getElem? h2)) hb]; exact h3, fun m z' hm hz => ?_⟩
  rw [toPys_get] at hz
  cases q : l[m]? with
  | none => rw [q] at hz; cases hz
  | some w =>
    rw [q] at hz
    cases hz
    rw [eqv_py 50 w b (hd w (List.mem_of_getElem? q)) hb]
    exact h4 m w hm q
theorem x_index (hu : X.A.units + 65 < cLine) (ho : Pe X W o fo) (he : Pe X W e fe) (m : M1 X o "index" apos e cpos) : Pe X W (.Call (.Attribute o "index" apos) [e] [] cpos) fun env st => (fo env st).bind fun d st1 => match seqL d st1 with
    | some _ => (fe env st1).bind fun y st2 => indexD d y st2
    | none => .bad := by
  refine ⟨fun pins s σ H Q I ⟨ρ, env, st, er, sr, p⟩ => ?_⟩
  refine wpAny_Call_method1_late m.base m.line m.trees (thn (ho.run pins s σ H _ I ⟨ρ, env, st, er, sr, PostE.step p⟩) fun u s1 ⟨x, H1, I1, rx, ρ1, st1, d, e1, s1', rd, _, p1⟩ => ?_)
  dsimp only at p1
  split at p1
  · rename_i l0 hl0
    obtain ⟨a, vs, rfl, hc, rl⟩ := rd.seqL s1' hl0
    obtain ⟨h1, h2⟩ := tyV_is I1 rx (show tyV X.K "list" (.ref a) H1 from .inl ⟨rfl, vs, .of hc⟩)
    refine ⟨"list", "list.index", PySem.F.plainAttrs_list, PySem.F.slot_list_index, PySem.F.type_list_index, h1, h2, ?_⟩
    refine Calls.callWith_builtin rfl (Calls.evalArgs_plain (Calls.spliced_cons (thn (he.run pins s1 σ H1 _ I1 ⟨ρ1, env, st1, er.ext e1, s1', PostE.step p1⟩) fun iv s2 ⟨y, H2, I2, ry, ρ2, st2, yd, e2, s2', ryd, _, p2⟩ => Calls.spliced_nil ?_)))
    have rd2 := rd.ext e2 _ _
    unfold indexD at p2
    dsimp only at p2
    split at p2
    · rename_i l hl
      split at p2
      · rename_i hz
        simp only [Bool.and_eq_true] at hz
        have hd : ∀ z ∈ l, isData 50 z = true := fun z hz' => List.all_eq_true.mp hz.2 z hz'
        split at p2
        · rename_i i hi
          obtain ⟨a2, vs2, ea, hc2, rl2⟩ := rd2.seqL s2' hl
          cases ea
          obtain ⟨d1, d2, d3⟩ := dp_of 50 yd y hz.1 ryd
          obtain ⟨l1, l2, l3⟩ := dps_of 50 l vs2 (fun z hz' => hd z hz') rl2
          obtain ⟨z, z1, z2, z3⟩ := idx_py hz.1 hd hi
          exact mt_indexD hu pins s2 σ H2 (.ref a) [y] u [iv] Q I2 rx (.cons ry .nil) ⟨a, y, toPy yd, toPys l, i, z, rfl, rfl, .lst (.of hc2) l1, d1, shaped_of' (d := .list (toPys l)) (by simpa [PyData.canLay0] using l2) (by simp only [PyData.depth]; omega), shaped_of d2 d3, z1, z2, z3, p2.here s2' rfl⟩
        · exact p2.elim
      · exact p2.elim
    · exact p2.elim
  · exact p1.elim
end
end Ev

set_option Elab.async false
set_option linter.all false
set_option maxRecDepth 100000
set_option maxHeartbeats 1000000
/-! a lambda without parameters handed to a def that calls it; exceptions are told with their context -/
namespace Ev
open PySem PySem.Spec PyProof.Rows L2
variable [TabsOf]
abbrev lamN (X : Cx) (A : Around) (outer : List PySem.Env) (s : Shared) (H : Hp) (E : XK) (scope : Scope) (f c' : Addr) : Cx :=
  (LamX.lamCx X A outer s H E scope f c').wish fun e s' => wpAny (model X.prog X.w) (A.deeper (LamX.lamEnv X scope s.heap.objs.size f c')) (leaving (LamX.lamEnv X scope s.heap.objs.size f c') e)
    (fun _ s2 => L2N.CX X.prog X.w outer H s E e s2) (fun e2 s2 => L2N.CX X.prog X.w outer H s E e2 s2) s'
theorem lamN_takes {X : Cx} {A : Around} {outer : List PySem.Env} {s : Shared} {H : Hp} {E : XK} {scope : Scope} {f c' : Addr} : L2N.Takes (lamN X A outer s H E scope f c') (fun cls d _ H' => E cls d H') :=
  L2N.takes_of (X := lamN X A outer s H E scope f c') rfl rfl rfl rfl
/-- the context of the body of the def x at g, called where A and outer are -/
abbrev gCx (P : Program) (w : World) (K : PySem.W.Frag) (mg : Str → Option Value) (base : Heap) (N : List Str) (x : Str) (sg : Scope) (g : Addr) (cdg : Value) (A : Around) (outer : List PySem.Env) (s : Shared) (H : Hp) : Cx :=
  cxOf C8.CX0 P w K mg base N x sg g cdg A outer s H C8.E0
section
variable {X : Cx} {pins : List (Addr × Obj)} {σ : L2.St} {H : Hp} {s : Shared}
/-- the call of what it was given, in that def -/
theorem lam_act {N : List Str} {x a : Str} {sg scope : Scope} {g f c' : Addr} {cdg pm ctv : Value} {params : Arguments} {body : Expr} {k : Nat} {pn : List (Addr × Obj)} {xe : Value → Shared → Prop} {W : WX} {E : XK} {tb : TE} {p1 p2 : Pos}
    (I : Inv X pins σ H s) (L : LamX.LamS X.env.scope scope) (hf : s.heap.get? f = some (PySem.W.kla_obj "<lambda>" (X.env.qual ++ "<lambda>") params body scope (cloFrom X.env.cells scope.names []) pm c' ctv)) (hfn : H f = none) (hfr : f ∉ frs X.stack)
    (hbind : bindArgs (PySem.W.kla_fn "<lambda>" (X.env.qual ++ "<lambda>") params body scope (cloFrom X.env.cells scope.names []) pm (.ref c') ctv) ⟨[], []⟩ = pure [])
    (tk : L2N.Takes ((gCx X.prog X.w X.K X.mg X.base N x sg g cdg X.A X.stack s H).tr pn xe) W) (hr : Room (k + 1) (X.A.deeper (envOfC x sg s.heap.objs.size g cdg)))
    (hbody : ∀ (A : Around) (outer : List PySem.Env) (s : Shared) (H : Hp), Room k (A.deeper (LamX.lamEnv X scope s.heap.objs.size f c')) → PE (lamN X A outer s H E scope f c') body tb)
    (hN : N[0]? = some a) (hv : Vis sg a) (hd : (a == ("__debug__" : Str)) = false) (hcd : (a == ("__classdict__" : Str)) = false) :
    PE ((gCx X.prog X.w X.K X.mg X.base N x sg g cdg X.A X.stack s H).tr pn xe) (.Call (.Name a p1) [] [] p2)
      (fun σZ HZ Q => σZ[0]? = some (some (.ref f)) ∧ HZ c' = some (LamX.CodeO c' (X.env.qual ++ "<lambda>")) ∧ (∀ cls d H', E cls d H' → W cls d σZ H') ∧ tb σ HZ Q) := by
  refine ⟨fun pinsZ sZ σZ HZ Q IZ ⟨hs, hc, hW, ht⟩ => wpAny_Call_Name_kw (thn ((pe_var (pos := p1) (i := 0) hN hv hd hcd).run pinsZ sZ σZ HZ (fun v H1 => v = .ref f ∧ H1 = HZ) IZ ⟨.ref f, hs, rfl, rfl⟩) fun u s1 ⟨v, H1, I1, r1, ev, eH⟩ => ?_)⟩
  subst ev eH
  cases (show u = Value.ref f from r1)
  have of1 := I1.base.keep f _ hf hfn hfr (fun z => nomatch (show f ∈ ([] : List Addr) from z))
  obtain ⟨⟨oc, vs, t, hoc, hdc, hvc⟩, _, _⟩ := I1.hok c' _ hc
  refine PySem.W.callWith_F0 ⟨_, _, _, _, of1⟩ (wpAny_call (codeAny_mono (R := CR (L2N.CX X.prog X.w) (envOfC x sg s.heap.objs.size g cdg :: X.stack) X.prog X.w H1 s1 Q E) ?_ fun r s' hq => ?_))
  · refine PySem.W.kla_callFunE hr.depth of1 rfl L.co L.gen rfl ⟨c', oc, vs, t, rfl, hoc, hdc, hvc⟩ ?_
    rw [show bindArgs _ ⟨[] ++ [], []⟩ = pure [] from hbind]
    refine wpAny_pure (wpAny_newFunctionEnv (fun y hy => (L.own y hy).2) (fun y hy => absurd hy (by simp)) (fun h₁ hns hsb => ⟨I1.nolimit.fresh _ hsb, ?_⟩) L.kind)
    have J := LamX.lam_start2 (E := E) (c' := c') (f := f) (tk := s1.toks + ([] : List (Str × Value)).length) I L I1.env0 hr.hd I1.base hns fun b o e => hsb.extBut b o (Nat.ne_of_lt (Heap.lt_size e)) (Heap.get?_push_of_some _ e)
    refine PySem.W.kla_codeExpr (wpAny_mono ((hbody _ _ s1 H1 (hr.deeper _)).run [] _ _ H1 Q (J.wish _) ht) (fun v s' ⟨w', H', J', rv, q⟩ => ?_) fun e s' hq => hq)
    exact ⟨w', H', J'.os, J'.bare, J'.base, J'.hok, rv, q⟩
  · cases r with
    | error e => exact tk e s' (L2N.XE.of_call I1 hW hq)
    | ok fl => cases fl <;> first | exact I1.after hq | exact False.elim hq
end
/-- what the def is to reach: G tells its answer by how the call ends -/
def TTw (K : PySem.W.Frag) (mg : Str → Option Value) (G : List D → Store → R D) (tl : XK → Hp → VK → Prop) (H : Hp) (Q : VK) : Prop :=
  tl (fun cls d H' => ∃ y C ρ st, cls = .ref C ∧ d = none ∧ mg y = some (.ref C) ∧ StR K ρ H' st ∧ PostE K (fun _ _ => False) ρ H' (G [.str y] st) Q) H fun _ H' => ∃ ρ st, StR K ρ H' st ∧ PostE K (fun _ _ => False) ρ H' (G [] st) Q
def GivesN (P : Program) (w : World) (K : PySem.W.Frag) (mg : Str → Option Value) (base : Heap) (G : List D → Store → R D) (N : List Str) (x : Str) (sg : Scope) (g : Addr) (cdg : Value) (bg : List Stmt) (a : Str) : Prop :=
  ∀ (A : Around) (outer : List PySem.Env) (q : Str) (f c' : Addr) (s : Shared) (H : Hp) (Q : VK) (tl : XK → Hp → VK → Prop),
    (∀ (W : WX) (pn : List (Addr × Obj)) (xe : Value → Shared → Prop) (E : XK) (p1 p2 : Pos), L2N.Takes ((gCx P w K mg base N x sg g cdg A outer s H).tr pn xe) W →
      PE ((gCx P w K mg base N x sg g cdg A outer s H).tr pn xe) (.Call (.Name a p1) [] [] p2) (fun σZ HZ Q => σZ[0]? = some (some (.ref f)) ∧ HZ c' = some (LamX.CodeO c' q) ∧ (∀ cls d H', E cls d H' → W cls d σZ H') ∧ tl E HZ Q)) →
    (∀ (E E' : XK) (H : Hp) (Q Q' : VK), (∀ cls d H, E cls d H → E' cls d H) → (∀ v H, Q v H → Q' v H) → tl E H Q → tl E' H Q') → (A.deeper (envOfC x sg s.heap.objs.size g cdg)).units + 65 < cLine →
    H c' = some (LamX.CodeO c' q) → TTw K mg G tl H Q →
    ∃ t, PSs (gCx P w K mg base N x sg g cdg A outer s H).nox bg t ∧ t { nx := fun _ H' => Q .non H', rt := Q } (L2.start N [.ref f]) H
/-- such a def, as the module knows it -/
structure WordOk (P : Program) (w : World) (K : PySem.W.Frag) (mg : Str → Option Value) (base : Heap) (x : Str) (G : List D → Store → R D) : Prop where
  ex : ∃ (g : Addr) (a : Str) (N : List Str) (sg : Scope) (pg : Arguments) (bg : List Stmt) (dV kV doc pm cdv ct oc : Value) (an od : Option Addr) (osl : Array (Option Value)),
    mg x = some (.ref g) ∧ PySem.W.keepIn K (.ref g) = true ∧ K.lookup g = some ⟨oc, od, .func (PySem.W.fnOf x x pg bg sg dV kV doc pm an cdv ct), osl⟩ ∧ PySem.W.codeIn K cdv x = true ∧ L2.Binds K (PySem.W.fnOf x x pg bg sg dV kV doc pm an cdv ct) [a] [] ∧ FnScope N [a] sg ∧
      N[0]? = some a ∧ Vis sg a ∧ (a == ("__debug__" : Str)) = false ∧ (a == ("__classdict__" : Str)) = false ∧ GivesN P w K mg base G N x sg g cdv bg a
/-- where lambdas may be made -/
structure LamOk (X : Cx) (l : Nat) : Prop where
  room : Room (l + 2) X.A
  tab : ∃ c P, LamX.TabB X.base X.mg c P ∧ X.env.code = .ref c ∧ (P, X.env.qual ++ "<lambda>") ∈ TabsOf.T ∧ ∀ p ∈ TabsOf.T, p.1 = P → p.2 = X.env.qual ++ "<lambda>"
/-- no parameter -/
def noParams' (params : Arguments) : Prop := (∀ env : PySem.Env, defaultsOf params env = ([], [])) ∧
  ∀ (q : Str) (body : Expr) (scope : Scope) (cl : List (Str × Addr)) (pm cv ctv : Value), bindArgs (PySem.W.kla_fn "<lambda>" q params body scope cl pm cv ctv) ⟨[], []⟩ = pure []
variable {K : PySem.W.Frag}
theorem ext_lam {ρ : Rho} {H H1 : Hp} {st : Store} (e : LamX.ExtN H H1) (t : LamX.Tabs TabsOf.T H1) (s : StR K ρ H st) : Ext ρ H ρ H1 ∧ StR K ρ H1 st := by
  have ex : Ext ρ H ρ H1 := ⟨fun a o h t _ => e a o h t, fun a o h t => ⟨o, e a o h t, t⟩, Nat.le_refl _, fun _ _ => .inl rfl, fun k a hk h => (by rw [List.getElem?_eq_none hk] at h; cases h), rfl⟩
  refine ⟨ex, s.len, fun k a hk => ?_, s.inj, s.back, fun a ha => ⟨(s.hold a ha).1.same fun o q n => e _ _ q n, (s.hold a ha).2⟩, t⟩
  obtain ⟨c, h1, h2⟩ := s.cell k a hk
  exact ⟨c, h1, h2.to (fun o q n => e _ _ q n) ex.move⟩
theorem calm_post {E E' : Str → Hp → Prop} {ρ : Rho} {H : Hp} {r : R D} {Q : VK} (p : PostE K E ρ H r.calm Q) : PostE K E' ρ H r Q := by
  cases r with
  | ok d st' => exact p
  | exc x st' => exact p.elim
  | bad => exact p.elim
def lamF (G : List D → Store → R D) (fb : Fe) : Fe := fun env st => match fb env st with
  | .ok _ st1 => (G [] st1).calm
  | .exc x st1 => (G [.str x] st1).calm
  | .bad => .bad
/-- the wish of a lambda's body -/
abbrev wLam (mg : Str → Option Value) (E : XK) : XW := fun _ x H => ∀ C, mg x = some (.ref C) → E (.ref C) none H
theorem x_lam {X : Cx} {W : XW} {x : Str} {G : List D → Store → R D} {l : Nat} {params : Arguments} {body : Expr} {scope : Scope} {fb : Fe} {p lpos pos : Pos} (hg : Gl X x) (hdb : (x == ("__debug__" : Str)) = false) (B : WordOk X.prog X.w X.K X.mg X.base x G) (M : LamOk X l)
    (L : LamX.LamS X.env.scope scope) (hp : noParams' params)
    (hbody : ∀ (A : Around) (outer : List PySem.Env) (s : Shared) (H : Hp) (E : XK) (f c' : Addr), Room l (A.deeper (LamX.lamEnv X scope s.heap.objs.size f c')) → Pe (lamN X A outer s H E scope f c') (wLam X.mg E) body fb) :
    Pe X W (.Call (.Name x p) [.Lambda params body scope lpos] [] pos) (lamF G fb) := by
  obtain ⟨g, a, N, sg, pg, bg, dV, kV, doc, pm, cdv, ct, oc, an, od, osl, hm, hk, lk, hcg, hb, Sg, hN, hva, hda, hca, hG⟩ := B.ex
  obtain ⟨c, P, TB, hcode, hmT, hu⟩ := M.tab
  refine ⟨fun pins s σ H Q I ⟨ρ, env, st, er, sr, pq⟩ => ?_⟩
  refine wpAny_Call_Name_kw (ld_glob I hg hm ?_ hdb)
  refine PySem.W.callWith_K (h₀ := X.base) I.ok.mod.kin hk ?_ (by rfl) (by rfl)
  show wpAny _ _ (spliced ((false, eval (.Lambda params body scope lpos) X.env) :: backTo pos (starEach [] X.env))) _ _ s
  refine Calls.spliced_cons (LamX.lam_make2 I TB hcode hmT hu sr.tabs (hp.1 _) (L.has I.ok) fun f c' pm' ctv H1 s' I1 eN T1 hf hfn hfr hco => Calls.spliced_nil ⟨I1.kIn, ?_⟩)
  obtain ⟨e1, sr1⟩ := ext_lam eN T1 sr
  have rc : codeAny (model X.prog X.w) X.A (.call (.ref g) ⟨[.ref f], []⟩) (CR C8.CX0 X.stack X.prog X.w H1 s' Q C8.E0) s' := by
    refine LamX.run_ofS (N := N) (ps := [a]) (us := [.ref f]) (vs := [.ref f]) (k := l + 1) lk hcg Sg M.room I1.env0 (hb s' [.ref f] I1.kIn rfl) (.cons rfl .nil) rfl fun hr' => ?_
    obtain ⟨t', ht', hq'⟩ := hG X.A X.stack (X.env.qual ++ "<lambda>") f c' s' H1 Q (fun E H' Q' => tE X.K (wLam X.mg E) fb σ H' Q')
      (fun W' pn xe E p1 p2 tk => lam_act I1 L hf hfn hfr (hp.2 _ _ _ _ _ _ _) tk hr' (fun A outer s H hr2 => hbody A outer s H E f c' hr2) hN hva hda hca)
      (fun E E' H Q Q' hE hQ ⟨ρ, env, st, er, sr, p⟩ => ⟨ρ, env, st, er, sr, PostE.wish (PostE.imp p hQ) fun x H w C hC => hE _ _ _ (w C hC)⟩) (by have := hr'.un; omega) hco (by
        refine ⟨ρ, env, st, er.ext e1, sr1, ?_⟩
        unfold lamF at pq
        cases q : fb env st with
        | ok d st1 =>
          rw [q] at pq
          exact fun v ρ' H' e s _ => ⟨ρ', st1, s, calm_post (pq.later (e1.trans e))⟩
        | exc y st1 =>
          rw [q] at pq
          exact fun ρ' H' e s C hC => ⟨y, C, ρ', st1, rfl, rfl, hC, s, calm_post (pq.later (e1.trans e))⟩
        | bad => rw [q] at pq; exact pq.elim)
    exact ⟨t', ht'.nox, hq'⟩
  refine wpAny_call (codeAny_mono rc fun r s2 hq => ?_)
  cases r with
  | error e => exact (show False from hq).elim
  | ok fl => cases fl <;> first | exact I1.after hq | exact False.elim hq
/-- a def by a local name -/
theorem x_callv {X : Cx} {W : XW} {e : Expr} {es : List Expr} {fl : Env → Store → R (List D)} {Φ : Fns} {cs : Consts} {i k : Nat} {x : Str} {p pos : Pos}
    (hc : ∀ y z, cs.lookup y = some (.fn z) → ∃ ar f fd ps, fnAd X.K y = f ∧ (∀ ds st, Φ y ds st ≠ .bad → ds.length = ar) ∧ FnOk X.prog X.w X.K X.mg X.base (L2N.CX X.prog X.w) k f fd ps (spF X.K X.mg ar (Φ y)) ∧ PySem.W.keepIn X.K (.ref f) = true ∧ Binds X.K fd ps [])
    (hr : Room k X.A) (tk : L2N.Takes X (wxOf X.mg W)) (hN : X.N[i]? = some x) (hv : Vis X.env.scope x) (hd : (x == ("__debug__" : Str)) = false) (hcd : (x == ("__classdict__" : Str)) = false)
    (hl : Pl X W (e :: es) fl) (he : starEach (e :: es) X.env = (false, eval e X.env) :: starEach es X.env) (hpl : (backTo pos (starEach es X.env)).any (·.1) = false) :
    Pe X W (.Call (.Name x p) (e :: es) [] pos) fun env st => match env[i]? with
      | some (some (.fn y)) => match lookS cs y with
        | some (.fn _) => (fl env st).bind fun ds st1 => Φ y ds st1
        | _ => .bad
      | _ => .bad := by
  refine ⟨fun pins s σ H Q I ⟨ρ, env, st, er, sr, q⟩ => ?_⟩
  dsimp only at q
  split at q
  · rename_i y hy
    split at q
    · rename_i z hz
      rw [lookS_eq] at hz
      obtain ⟨ar, f, fd, ps, rfl, hlen, F, hk, hb⟩ := hc y z hz
      obtain ⟨v, h1, h2⟩ := er.get i _ hy
      cases (show v = .ref (fnAd X.K y) from h2)
      refine wpAny_Call_Name_kw (thn ((pe_var (pos := p) hN hv hd hcd).run pins s σ H (fun v H1 => v = .ref (fnAd X.K y) ∧ H1 = H) I ⟨_, h1, rfl, rfl⟩) fun u s1 ⟨v, H1, I1, r1, e1, e2⟩ => ?_)
      subst e1 e2
      cases r1
      refine PySem.W.callWith_K (h₀ := X.base) I.ok.mod.kin hk (thn (hl.run pos pins s1 σ _ (fun vs H2 => spF X.K X.mg ar (Φ y) vs H2 Q (WE (wxOf X.mg W) σ)) I1 ⟨ρ, env, st, er, sr, PostL.imp (PostE.stepL q) fun vs H2 ⟨ρ1, st1, ds, e1, s1', r1, q1, p1⟩ => ?_⟩) fun us s2 ⟨vs, H2, I2, r, q2⟩ => ⟨I2.kIn, ?_⟩) he hpl
      · refine ⟨ρ1, st1, ds, s1', r1, hlen ds st1 fun z => ?_, PostE.wish p1 fun y' H w C hC => ⟨y', C, rfl, rfl, hC, w⟩⟩
        dsimp only at p1
        rw [z] at p1; exact p1
      · exact run_fnS F hr hb (L2N.passAt tk σ) I2 r q2
    · exact q.elim
  · exact q.elim
end Ev

set_option Elab.async false
set_option linter.all false
set_option maxRecDepth 100000
set_option maxHeartbeats 1000000
namespace Ev
open PySem PySem.Spec PyProof.Rows L2
variable [TabsOf]
/-! ### the checker: what the text says is what the short form says -/
structure Cv where
  N : List Str
  scope : Scope
  fs : Option Scope
  fns : List (Str × Nat)
  exc : List Str
  /-- the defs that call what they are given; whether a lambda may stand here -/
  wds : List Str := []
  lams : Bool := false
def vis (sc : Scope) (x : Str) : Bool := match sc.names.lookup x with
  | some .local => true
  | some .cell => true
  | some .free => true
  | _ => false
def locl (sc : Scope) (x : Str) : Bool := match sc.names.lookup x with
  | some .local => true
  | some .cell => true
  | _ => false
def isLocal (sc : Scope) (x : Str) : Bool := match sc.names.lookup x with
  | some .local => true
  | _ => false
def glb (sc : Scope) (x : Str) : Bool := match sc.names.lookup x with
  | some .globalImplicit => true
  | _ => false
def plainName (x : Str) : Bool := !(x == ("__debug__" : Str)) && (!(x == ("__classdict__" : Str)) && !(x == ("__name__" : Str)))
def Cv.fnc (cv : Cv) (x : Str) : Bool := match cv.fs with
  | none => true
  | some sc => match sc.names.lookup x with
    | some .cell => true
    | _ => false
def okE : Expr → Bool
  | .BoolOp .. => true
  | .BinOp .. => true
  | .UnaryOp .. => true
  | .IfExp .. => true
  | .ListComp .. => true
  | .DictComp .. => true
  | .Dict .. => true
  | .Compare .. => true
  | .Call .. => true
  | .Constant .. => true
  | .Subscript .. => true
  | .Name .. => true
  | .List .. => true
  | .Tuple .. => true
  | _ => false
def isComp : Expr → Bool
  | .ListComp .. => true
  | .DictComp .. => true
  | _ => false
def chkAll (rec : Expr → E → Bool) : List Expr → List E → Bool
  | [], [] => true
  | e :: es, m :: ms => rec e m && chkAll rec es ms
  | _, _ => false
mutual
def chkT (cv : Cv) : Expr → T → Bool
  | .Name x _, .name i => cv.N[i]? == some x && (locl cv.scope x && (cv.fnc x || isLocal cv.scope x))
  | .Tuple es _ _, .tup ts => chkTs cv es ts
  | _, _ => false
def chkTs (cv : Cv) : List Expr → List T → Bool
  | [], [] => true
  | e :: es, t :: ts => chkT cv e t && chkTs cv es ts
  | _, _ => false
end
def chkCon (e : Expr) (d : D) : Bool := match e with
  | .Constant c _ _ => match c, d with
    | .int i, .int j => i == j
    | .bool i, .bl j => i == j
    | .none, .non => true
    | .str x, .str y => x == y
    | _, _ => false
  | _ => false
def bfOk : Bf → Bool
  | .len | .all | .any | .sum | .tuple | .list | .listc | .abs | .int | .sorted | .max2 | .min2 | .max1 | .min1 | .range1 | .range2 => true
  | _ => false
def bfN : Bf → Str
  | .len => "len" | .all => "all" | .any => "any" | .sum => "sum" | .tuple => "tuple" | .list => "list" | .listc => "list" | .abs => "abs" | .int => "int" | .sorted => "sorted" | .max2 => "max" | .min2 => "min" | .max1 => "max" | .min1 => "min" | .range1 => "range" | .range2 => "range"
  | _ => ""
def bltNames : List Str := ["len", "all", "any", "sum", "tuple", "list", "abs", "int", "sorted", "max", "min", "range", "set", "zip", "enumerate", "isinstance", "bool", "str"]
/-- a class's name in the text and in the machine -/
def tyN : List (String × Str) := [("bool", "bool"), ("int", "int"), ("str", "str"), ("tuple", "tuple"), ("list", "list")]
def isNil {α : Type} : List α → Bool
  | [] => true
  | _ => false
/-- a call's function name and arguments -/
def callOf : Expr → Option (Str × List Expr)
  | .Call (.Name x _) args [] _ => some (x, args)
  | _ => none
def blkOk (cv : Cv) (scope : Scope) (own : List Nat) : Bool :=
  scope.kind == .function && (scope.names.all (fun y => scope.names.lookup y.1 == some y.2) && (own.all (fun i => (cv.N[i]?).isSome) &&
    (scope.names.all (fun y => !(y.2 == .free) || (cv.scope.names.lookup y.1 == some .cell || cv.scope.names.lookup y.1 == some .free)) &&
     scope.names.all (fun y => !(y.2 == .local || y.2 == .cell) || ((own.map fun i => cv.N.getD i "").contains y.1 || !(cv.N.contains y.1))))))
abbrev Cv.blk (cv : Cv) (scope : Scope) : Cv := { cv with scope := L2.relS scope cv.scope, fs := some scope }
abbrev Rc := Cv → Expr → E → Bool
def chkTests (rec : Expr → E → Bool) : List Expr → List E → Bool
  | [], [] => true
  | [e], [m] => rec e m
  | _, _ => false
def isTupE : Expr → Bool
  | .Tuple .. => true
  | _ => false
def notCall : Expr → Bool
  | .Call _ [] _ _ => false
  | _ => true
/-- what is walked -/
def chkI (cv : Cv) (rec : Expr → E → Bool) (tg e : Expr) (m : E) : Bool := match m with
  | .blt .zip [x, y] => match e with
    | .Call (.Name f _) [a, b] [] _ => f == ("zip" : Str) && (glb cv.scope f && (isTupE tg && (rec a x && rec b y)))
    | _ => false
  | .blt .enumerate [x] => match e with
    | .Call (.Name f _) [a] [] _ => f == ("enumerate" : Str) && (glb cv.scope f && (isTupE tg && rec a x))
    | _ => false
  | .keys x => rec e x
  | .items x => match e with
    | .Call (.Attribute a f apos) [] [] cpos => notCall a && (apos.endLine == cpos.line && (f == ("items" : Str) && (isTupE tg && rec a x)))
    | _ => false
  | .vals x => match e with
    | .Call (.Attribute a f apos) [] [] cpos => notCall a && (apos.endLine == cpos.line && (f == ("values" : Str) && rec a x))
    | _ => false
  | m => rec e m
def chkLc (cv : Cv) (rec : Rc) (e : Expr) (me : E) (gs : List G) (own : List Nat) : Bool := match e with
  | .ListComp elt cs scope _ => match cs, gs with
    | [⟨tg, it, ifs, k⟩], [.mk t mi mifs] =>
      k == 0 && (blkOk cv scope own && (chkI cv (rec cv) tg it mi && (chkT (cv.blk scope) tg t && (chkTests (rec (cv.blk scope)) ifs mifs && (rec (cv.blk scope) elt me && (slots t).all (fun i => own.contains i))))))
    | [⟨tg, it, ifs, k⟩, ⟨tg1, it1, ifs1, k1⟩], [.mk t mi mifs, .mk t1 mi1 mifs1] =>
      k == 0 && (k1 == 0 && (blkOk cv scope own && (chkI cv (rec cv) tg it mi && (chkT (cv.blk scope) tg t && (chkTests (rec (cv.blk scope)) ifs mifs &&
        (chkI (cv.blk scope) (rec (cv.blk scope)) tg1 it1 mi1 && (chkT (cv.blk scope) tg1 t1 && (chkTests (rec (cv.blk scope)) ifs1 mifs1 &&
          (rec (cv.blk scope) elt me && ((slots t).all (fun i => own.contains i) && (slots t1).all (fun i => own.contains i)))))))))))
    | [⟨tg, it, ifs, k⟩, ⟨tg1, it1, ifs1, k1⟩, ⟨tg2, it2, ifs2, k2⟩], [.mk t mi mifs, .mk t1 mi1 mifs1, .mk t2 mi2 mifs2] =>
      k == 0 && (k1 == 0 && (k2 == 0 && (blkOk cv scope own && (chkI cv (rec cv) tg it mi && (chkT (cv.blk scope) tg t && (chkTests (rec (cv.blk scope)) ifs mifs &&
        (chkI (cv.blk scope) (rec (cv.blk scope)) tg1 it1 mi1 && (chkT (cv.blk scope) tg1 t1 && (chkTests (rec (cv.blk scope)) ifs1 mifs1 &&
        (chkI (cv.blk scope) (rec (cv.blk scope)) tg2 it2 mi2 && (chkT (cv.blk scope) tg2 t2 && (chkTests (rec (cv.blk scope)) ifs2 mifs2 &&
          (rec (cv.blk scope) elt me && ((slots t).all (fun i => own.contains i) && ((slots t1).all (fun i => own.contains i) && (slots t2).all (fun i => own.contains i))))))))))))))))
    | _, _ => false
  | _ => false
def chkDc (cv : Cv) (rec : Rc) (e : Expr) (mk mv : E) (gs : List G) (own : List Nat) : Bool := match e with
  | .DictComp kx vx cs scope _ => match cs, gs with
    | [⟨tg, it, ifs, k⟩], [.mk t mi mifs] =>
      k == 0 && (blkOk cv scope own && (chkI cv (rec cv) tg it mi && (chkT (cv.blk scope) tg t && (chkTests (rec (cv.blk scope)) ifs mifs && (rec (cv.blk scope) kx mk && (rec (cv.blk scope) vx mv && (slots t).all (fun i => own.contains i)))))))
    | [⟨tg, it, ifs, k⟩, ⟨tg1, it1, ifs1, k1⟩], [.mk t mi mifs, .mk t1 mi1 mifs1] =>
      k == 0 && (k1 == 0 && (blkOk cv scope own && (chkI cv (rec cv) tg it mi && (chkT (cv.blk scope) tg t && (chkTests (rec (cv.blk scope)) ifs mifs &&
        (chkI (cv.blk scope) (rec (cv.blk scope)) tg1 it1 mi1 && (chkT (cv.blk scope) tg1 t1 && (chkTests (rec (cv.blk scope)) ifs1 mifs1 &&
          (rec (cv.blk scope) kx mk && (rec (cv.blk scope) vx mv && ((slots t).all (fun i => own.contains i) && (slots t1).all (fun i => own.contains i))))))))))))
    | _, _ => false
  | _ => false
def chkOpt (rec : Expr → E → Bool) : Option Expr → Option E → Bool
  | none, none => true
  | some e, some m => rec e m
  | _, _ => false
def chkBool (rec : Expr → E → Bool) (op : BoolOp) (e : Expr) (x y : E) : Bool := match e with
  | .BoolOp op' (a :: b :: r) p => op' == op && (rec a x && (match r with
    | [] => rec b y
    | _ :: _ => rec (.BoolOp op (b :: r) p) y))
  | _ => false
def chkMeth (rec : Expr → E → Bool) (e : Expr) (m : Mth) (x : E) (ms : List E) : Bool := match e with
  | .Call (.Attribute a f apos) args [] cpos => notCall a && (apos.endLine == cpos.line && (match m with
    | .append => match args, ms with
      | [b], [y] => f == ("append" : Str) && (rec a x && rec b y)
      | _, _ => false
    | .extend => match args, ms with
      | [b], [y] => f == ("extend" : Str) && (rec a x && rec b y)
      | _, _ => false
    | .pop => match args, ms with
      | [], [] => f == ("pop" : Str) && rec a x
      | _, _ => false))
  | _ => false
def chkGet (rec : Expr → E → Bool) (e : Expr) (o k : E) (x : Option E) : Bool := match e with
  | .Call (.Attribute a f apos) args [] cpos => notCall a && (apos.endLine == cpos.line && (f == ("get" : Str) && (rec a o && (match args, x with
      | [b], none => rec b k
      | [b, c], some x => rec b k && rec c x
      | _, _ => false))))
  | _ => false
def chkIndex (rec : Expr → E → Bool) (e : Expr) (o x : E) : Bool := match e with
  | .Call (.Attribute a f apos) [b] [] cpos => notCall a && (apos.endLine == cpos.line && (f == ("index" : Str) && (rec a o && rec b x)))
  | _ => false
/-- no parameter -/
def noParams : Arguments → Bool
  | ⟨[], [], none, [], [], none, []⟩ => true
  | _ => false
def noScope (sc : Scope) : Scope := { sc with names := [] }
/-- a lambda's body -/
abbrev Cv.lam (cv : Cv) (scope : Scope) : Cv := { cv with scope := scope, fs := some (noScope scope), lams := false }
def chkStep (cv : Cv) (rec : Rc) (e : Expr) (m : E) : Bool := match m with
  | .bad => okE e
  | .con d => chkCon e d
  | .var i => match e with
    | .Name x _ => cv.N[i]? == some x && (vis cv.scope x && plainName x)
    | _ => false
  | .glob y => match e with
    | .Name x _ => x == y && (glb cv.scope x && plainName x)
    | _ => false
  | .tup ms => match e with
    | .Tuple es _ _ => chkAll (rec cv) es ms && decide (ms.length ≤ 1000000)
    | _ => false
  | .lst ms => match e with
    | .List es _ => chkAll (rec cv) es ms && decide (ms.length ≤ 1000000)
    | _ => false
  | .cel ms => match e with
    | .List es _ => chkAll (rec cv) es ms && decide (ms.length ≤ 1000000)
    | _ => false
  | .bin op x y => match e with
    | .BinOp a op' b _ => op' == op && (rec cv a x && rec cv b y)
    | _ => false
  | .neg x => match e with
    | .UnaryOp .USub a _ => rec cv a x
    | _ => false
  | .not x => match e with
    | .UnaryOp .Not a _ => rec cv a x
    | _ => false
  | .and x y => chkBool (rec cv) .And e x y
  | .or x y => chkBool (rec cv) .Or e x y
  | .cmp op x y => match e with
    | .Compare a [op'] [b] _ => op' == op && (rec cv a x && rec cv b y)
    | _ => false
  | .cmp2 op op2 x y z => match e with
    | .Compare a [o1, o2] [b, c] _ => o1 == op && (o2 == op2 && (rec cv a x && (rec cv b y && rec cv c z)))
    | _ => false
  | .ite x y z => match e with
    | .IfExp c a b _ => rec cv c x && (rec cv a y && rec cv b z)
    | _ => false
  | .call f ms => match callOf e with
    | some (g, es) => g == f && (glb cv.scope g && (plainName g && (!isNil es && (cv.fns.lookup g == some ms.length && chkAll (rec cv) es ms))))
    | none => false
  | .blt .sortedSet [x] => match e with
    | .Call (.Name f _) [.Call (.Name g _) [a] [] _] [] _ => f == ("sorted" : Str) && (g == ("set" : Str) && (glb cv.scope f && (glb cv.scope g && rec cv a x)))
    | _ => false
  | .blt bf ms => match callOf e with
    | some (g, es) => bfOk bf && (g == bfN bf && (glb cv.scope g && (!isNil es && chkAll (rec cv) es ms)))
    | none => false
  | .isin x T => match e with
    | .Call (.Name f _) [a, .Name y _] [] _ => f == ("isinstance" : Str) && (glb cv.scope f && (glb cv.scope y && (okTy T && (tyN.lookup T == some y && rec cv a x))))
    | _ => false
  | .ix x y => match e with
    | .Subscript a i _ => rec cv a x && rec cv i y
    | _ => false
  | .sl x lo hi => match e with
    | .Subscript a (.Slice l h none _) _ => rec cv a x && (chkOpt (rec cv) l lo && chkOpt (rec cv) h hi)
    | _ => false
  | .slc x lo hi => match e with
    | .Subscript a (.Slice l h none _) _ => rec cv a x && (chkOpt (rec cv) l lo && chkOpt (rec cv) h hi)
    | _ => false
  | .rev x => match e with
    | .Subscript a (.Slice none none (some (.UnaryOp .USub (.Constant (.int i) _ _) _)) _) _ => i == 1 && rec cv a x
    | _ => false
  | .lc me gs own => chkLc cv rec e me gs own
  | .meth m x ms => chkMeth (rec cv) e m x ms
  | .callv i ms => match callOf e with
    | some (x, es) => cv.N[i]? == some x && (vis cv.scope x && (plainName x && (!isNil es && chkAll (rec cv) es ms)))
    | none => false
  | .lam f b => match e with
    | .Call (.Name g _) [.Lambda params body scope _] [] _ => g == f && (glb cv.scope g && (plainName g && (cv.lams && (cv.wds.contains f && (noParams params && (LamX.lamSB cv.scope scope && rec (cv.lam scope) body b))))))
    | _ => false
  | .isE _ => false
  | .lcc me gs own => gs.length == 1 && chkLc cv rec e me gs own
  | .lcw mm me t mifs own => match e with
    | .ListComp elt [⟨tg, it, ifs, k⟩] scope _ => k == 0 && (blkOk cv scope own && (rec cv it mm && (chkT (cv.blk scope) tg t && (chkTests (rec (cv.blk scope)) ifs mifs && (rec (cv.blk scope) elt me && (slots t).all (fun i => own.contains i))))))
    | _ => false
  | .addc x y => match e with
    | .BinOp a op' b _ => op' == .Add && (rec cv a x && rec cv b y)
    | _ => false
  | .dnew _ => match e with
    | .Dict [] [] _ => true
    | _ => false
  | .dic1 _ x y => match e with
    | .Dict [some a] [b] _ => rec cv a x && rec cv b y
    | _ => false
  | .dget o k x => chkGet (rec cv) e o k x
  | .dc _ mk mv gs own => chkDc cv rec e mk mv gs own
  | .froze x => match e with
    | .Name _ _ => rec cv e x
    | _ => false
  | .index o x => chkIndex (rec cv) e o x
  | .dzip _ _ => false
  | .dof _ => false
  | .keys _ => false
  | .items _ => false
  | .vals _ => false
  | .sitems _ => false
  | .lvals _ => false
def chk : Nat → Rc
  | 0 => fun _ _ _ => false
  | n + 1 => fun cv e m => chkStep cv (chk n) e m
/-! ### statements -/
def noStar : List Expr → Bool
  | [] => true
  | .Starred .. :: _ => false
  | _ :: r => noStar r
/-- a = e with a no tuple, or e no tuple: nothing is swapped -/
def swapNo (scope : Scope) (tg e : Expr) : Bool := match tg with
  | .Tuple ts _ _ => match e with
    | .Tuple vs _ _ => vs.all (foldedForSure 8) || ts.any (fun t => match t with
      | .Name x _ => !isLocal scope x
      | _ => true)
    | _ => true
  | _ => true
def chkPar (cv : Cv) (rec : Expr → E → Bool) (tg e : Expr) (t : T) (me : E) : Bool := match tg, e, t, me with
  | .Tuple [.Name x px, .Name y py] _ _, .Tuple [a, b] _ _, .tup [.name j, .name k], .tup [ma, mb] =>
    cv.scope.kind == .function && (cv.N[j]? == some x && (cv.N[k]? == some y && (!(x == y) && (isLocal cv.scope x && (isLocal cv.scope y && (px.line == py.line && (!([a, b].all (foldedForSure 8)) && (!([a, b].all (constantsAlone 8)) && (rec a ma && rec b mb)))))))))
  | .Tuple [.Name x px, .Name y py, .Name z pz] _ _, .Tuple [a, b, c] _ _, .tup [.name j, .name k, .name l], .tup [ma, mb, mc] =>
    cv.scope.kind == .function && (cv.N[j]? == some x && (cv.N[k]? == some y && (cv.N[l]? == some z && (!(x == y) && (!(x == z) && (!(y == z) && (isLocal cv.scope x && (isLocal cv.scope y && (isLocal cv.scope z && (px.line == py.line && (px.line == pz.line &&
      (!([a, b, c].all (foldedForSure 8)) && (!([a, b, c].all (constantsAlone 8)) && (rec a ma && (rec b mb && rec c mc)))))))))))))))
  | _, _, _, _ => false
def chkB (rec : Stmt → S → Bool) : List Stmt → List S → Bool
  | [], [] => true
  | s :: ss, m :: ms => rec s m && chkB rec ss ms
  | _, _ => false
def chkSet (cv : Cv) (ce : Rc) (tg e : Expr) (t : T) (me : E) : Bool := match tg with
  | .Name .. => ce cv e me && chkT cv tg t
  | .Tuple .. => (ce cv e me && (chkT cv tg t && swapNo cv.scope tg e)) || chkPar cv (ce cv) tg e t me
  | _ => false
def chkSs (cv : Cv) (ce : Rc) (rec : Stmt → S → Bool) (s : Stmt) (m : S) : Bool := match m with
  | .bad => true
  | .set t me => match s with
    | .Assign [tg] e _ => chkSet cv ce tg e t me
    | _ => false
  | .sub mo mi me => match s with
    | .Assign [.Subscript o i _] e _ => !isComp e && (ce cv o mo && (ce cv i mi && ce cv e me))
    | _ => false
  | .sub2 m1 n1 m2 n2 me1 me2 => match s with
    | .Assign [.Tuple [.Subscript o1 i1 _, .Subscript o2 i2 _] _ _] (.Tuple [e1, e2] _ _) _ => ce cv o1 m1 && (ce cv i1 n1 && (ce cv o2 m2 && (ce cv i2 n2 && (ce cv e1 me1 && ce cv e2 me2))))
    | _ => false
  | .ex me => match s with
    | .Expr e _ => !isComp e && ce cv e me
    | _ => false
  | .ret me => match s with
    | .Return (some e) _ => ce cv e me
    | _ => false
  | .retN => match s with
    | .Return none _ => true
    | _ => false
  | .cond c a b => match s with
    | .If e p q _ => ce cv e c && (chkB rec p a && chkB rec q b)
    | _ => false
  | .for t mi b => match s with
    | .For tg it p [] _ => chkI cv (ce cv) tg it mi && (chkT cv tg t && chkB rec p b)
    | _ => false
  | .forw t mm b => match s with
    | .For tg it p [] _ => ce cv it mm && (chkT cv tg t && chkB rec p b)
    | _ => false
  | .while c b => match s with
    | .While e p [] _ => ce cv e c && chkB rec p b
    | _ => false
  | .raise x => match s with
    | .Raise (some (.Call (.Name y _) [.Constant (.str _) _ _] [] _)) none _ => y == x && (glb cv.scope y && (plainName y && cv.exc.contains y))
    | _ => false
  | .pass => match s with
    | .Pass _ => true
    | _ => false
  | .brk => match s with
    | .Break _ => true
    | _ => false
  | .cont => match s with
    | .Continue _ => true
    | _ => false
def chkS (cv : Cv) (ce : Rc) : Nat → Stmt → S → Bool
  | 0 => fun _ _ => false
  | n + 1 => chkSs cv ce (chkS cv ce n)
def chkBody (cv : Cv) (body : List Stmt) (ms : List S) : Bool := chkB (chkS cv (chk 60) 60) body ms
end Ev

set_option Elab.async false
set_option linter.all false
set_option maxRecDepth 100000
set_option maxHeartbeats 1000000
namespace Ev
open PySem PySem.Spec PyProof.Rows L2
variable [TabsOf]
/-! ### the checker is sound: expressions -/
structure ExcF (X : Cx) (x : Str) : Prop where
  ex : ∃ (C : Addr) (B newId initId : String) (bmB : List Value), ExcBaseFacts B newId initId bmB ∧ PySem.W.excIn X.K C bmB newId = true ∧ X.mg x = some (.ref C) ∧ PySem.W.keepIn X.K (.ref C) = true ∧ Raises X (.ref C)
structure Good (X : Cx) (W : XW) (l : Nat) (cv : Cv) (Φ : Fns) (cs : Consts) : Prop where
  calm : X.calm = true
  nd : X.N.Nodup
  N : X.N = cv.N
  sc : X.env.scope = cv.scope
  room : Room l X.A
  fn : ∀ x, cv.fnc x = true → X.fn x = true
  blt : ∀ x ∈ bltNames, X.mg x = none
  cons : ∀ x d, cs.lookup x = some d → ∃ v u, X.mg x = some u ∧ RelV v u ∧ ∀ ρ H, Rp X.K ρ H d v
  fns : ∀ x ar, cv.fns.lookup x = some ar → ∃ f fd ps, FnOk X.prog X.w X.K X.mg X.base (L2N.CX X.prog X.w) l f fd ps (spF X.K X.mg ar (Φ x)) ∧ X.mg x = some (.ref f) ∧ PySem.W.keepIn X.K (.ref f) = true ∧ Binds X.K fd ps []
  exc : ∀ x ∈ cv.exc, ExcF X x
  po : PassesOwn (model X.prog X.w) X.A X.env X.xe
  tk : L2N.Takes X (wxOf X.mg W)
  fnc : ∀ x y, cs.lookup x = some (.fn y) → ∃ ar, cv.fns.lookup x = some ar ∧ X.mg x = some (.ref (fnAd X.K x)) ∧ ∀ ds st, Φ x ds st ≠ .bad → ds.length = ar
  lam : cv.lams = true → LamOk X l
  wd : ∀ x ∈ cv.wds, WordOk X.prog X.w X.K X.mg X.base x (Φ x)
structure Sd (X : Cx) (W : XW) (e : Expr) (f : Fe) : Prop where
  pe : Pe X W e f
  pt : Pt X W e f
  pw : ∀ op vs pos, e = .BoolOp op vs pos → PW X e (tT X.K W f)
  asg : isComp e = true → ∀ (i : Nat) (y : Str) (py spos : Pos), X.N[i]? = some y → X.env.scope.names.lookup y = some .local → swapsWith e (some (.Name y py)) spos.line X.env = pure true →
    PS X (.Assign [.Name y py] e spos) (tAsg (tE X.K W f) (gName i))
theorem pw_false {X : Cx} {e : Expr} {t : TT} (h : ∀ σ H Q, ¬ t σ H Q) : PW X e t := ⟨fun _ _ _ σ H Q _ q => absurd q (h σ H Q)⟩
theorem ps_false {X : Cx} {s : Stmt} {t : TS} (h : ∀ D σ H, ¬ t D σ H) : PS X s t := ⟨fun _ _ σ H D _ q => absurd q (h D σ H)⟩
theorem Sd.bad {X : Cx} {W : XW} {e : Expr} {f : Fe} (h : ∀ env st, f env st = .bad) : Sd X W e f :=
  ⟨pe_false (tE_bad h), pt_false (tT_bad h), fun _ _ _ _ => pw_false (tT_bad h), fun _ i _ _ _ _ _ _ => ps_false fun D σ H q => tE_bad h σ H _ q⟩
/-- no and, or; no comprehension -/
def common : Expr → Bool
  | .BoolOp .. => false
  | .ListComp .. => false
  | .DictComp .. => false
  | _ => true
theorem Sd.of {X : Cx} {W : XW} {e : Expr} {f : Fe} (h : common e = true) (a : Pe X W e f) (b : Pt X W e f) : Sd X W e f :=
  ⟨a, b, fun op vs pos he => (by subst he; cases h), fun he => (by cases e <;> first | (cases he; done) | (cases h; done))⟩
section
variable {env : PySem.Env} {e : Expr} {es : List Expr} {op : CmpOp}
theorem ok_star (h : okE e = true) : starEach (e :: es) env = (false, eval e env) :: starEach es env := by
  cases e <;> first | rfl | cases h
theorem ok_back {pos : Pos} : ∀ {es : List Expr}, (∀ e ∈ es, okE e = true) → (backTo pos (starEach es env)).any (·.1) = false
  | [], _ => rfl
  | e :: es, h => by
    rw [ok_star (h e List.mem_cons_self)]
    have := ok_back (pos := pos) (es := es) fun x hx => h x (List.mem_cons_of_mem _ hx)
    unfold backTo at this ⊢
    simp only [List.map_cons, List.any_cons, Bool.false_or]
    exact this
theorem ok_marks (h : okE e = true) : behindInMarks op e = false := by
  cases e <;> first | rfl | cases h
theorem ok_last {op2 : CmpOp} {b : Expr} (h : okE e = true) : lastMarks [op, op2] [b, e] = false := ok_marks h
theorem ok_ix (h : okE e = true) : PlainIx e := by
  cases e <;> first | (intro _ _; rfl) | cases h
theorem ok_fold (h : okE e = true) : ∀ x, foldedSetIterable e env x = pure x := by
  cases e <;> first | (intro _; rfl) | cases h
theorem ok_swap {l : Nat} {tg : Option Expr} (h : okE e = true) (hc : isComp e = false) : swapsWith e tg l env = pure false := by
  cases e <;> first | rfl | (cases hc; done) | (cases h; done)
end
theorem vis_ok {sc : Scope} {x : Str} (h : vis sc x = true) : Vis sc x := by
  unfold vis at h
  unfold Vis
  split at h
  · rename_i q; exact .inl q
  · rename_i q; exact .inr (.inl q)
  · rename_i q; exact .inr (.inr q)
  · cases h
theorem locl_ok {sc : Scope} {x : Str} (h : locl sc x = true) : L2.Loc sc x := by
  unfold locl at h
  unfold L2.Loc
  split at h
  · rename_i q; exact .inl q
  · rename_i q; exact .inr q
  · cases h
theorem isLocal_ok {sc : Scope} {x : Str} (h : isLocal sc x = true) : sc.names.lookup x = some .local := by
  unfold isLocal at h
  split at h
  · rename_i q; exact q
  · cases h
theorem plain_ok {x : Str} (h : plainName x = true) : (x == ("__debug__" : Str)) = false ∧ (x == ("__classdict__" : Str)) = false ∧ x ≠ ("__name__" : Str) := by
  unfold plainName at h
  simp only [Bool.and_eq_true, Bool.not_eq_true'] at h
  exact ⟨h.1, h.2.1, fun e => by simp [e] at h⟩
variable {X : Cx} {W : XW} {l : Nat} {cv : Cv} {Φ : Fns} {cs : Consts}
theorem Good.gl (g : Good X W l cv Φ cs) {x : Str} (h : glb cv.scope x = true) : Gl X x := by
  unfold glb at h
  split at h
  · rename_i q
    show X.env.scope.names.lookup x = _
    rw [g.sc]; exact q
  · cases h
theorem Good.hu (g : Good X W l cv Φ cs) : X.A.units + 65 < cLine := by have := g.room.un; omega
/-- what stands on a recursion: the parts' meanings -/
def HR (l : Nat) (Φ : Fns) (cs : Consts) (rec : Rc) (re : Ex) : Prop := ∀ cv e m, rec cv e m = true → okE e = true ∧ ∀ X W, Good X W l cv Φ cs → Sd X W e (re m)
section
variable {rec : Rc} {re : Ex}
theorem all_ok' (hr : HR l Φ cs rec re) : ∀ {es : List Expr} {ms : List E}, chkAll (rec cv) es ms = true → (∀ e ∈ es, okE e = true) ∧ es.length = ms.length ∧ ∀ X W, Good X W l cv Φ cs → Pl X W es (evs re ms)
  | [], [], _ => ⟨fun _ h => absurd h (by simp), rfl, fun X W g => l_nil⟩
  | [], _ :: _, h => by cases h
  | _ :: _, [], h => by cases h
  | e :: es, m :: ms, h => by
    unfold chkAll at h
    simp only [Bool.and_eq_true] at h
    obtain ⟨h1, h2, h3⟩ := all_ok' hr h.2
    obtain ⟨a, b⟩ := hr cv e m h.1
    refine ⟨fun x hx => ?_, by simp [h2], fun X W g => l_cons (b X W g).pe (h3 X W g) (ok_star a)⟩
    rcases List.mem_cons.mp hx with z | z
    · rw [z]; exact a
    · exact h1 x z
theorem evs_len {re : Ex} : ∀ {ms : List E} {env : Env} {st st' : Store} {ds : List D}, evs re ms env st = .ok ds st' → ds.length = ms.length
  | [], env, st, st', ds, h => by cases h; rfl
  | m :: ms, env, st, st', ds, h => by
    unfold evs at h
    obtain ⟨d, st1, h1, h2⟩ := bind_ok h
    obtain ⟨r, st2, h3, h4⟩ := bind_ok h2
    cases h4
    simp [evs_len h3]
/-- the step's claim -/
def Cl (l : Nat) (Φ : Fns) (cs : Consts) (cv : Cv) (e : Expr) (f : Fe) : Prop := okE e = true ∧ ∀ X W, Good X W l cv Φ cs → Sd X W e f
theorem c_con {d : D} {e : Expr} (h : chkCon e d = true) : Cl l Φ cs cv e (evStep Φ cs re (.con d)) := by
  unfold chkCon at h
  split at h
  · rename_i c k pos
    refine ⟨rfl, fun X W g => ?_⟩
    split at h
    · rename_i i j
      have := eq_of_beq h; subst this
      have pe : Pe X W (.Constant (.int i) k pos) (evStep Φ cs re (.con (.int i))) := x_const (v := .int i) pe_int (fun _ _ => rfl)
      exact .of rfl pe (t_val pe fun _ => rfl)
    · rename_i i j
      have := eq_of_beq h; subst this
      have pe : Pe X W (.Constant (.bool i) k pos) (evStep Φ cs re (.con (.bl i))) := x_const (v := .bl i) pe_bl (fun _ _ => rfl)
      exact .of rfl pe (t_val pe fun _ => rfl)
    · have pe : Pe X W (.Constant .none k pos) (evStep Φ cs re (.con .non)) := x_const (v := .non) pe_non (d := .non) (fun _ _ => rfl)
      exact .of rfl pe (t_val pe fun _ => rfl)
    · rename_i i j
      have := eq_of_beq h; subst this
      have pe : Pe X W (.Constant (.str i) k pos) (evStep Φ cs re (.con (.str i))) := x_const (v := .str i) pe_str (fun _ _ => rfl)
      exact .of rfl pe (t_val pe fun _ => rfl)
    · cases h
  · cases h
theorem c_var {i : Nat} {e : Expr} (h : chkStep cv rec e (.var i) = true) : Cl l Φ cs cv e (evStep Φ cs re (.var i)) := by
  dsimp only [chkStep] at h
  split at h
  · rename_i x pos
    simp only [Bool.and_eq_true, beq_iff_eq] at h
    obtain ⟨h1, h2, h3⟩ := h
    obtain ⟨p1, p2, p3⟩ := plain_ok h3
    refine ⟨rfl, fun X W g => ?_⟩
    have pe : Pe X W (.Name x pos) (evStep Φ cs re (.var i)) := x_var (by rw [g.N]; exact h1) (by rw [g.sc]; exact vis_ok h2) p1 p2
    exact .of rfl pe (t_val pe fun _ => rfl)
  · cases h
theorem c_glob {y : Str} {e : Expr} (h : chkStep cv rec e (.glob y) = true) : Cl l Φ cs cv e (evStep Φ cs re (.glob y)) := by
  dsimp only [chkStep] at h
  split at h
  · rename_i x pos
    simp only [Bool.and_eq_true, beq_iff_eq] at h
    obtain ⟨h1, h2, h3⟩ := h
    subst h1
    obtain ⟨p1, p2, p3⟩ := plain_ok h3
    refine ⟨rfl, fun X W g => ?_⟩
    have pe : Pe X W (.Name x pos) (evStep Φ cs re (.glob x)) := x_glob (g.gl h2) p1 (g.cons x)
    exact .of rfl pe (t_val pe fun _ => rfl)
  · cases h
theorem len_of {ms : List E} {es : List Expr} (hm : ms.length ≤ 1000000) : ∀ env st ds st', evs re ms env st = .ok ds st' → ds.length ≤ seqMax := fun env st ds st' h => by rw [evs_len h]; exact hm
theorem c_tup (hr : HR l Φ cs rec re) {ms : List E} {e : Expr} (h : chkStep cv rec e (.tup ms) = true) : Cl l Φ cs cv e (evStep Φ cs re (.tup ms)) := by
  dsimp only [chkStep] at h
  split at h
  · rename_i es k pos
    simp only [Bool.and_eq_true, decide_eq_true_eq] at h
    obtain ⟨a, b, c⟩ := all_ok' hr h.1
    refine ⟨rfl, fun X W g => ?_⟩
    have pe : Pe X W (.Tuple es k pos) (evStep Φ cs re (.tup ms)) := x_tup (c X W g) (len_of (es := es) h.2)
    exact .of rfl pe (t_val pe fun _ => rfl)
  · cases h
theorem c_lst (hr : HR l Φ cs rec re) {ms : List E} {e : Expr} (h : chkStep cv rec e (.lst ms) = true) : Cl l Φ cs cv e (evStep Φ cs re (.lst ms)) := by
  dsimp only [chkStep] at h
  split at h
  · rename_i es pos
    simp only [Bool.and_eq_true, decide_eq_true_eq] at h
    obtain ⟨a, b, c⟩ := all_ok' hr h.1
    refine ⟨rfl, fun X W g => ?_⟩
    have pe : Pe X W (.List es pos) (evStep Φ cs re (.lst ms)) := x_lst (c X W g) (len_of (es := es) h.2)
    exact .of rfl pe (t_val pe fun _ => rfl)
  · cases h
theorem c_cel (hr : HR l Φ cs rec re) {ms : List E} {e : Expr} (h : chkStep cv rec e (.cel ms) = true) : Cl l Φ cs cv e (evStep Φ cs re (.cel ms)) := by
  dsimp only [chkStep] at h
  split at h
  · rename_i es pos
    simp only [Bool.and_eq_true, decide_eq_true_eq] at h
    obtain ⟨a, b, c⟩ := all_ok' hr h.1
    refine ⟨rfl, fun X W g => ?_⟩
    have pe : Pe X W (.List es pos) (evStep Φ cs re (.cel ms)) := x_cel (c X W g) (len_of (es := es) h.2)
    exact .of rfl pe (t_val pe fun _ => rfl)
  · cases h
theorem c_bin (hr : HR l Φ cs rec re) {op : Operator} {x y : E} {e : Expr} (h : chkStep cv rec e (.bin op x y) = true) : Cl l Φ cs cv e (evStep Φ cs re (.bin op x y)) := by
  dsimp only [chkStep] at h
  split at h
  · rename_i a op' b pos
    simp only [Bool.and_eq_true, beq_iff_eq] at h
    obtain ⟨rfl, h2, h3⟩ := h
    refine ⟨rfl, fun X W g => ?_⟩
    have pe : Pe X W (.BinOp a op' b pos) (evStep Φ cs re (.bin op' x y)) := x_bin ((hr cv a x h2).2 X W g).pe ((hr cv b y h3).2 X W g).pe
    exact .of rfl pe (t_val pe fun _ => rfl)
  · cases h
theorem c_neg (hr : HR l Φ cs rec re) {x : E} {e : Expr} (h : chkStep cv rec e (.neg x) = true) : Cl l Φ cs cv e (evStep Φ cs re (.neg x)) := by
  dsimp only [chkStep] at h
  split at h
  · rename_i a pos
    refine ⟨rfl, fun X W g => ?_⟩
    have pe : Pe X W (.UnaryOp .USub a pos) (evStep Φ cs re (.neg x)) := x_neg ((hr cv a x h).2 X W g).pe
    exact .of rfl pe (t_val pe fun _ => rfl)
  · cases h
theorem c_not (hr : HR l Φ cs rec re) {x : E} {e : Expr} (h : chkStep cv rec e (.not x) = true) : Cl l Φ cs cv e (evStep Φ cs re (.not x)) := by
  dsimp only [chkStep] at h
  split at h
  · rename_i a pos
    refine ⟨rfl, fun X W g => ?_⟩
    exact .of rfl (x_not ((hr cv a x h).2 X W g).pe) (t_not ((hr cv a x h).2 X W g).pt)
  · cases h
theorem c_ite (hr : HR l Φ cs rec re) {x y z : E} {e : Expr} (h : chkStep cv rec e (.ite x y z) = true) : Cl l Φ cs cv e (evStep Φ cs re (.ite x y z)) := by
  dsimp only [chkStep] at h
  split at h
  · rename_i c a b pos
    simp only [Bool.and_eq_true] at h
    obtain ⟨h1, h2, h3⟩ := h
    refine ⟨rfl, fun X W g => ?_⟩
    exact .of rfl (x_ite ((hr cv c x h1).2 X W g).pt ((hr cv a y h2).2 X W g).pe ((hr cv b z h3).2 X W g).pe) (t_ite ((hr cv c x h1).2 X W g).pt ((hr cv a y h2).2 X W g).pt ((hr cv b z h3).2 X W g).pt)
  · cases h
theorem c_cmp (hr : HR l Φ cs rec re) {op : CmpOp} {x y : E} {e : Expr} (h : chkStep cv rec e (.cmp op x y) = true) : Cl l Φ cs cv e (evStep Φ cs re (.cmp op x y)) := by
  dsimp only [chkStep] at h
  split at h
  · rename_i a op' b pos
    simp only [Bool.and_eq_true, beq_iff_eq] at h
    obtain ⟨rfl, h2, h3⟩ := h
    refine ⟨rfl, fun X W g => ?_⟩
    exact .of rfl (x_cmp g.hu ((hr cv a x h2).2 X W g).pe ((hr cv b y h3).2 X W g).pe (ok_marks (hr cv b y h3).1)) (t_cmp g.hu ((hr cv a x h2).2 X W g).pe ((hr cv b y h3).2 X W g).pe (ok_marks (hr cv b y h3).1))
  · cases h
theorem c_cmp2 (hr : HR l Φ cs rec re) {op op2 : CmpOp} {x y z : E} {e : Expr} (h : chkStep cv rec e (.cmp2 op op2 x y z) = true) : Cl l Φ cs cv e (evStep Φ cs re (.cmp2 op op2 x y z)) := by
  dsimp only [chkStep] at h
  split at h
  · rename_i a o1 o2 b c pos
    simp only [Bool.and_eq_true, beq_iff_eq] at h
    obtain ⟨rfl, rfl, h2, h3, h4⟩ := h
    refine ⟨rfl, fun X W g => ?_⟩
    exact .of rfl (x_chain g.hu ((hr cv a x h2).2 X W g).pe ((hr cv b y h3).2 X W g).pe ((hr cv c z h4).2 X W g).pe (ok_last (hr cv c z h4).1))
      (t_chain g.hu ((hr cv a x h2).2 X W g).pe ((hr cv b y h3).2 X W g).pe ((hr cv c z h4).2 X W g).pe (ok_last (hr cv c z h4).1))
  · cases h
theorem sd_bool {op : BoolOp} {vs : List Expr} {pos : Pos} {f : Fe} (a : Pe X W (.BoolOp op vs pos) f) (b : PW X (.BoolOp op vs pos) (tT X.K W f)) : Sd X W (.BoolOp op vs pos) f :=
  ⟨a, b.pt, fun o v p he => by cases he; exact b, fun he => by cases he⟩
theorem c_and (hr : HR l Φ cs rec re) {x y : E} {e : Expr} (h : chkStep cv rec e (.and x y) = true) : Cl l Φ cs cv e (evStep Φ cs re (.and x y)) := by
  dsimp only [chkStep, chkBool] at h
  split at h
  · rename_i op a b r pos
    simp only [Bool.and_eq_true, beq_iff_eq] at h
    obtain ⟨rfl, h1, h2⟩ := h
    refine ⟨rfl, fun X W g => ?_⟩
    have sa := (hr cv a x h1).2 X W g
    split at h2
    · have sb := (hr cv b y h2).2 X W g
      exact sd_bool (x_and sa.pe (pe_one sb.pe)) (w_and sa.pt (t_one sb.pt))
    · have sb := (hr cv _ y h2).2 X W g
      exact sd_bool (x_and sa.pe sb.pe) (w_and sa.pt (sb.pw _ _ _ rfl))
  · cases h
theorem c_or (hr : HR l Φ cs rec re) {x y : E} {e : Expr} (h : chkStep cv rec e (.or x y) = true) : Cl l Φ cs cv e (evStep Φ cs re (.or x y)) := by
  dsimp only [chkStep, chkBool] at h
  split at h
  · rename_i op a b r pos
    simp only [Bool.and_eq_true, beq_iff_eq] at h
    obtain ⟨rfl, h1, h2⟩ := h
    refine ⟨rfl, fun X W g => ?_⟩
    have sa := (hr cv a x h1).2 X W g
    split at h2
    · have sb := (hr cv b y h2).2 X W g
      exact sd_bool (x_or sa.pe (pe_one sb.pe)) (w_or sa.pt (t_one sb.pt))
    · have sb := (hr cv _ y h2).2 X W g
      exact sd_bool (x_or sa.pe sb.pe) (w_or sa.pt (sb.pw _ _ _ rfl))
  · cases h
theorem callOf_ok {e : Expr} {f : Str} {es : List Expr} (h : callOf e = some (f, es)) : ∃ p pos, e = .Call (.Name f p) es [] pos := by
  unfold callOf at h
  split at h
  · cases h; exact ⟨_, _, rfl⟩
  · cases h
theorem c_call (hr : HR l Φ cs rec re) {f : Str} {ms : List E} {e : Expr} (h : chkStep cv rec e (.call f ms) = true) : Cl l Φ cs cv e (evStep Φ cs re (.call f ms)) := by
  dsimp only [chkStep] at h
  split at h
  · rename_i g' es hcall
    obtain ⟨p, pos, rfl⟩ := callOf_ok hcall
    simp only [Bool.and_eq_true, beq_iff_eq, Bool.not_eq_true'] at h
    obtain ⟨rfl, h1, h2, h3, h4, h5⟩ := h
    obtain ⟨a, b, c⟩ := all_ok' hr h5
    obtain ⟨p1, p2, p3⟩ := plain_ok h2
    cases es with
    | nil => cases h3
    | cons e1 es =>
      refine ⟨rfl, fun X W g => ?_⟩
      obtain ⟨fa, fd, ps, F, hm, hk, hb⟩ := g.fns _ _ h4
      have pe : Pe X W (.Call (.Name g' p) (e1 :: es) [] pos) (evStep Φ cs re (.call g' ms)) :=
        x_call F g.room (g.gl h1) hm hk hb g.tk (c X W g) (fun env st ds st' h => evs_len h) p1 (ok_star (a e1 List.mem_cons_self)) (ok_back fun x hx => a x (List.mem_cons_of_mem _ hx))
      exact .of rfl pe (t_val pe fun _ => rfl)
  · cases h
theorem boot_range' : bootBuiltins "range" = some (.type "range") := by decide +kernel
theorem mem_blt {x : Str} (h : bltNames.contains x = true) : x ∈ bltNames := List.contains_iff_mem.mp h
theorem c_blt (hr : HR l Φ cs rec re) {bf : Bf} {ms : List E} {e : Expr} (h : (match callOf e with
    | some (g, es) => bfOk bf && (g == bfN bf && (glb cv.scope g && (!isNil es && chkAll (rec cv) es ms)))
    | none => false) = true) : Cl l Φ cs cv e (evStep Φ cs re (.blt bf ms)) := by
  split at h
  · rename_i g' es hcall
    obtain ⟨p, pos, rfl⟩ := callOf_ok hcall
    simp only [Bool.and_eq_true, beq_iff_eq, Bool.not_eq_true'] at h
    obtain ⟨h0, rfl, h2, h3, h5⟩ := h
    obtain ⟨a, b, c⟩ := all_ok' hr h5
    cases es with
    | nil => cases h3
    | cons e1 es =>
      refine ⟨rfl, fun X W g => ?_⟩
      have hs : starEach (e1 :: es) X.env = (false, eval e1 X.env) :: starEach es X.env := ok_star (a e1 List.mem_cons_self)
      have hb : (backTo pos (starEach es X.env)).any (·.1) = false := ok_back fun x hx => a x (List.mem_cons_of_mem _ hx)
      have pe : Pe X W (.Call (.Name (bfN bf) p) (e1 :: es) [] pos) (evStep Φ cs re (.blt bf ms)) := by
        cases bf with
        | len => exact x_blt (fun E => len_ok) (g.gl h2) (g.blt _ (mem_blt (by decide +kernel))) (by decide +kernel) (c X W g) (by decide +kernel) (by decide +kernel) hs hb
        | all => exact x_blt (fun E => all_ok g.calm) (g.gl h2) (g.blt _ (mem_blt (by decide +kernel))) (by decide +kernel) (c X W g) (by decide +kernel) (by decide +kernel) hs hb
        | any => exact x_blt (fun E => any_ok g.calm) (g.gl h2) (g.blt _ (mem_blt (by decide +kernel))) (by decide +kernel) (c X W g) (by decide +kernel) (by decide +kernel) hs hb
        | sum => exact x_blt (fun E => sum_ok g.calm) (g.gl h2) (g.blt _ (mem_blt (by decide +kernel))) (by decide +kernel) (c X W g) (by decide +kernel) (by decide +kernel) hs hb
        | tuple => exact x_ty (fun E => tuple_ok g.calm) (g.gl h2) (g.blt _ (mem_blt (by decide +kernel))) (by decide +kernel) (c X W g) (by decide +kernel) (by decide +kernel) hs hb
        | list => exact x_ty (fun E => list_ok g.calm) (g.gl h2) (g.blt _ (mem_blt (by decide +kernel))) (by decide +kernel) (c X W g) (by decide +kernel) (by decide +kernel) hs hb
        | listc => exact x_ty (fun E => listc_ok g.calm) (g.gl h2) (g.blt _ (mem_blt (by decide +kernel))) (by decide +kernel) (c X W g) (by decide +kernel) (by decide +kernel) hs hb
        | abs => exact x_blt (fun E => abs_ok) (g.gl h2) (g.blt _ (mem_blt (by decide +kernel))) (by decide +kernel) (c X W g) (by decide +kernel) (by decide +kernel) hs hb
        | int => exact x_ty (fun E => int_ok) (g.gl h2) (g.blt _ (mem_blt (by decide +kernel))) (by decide +kernel) (c X W g) (by decide +kernel) (by decide +kernel) hs hb
        | sorted => exact x_blt (fun E => sorted_ok g.calm g.hu) (g.gl h2) (g.blt _ (mem_blt (by decide +kernel))) (by decide +kernel) (c X W g) (by decide +kernel) (by decide +kernel) hs hb
        | max2 => exact x_blt (fun E => max2_ok g.calm) (g.gl h2) (g.blt _ (mem_blt (by decide +kernel))) (by decide +kernel) (c X W g) (by decide +kernel) (by decide +kernel) hs hb
        | min2 => exact x_blt (fun E => min2_ok g.calm) (g.gl h2) (g.blt _ (mem_blt (by decide +kernel))) (by decide +kernel) (c X W g) (by decide +kernel) (by decide +kernel) hs hb
        | max1 => exact x_blt (fun E => max1_ok g.calm) (g.gl h2) (g.blt _ (mem_blt (by decide +kernel))) (by decide +kernel) (c X W g) (by decide +kernel) (by decide +kernel) hs hb
        | min1 => exact x_blt (fun E => min1_ok g.calm) (g.gl h2) (g.blt _ (mem_blt (by decide +kernel))) (by decide +kernel) (c X W g) (by decide +kernel) (by decide +kernel) hs hb
        | range1 => exact x_ty (fun E => range1_ok) (g.gl h2) (g.blt _ (mem_blt (by decide +kernel))) (by decide +kernel) (c X W g) (by decide +kernel) (by decide +kernel) hs hb
        | range2 => exact x_ty (fun E => range2_ok) (g.gl h2) (g.blt _ (mem_blt (by decide +kernel))) (by decide +kernel) (c X W g) (by decide +kernel) (by decide +kernel) hs hb
        | _ => cases h0
      exact .of rfl pe (t_val pe fun _ => rfl)
  · cases h
end
end Ev

set_option Elab.async false
set_option linter.all false
set_option maxRecDepth 100000
set_option maxHeartbeats 1000000
namespace Ev
open PySem PySem.Spec PyProof.Rows L2
variable [TabsOf]
variable {X : Cx} {W : XW} {l : Nat} {cv : Cv} {Φ : Fns} {cs : Consts} {rec : Rc} {re : Ex}
theorem ok_base {e : Expr} {f : Str} {env : PySem.Env} {w : Sem Value} (h : okE e = true) (hn : notCall e = true) : attributeBase e f env w = w := by
  cases e <;> first | rfl | (cases h; done) | skip
  rename_i fn args kws pos
  cases args with
  | nil => cases hn
  | cons a as => cases fn <;> rfl
theorem c_ss (hr : HR l Φ cs rec re) {x : E} {e : Expr} (h : chkStep cv rec e (.blt .sortedSet [x]) = true) : Cl l Φ cs cv e (evStep Φ cs re (.blt .sortedSet [x])) := by
  dsimp only [chkStep] at h
  split at h
  · rename_i f p g' q a q2 pos
    simp only [Bool.and_eq_true, beq_iff_eq] at h
    obtain ⟨rfl, rfl, h1, h2, h3⟩ := h
    refine ⟨rfl, fun X W g => ?_⟩
    obtain ⟨oa, sa⟩ := hr cv a x h3
    have hl : Pl X W [a] (evs re [x]) := l_cons (sa X W g).pe l_nil (ok_star oa)
    have pe : Pe X W (.Call (.Name "sorted" p) [.Call (.Name "set" q) [a] [] q2] [] pos) (evStep Φ cs re (.blt .sortedSet [x])) :=
      x_ss g.calm (g.gl h1) (g.blt _ (mem_blt (by decide +kernel))) (by decide +kernel) (by decide +kernel) (by decide +kernel) (g.gl h2) (g.blt _ (mem_blt (by decide +kernel))) (by decide +kernel) (by decide +kernel) (by decide +kernel)
        hl (ok_star oa) rfl (ok_star (by rfl)) rfl
    exact .of rfl pe (t_val pe fun _ => rfl)
  · cases h
theorem c_isin (hr : HR l Φ cs rec re) {x : E} {T : String} {e : Expr} (h : chkStep cv rec e (.isin x T) = true) : Cl l Φ cs cv e (evStep Φ cs re (.isin x T)) := by
  dsimp only [chkStep] at h
  split at h
  · rename_i f p a y q pos
    simp only [Bool.and_eq_true, beq_iff_eq] at h
    obtain ⟨rfl, h1, h2, h3, h4, h5⟩ := h
    obtain ⟨oa, sa⟩ := hr cv a x h5
    refine ⟨rfl, fun X W g => ?_⟩
    have key : ∀ (T : String) (y : Str), okTy T = true → (tyN.lookup T == some y) = true → bootBuiltins y = some (.type T) ∧ y ≠ ("__name__" : Str) ∧ (y == ("__debug__" : Str)) = false ∧ bltNames.contains y = true := by
      intro T y hT hy
      unfold okTy at hT
      simp only [Bool.or_eq_true, beq_iff_eq] at hT
      have hy := eq_of_beq hy
      rcases hT with (((rfl | rfl) | rfl) | rfl) | rfl
      · have e : y = ("bool" : Str) := by
          have : tyN.lookup "bool" = some ("bool" : Str) := by decide +kernel
          rw [this] at hy; cases hy; rfl
        subst e; decide +kernel
      · have e : y = ("int" : Str) := by
          have : tyN.lookup "int" = some ("int" : Str) := by decide +kernel
          rw [this] at hy; cases hy; rfl
        subst e; decide +kernel
      · have e : y = ("str" : Str) := by
          have : tyN.lookup "str" = some ("str" : Str) := by decide +kernel
          rw [this] at hy; cases hy; rfl
        subst e; decide +kernel
      · have e : y = ("tuple" : Str) := by
          have : tyN.lookup "tuple" = some ("tuple" : Str) := by decide +kernel
          rw [this] at hy; cases hy; rfl
        subst e; decide +kernel
      · have e : y = ("list" : Str) := by
          have : tyN.lookup "list" = some ("list" : Str) := by decide +kernel
          rw [this] at hy; cases hy; rfl
        subst e; decide +kernel
    obtain ⟨k1, k2, k3, k4⟩ := key T y h3 (by rw [h4]; exact beq_self_eq_true _)
    have pe : Pe X W (.Call (.Name "isinstance" p) [a, .Name y q] [] pos) (evStep Φ cs re (.isin x T)) := by
      have := x_isin (X := X) (W := W) (p := p) (pos := pos) (py := q) h3 (g.gl h1) (g.blt _ (mem_blt (by decide +kernel))) (by decide +kernel) (by decide +kernel) (by decide +kernel) (g.gl h2) (g.blt _ (mem_blt k4)) k1 k2 k3 (sa X W g).pe (ok_star oa) (by rfl)
      refine PE.mono this fun σ H Q ⟨ρ, env, st, er, sr, p⟩ => ⟨ρ, env, st, er, sr, ?_⟩
      dsimp only [evStep] at p
      simp only [h3, if_true] at p
      exact p
    exact .of rfl pe (t_val pe fun _ => rfl)
  · cases h
theorem c_ix (hr : HR l Φ cs rec re) {x y : E} {e : Expr} (h : chkStep cv rec e (.ix x y) = true) : Cl l Φ cs cv e (evStep Φ cs re (.ix x y)) := by
  dsimp only [chkStep] at h
  split at h
  · rename_i a i pos
    simp only [Bool.and_eq_true] at h
    refine ⟨rfl, fun X W g => ?_⟩
    have pe : Pe X W (.Subscript a i pos) (evStep Φ cs re (.ix x y)) := x_ix g.hu ((hr cv a x h.1).2 X W g).pe ((hr cv i y h.2).2 X W g).pe (ok_ix (hr cv i y h.2).1)
    exact .of rfl pe (t_val pe fun _ => rfl)
  · cases h
theorem opt_ok (hr : HR l Φ cs rec re) {o : Option Expr} {m : Option E} (h : chkOpt (rec cv) o m = true) (g : Good X W l cv Φ cs) : PO X o (tO X.K W (evStep.part re m)) := by
  cases o with
  | none =>
    cases m with
    | none => exact o_none
    | some m => cases h
  | some e =>
    cases m with
    | none => cases h
    | some m => exact o_some ((hr cv e m h).2 X W g).pe
theorem c_sl (hr : HR l Φ cs rec re) {x : E} {lo hi : Option E} {e : Expr} (h : chkStep cv rec e (.sl x lo hi) = true) : Cl l Φ cs cv e (evStep Φ cs re (.sl x lo hi)) := by
  dsimp only [chkStep] at h
  split at h
  · rename_i a l h' q pos
    simp only [Bool.and_eq_true] at h
    refine ⟨rfl, fun X W g => ?_⟩
    have pe : Pe X W (.Subscript a (.Slice l h' none q) pos) (evStep Φ cs re (.sl x lo hi)) := x_sl ((hr cv a x h.1).2 X W g).pe (opt_ok hr h.2.1 g) (opt_ok hr h.2.2 g)
    exact .of rfl pe (t_val pe fun _ => rfl)
  · cases h
theorem c_rev (hr : HR l Φ cs rec re) {x : E} {e : Expr} (h : chkStep cv rec e (.rev x) = true) : Cl l Φ cs cv e (evStep Φ cs re (.rev x)) := by
  dsimp only [chkStep] at h
  split at h
  · rename_i a i k p1 p2 p3 pos
    simp only [Bool.and_eq_true, beq_iff_eq] at h
    obtain ⟨rfl, h⟩ := h
    refine ⟨rfl, fun X W g => ?_⟩
    have pe : Pe X W (.Subscript a (backSl k p1 p2 p3) pos) (evStep Φ cs re (.rev x)) := x_rev ((hr cv a x h).2 X W g).pe
    exact .of rfl pe (t_val pe fun _ => rfl)
  · cases h
theorem ok_few {e : Expr} {env : PySem.Env} {cpos : Pos} (h : okE e = true) : ((backTo cpos (starEach [e] env)).all (fun x => !x.1) && (backToKw cpos (keywordEach [] env)).all (fun x => x.1.isSome)
      && decide (([e] : List Expr).length + ([] : List Keyword).length + (if ([] : List Keyword).isEmpty then 0 else 1) < 30)) = true := by
  rw [ok_star h]
  rfl
theorem c_meth (hr : HR l Φ cs rec re) {m : Mth} {x : E} {ms : List E} {e : Expr} (h : chkStep cv rec e (.meth m x ms) = true) : Cl l Φ cs cv e (evStep Φ cs re (.meth m x ms)) := by
  dsimp only [chkStep] at h
  unfold chkMeth at h
  split at h
  · rename_i a f apos args cpos
    simp only [Bool.and_eq_true, beq_iff_eq] at h
    obtain ⟨h1, h2, h⟩ := h
    have hline : (apos.endLine == cpos.line) = true := by rw [h2]; exact beq_self_eq_true _
    refine ⟨rfl, fun X W g => ?_⟩
    cases m with
    | append =>
      dsimp only at h
      split at h
      · rename_i b y
        simp only [Bool.and_eq_true, beq_iff_eq] at h
        obtain ⟨rfl, h3, h4⟩ := h
        obtain ⟨oa, sa⟩ := hr cv a x h3
        obtain ⟨ob, sb⟩ := hr cv b y h4
        have pe : Pe X W (.Call (.Attribute a "append" apos) [b] [] cpos) (evStep Φ cs re (.meth .append x [y])) :=
          x_append (sa X W g).pe (l_cons (sb X W g).pe l_nil (ok_star ob)) (ok_base oa h1) (ok_few ob) hline (ok_star ob) rfl
        exact .of rfl pe (t_val pe fun _ => rfl)
      · cases h
    | extend =>
      dsimp only at h
      split at h
      · rename_i b y
        simp only [Bool.and_eq_true, beq_iff_eq] at h
        obtain ⟨rfl, h3, h4⟩ := h
        obtain ⟨oa, sa⟩ := hr cv a x h3
        obtain ⟨ob, sb⟩ := hr cv b y h4
        have pe : Pe X W (.Call (.Attribute a "extend" apos) [b] [] cpos) (evStep Φ cs re (.meth .extend x [y])) :=
          x_extend (sa X W g).pe (l_cons (sb X W g).pe l_nil (ok_star ob)) (ok_base oa h1) (ok_few ob) hline (ok_star ob) rfl
        exact .of rfl pe (t_val pe fun _ => rfl)
      · cases h
    | pop =>
      dsimp only at h
      split at h
      · simp only [Bool.and_eq_true, beq_iff_eq] at h
        obtain ⟨rfl, h3⟩ := h
        obtain ⟨oa, sa⟩ := hr cv a x h3
        have pe : Pe X W (.Call (.Attribute a "pop" apos) [] [] cpos) (evStep Φ cs re (.meth .pop x [])) :=
          x_pop (sa X W g).pe (ok_base oa h1) hline
        exact .of rfl pe (t_val pe fun _ => rfl)
      · cases h
  · cases h
/-! ### what is walked -/
theorem i_ok (hr : HR l Φ cs rec re) {tg e : Expr} {m : E} (h : chkI cv (rec cv) tg e m = true) : okE e = true ∧ ∀ X W, Good X W l cv Φ cs → Pi' X W tg e (evI re m) := by
  unfold chkI at h
  split at h
  · rename_i x y
    split at h
    · rename_i f p a b pos
      simp only [Bool.and_eq_true, beq_iff_eq] at h
      obtain ⟨rfl, h1, h2, h3, h4⟩ := h
      refine ⟨rfl, fun X W g => ?_⟩
      cases tg <;> first | (cases h2; done) | skip
      exact i_zip (g.gl h1) (g.blt _ (mem_blt (by decide +kernel))) ((hr cv a x h3).2 X W g).pe ((hr cv b y h4).2 X W g).pe (ok_star (hr cv a x h3).1) (ok_star (hr cv b y h4).1) (ok_back fun z hz => by
        rw [List.mem_singleton.mp hz]; exact (hr cv b y h4).1)
    · cases h
  · rename_i x
    split at h
    · rename_i f p a pos
      simp only [Bool.and_eq_true, beq_iff_eq] at h
      obtain ⟨rfl, h1, h2, h3⟩ := h
      refine ⟨rfl, fun X W g => ?_⟩
      cases tg <;> first | (cases h2; done) | skip
      exact i_enum (g.gl h1) (g.blt _ (mem_blt (by decide +kernel))) ((hr cv a x h3).2 X W g).pe (ok_star (hr cv a x h3).1)
    · cases h
  · rename_i x
    exact ⟨(hr cv e x h).1, fun X W g => i_keys ((hr cv e x h).2 X W g).pe⟩
  · rename_i x
    split at h
    · rename_i a f apos cpos
      simp only [Bool.and_eq_true, beq_iff_eq] at h
      obtain ⟨h1, h2, rfl, h3, h4⟩ := h
      obtain ⟨oa, sa⟩ := hr cv a x h4
      refine ⟨rfl, fun X W g => ?_⟩
      cases tg <;> first | (cases h3; done) | skip
      exact i_items (sa X W g).pe (ok_base oa h1) (by rw [h2]; exact beq_self_eq_true _)
    · cases h
  · rename_i x
    split at h
    · rename_i a f apos cpos
      simp only [Bool.and_eq_true, beq_iff_eq] at h
      obtain ⟨h1, h2, rfl, h4⟩ := h
      obtain ⟨oa, sa⟩ := hr cv a x h4
      refine ⟨rfl, fun X W g => ?_⟩
      exact i_vals (sa X W g).pe (ok_base oa h1) (by rw [h2]; exact beq_self_eq_true _)
    · cases h
  · rename_i m' n1 n2 n0 n3 n4
    refine ⟨(hr cv e _ h).1, fun X W g => ?_⟩
    refine PI.mono (i_val ((hr cv e _ h).2 X W g).pe) fun σ H Q ⟨ρ, env, st, er, sr, p⟩ => ⟨ρ, env, st, er, sr, ?_⟩
    unfold evI at p
    split at p
    · exact absurd rfl (n1 _ _)
    · exact absurd rfl (n2 _)
    · exact absurd rfl (n0 _)
    · exact absurd rfl (n3 _)
    · exact absurd rfl (n4 _)
    · exact p
theorem tests_ok (hr : HR l Φ cs rec re) {es : List Expr} {ms : List E} (h : chkTests (rec cv) es ms = true) (g : Good X W l cv Φ cs) : PTs X es (tB' X.K W (tests re ms)) := by
  unfold chkTests at h
  split at h
  · exact b_nil
  · exact b_one ((hr cv _ _ h).2 X W g).pt
  · cases h
mutual
theorem t_ok (g : Good X W l cv Φ cs) : ∀ {e : Expr} {t : T}, chkT cv e t = true → PG X e (tG X.K t)
  | .Name x pos, .name i, h => by
    simp only [chkT, Bool.and_eq_true, Bool.or_eq_true, beq_iff_eq] at h
    obtain ⟨h1, h2, h3⟩ := h
    refine g_name g.nd (by rw [g.N]; exact h1) (by rw [g.sc]; exact locl_ok h2) ?_
    rcases h3 with h3 | h3
    · exact .inl (g.fn x h3)
    · exact .inr (by rw [g.sc]; exact isLocal_ok h3)
  | .Tuple es k pos, .tup ts, h => by
    have h : chkTs cv es ts = true := by simpa only [chkT] using h
    obtain ⟨a, b, c, d⟩ := ts_ok g h
    exact g_tup g.calm a b c d
  | .Name .., .tup _, h => by simp [chkT] at h
  | .Tuple .., .name _, h => by simp [chkT] at h
  | .BoolOp .., _, h => by simp [chkT] at h
  | .NamedExpr .., _, h => by simp [chkT] at h
  | .BinOp .., _, h => by simp [chkT] at h
  | .UnaryOp .., _, h => by simp [chkT] at h
  | .Lambda .., _, h => by simp [chkT] at h
  | .IfExp .., _, h => by simp [chkT] at h
  | .Dict .., _, h => by simp [chkT] at h
  | .Set .., _, h => by simp [chkT] at h
  | .ListComp .., _, h => by simp [chkT] at h
  | .SetComp .., _, h => by simp [chkT] at h
  | .DictComp .., _, h => by simp [chkT] at h
  | .GeneratorExp .., _, h => by simp [chkT] at h
  | .Await .., _, h => by simp [chkT] at h
  | .Yield .., _, h => by simp [chkT] at h
  | .YieldFrom .., _, h => by simp [chkT] at h
  | .Compare .., _, h => by simp [chkT] at h
  | .Call .., _, h => by simp [chkT] at h
  | .FormattedValue .., _, h => by simp [chkT] at h
  | .JoinedStr .., _, h => by simp [chkT] at h
  | .Constant .., _, h => by simp [chkT] at h
  | .Attribute .., _, h => by simp [chkT] at h
  | .Subscript .., _, h => by simp [chkT] at h
  | .Starred .., _, h => by simp [chkT] at h
  | .List .., _, h => by simp [chkT] at h
  | .Slice .., _, h => by simp [chkT] at h
theorem ts_ok (g : Good X W l cv Φ cs) : ∀ {es : List Expr} {ts : List T}, chkTs cv es ts = true → PGs X es (tGs X.K ts) ∧ es.length = ts.length ∧ (assignEach es X.env).length = es.length ∧ (assignEach es X.env).findIdx? (·.1) = none
  | [], [], _ => ⟨g_nil, rfl, rfl, rfl⟩
  | [], _ :: _, h => by simp [chkTs] at h
  | _ :: _, [], h => by simp [chkTs] at h
  | e :: es, t :: ts, h => by
    simp only [chkTs, Bool.and_eq_true] at h
    obtain ⟨a, b, c, d⟩ := ts_ok g h.2
    have q : assignEach (e :: es) X.env = (false, assign e X.env) :: assignEach es X.env := by
      cases e <;> first | rfl | (simp [chkT] at h; done)
    refine ⟨g_cons (t_ok g h.1) a (by rw [q]; rfl), by simp [b], by rw [q]; simp [c], ?_⟩
    rw [q, List.findIdx?_cons, d]
    rfl
end
/-! ### comprehensions -/
theorem all_mem {l m : List Nat} (h : (l.all fun i => m.contains i) = true) : ∀ i ∈ l, i ∈ m := fun i hi => List.contains_iff_mem.mp (List.all_eq_true.mp h i hi)
abbrev ownOf (cv : Cv) (own : List Nat) : List (Str × Nat) := own.map fun i => (cv.N.getD i "", i)
theorem ownOf_snd {own : List Nat} : (ownOf cv own).map (·.2) = own := by
  unfold ownOf
  rw [List.map_map]
  exact List.map_id' own
theorem blk_ok' {scope : Scope} {own : List Nat} (h : blkOk cv scope own = true) (gN : X.N = cv.N) (gsc : X.env.scope = cv.scope) : BlkOk X.N X.env.scope scope (ownOf cv own) := by
  unfold blkOk at h
  simp only [Bool.and_eq_true, beq_iff_eq] at h
  obtain ⟨h1, h2, h3, h4, h5⟩ := h
  rw [gsc, gN]
  refine ⟨h1, fun y hy => eq_of_beq (List.all_eq_true.mp h2 y hy), fun p hp => ?_, fun y hy hf => ?_, fun y hy hf => ?_⟩
  · obtain ⟨i, hi, rfl⟩ := List.mem_map.mp hp
    have := List.all_eq_true.mp h3 i hi
    cases q : cv.N[i]? with
    | none => rw [q] at this; cases this
    | some x => simp [List.getD, q]
  · have := List.all_eq_true.mp h4 y hy
    simp only [hf, beq_self_eq_true, Bool.not_true, Bool.false_or, Bool.or_eq_true, beq_iff_eq] at this
    exact this
  · have := List.all_eq_true.mp h5 y hy
    have hk : (y.2 == .local || y.2 == .cell) = true := by
      rcases hf with q | q <;> simp [q]
    simp only [hk, Bool.not_true, Bool.false_or, Bool.or_eq_true, Bool.not_eq_true', List.contains_iff_mem] at this
    rcases this with q | q
    · left
      unfold ownOf
      rw [List.map_map]
      exact q
    · right
      intro hm
      rw [List.contains_iff_mem.mpr hm] at q
      cases q
theorem blk_ok {scope : Scope} {own : List Nat} (h : blkOk cv scope own = true) (g : Good X W l cv Φ cs) : BlkOk X.N X.env.scope scope (ownOf cv own) := blk_ok' h g.N g.sc
theorem takes0N {X : Cx} : L2N.Takes X (fun _ _ _ _ => False) := fun _ _ ⟨_, _, _, _, _, _, _, _, _, _, _, _, _, _, _, _, w⟩ => w.elim
theorem takesF {X : Cx} {mg : Str → Option Value} : L2N.Takes X (wxOf mg W0) := takes0N.imp fun _ _ _ _ ⟨_, _, _, _, _, h⟩ => h
theorem Good.blk (g : Good X W l cv Φ cs) (scope : Scope) (s : Shared) (H : Hp) (C : Addr) (cl : List (Str × Addr)) (fp : List Addr) : Good (X.blk s H scope (compEnvC scope cl C X.env) fp) W0 l (cv.blk scope) Φ cs where
  calm := g.calm
  nd := g.nd
  N := g.N
  sc := by
    show relS scope X.env.scope = relS scope cv.scope
    rw [g.sc]
  room := g.room
  fn := fun x h => by
    show (scope.names.lookup x == some .cell) = true
    unfold Cv.fnc at h
    dsimp only at h
    split at h
    · rename_i q; rw [q]; rfl
    · cases h
  blt := g.blt
  cons := g.cons
  fns := g.fns
  exc := fun x hx => by
    obtain ⟨C, B, n1, n2, bm, a, b, c, d, e⟩ := (g.exc x hx).ex
    exact ⟨C, B, n1, n2, bm, a, b, c, d, e⟩
  po := PassesOwn.never
  tk := takesF
  fnc := g.fnc
  lam := fun h => ⟨(g.lam h).room, (g.lam h).tab⟩
  wd := g.wd
/-- the context of a lambda's body -/
theorem Good.lm (g : Good X W l cv Φ cs) {scope : Scope} {A : Around} {outer : List PySem.Env} {s : Shared} {H : Hp} {E : XK} {f c' : Addr} (hr : Room l (A.deeper (LamX.lamEnv X scope s.heap.objs.size f c'))) : Good (lamN X A outer s H E scope f c') (wLam X.mg E) l (cv.lam scope) Φ cs where
  calm := rfl
  nd := g.nd
  N := g.N
  sc := rfl
  room := hr
  fn := fun x h => by
    unfold Cv.fnc at h
    simp [noScope] at h
  blt := g.blt
  cons := g.cons
  fns := g.fns
  exc := fun x hx => by
    obtain ⟨C, B, n1, n2, bm, a, b, c, d, e⟩ := (g.exc x hx).ex
    exact ⟨C, B, n1, n2, bm, a, b, c, d, e⟩
  po := passes_of rfl
  tk := lamN_takes.imp fun cls d σ H ⟨x, C, h1, h2, h3, h4⟩ => by
    subst h1; subst h2
    exact h4 C h3
  fnc := g.fnc
  lam := fun h => by cases h
  wd := g.wd
theorem noParams_ok {params : Arguments} (h : noParams params = true) : noParams' params := by
  unfold noParams at h
  split at h
  · exact ⟨fun env => rfl, fun q body scope cl pm cv ctv => rfl⟩
  · cases h
theorem c_callv (hr : HR l Φ cs rec re) {e : Expr} {i : Nat} {ms : List E} (h : chkStep cv rec e (.callv i ms) = true) : Cl l Φ cs cv e (evStep Φ cs re (.callv i ms)) := by
  dsimp only [chkStep] at h
  split at h
  · rename_i x es hce
    simp only [Bool.and_eq_true, beq_iff_eq] at h
    obtain ⟨h1, h2, h3, h4, h5⟩ := h
    unfold callOf at hce
    split at hce
    · rename_i g p args q
      cases hce
      cases es with
      | nil => cases h4
      | cons a as =>
        obtain ⟨oa, hl, pl⟩ := all_ok' hr h5
        refine ⟨rfl, fun X W g => ?_⟩
        have pe : Pe X W (.Call (.Name x p) (a :: as) [] q) (evStep Φ cs re (.callv i ms)) := x_callv (k := l) (fun y z hz => by
            obtain ⟨ar, h1, h2, h3⟩ := g.fnc y z hz
            obtain ⟨f, fd, ps, F, hm, hk, hb⟩ := g.fns y ar h1
            rw [hm] at h2; cases h2
            exact ⟨ar, _, fd, ps, rfl, h3, F, hk, hb⟩) g.room g.tk (by rw [g.N]; exact h1) (by rw [g.sc]; exact vis_ok h2) (plain_ok h3).1 (plain_ok h3).2.1 (pl X W g) (ok_star (oa a List.mem_cons_self)) (ok_back fun e he => oa e (List.mem_cons_of_mem _ he))
        exact .of rfl pe (t_val pe fun _ => rfl)
    · cases hce
  · cases h
theorem c_lam (hr : HR l Φ cs rec re) {e : Expr} {f : Str} {b : E} (h : chkStep cv rec e (.lam f b) = true) : Cl l Φ cs cv e (evStep Φ cs re (.lam f b)) := by
  dsimp only [chkStep] at h
  split at h
  · rename_i g p params body scope lp q
    simp only [Bool.and_eq_true, beq_iff_eq] at h
    obtain ⟨rfl, h1, h2, h3, h4, h5, h6, h7⟩ := h
    refine ⟨rfl, fun X W gd => ?_⟩
    have pe : Pe X W (.Call (.Name g p) [.Lambda params body scope lp] [] q) (evStep Φ cs re (.lam g b)) := x_lam (gd.gl h1) (plain_ok h2).1 (gd.wd g (List.contains_iff_mem.mp h4)) (gd.lam h3) (by rw [gd.sc]; exact LamX.lamS_by h6) (noParams_ok h5)
      (fun A outer s H E f c' hr' => ((hr _ body b h7).2 _ _ (gd.lm hr')).pe)
    exact .of rfl pe (t_val pe fun _ => rfl)
  · cases h
theorem sd_comp {elt : Expr} {gs : List Comprehension} {sc : Scope} {pos : Pos} {f : Fe} (h : Pe X W (.ListComp elt gs sc pos) f ∧ ∀ (i : Nat) (y : Str) (py spos : Pos), X.N[i]? = some y → X.env.scope.names.lookup y = some .local → swapsWith (.ListComp elt gs sc pos) (some (.Name y py)) spos.line X.env = pure true →
      PS X (.Assign [.Name y py] (.ListComp elt gs sc pos) spos) (tAsg (tE X.K W f) (gName i))) : Sd X W (.ListComp elt gs sc pos) f :=
  ⟨h.1, t_val h.1 (fun _ => rfl), fun op vs p he => (by cases he), fun _ => h.2⟩
theorem sd_compD {kx vx : Expr} {gs : List Comprehension} {sc : Scope} {pos : Pos} {f : Fe} (h : Pe X W (.DictComp kx vx gs sc pos) f ∧ ∀ (i : Nat) (y : Str) (py spos : Pos), X.N[i]? = some y → X.env.scope.names.lookup y = some .local → swapsWith (.DictComp kx vx gs sc pos) (some (.Name y py)) spos.line X.env = pure true →
      PS X (.Assign [.Name y py] (.DictComp kx vx gs sc pos) spos) (tAsg (tE X.K W f) (gName i))) : Sd X W (.DictComp kx vx gs sc pos) f :=
  ⟨h.1, t_val h.1 (fun _ => rfl), fun op vs p he => (by cases he), fun _ => h.2⟩
theorem c_dc (hr : HR l Φ cs rec re) {b : Bool} {mk mv : E} {gs : List G} {own : List Nat} {e : Expr} (h : chkStep cv rec e (.dc b mk mv gs own) = true) : Cl l Φ cs cv e (evStep Φ cs re (.dc b mk mv gs own)) := by
  dsimp only [chkStep] at h
  unfold chkDc at h
  split at h
  · rename_i kx vx cmps scope pos
    split at h
    · rename_i tg it ifs k t mi mifs
      simp only [Bool.and_eq_true, beq_iff_eq] at h
      obtain ⟨rfl, h1, h2, h3, h4, h5, h6, h7⟩ := h
      obtain ⟨oi, hi⟩ := i_ok hr h2
      refine ⟨rfl, fun X W g => ?_⟩
      have hu9 : X.A.units + 9 < cLine := by have := g.hu; omega
      have q := x_dc1 b (W := W) (pos := pos) (kx := kx) (vx := vx) (fk := re mk) (fv := re mv) (ft := tests re mifs) (t := t) (ifs := ifs) (own := ownOf cv own) g.calm hu9 g.nd (hi X W g) (blk_ok h1 g)
        (by rw [ownOf_snd]; exact all_mem h7)
        (fun s H C cl fp => t_ok (g.blk scope s H C cl fp) h3) (fun s H C cl fp => tests_ok hr h4 (g.blk scope s H C cl fp)) (fun s H C cl fp => ((hr _ kx mk h5).2 _ _ (g.blk scope s H C cl fp)).pe) (fun s H C cl fp => ((hr _ vx mv h6).2 _ _ (g.blk scope s H C cl fp)).pe) (ok_fold oi)
      rw [ownOf_snd] at q
      exact sd_compD q
    · rename_i tg it ifs k tg1 it1 ifs1 k1 t mi mifs t1 mi1 mifs1
      simp only [Bool.and_eq_true, beq_iff_eq] at h
      obtain ⟨rfl, rfl, h1, h2, h3, h4, h5, h6, h7, h8, h9, h10, h11⟩ := h
      obtain ⟨oi, hi⟩ := i_ok hr h2
      obtain ⟨oi1, hi1⟩ := i_ok hr h5
      refine ⟨rfl, fun X W g => ?_⟩
      have hu9 : X.A.units + 9 < cLine := by have := g.hu; omega
      have q := x_dc2 b (W := W) (pos := pos) (kx := kx) (vx := vx) (fk := re mk) (fv := re mv) (ft := tests re mifs) (ft1 := tests re mifs1) (t := t) (t1 := t1) (ifs := ifs) (ifs1 := ifs1) (own := ownOf cv own) (vs1 := slots t1) g.calm hu9 g.nd (hi X W g) (blk_ok h1 g)
        (by rw [ownOf_snd]; exact all_mem h10) (fun i hi => hi) (by rw [ownOf_snd]; exact all_mem h11)
        (fun s H C cl fp => t_ok (g.blk scope s H C cl fp) h3) (fun s H C cl fp => tests_ok hr h4 (g.blk scope s H C cl fp)) (fun s H C cl fp => hi1 _ _ (g.blk scope s H C cl fp)) (fun s H C cl fp => t_ok (g.blk scope s H C cl fp) h6)
        (fun s H C cl fp => tests_ok hr h7 (g.blk scope s H C cl fp)) (fun s H C cl fp => ((hr _ kx mk h8).2 _ _ (g.blk scope s H C cl fp)).pe) (fun s H C cl fp => ((hr _ vx mv h9).2 _ _ (g.blk scope s H C cl fp)).pe) (ok_fold oi) (fun env => ok_fold oi1)
      rw [ownOf_snd] at q
      exact sd_compD q
    · cases h
  · cases h
theorem c_slc (hr : HR l Φ cs rec re) {x : E} {lo hi : Option E} {e : Expr} (h : chkStep cv rec e (.slc x lo hi) = true) : Cl l Φ cs cv e (evStep Φ cs re (.slc x lo hi)) := by
  dsimp only [chkStep] at h
  split at h
  · rename_i a l h' q pos
    simp only [Bool.and_eq_true] at h
    refine ⟨rfl, fun X W g => ?_⟩
    have pe : Pe X W (.Subscript a (.Slice l h' none q) pos) (evStep Φ cs re (.slc x lo hi)) := x_slc ((hr cv a x h.1).2 X W g).pe (opt_ok hr h.2.1 g) (opt_ok hr h.2.2 g)
    exact .of rfl pe (t_val pe fun _ => rfl)
  · cases h
theorem c_dnew {b : Bool} {e : Expr} (h : chkStep cv rec e (.dnew b) = true) : Cl l Φ cs cv e (evStep Φ cs re (.dnew b)) := by
  dsimp only [chkStep] at h
  split at h
  · rename_i pos
    refine ⟨rfl, fun X W g => ?_⟩
    have pe : Pe X W (.Dict [] [] pos) (evStep Φ cs re (.dnew b)) := x_dnew b
    exact .of rfl pe (t_val pe fun _ => rfl)
  · cases h
theorem c_dic1 (hr : HR l Φ cs rec re) {b : Bool} {x y : E} {e : Expr} (h : chkStep cv rec e (.dic1 b x y) = true) : Cl l Φ cs cv e (evStep Φ cs re (.dic1 b x y)) := by
  dsimp only [chkStep] at h
  split at h
  · rename_i k v pos
    simp only [Bool.and_eq_true] at h
    refine ⟨rfl, fun X W g => ?_⟩
    have pe : Pe X W (.Dict [some k] [v] pos) (evStep Φ cs re (.dic1 b x y)) := x_dic1 b (by have := g.hu; omega) ((hr cv k x h.1).2 X W g).pe ((hr cv v y h.2).2 X W g).pe
    exact .of rfl pe (t_val pe fun _ => rfl)
  · cases h
theorem ok_few2 {a b : Expr} {env : PySem.Env} {cpos : Pos} (h : okE a = true) (h2 : okE b = true) : ((backTo cpos (starEach [a, b] env)).all (fun x => !x.1) && (backToKw cpos (keywordEach [] env)).all (fun x => x.1.isSome)
      && decide (([a, b] : List Expr).length + ([] : List Keyword).length + (if ([] : List Keyword).isEmpty then 0 else 1) < 30)) = true := by
  rw [ok_star h, ok_star h2]
  rfl
theorem c_dget (hr : HR l Φ cs rec re) {o k : E} {x : Option E} {e : Expr} (h : chkStep cv rec e (.dget o k x) = true) : Cl l Φ cs cv e (evStep Φ cs re (.dget o k x)) := by
  dsimp only [chkStep] at h
  unfold chkGet at h
  split at h
  · rename_i a f apos args cpos
    simp only [Bool.and_eq_true, beq_iff_eq] at h
    obtain ⟨h1, h2, rfl, h3, h⟩ := h
    have hline : (apos.endLine == cpos.line) = true := by rw [h2]; exact beq_self_eq_true _
    refine ⟨rfl, fun X W g => ?_⟩
    obtain ⟨oa, sa⟩ := hr cv a o h3
    split at h
    · rename_i b
      obtain ⟨ob, sb⟩ := hr cv b k h
      have pe : Pe X W (.Call (.Attribute a "get" apos) [b] [] cpos) (evStep Φ cs re (.dget o k none)) :=
        x_dget1 g.hu (sa X W g).pe (sb X W g).pe ⟨ok_base oa h1, ok_few ob, hline, by rw [ok_star ob]; rfl⟩
      exact .of rfl pe (t_val pe fun _ => rfl)
    · rename_i b c x
      simp only [Bool.and_eq_true] at h
      obtain ⟨ob, sb⟩ := hr cv b k h.1
      obtain ⟨oc, sc⟩ := hr cv c x h.2
      have pe : Pe X W (.Call (.Attribute a "get" apos) [b, c] [] cpos) (evStep Φ cs re (.dget o k (some x))) :=
        x_dget2 g.hu (sa X W g).pe (sb X W g).pe (sc X W g).pe ⟨ok_base oa h1, ok_few2 ob oc, hline, by rw [ok_star ob, ok_star oc]; rfl⟩
      exact .of rfl pe (t_val pe fun _ => rfl)
    · cases h
  · cases h
theorem c_index (hr : HR l Φ cs rec re) {o x : E} {e : Expr} (h : chkStep cv rec e (.index o x) = true) : Cl l Φ cs cv e (evStep Φ cs re (.index o x)) := by
  dsimp only [chkStep] at h
  unfold chkIndex at h
  split at h
  · rename_i a f apos b cpos
    simp only [Bool.and_eq_true, beq_iff_eq] at h
    obtain ⟨h1, h2, rfl, h3, h4⟩ := h
    have hline : (apos.endLine == cpos.line) = true := by rw [h2]; exact beq_self_eq_true _
    refine ⟨rfl, fun X W g => ?_⟩
    obtain ⟨oa, sa⟩ := hr cv a o h3
    obtain ⟨ob, sb⟩ := hr cv b x h4
    have pe : Pe X W (.Call (.Attribute a "index" apos) [b] [] cpos) (evStep Φ cs re (.index o x)) :=
      x_index g.hu (sa X W g).pe (sb X W g).pe ⟨ok_base oa h1, ok_few ob, hline, by rw [ok_star ob]; rfl⟩
    exact .of rfl pe (t_val pe fun _ => rfl)
  · cases h
theorem c_seal (hr : HR l Φ cs rec re) {x : E} {e : Expr} (h : chkStep cv rec e (.froze x) = true) : Cl l Φ cs cv e (evStep Φ cs re (.froze x)) := by
  dsimp only [chkStep] at h
  split at h
  · rename_i y p
    obtain ⟨oe, se⟩ := hr cv _ x h
    refine ⟨rfl, fun X W g => ?_⟩
    have pe : Pe X W (.Name y p) (evStep Φ cs re (.froze x)) := x_seal (se X W g).pe
    exact .of rfl pe (t_val pe fun _ => rfl)
  · cases h
theorem c_lc (hr : HR l Φ cs rec re) {me : E} {gs : List G} {own : List Nat} {e : Expr} (h : chkStep cv rec e (.lc me gs own) = true) : Cl l Φ cs cv e (evStep Φ cs re (.lc me gs own)) := by
  dsimp only [chkStep] at h
  unfold chkLc at h
  split at h
  · rename_i elt cmps scope pos
    split at h
    · rename_i tg it ifs k t mi mifs
      simp only [Bool.and_eq_true, beq_iff_eq] at h
      obtain ⟨rfl, h1, h2, h3, h4, h5, h6⟩ := h
      obtain ⟨oi, hi⟩ := i_ok hr h2
      refine ⟨rfl, fun X W g => ?_⟩
      have q := x_lc (W := W) (pos := pos) (fe := re me) (ft := tests re mifs) (t := t) (elt := elt) (ifs := ifs) (own := ownOf cv own) g.calm g.nd (hi X W g) (blk_ok h1 g)
        (fun s H C cl fp => t_ok (g.blk scope s H C cl fp) h3) (fun s H C cl fp => tests_ok hr h4 (g.blk scope s H C cl fp)) (fun s H C cl fp => ((hr _ elt me h5).2 _ _ (g.blk scope s H C cl fp)).pe) (ok_fold oi)
        (by rw [ownOf_snd]; exact all_mem h6)
      rw [ownOf_snd] at q
      exact sd_comp q
    · rename_i tg it ifs k tg1 it1 ifs1 k1 t mi mifs t1 mi1 mifs1
      simp only [Bool.and_eq_true, beq_iff_eq] at h
      obtain ⟨rfl, rfl, h1, h2, h3, h4, h5, h6, h7, h8, h9, h10⟩ := h
      obtain ⟨oi, hi⟩ := i_ok hr h2
      obtain ⟨oi1, hi1⟩ := i_ok hr h5
      refine ⟨rfl, fun X W g => ?_⟩
      have q := x_lc2 (W := W) (pos := pos) (fe := re me) (ft := tests re mifs) (ft1 := tests re mifs1) (t := t) (t1 := t1) (elt := elt) (ifs := ifs) (ifs1 := ifs1) (own := ownOf cv own) (vs1 := slots t1) g.calm g.nd (hi X W g) (blk_ok h1 g)
        (by rw [ownOf_snd]; exact all_mem h10)
        (fun s H C cl fp => t_ok (g.blk scope s H C cl fp) h3) (fun s H C cl fp => tests_ok hr h4 (g.blk scope s H C cl fp)) (fun s H C cl fp => hi1 _ _ (g.blk scope s H C cl fp)) (fun s H C cl fp => t_ok (g.blk scope s H C cl fp) h6)
        (fun s H C cl fp => tests_ok hr h7 (g.blk scope s H C cl fp)) (fun s H C cl fp => ((hr _ elt me h8).2 _ _ (g.blk scope s H C cl fp)).pe) (ok_fold oi) (fun env => ok_fold oi1)
        (by rw [ownOf_snd]; exact all_mem h9) (fun i hi => hi)
      rw [ownOf_snd] at q
      exact sd_comp q
    · rename_i tg it ifs k tg1 it1 ifs1 k1 tg2 it2 ifs2 k2 t mi mifs t1 mi1 mifs1 t2 mi2 mifs2
      simp only [Bool.and_eq_true, beq_iff_eq] at h
      obtain ⟨rfl, rfl, rfl, h1, h2, h3, h4, h5, h6, h7, h8, h9, h10, h11, h12, h13, h14⟩ := h
      obtain ⟨oi, hi⟩ := i_ok hr h2
      obtain ⟨oi1, hi1⟩ := i_ok hr h5
      obtain ⟨oi2, hi2⟩ := i_ok hr h8
      refine ⟨rfl, fun X W g => ?_⟩
      have q := x_lc3 (W := W) (pos := pos) (fe := re me) (ft := tests re mifs) (ft1 := tests re mifs1) (ft2 := tests re mifs2) (t := t) (t1 := t1) (t2 := t2) (elt := elt) (ifs := ifs) (ifs1 := ifs1) (ifs2 := ifs2) (own := ownOf cv own) (vs1 := slots t1 ++ slots t2) (vs2 := slots t2) false g.calm g.nd (hi X W g) (blk_ok h1 g)
        (by rw [ownOf_snd]; exact all_mem h12) (fun i hi => List.mem_append_left _ hi) (fun i hi => hi) (by
          rw [ownOf_snd]
          intro i hi
          rcases List.mem_append.mp hi with z | z
          · exact all_mem h13 i z
          · exact all_mem h14 i z) (fun i hi => List.mem_append_right _ hi)
        (fun s H C cl fp => t_ok (g.blk scope s H C cl fp) h3) (fun s H C cl fp => tests_ok hr h4 (g.blk scope s H C cl fp)) (fun s H C cl fp => hi1 _ _ (g.blk scope s H C cl fp)) (fun s H C cl fp => t_ok (g.blk scope s H C cl fp) h6)
        (fun s H C cl fp => tests_ok hr h7 (g.blk scope s H C cl fp)) (fun s H C cl fp => hi2 _ _ (g.blk scope s H C cl fp)) (fun s H C cl fp => t_ok (g.blk scope s H C cl fp) h9) (fun s H C cl fp => tests_ok hr h10 (g.blk scope s H C cl fp))
        (fun s H C cl fp => ((hr _ elt me h11).2 _ _ (g.blk scope s H C cl fp)).pe) (ok_fold oi) (fun env => ok_fold oi1) (fun env => ok_fold oi2)
      rw [ownOf_snd] at q
      exact sd_comp q
    · cases h
  · cases h
theorem c_lcc (hr : HR l Φ cs rec re) {me : E} {gs : List G} {own : List Nat} {e : Expr} (h : chkStep cv rec e (.lcc me gs own) = true) : Cl l Φ cs cv e (evStep Φ cs re (.lcc me gs own)) := by
  dsimp only [chkStep] at h
  simp only [Bool.and_eq_true, beq_iff_eq] at h
  obtain ⟨h0, h⟩ := h
  unfold chkLc at h
  split at h
  · rename_i elt cmps scope pos
    split at h
    · rename_i tg it ifs k t mi mifs
      simp only [Bool.and_eq_true, beq_iff_eq] at h
      obtain ⟨rfl, h1, h2, h3, h4, h5, h6⟩ := h
      obtain ⟨oi, hi⟩ := i_ok hr h2
      refine ⟨rfl, fun X W g => ?_⟩
      have q := x_lcG true (W := W) (pos := pos) (fe := re me) (ft := tests re mifs) (t := t) (elt := elt) (ifs := ifs) (own := ownOf cv own) g.calm g.nd (hi X W g) (blk_ok h1 g)
        (fun s H C cl fp => t_ok (g.blk scope s H C cl fp) h3) (fun s H C cl fp => tests_ok hr h4 (g.blk scope s H C cl fp)) (fun s H C cl fp => ((hr _ elt me h5).2 _ _ (g.blk scope s H C cl fp)).pe) (ok_fold oi)
        (by rw [ownOf_snd]; exact all_mem h6)
      rw [ownOf_snd] at q
      exact sd_comp q
    · simp at h0
    · simp at h0
    · cases h
  · cases h
theorem c_addc (hr : HR l Φ cs rec re) {x y : E} {e : Expr} (h : chkStep cv rec e (.addc x y) = true) : Cl l Φ cs cv e (evStep Φ cs re (.addc x y)) := by
  dsimp only [chkStep] at h
  split at h
  · rename_i a op b pos
    simp only [Bool.and_eq_true, beq_iff_eq] at h
    obtain ⟨rfl, h2, h3⟩ := h
    refine ⟨rfl, fun X W g => ?_⟩
    have pe : Pe X W (.BinOp a .Add b pos) (evStep Φ cs re (.addc x y)) := x_addc ((hr cv a x h2).2 X W g).pe ((hr cv b y h3).2 X W g).pe
    exact .of rfl pe (t_val pe fun _ => rfl)
  · cases h
theorem c_lcw (hr : HR l Φ cs rec re) {mm me : E} {t : T} {mifs : List E} {own : List Nat} {e : Expr} (h : chkStep cv rec e (.lcw mm me t mifs own) = true) : Cl l Φ cs cv e (evStep Φ cs re (.lcw mm me t mifs own)) := by
  dsimp only [chkStep] at h
  split at h
  · rename_i elt tg it ifs k scope pos
    simp only [Bool.and_eq_true, beq_iff_eq] at h
    obtain ⟨rfl, h1, h2, h3, h4, h5, h6⟩ := h
    obtain ⟨oi, hi⟩ := hr cv it mm h2
    refine ⟨rfl, fun X W g => ?_⟩
    have q := x_lcw (W := W) (pos := pos) (fe := re me) (ft := tests re mifs) (t := t) (elt := elt) (ifs := ifs) (own := ownOf cv own) g.calm g.nd (hi X W g).pe (blk_ok h1 g)
      (fun s H C cl fp => t_ok (g.blk scope s H C cl fp) h3) (fun s H C cl fp => tests_ok hr h4 (g.blk scope s H C cl fp)) (fun s H C cl fp => ((hr _ elt me h5).2 _ _ (g.blk scope s H C cl fp)).pe) (ok_fold oi)
      (by rw [ownOf_snd]; exact all_mem h6)
    rw [ownOf_snd] at q
    exact sd_comp q
  · cases h
/-! ### all together -/
theorem step_ok (hr : HR l Φ cs rec re) {m : E} {e : Expr} (h : chkStep cv rec e m = true) : Cl l Φ cs cv e (evStep Φ cs re m) := by
  cases m with
  | bad => exact ⟨h, fun X W g => .bad fun _ _ => rfl⟩
  | con d => exact c_con h
  | var i => exact c_var h
  | glob y => exact c_glob h
  | tup ms => exact c_tup hr h
  | lst ms => exact c_lst hr h
  | cel ms => exact c_cel hr h
  | bin op x y => exact c_bin hr h
  | neg x => exact c_neg hr h
  | not x => exact c_not hr h
  | and x y => exact c_and hr h
  | or x y => exact c_or hr h
  | cmp op x y => exact c_cmp hr h
  | cmp2 op op2 x y z => exact c_cmp2 hr h
  | ite x y z => exact c_ite hr h
  | call f ms => exact c_call hr h
  | blt bf ms =>
    by_cases hb : bf = .sortedSet ∧ ∃ x, ms = [x]
    · obtain ⟨rfl, x, rfl⟩ := hb
      exact c_ss hr h
    · refine c_blt hr ?_
      unfold chkStep at h
      split at h <;> rename_i heq <;> try (cases heq; done)
      · cases heq
        exact absurd ⟨rfl, _, rfl⟩ hb
      · cases heq; exact h
  | isin x T => exact c_isin hr h
  | ix x y => exact c_ix hr h
  | sl x lo hi => exact c_sl hr h
  | rev x => exact c_rev hr h
  | lc me gs own => exact c_lc hr h
  | meth m x ms => exact c_meth hr h
  | callv i ms => exact c_callv hr h
  | lam f b => exact c_lam hr h
  | isE c => cases h
  | lcc me gs own => exact c_lcc hr h
  | addc x y => exact c_addc hr h
  | lcw mm me t mifs own => exact c_lcw hr h
  | slc x lo hi => exact c_slc hr h
  | dnew b => exact c_dnew h
  | dic1 b x y => exact c_dic1 hr h
  | dget o k x => exact c_dget hr h
  | dc b mk mv gs own => exact c_dc hr h
  | froze x => exact c_seal hr h
  | index o x => exact c_index hr h
  | dzip a b => cases h
  | dof a => cases h
  | keys a => cases h
  | items a => cases h
  | vals a => cases h
  | sitems a => cases h
  | lvals a => cases h
theorem step_oke {m : E} {e : Expr} (hr : HR l Φ cs rec re) (h : chkStep cv rec e m = true) : okE e = true := (step_ok hr h).1
theorem ev_zero (Φ : Fns) (cs : Consts) (m : E) : ∀ env st, ev Φ cs 0 m env st = .bad := fun _ _ => rfl
theorem chk_ok (l : Nat) (Φ : Fns) (cs : Consts) : ∀ n k, HR l Φ cs (chk n) (ev Φ cs k)
  | 0, k => fun cv e m h => by cases h
  | n + 1, 0 => fun cv e m h => ⟨(step_ok (chk_ok l Φ cs n 0) h).1, fun X W g => .bad (ev_zero Φ cs m)⟩
  | n + 1, k + 1 => fun cv e m h => step_ok (chk_ok l Φ cs n k) h
end Ev

set_option Elab.async false
set_option linter.all false
set_option maxRecDepth 100000
set_option maxHeartbeats 1000000
namespace Ev
open PySem PySem.Spec PyProof.Rows L2
variable [TabsOf]
variable {X : Cx} {W : XW} {l : Nat} {cv : Cv} {Φ : Fns} {cs : Consts} {ce : Rc} {re : Ex}
/-! ### the checker is sound: statements -/
def HS (l : Nat) (Φ : Fns) (cs : Consts) (cv : Cv) (rec : Stmt → S → Bool) (rs : Sx) : Prop := ∀ s m, rec s m = true → ∀ X W, Good X W l cv Φ cs → Ps X W s (rs m)
theorem b_ok {rec : Stmt → S → Bool} {rs : Sx} (hs : HS l Φ cs cv rec rs) (g : Good X W l cv Φ cs) : ∀ {ss : List Stmt} {ms : List S}, chkB rec ss ms = true → Pss X W ss (exs rs ms)
  | [], [], _ => ss_nil
  | [], _ :: _, h => by cases h
  | _ :: _, [], h => by cases h
  | s :: ss, m :: ms, h => by
    unfold chkB at h
    simp only [Bool.and_eq_true] at h
    have h1 := hs s m h.1 X W g
    have h2 := b_ok hs g h.2
    exact ss_cons h1 h2
theorem swap_name {x : Str} {px : Pos} {e : Expr} {n : Nat} {env : PySem.Env} (h : okE e = true) : (isComp e = true ∧ swapsWith e (some (.Name x px)) n env = pure true) ∨ swapsWith e (some (.Name x px)) n env = pure false := by
  cases e <;> first | (exact .inr rfl) | (cases h; done) | skip
  · rename_i elt gs sc p
    obtain ⟨b, hb⟩ : ∃ b, swapsWith (.ListComp elt gs sc p) (some (.Name x px)) n env = pure b := ⟨_, rfl⟩
    cases b with
    | true => exact .inl ⟨rfl, hb⟩
    | false => exact .inr hb
  · rename_i kx vx gs sc p
    obtain ⟨b, hb⟩ : ∃ b, swapsWith (.DictComp kx vx gs sc p) (some (.Name x px)) n env = pure b := ⟨_, rfl⟩
    cases b with
    | true => exact .inl ⟨rfl, hb⟩
    | false => exact .inr hb
theorem swap_nl {x : Str} {px : Pos} {e : Expr} {n : Nat} {env : PySem.Env} (h : isComp e = true) (hl : env.scope.names.lookup x ≠ some .local) : swapsWith e (some (.Name x px)) n env ≠ pure true := by
  have hk' : (env.kindOf x == some .local) = false := by
    cases q : (env.kindOf x == some NameKind.local) with
    | false => rfl
    | true => exact absurd (eq_of_beq q) hl
  intro hsw
  have no : (pure false : Sem Bool) ≠ pure true := fun z => by
    have z' := congrArg (fun m : Sem Bool => m) z
    cases z'
  cases e <;> first | (cases h; done) | skip
  · rename_i elt gs sc p
    have e0 : swapsWith (.ListComp elt gs sc p) (some (.Name x px)) n env = pure (env.blockKind == .function && env.kindOf x == some .local && px.line == p.line && !(sc.names.any fun (n, k) => n == x && (k == .local || k == .cell))) := rfl
    rw [e0, hk', Bool.and_false, Bool.false_and, Bool.false_and] at hsw
    exact no hsw
  · rename_i kx vx gs sc p
    have e0 : swapsWith (.DictComp kx vx gs sc p) (some (.Name x px)) n env = pure (env.blockKind == .function && env.kindOf x == some .local && px.line == p.line && !(sc.names.any fun (n, k) => n == x && (k == .local || k == .cell))) := rfl
    rw [e0, hk', Bool.and_false, Bool.false_and, Bool.false_and] at hsw
    exact no hsw
theorem s_setName (hr : HR l Φ cs ce re) {x : Str} {px pos : Pos} {e : Expr} {t : T} {me : E} (h1 : ce cv e me = true) (h2 : chkT cv (.Name x px) t = true) (g : Good X W l cv Φ cs) : Ps X W (.Assign [.Name x px] e pos) (setF t (re me)) := by
  obtain ⟨oe, se⟩ := hr cv e me h1
  have sd := se X W g
  cases t with
  | tup ts => simp [chkT] at h2
  | name j =>
    simp only [chkT, Bool.and_eq_true, Bool.or_eq_true, beq_iff_eq] at h2
    obtain ⟨h3, h4, h5⟩ := h2
    have hN : X.N[j]? = some x := by rw [g.N]; exact h3
    have hf : X.fn x = true ∨ X.env.scope.names.lookup x = some .local := by
      rcases h5 with h5 | h5
      · exact .inl (g.fn x h5)
      · exact .inr (by rw [g.sc]; exact isLocal_ok h5)
    have hx : L2.Loc X.env.scope x := by rw [g.sc]; exact locl_ok h4
    rcases swap_name (x := x) (px := px) (n := pos.line) (env := X.env) oe with ⟨hcmp, hsw⟩ | hsw
    · by_cases hl : X.env.scope.names.lookup x = some .local
      · exact PS.mono (sd.asg hcmp j x px pos hN hl hsw) set_read
      · exact absurd hsw (swap_nl hcmp hl)
    · exact s_set g.nd hN hx sd.pe hsw hf
theorem fm_len {α β : Type} {f : α → Option β} : ∀ {l : List α}, (l.filterMap f).length ≤ l.length
  | [] => by simp
  | a :: l => by
    have := fm_len (f := f) (l := l)
    rw [List.filterMap_cons]
    split <;> simp <;> omega
theorem fm_all {α β : Type} {f : α → Option β} : ∀ {l : List α}, (l.filterMap f).length = l.length → ∀ a ∈ l, (f a).isSome = true
  | [], _, a, h => absurd h (by simp)
  | x :: l, hl, a, h => by
    have hle := fm_len (f := f) (l := l)
    rw [List.filterMap_cons] at hl
    cases q : f x with
    | none => rw [q] at hl; simp at hl; omega
    | some y =>
      rw [q] at hl
      simp at hl
      rcases List.mem_cons.mp h with z | z
      · rw [z, q]; rfl
      · exact hl a z
theorem swapNo_ok {sc : Scope} {ts : List Expr} {k : Nat} {pt : Pos} {e : Expr} {env : PySem.Env} (h : swapNo sc (.Tuple ts k pt) e = true) (hsc : env.scope = sc) (he : okE e = true) : swappedStores [.Tuple ts k pt] e env = pure none := by
  cases e <;> first | rfl | (cases he; done) | skip
  rename_i vs k2 p2
  have h : (vs.all (foldedForSure 8) || ts.any (fun t => match t with
      | .Name x _ => !isLocal sc x
      | _ => true)) = true := h
  rw [Bool.or_eq_true] at h
  rcases h with h | h
  · unfold swappedStores
    dsimp only
    rw [h]
    repeat' split
    all_goals first | rfl | (exfalso; rename_i q _; exact q rfl) | (exfalso; rename_i q; exact q rfl)
  · obtain ⟨t, ht, hx⟩ := List.any_eq_true.mp h
    have key : ∀ (ln : Nat) (f : Expr → Option Str), (∀ x px, f (.Name x px) = if env.kindOf x == some .local && px.line == ln then some x else none) → (∀ e, (∀ x px, e ≠ .Name x px) → f e = none) → (ts.filterMap f).length ≠ ts.length := by
      intro ln f h1 h2 hl
      have := fm_all hl t ht
      cases t with
      | Name x px =>
        rw [h1] at this
        have hx : (!isLocal sc x) = true := hx
        have nl : env.kindOf x ≠ some .local := fun z => by
          have z : env.scope.names.lookup x = some .local := z
          rw [hsc] at z
          unfold isLocal at hx
          rw [z] at hx
          cases hx
        have : (env.kindOf x == some .local) = false := by
          cases q : (env.kindOf x == some NameKind.local) with
          | false => rfl
          | true => exact absurd (eq_of_beq q) nl
        simp_all
      | _ => rw [h2 _ (fun _ _ => Expr.noConfusion)] at this; cases this
    unfold swappedStores
    dsimp only
    split
    · rfl
    · split
      · rfl
      · split
        · rfl
        · rename_i q
          exfalso
          refine q ?_
          simp only [Bool.or_eq_true, bne_iff_ne]
          left
          refine key ((ts.head?.map (·.pos.line)).getD 0) _ (fun _ _ => rfl) (fun e he => ?_)
          cases e <;> first | rfl | exact absurd rfl (he _ _)
theorem sole_ok {ts : List Expr} {k : Nat} {pt : Pos} {e : Expr} {n : Nat} {env : PySem.Env} (he : okE e = true) : swapsWithSole [.Tuple ts k pt] e n env = pure false := by
  cases e <;> first | rfl | (cases he; done)
theorem bk_fun {env : PySem.Env} (h : env.scope.kind = .function) : env.blockKind = .function := by
  unfold Env.blockKind
  rw [h]; rfl
theorem par2_ok {env : PySem.Env} {x y : Str} {px py pt : Pos} {kt k2 : Nat} {pt2 : Pos} {a b : Expr} (hk : env.scope.kind = .function) (hx : env.scope.names.lookup x = some .local) (hy : env.scope.names.lookup y = some .local) (hxy : (x == y) = false) (hl : px.line = py.line)
    (ha : okE a = true) (hb : okE b = true) (hf : [a, b].all (foldedForSure 8) = false) (hc : [a, b].all (constantsAlone 8) = false) :
    swappedStores [.Tuple [.Name x px, .Name y py] kt pt] (.Tuple [a, b] k2 pt2) env = pure (some [x, y]) := by
  have kx : env.kindOf x = some .local := hx
  have ky : env.kindOf y = some .local := hy
  have hyx : (y == x) = false := by
    cases q : (y == x) with
    | false => rfl
    | true => rw [eq_of_beq q] at hxy; simp at hxy
  have e3 : [x, y].eraseDups = [x, y] := by simp [List.eraseDups, List.eraseDupsBy, List.eraseDupsBy.loop, hyx]
  have e2 : ∀ f : Expr → Option Str, f (.Name x px) = some x → f (.Name y py) = some y → [Expr.Name x px, Expr.Name y py].filterMap f = [x, y] := fun f h1 h2 => by simp [h1, h2]
  have e4 : ∀ f : Expr → Bool, f a = false → f b = false → [a, b].any f = false := fun f h1 h2 => by simp [h1, h2]
  unfold swappedStores
  dsimp only
  rw [e2 _ (by simp [kx]; rfl) (by simp [ky]; exact hl.symm), e4 _ (by cases a <;> first | rfl | (cases ha; done)) (by cases b <;> first | rfl | (cases hb; done)), e3, hf, hc]
  split
  · rename_i h; exfalso; revert h; rw [bk_fun hk]; intro h; cases h
  · rfl
theorem par3_ok {env : PySem.Env} {x y z : Str} {px py pz pt : Pos} {kt k2 : Nat} {pt2 : Pos} {a b c : Expr} (hk : env.scope.kind = .function) (hx : env.scope.names.lookup x = some .local) (hy : env.scope.names.lookup y = some .local) (hz : env.scope.names.lookup z = some .local)
    (hxy : (x == y) = false) (hxz : (x == z) = false) (hyz : (y == z) = false) (hl : px.line = py.line) (hl2 : px.line = pz.line)
    (ha : okE a = true) (hb : okE b = true) (hc' : okE c = true) (hf : [a, b, c].all (foldedForSure 8) = false) (hc : [a, b, c].all (constantsAlone 8) = false) :
    swappedStores [.Tuple [.Name x px, .Name y py, .Name z pz] kt pt] (.Tuple [a, b, c] k2 pt2) env = pure (some [x, y, z]) := by
  have kx : env.kindOf x = some .local := hx
  have ky : env.kindOf y = some .local := hy
  have kz : env.kindOf z = some .local := hz
  have sym : ∀ {u w : Str}, (u == w) = false → (w == u) = false := fun {u w} h => by
    cases q : (w == u) with
    | false => rfl
    | true => rw [eq_of_beq q] at h; simp at h
  have e3 : [x, y, z].eraseDups = [x, y, z] := by simp [List.eraseDups, List.eraseDupsBy, List.eraseDupsBy.loop, sym hxy, sym hxz, sym hyz]
  have e2 : ∀ f : Expr → Option Str, f (.Name x px) = some x → f (.Name y py) = some y → f (.Name z pz) = some z → [Expr.Name x px, Expr.Name y py, Expr.Name z pz].filterMap f = [x, y, z] := fun f h1 h2 h3 => by simp [h1, h2, h3]
  have e4 : ∀ f : Expr → Bool, f a = false → f b = false → f c = false → [a, b, c].any f = false := fun f h1 h2 h3 => by simp [h1, h2, h3]
  unfold swappedStores
  dsimp only
  rw [e2 _ (by simp [kx]; rfl) (by simp [ky]; exact hl.symm) (by simp [kz]; exact hl2.symm), e4 _ (by cases a <;> first | rfl | (cases ha; done)) (by cases b <;> first | rfl | (cases hb; done)) (by cases c <;> first | rfl | (cases hc'; done)), e3, hf, hc]
  split
  · rename_i h; exfalso; revert h; rw [bk_fun hk]; intro h; cases h
  · rfl
end Ev

set_option Elab.async false
set_option linter.all false
set_option maxRecDepth 100000
set_option maxHeartbeats 1000000
namespace Ev
open PySem PySem.Spec PyProof.Rows L2
variable [TabsOf]
variable {X : Cx} {W : XW} {l : Nat} {cv : Cv} {Φ : Fns} {cs : Consts} {n k : Nat}
theorem two_args {a b : Expr} {ma mb : E} (h1 : chk n cv a ma = true) (h2 : chk n cv b mb = true) (g : Good X W l cv Φ cs) : okE a = true ∧ okE b = true ∧ Pl X W [a, b] (evs (ev Φ cs k) [ma, mb]) := by
  obtain ⟨oa, sa⟩ := chk_ok l Φ cs n k cv a ma h1
  obtain ⟨ob, sb⟩ := chk_ok l Φ cs n k cv b mb h2
  exact ⟨oa, ob, l_cons (sa X W g).pe (l_cons (sb X W g).pe l_nil (ok_star ob)) (ok_star oa)⟩
theorem three_args {a b c : Expr} {ma mb mc : E} (h1 : chk n cv a ma = true) (h2 : chk n cv b mb = true) (h3 : chk n cv c mc = true) (g : Good X W l cv Φ cs) : okE a = true ∧ okE b = true ∧ okE c = true ∧ Pl X W [a, b, c] (evs (ev Φ cs k) [ma, mb, mc]) := by
  obtain ⟨oa, sa⟩ := chk_ok l Φ cs n k cv a ma h1
  obtain ⟨ob, oc, pl⟩ := two_args (k := k) h2 h3 g
  exact ⟨oa, ob, oc, l_cons (sa X W g).pe pl (ok_star oa)⟩
theorem neq_of {N : List Str} {j k : Nat} {x y : Str} (h1 : N[j]? = some x) (h2 : N[k]? = some y) (h : (x == y) = false) : j ≠ k := fun e => by
  subst e
  rw [h1] at h2; cases h2
  simp at h
theorem s_chkPar {tg e : Expr} {t : T} {me : E} {pos : Pos} (h : chkPar cv (chk n cv) tg e t me = true) (g : Good X W l cv Φ cs) : Ps X W (.Assign [tg] e pos) (setF t (ev Φ cs k me)) := by
  cases k with
  | zero => exact s_never fun env st => rfl
  | succ k =>
  unfold chkPar at h
  split at h
  · rename_i x px y py kt pt a b k2 pt2 j i ma mb
    simp only [Bool.and_eq_true, beq_iff_eq, Bool.not_eq_true'] at h
    obtain ⟨h0, h1, h2, h3, h4, h5, h6, h7, h8, h9, h10⟩ := h
    obtain ⟨oa, ob, pl⟩ := two_args (k := k) h9 h10 g
    have hx := isLocal_ok h4
    have hy := isLocal_ok h5
    rw [← g.sc] at hx hy h0
    rw [← g.N] at h1 h2
    exact s_par g.calm g.nd h1 h2 (neq_of h1 h2 h3) hx hy pl (par2_ok h0 hx hy h3 h6 oa ob h7 h8) rfl
  · rename_i x px y py z pz kt pt a b c k2 pt2 j i l' ma mb mc
    simp only [Bool.and_eq_true, beq_iff_eq, Bool.not_eq_true'] at h
    obtain ⟨h0, h1, h2, h3, q1, q2, q3, r1, r2, r3, p1, p2, h7, h8, h9, h10, h11⟩ := h
    obtain ⟨oa, ob, oc, pl⟩ := three_args (k := k) h9 h10 h11 g
    have hx := isLocal_ok r1
    have hy := isLocal_ok r2
    have hz := isLocal_ok r3
    rw [← g.sc] at hx hy hz h0
    rw [← g.N] at h1 h2 h3
    exact s_par3 g.calm g.nd h1 h2 h3 (neq_of h1 h2 q1) (neq_of h1 h3 q2) (neq_of h2 h3 q3) hx hy hz pl (par3_ok h0 hx hy hz q1 q2 q3 p1 p2 oa ob oc h7 h8) rfl
  · cases h
theorem s_chkSet {tg e : Expr} {t : T} {me : E} {pos : Pos} (h : chkSet cv (chk n) tg e t me = true) (g : Good X W l cv Φ cs) : Ps X W (.Assign [tg] e pos) (setF t (ev Φ cs k me)) := by
  unfold chkSet at h
  split at h
  · simp only [Bool.and_eq_true] at h
    exact s_setName (chk_ok l Φ cs n k) h.1 h.2 g
  · simp only [Bool.or_eq_true, Bool.and_eq_true] at h
    rcases h with ⟨h1, h2, h3⟩ | h
    · obtain ⟨oe, se⟩ := chk_ok l Φ cs n k cv e me h1
      exact s_asg (se X W g).pe (t_ok g h2) (sole_ok oe) (swapNo_ok h3 g.sc oe) rfl
    · exact s_chkPar h g
  · cases h
theorem sub_sole {o i e : Expr} {p : Pos} {n : Nat} {env : PySem.Env} (he : okE e = true) (hc : isComp e = false) : swapsWithSole [.Subscript o i p] e n env = pure false := by
  cases e <;> first | rfl | (cases hc; done) | (cases he; done)
theorem not_slice {i : Expr} (h : okE i = true) : ∀ (X : Cx) (o : Expr) (p : Pos) v, assign (.Subscript o i p) X.env v = (do
      let ov ← holding [v] (eval o X.env)
      let iv ← holding [v, ov] (eval i X.env)
      standAt p
      holding [v, ov, iv] (setItem ov iv v)
      release [v, ov, iv] []) := by
  cases i <;> first | (intros; rfl) | (cases h; done)
theorem ss_step {rec : Stmt → S → Bool} {rs : Sx} (hs : HS l Φ cs cv rec rs) {s : Stmt} {m : S} (h : chkSs cv (chk n) rec s m = true) (g : Good X W l cv Φ cs) : Ps X W s (exStep (ev Φ cs k) rs m) := by
  have ce := chk_ok l Φ cs n k
  cases m with
  | bad => exact s_never fun _ _ => rfl
  | set t me =>
    dsimp only [chkSs] at h
    split at h
    · exact s_chkSet h g
    · cases h
  | sub mo mi me =>
    dsimp only [chkSs] at h
    split at h
    · rename_i o i p e pos
      simp only [Bool.and_eq_true, Bool.not_eq_true'] at h
      obtain ⟨h1, h2, h3, h4⟩ := h
      obtain ⟨oe, se⟩ := ce cv e me h4
      obtain ⟨oi, si⟩ := ce cv i mi h3
      obtain ⟨oo, so⟩ := ce cv o mo h2
      exact s_sub g.hu (se X W g).pe (so X W g).pe (si X W g).pe (sub_sole oe h1) rfl rfl (not_slice oi X o p)
    · cases h
  | sub2 m1 n1 m2 n2 me1 me2 =>
    dsimp only [chkSs] at h
    split at h
    · rename_i o1 i1 p1 o2 i2 p2 kt pt e1 e2 k2 pt2 pos
      simp only [Bool.and_eq_true] at h
      obtain ⟨h1, h2, h3, h4, h5, h6⟩ := h
      obtain ⟨oo1, so1⟩ := ce cv o1 m1 h1
      obtain ⟨oi1, si1⟩ := ce cv i1 n1 h2
      obtain ⟨oo2, so2⟩ := ce cv o2 m2 h3
      obtain ⟨oi2, si2⟩ := ce cv i2 n2 h4
      obtain ⟨oe1, se1⟩ := ce cv e1 me1 h5
      obtain ⟨oe2, se2⟩ := ce cv e2 me2 h6
      exact s_sub2 g.calm g.hu (se1 X W g).pe (se2 X W g).pe (so1 X W g).pe (si1 X W g).pe (so2 X W g).pe (si2 X W g).pe (ok_star oe1) (ok_star oe2) (not_slice oi1 X o1 p1) (not_slice oi2 X o2 p2) (sole_ok (by rfl)) (swapNo_ok (sc := X.env.scope) (by unfold swapNo; simp) rfl (by rfl))
    · cases h
  | ex me =>
    dsimp only [chkSs] at h
    split at h
    · rename_i e pos
      simp only [Bool.and_eq_true, Bool.not_eq_true'] at h
      obtain ⟨oe, se⟩ := ce cv e me h.2
      exact s_ex (se X W g).pe (ok_swap oe h.1)
    · cases h
  | ret me =>
    dsimp only [chkSs] at h
    split at h
    · exact s_ret ((ce cv _ me h).2 X W g).pe
    · cases h
  | retN =>
    dsimp only [chkSs] at h
    split at h
    · exact s_retN
    · cases h
  | cond c a b =>
    dsimp only [chkSs] at h
    split at h
    · simp only [Bool.and_eq_true] at h
      exact s_if ((ce cv _ c h.1).2 X W g).pt (b_ok hs g h.2.1) (b_ok hs g h.2.2)
    · cases h
  | «for» t mi b =>
    dsimp only [chkSs] at h
    split at h
    · simp only [Bool.and_eq_true] at h
      obtain ⟨oi, hi⟩ := i_ok ce h.1
      exact s_for g.po g.calm (hi X W g) (t_ok g h.2.1) (b_ok hs g h.2.2) (ok_fold oi)
    · cases h
  | forw t mm b =>
    dsimp only [chkSs] at h
    split at h
    · simp only [Bool.and_eq_true] at h
      obtain ⟨oi, hi⟩ := ce cv _ mm h.1
      exact s_forw g.po g.calm (hi X W g).pe (t_ok g h.2.1) (b_ok hs g h.2.2) (ok_fold oi)
    · cases h
  | «while» c b =>
    dsimp only [chkSs] at h
    split at h
    · simp only [Bool.and_eq_true] at h
      exact s_while g.po ((ce cv _ c h.1).2 X W g).pt (b_ok hs g h.2)
    · cases h
  | raise x =>
    dsimp only [chkSs] at h
    split at h
    · rename_i y p m j p2 q pos
      simp only [Bool.and_eq_true, beq_iff_eq] at h
      obtain ⟨rfl, h1, h2, h3⟩ := h
      obtain ⟨C, B, n1, n2, bm, a, b, c, d, e⟩ := (g.exc y (List.contains_iff_mem.mp h3)).ex
      exact s_raise g.calm g.tk a b c d e (g.gl h1) (plain_ok h2).1
    · cases h
  | pass =>
    dsimp only [chkSs] at h
    split at h
    · exact s_pass
    · cases h
  | brk =>
    dsimp only [chkSs] at h
    split at h
    · exact s_brk
    · cases h
  | cont =>
    dsimp only [chkSs] at h
    split at h
    · exact s_cont
    · cases h
theorem ex_zero (ee : Ex) (m : S) : ∀ env st, ex ee 0 m env st = .bad := fun _ _ => rfl
theorem chkS_ok (l : Nat) (Φ : Fns) (cs : Consts) (cv : Cv) (n k : Nat) : ∀ a b, HS l Φ cs cv (chkS cv (chk n) a) (ex (ev Φ cs k) b)
  | 0, b => fun s m h => by cases h
  | a + 1, 0 => fun s m h X W g => s_never (ex_zero _ m)
  | a + 1, b + 1 => fun s m h X W g => ss_step (chkS_ok l Φ cs cv n k a b) h g
theorem body_ok {body : List Stmt} {ms : List S} (h : chkBody cv body ms = true) (g : Good X W l cv Φ cs) (k b : Nat) : Pss X W body (exs (ex (ev Φ cs k) b) ms) := b_ok (chkS_ok l Φ cs cv 60 k 60 b) g h
end Ev

set_option Elab.async false
set_option linter.all false
set_option maxRecDepth 100000
set_option maxHeartbeats 1000000
namespace Ev
open PySem PySem.Spec PyProof.Rows L2
variable [TabsOf]
variable {K : PySem.W.Frag}
/-! ### a def by its body -/
theorem trunc_ok {E : Str → Hp → Prop} {ρ ρ' : Rho} {H H' : Hp} {st' : Store} {v : D} {w : V} {Q : VK} (p : PostE K E ρ H (trunc ρ.cells.length v st') Q) (e : Ext ρ H ρ' H') (s : StR K ρ' H' st') (r : Rp K ρ' H' v w) : Q w H' := by
  unfold trunc at p
  split at p
  · exact p w ρ' H' e s r
  · split at p
    · rename_i h
      simp only [Bool.and_eq_true] at h
      exact p w (ρ'.take ρ.cells.length) H' e.cut (s.cut e.len h.2) (r.cut 40 v w h.1 e.len)
    · exact p w ρ' H' e s r
theorem env_start {ρ : Rho} {H : Hp} {ds : List D} {vs : List V} {d : FD} (r : Rps K ρ H ds vs) : EnvR K ρ H (startE d ds) (L2.start d.N vs) := by
  have hl := r.length
  refine ⟨by unfold startE L2.start; simp [hl], fun i x h => ?_⟩
  unfold startE at h
  have hi : i < ds.length := by
    by_cases hi : i < ds.length
    · exact hi
    · rw [List.getElem?_append_right (by simpa using hi), List.getElem?_replicate] at h
      split at h <;> cases h
  rw [List.getElem?_append_left (by simpa using hi), List.getElem?_map] at h
  cases q : ds[i]? with
  | none => rw [q] at h; cases h
  | some y =>
    rw [q] at h; cases h
    obtain ⟨v, hv, rv⟩ := r.get q
    refine ⟨v, ?_, rv⟩
    unfold L2.start
    rw [List.getElem?_append_left (by simp; omega), List.getElem?_map, hv]
    rfl
theorem end_ok {E : Str → Hp → Prop} {W : XW} {ρ : Rho} {H : Hp} {n : Nat} {r : R F} {Q : VK} (hn : n = ρ.cells.length) (hW : ∀ σ x H, E x H → W σ x H) (p : PostE K E ρ H (endF n r) Q) : PostS K W { nx := fun _ H' => Q .non H', rt := Q } ρ H r := by
  subst hn
  cases r with
  | ok f st' =>
    cases f with
    | next env' => exact fun σ' ρ' H' e s _ => trunc_ok (v := .non) p e s rfl
    | ret d => exact fun v ρ' H' e s r => trunc_ok (v := d) p e s r
    | brk env' => exact p.elim
    | cont env' => exact p.elim
  | exc x st' => exact fun σ' ρ' H' e s => hW _ _ _ (p ρ' H' e s)
  | bad => exact p
end Ev

set_option Elab.async false
set_option linter.all false
set_option maxRecDepth 100000
set_option maxHeartbeats 1000000
/-! iteration while an exception is handled -/
namespace Ev
open PySem PySem.Spec PyProof.Rows L2 HotX L2H
variable [TabsOf]
section
variable {prog : Program} {w : World} {A : Around} {E : Value → Shared → Prop} {s : Shared}
theorem hot_ne {h : Heap} {x1 it : Addr} {o : Obj} {vs : Array Value} (hot : HotAt A x1 h) (ho : h.get? it = some o) (hd : o.data = .fields vs) (hz : vs.size ≤ 2) : x1 ≠ it := fun z => by
  obtain ⟨_, o1, v1, h1, d1, c1⟩ := hot
  rw [z, ho] at h1; cases h1
  rw [hd] at d1; cases d1
  have := (Array.getElem?_eq_some_iff.mp c1).1
  omega
/-- StopIteration raised where an exception is handled, and caught by the walk -/
theorem stop_hot {α : Type} {x1 : Addr} {h : Heap} {t : Nat} {Qr : α → Shared → Prop} {Ec : Value → Shared → Prop} (hot : HotAt A x1 h)
    (hE : ∀ e h', (∀ b o, h.get? b = some o → h'.get? b = some o) → (∃ o, h'.get? e = some o ∧ o.cls = .type "StopIteration") → Ec (.ref e) { s with heap := h', toks := t }) :
    wpAny (model prog w) A (Builtin.SmallTypes.stopIteration : Sem α) Qr Ec { s with heap := h, toks := t } := by
  show wpAny _ _ (newExc (.type "StopIteration") [] >>= _) _ _ _
  refine wpAny_bind ?_
  simp only [newExc, newTuple]
  refine wpAny_bind (wpAny_newObj_type ?_ (by size_fits))
  refine wpAny_bind (m := firstArgMember _ _) (wpAny_of_eq (a := Value.none) (by first | rfl | (simp only [firstArgMember]; rfl)) (wpAny_newObj_type ?_ (by size_fits)))
  obtain ⟨hh, o1, v1, h1, d1, c1⟩ := hot
  refine raiseNew_hot ⟨hh, o1, v1, Heap.get?_push_of_some _ (Heap.get?_push_of_some _ h1), d1, c1⟩ (Nat.ne_of_lt (Heap.lt_size (Heap.get?_push_of_some _ h1))) (Heap.get?_push_size _ rfl) rfl (by first | (simp; done) | (simp; omega) | (simp only [Array.size_append]; simp; omega)) ?_
  refine hE _ _ (fun b o e => ?_) ⟨_, Heap.get?_update_self _ (Heap.get?_push_size _ rfl) rfl, rfl⟩
  rw [Heap.get?_update_other _ _ (Nat.ne_of_gt (Heap.lt_size (Heap.get?_push_of_some _ e)))]
  exact Heap.get?_push_of_some _ (Heap.get?_push_of_some _ e)
theorem listEnd_hot {it l x1 : Addr} {i : Nat} {items : Array Value} {Q : Option Value → Shared → Prop} (hot : HotAt A x1 s.heap) (hit : s.heap.IsListIter it l i) (hl : s.heap.IsList l items) (hx : items[i]? = none)
    (hQ : ∀ h', (∀ b o, b ≠ it → s.heap.get? b = some o → h'.get? b = some o) → Q none { s with heap := h' }) : wpAny (model prog w) A (pyNext (.ref it)) Q E s := by
  obtain ⟨o, ho, _, hd⟩ := id hit
  obtain ⟨ol, hol, _, nl, hdl⟩ := hl
  have ne := hot_ne hot ho hd (by simp)
  obtain ⟨hh, o1, v1, h1, d1, c1⟩ := hot
  unfold pyNext
  refine wpAny_bind (wpAny_attempt (wpAny_callSpecial?_slot (name := Str.ofString "__next__") hit.typeIs slot_listiter_next (wpAny_call_entry slot_listiter_next hit.typeIs entry_listiter_next ?_ (args_listiter_next _))))
  show wpAny _ _ (field (.ref it) 0 >>= _) _ _ s
  refine wpAny_bind (wpAny_field ho hd (x := .ref l) rfl ?_)
  show wpAny _ _ (if (Value.ref l == Value.none) = true then _ else _) _ _ s
  rw [if_neg (show ¬ ((Value.ref l == Value.none) = true) from Bool.false_ne_true)]
  show wpAny _ _ (field (.ref it) 1 >>= _) _ _ s
  refine wpAny_bind (wpAny_field ho hd (x := .int i 0) rfl ?_); show wpAny _ _ (seqItems? (.ref l) >>= _) _ _ s
  refine wpAny_bind (wpAny_seqItems hol hdl ?_); simp only [Int.toNat_natCast, hx]
  refine wpAny_bind (wpAny_rule (wpAny_bind (wpAny_setField ho hd (by simp) ?_)))
  refine stop_hot (A := A.in1) (s := s) (t := s.toks) (x1 := x1) ⟨hh, o1, v1, (Heap.get?_update_other _ _ (Ne.symm ne)).trans h1, d1, c1⟩ fun e h' k he => ?_
  refine wpAny_bind (wpAny_isInstance (T := "StopIteration") (b := true) he isSubtype_stop ?_)
  exact wpAny_pure (hQ _ fun b o' hb e' => k b o' ((Heap.get?_update_other _ _ (Ne.symm hb)).trans e'))
theorem tupEnd_hot {it l x1 : Addr} {i : Nat} {items : Array Value} {Q : Option Value → Shared → Prop} (hot : HotAt A x1 s.heap) (hit : s.heap.IsTupleIter it l i) (hl : s.heap.IsTuple l items) (hx : items[i]? = none)
    (hQ : ∀ h', (∀ b o, b ≠ it → s.heap.get? b = some o → h'.get? b = some o) → Q none { s with heap := h' }) : wpAny (model prog w) A (pyNext (.ref it)) Q E s := by
  obtain ⟨o, ho, _, hd⟩ := id hit
  obtain ⟨ol, hol, _, nl, hdl⟩ := hl
  have ne := hot_ne hot ho hd (by simp)
  obtain ⟨hh, o1, v1, h1, d1, c1⟩ := hot
  unfold pyNext
  refine wpAny_bind (wpAny_attempt (wpAny_callSpecial?_slot (name := Str.ofString "__next__") hit.typeIs F.slot_tuple_iterator_next (wpAny_call_entry F.slot_tuple_iterator_next hit.typeIs F.entry_tuple_iterator_next ?_ (F.args_tuple_iterator_next_1 _))))
  show wpAny _ _ (field (.ref it) 0 >>= _) _ _ s
  refine wpAny_bind (wpAny_field ho hd (x := .ref l) rfl ?_)
  show wpAny _ _ (if (Value.ref l == Value.none) = true then _ else _) _ _ s
  rw [if_neg (show ¬ ((Value.ref l == Value.none) = true) from Bool.false_ne_true)]
  show wpAny _ _ (field (.ref it) 1 >>= _) _ _ s
  refine wpAny_bind (wpAny_field ho hd (x := .int i 0) rfl ?_); show wpAny _ _ (seqItems? (.ref l) >>= _) _ _ s
  refine wpAny_bind (wpAny_seqItems hol hdl ?_); simp only [Int.toNat_natCast, hx]
  refine wpAny_bind (wpAny_rule (wpAny_bind (wpAny_setField ho hd (by simp) ?_)))
  refine stop_hot (A := A.in1) (s := s) (t := s.toks) (x1 := x1) ⟨hh, o1, v1, (Heap.get?_update_other _ _ (Ne.symm ne)).trans h1, d1, c1⟩ fun e h' k he => ?_
  refine wpAny_bind (wpAny_isInstance (T := "StopIteration") (b := true) he isSubtype_stop ?_)
  exact wpAny_pure (hQ _ fun b o' hb e' => k b o' ((Heap.get?_update_other _ _ (Ne.symm hb)).trans e'))
theorem unpack_hot {x1 t : Addr} {items : Array Value} {elts : List Expr} {env : PySem.Env} {k : Nat} {pos : Pos} {Q : Unit → Shared → Prop} (hot : HotAt A x1 s.heap) (ht : IsTup s.heap t items)
    (hn : (assignEach elts env).length = items.size) (hstar : (assignEach elts env).findIdx? (·.1) = none)
    (h : ∀ h', (∀ b o, s.heap.get? b = some o → h'.get? b = some o) → wpAny (model prog w) A (assignInOrder ((assignEach elts env).map (·.2)) items.toList) Q E { s with heap := h' }) : wpAny (model prog w) A (assign (.Tuple elts k pos) env (.ref t)) Q E s := by
  obtain ⟨hh, o1, v1, h1, d1, c1⟩ := hot
  have sz : ∀ {b : Addr} {o : Obj}, s.heap.get? b = some o → b ≠ s.heap.objs.size := fun e => Nat.ne_of_lt (Heap.lt_size e)
  have hlt : t ≠ s.heap.objs.size := by obtain ⟨o, ho, _⟩ := ht; exact sz ho
  rw [assign_Tuple]
  refine wpAny_bind (wpAny_standAt ?_)
  unfold unpack
  rw [hn, hstar]
  refine wpAny_bind (wpAny_holding ?_)
  unfold unpackItems notIterableAtAll
  refine wpAny_bind (wpAny_bind (wpAny_specialOf ht.typeIs slot_tuple_iter.lookup (wpAny_pure ?_)))
  simp only [Bool.false_eq_true, if_false]
  refine wpAny_bind (wpAny_holding (iter_tuple ht (wpAny_bind (wpAny_holding (draw_tuple hlt items.size 0 _ _ ⟨_, Heap.get?_push_size _ rfl, rfl, rfl⟩ (ht.push _) (by omega) fun h2 it2 sb => ?_)))))
  have keep : ∀ b o, b ≠ s.heap.objs.size → s.heap.get? b = some o → h2.get? b = some o := fun b o hb e => sb.extBut b o hb (Heap.get?_push_of_some _ e)
  rw [show List.take items.size (List.drop 0 items.toList) = items.toList from by rw [List.drop_zero]; exact List.take_of_length_le (by simp), if_neg (by simp)]
  refine wpAny_bind (wpAny_holding (tupEnd_hot (s := { s with heap := h2 }) (i := 0 + items.size) (x1 := x1) ⟨hh, o1, v1, keep _ _ (sz h1) h1, d1, c1⟩ it2 ((ht.push _).extBut sb.extBut hlt) (by simp) fun h3 k3 => ?_))
  simp only [Option.isSome_none, Bool.false_eq_true, if_false]
  exact wpAny_pure (h h3 fun b o e => k3 b o (sz e) (keep b o (sz e) e))
end
end Ev

set_option Elab.async false
set_option linter.all false
set_option maxRecDepth 100000
set_option maxHeartbeats 2000000
/-! a list comprehension while an exception is handled -/
namespace Ev
open PySem PySem.Spec PyProof.Rows L2 HotX L2H
variable [TabsOf]
/-- the handled exception stands, and nothing of ours will touch it -/
structure HotS (X : Cx) (x1 : Addr) (s : Shared) (H : Hp) (it : Addr) : Prop where
  at' : HotAt X.A x1 s.heap
  free : H x1 = none
  fs : x1 ∉ frs X.stack
  it : x1 ≠ it
theorem hot_of {X : Cx} {pins : List (Addr × Obj)} {σ : L2.St} {H : Hp} {s : Shared} {it : Addr} (c : HotC X) (I : Inv X pins σ H s) (f : FpOk X pins H it) : ∃ x1, HotS X x1 s H it := by
  obtain ⟨p, ⟨hh, v1, e1, c1⟩, hp⟩ := c
  have P := I.pin p (List.mem_append_left _ hp)
  exact ⟨p.1, ⟨hh, p.2, v1, P.1, e1, c1⟩, P.2.1, fun hm => (List.mem_cons.mp (I.stkSub p.1 hm)).elim P.2.2.1 P.2.2.2.1, f.2.2.2.2.2 p (List.mem_append_left _ hp)⟩
/-- within the block -/
theorem HotS.blk {X : Cx} {x1 it : Addr} {s0 s : Shared} {H0 H : Hp} {scope : Scope} {ce : PySem.Env} {pins : List (Addr × Obj)} {σ : L2.St} (h : HotS X x1 s0 H0 it) (I : Inv (X.blk s0 H0 scope ce [it]) pins σ H s) : HotAt X.A x1 s.heap := by
  obtain ⟨⟨hh, o1, v1, h1, d1, c1⟩, fr, fs, ni⟩ := h
  exact ⟨hh, o1, v1, I.base.keep x1 o1 h1 fr fs (fun z => ni (by simpa using z)), d1, c1⟩
/-- an iterator's turns where an exception is handled -/
structure TurnB (P : Program) (w : World) (K : PySem.W.Frag) (tg : Expr) (J : It) (it : Addr) (tn : Nat → Heap → Prop) : Prop where
  obj : ∀ i h, tn i h → ∃ o, h.get? it = some o ∧ ∀ v, o.data ≠ .cell v
  keep : ∀ i h h', tn i h → (∀ o, h.get? it = some o → h'.get? it = some o) → tn i h'
  item : ∀ (X : Cx), X.prog = P → X.w = w → X.K = K → ∀ (i : Nat) (pins : List (Addr × Obj)) (s : Shared) (σ : L2.St) (H : Hp) (E : Value → Shared → Prop), Inv X pins σ H s → FpOk X pins H it → tn i s.heap → J.go i H →
    wpAny (model P w) X.A (pyNext (.ref it)) (fun r s1 => ∃ u, r = some u ∧ wpAny (model P w) X.A (letOwnedTupleGo tg (.ref it) u) (fun _ s2 => ∃ x H', Inv X pins σ H' s2 ∧ RelV x u ∧ J.yld i H x H' ∧ tn (i + 1) s2.heap ∧ H' it = none) E s1) E s
  done : ∀ (X : Cx), X.prog = P → X.w = w → X.K = K → ∀ (x1 : Addr) (i : Nat) (pins : List (Addr × Obj)) (s : Shared) (σ : L2.St) (H : Hp) (E : Value → Shared → Prop), HotAt X.A x1 s.heap → Inv X pins σ H s → FpOk X pins H it → tn i s.heap → J.stop i H →
    wpAny (model P w) X.A (pyNext (.ref it)) (fun r s1 => r = none ∧ Inv X pins σ H s1) E s
  self : ∀ (A : Around) (i : Nat) (s : Shared) (Q : Value → Shared → Prop) (E : Value → Shared → Prop), tn i s.heap → Q (.ref it) s → wpAny (model P w) A (pyIter (.ref it)) Q E s
theorem turnB_list {P : Program} {w : World} {K : PySem.W.Frag} {tg : Expr} (a it : Addr) : TurnB P w K tg (Itl K a) it (fun i h => h.IsListIter it a i) where
  obj := fun i h ⟨o, e, c, d⟩ => ⟨o, e, fun v z => by rw [d] at z; cases z⟩
  keep := fun i h h' st k => st.at fun o e => k o e
  item := fun X hP hw hK i pins s σ H E I hf st ⟨xs, x, hq, hx⟩ => by
    subst hP hw hK
    obtain ⟨its, rv, p, _⟩ := I.list hq
    obtain ⟨u, hu, ru⟩ := rv.get hx
    refine wpAny_pyNext_list_item st p.isList (x := u) (by simpa using hu) fun h' st' sb => ?_
    obtain ⟨o, e, c, d⟩ := id st'
    exact ⟨u, rfl, go_of (s := { s with heap := h' }) e c d (by decide) ⟨x, H, I.turned (t' := s.toks) (fun b o hb e => (sb.2 b hb).trans e) hf.1 hf.2.1 hf.2.2.2.1 hf.2.2.2.2.1 hf.2.2.2.2.2, ru, ⟨rfl, fun ys hy => by rw [I.list_inj hy hq]; exact hx⟩, st', hf.1⟩⟩
  done := fun X hP hw hK x1 i pins s σ H E hot I hf st ⟨xs, hq, hx⟩ => by
    subst hP hw hK
    obtain ⟨its, rv, p, _⟩ := I.list hq
    have hl := rv.length
    exact listEnd_hot hot st p.isList (by simp; omega) fun h' eb => ⟨rfl, I.turned (t' := s.toks) (fun b o hb e => eb b o hb e) hf.1 hf.2.1 hf.2.2.2.1 hf.2.2.2.2.1 hf.2.2.2.2.2⟩
  self := fun _ _ _ _ _ st h => wpAny_pyIter_listiter st h
theorem turnB_tuple {P : Program} {w : World} {K : PySem.W.Frag} {tg : Expr} (a it : Addr) : TurnB P w K tg (Itt K a) it (fun i h => h.IsTupleIter it a i) where
  obj := fun i h ⟨o, e, c, d⟩ => ⟨o, e, fun v z => by rw [d] at z; cases z⟩
  keep := fun i h h' st k => st.at fun o e => k o e
  item := fun X hP hw hK i pins s σ H E I hf st ⟨xs, x, hq, hx⟩ => by
    subst hP hw hK
    obtain ⟨its, rv, p, _⟩ := I.tuple hq
    obtain ⟨u, hu, ru⟩ := rv.get hx
    refine wpAny_pyNext_tuple_item st (show s.heap.IsTuple a its.toArray from p) (x := u) (by simpa using hu) fun h' st' sb => ?_
    obtain ⟨o, e, c, d⟩ := id st'
    exact ⟨u, rfl, go_of (s := { s with heap := h' }) e c d (by decide) ⟨x, H, I.turned (t' := s.toks) (fun b o hb e => (sb.2 b hb).trans e) hf.1 hf.2.1 hf.2.2.2.1 hf.2.2.2.2.1 hf.2.2.2.2.2, ru, ⟨rfl, fun ys hy => by rw [I.tuple_inj hy hq]; exact hx⟩, st', hf.1⟩⟩
  done := fun X hP hw hK x1 i pins s σ H E hot I hf st ⟨xs, hq, hx⟩ => by
    subst hP hw hK
    obtain ⟨its, rv, p, _⟩ := I.tuple hq
    have hl := rv.length
    exact tupEnd_hot hot st (show s.heap.IsTuple a its.toArray from p) (by simp; omega) fun h' eb => ⟨rfl, I.turned (t' := s.toks) (fun b o hb e => eb b o hb e) hf.1 hf.2.1 hf.2.2.2.1 hf.2.2.2.2.1 hf.2.2.2.2.2⟩
  self := fun _ _ _ _ _ st h => wpAny_pyIter_tupleiter st h
/-- an iterator has come -/
def PBE (X : Cx) (pins : List (Addr × Obj)) (σ : L2.St) (tg : Expr) (R : It → Hp → Prop) (v : Value) (s2 : Shared) : Prop :=
  ∃ (it : Addr) (tn : Nat → Heap → Prop) (J : It) (H' : Hp), v = .ref it ∧ Inv X pins σ H' s2 ∧ TurnB X.prog X.w X.K tg J it tn ∧ tn 0 s2.heap ∧ FpOk X pins H' it ∧ R J H'
structure PB (X : Cx) (tg iter : Expr) (wi : TI) : Prop where
  run : ∀ (pins : List (Addr × Obj)) (s : Shared) (σ : L2.St) (H : Hp) (R : It → Hp → Prop), Inv X pins σ H s → wi σ H R →
    wpAny (model X.prog X.w) X.A (eval iter X.env) (fun v s1 => wpAny (model X.prog X.w) X.A (pyIter v) (PBE X pins σ tg R) X.xe s1) X.xe s
end Ev

set_option Elab.async false
set_option linter.all false
set_option maxRecDepth 100000
set_option maxHeartbeats 2000000
namespace Ev
open PySem PySem.Spec PyProof.Rows L2 HotX L2H
variable [TabsOf]
section
variable {X : Cx} {elt tg iter : Expr} {ifs : List Expr} {scope : Scope} {own : List (Str × Nat)} {pos pos' : Pos} {wi : TI} {g : TG} {tt : TT} {te : TE}
abbrev ceOf (X : Cx) (scope : Scope) (cl : List (Str × Addr)) (C : Addr) : PySem.Env := compEnvC scope cl C X.env
theorem lc_hot {pins : List (Addr × Obj)} {s : Shared} {σ : L2.St} {H : Hp} {Q : VK} {use : Option (Value → Sem Unit)} {Qf : Value → Shared → Prop} (hot : HotC X) (hN : X.N.Nodup) (I : Inv X pins σ H s) (hi : PB X tg iter wi) (ok : BlkOk X.N X.env.scope scope own)
    (hg : ∀ (s : Shared) (H : Hp) (C : Addr) (cl : List (Str × Addr)) (it x1 : Addr), HotS X x1 s H it → PG (X.blk s H scope (ceOf X scope cl C) [it]) tg g)
    (ht : ∀ (s : Shared) (H : Hp) (C : Addr) (cl : List (Str × Addr)) (it : Addr), PTs (X.blk s H scope (ceOf X scope cl C) [it]) ifs tt)
    (he : ∀ (s : Shared) (H : Hp) (C : Addr) (cl : List (Str × Addr)) (it : Addr), PE (X.blk s H scope (ceOf X scope cl C) [it]) elt te) (hs : ∀ x, foldedSetIterable iter X.env x = pure x) (h : tLc wi g tt te (own.map (·.2)) σ H Q)
    (fin : ∀ D C s' m H', Inv X pins σ H' s' → Q (.ref D) H' → s'.heap.Ns C m → FpOk X pins H' C → compPost (model X.prog X.w) X.A X.xe use Qf (.ref D) C (.ok .next) s') :
    wpAny (model X.prog X.w) X.A (comprehension (.ListComp elt [⟨tg, iter, ifs, 0⟩] scope pos) scope X.env pos' (newList []) false (eval iter X.env) use) Qf X.xe s := by
  refine wpAny_comprehension_free (use := use) rfl hs (closure_ok fun y hy e => (ok.free y hy e).elim (fun k => I.ok.has _ (.inl k)) fun k => I.ok.has _ (.inr k)) ok.kind (fun y hy e => by rw [ok.uniq y hy, e]) (thn (hi.run pins s σ H _ I h) fun xv sa hx => thn hx fun itv sb hb => ?_)
  obtain ⟨it, tn, J, Hb, rfl, Ib, T, stb, fb, q⟩ := hb
  refine wpAny_newObj_type (newEnv_comp ?_) (by show 0 ≤ sizeLine; decide)
  have nD : Hb sb.heap.objs.size = none := Ib.hok.fresh (Nat.le_refl _)
  obtain ⟨Wv, ⟨m0, w0⟩, turn⟩ := q sb.heap.objs.size nD
  obtain ⟨oi, eoi, _⟩ := T.obj _ _ stb
  have itlt := Heap.lt_size eoi
  -- the new list stands
  generalize hsc : ({ sb with heap := sb.heap.push { cls := .type "list", data := .seq ([] : List Value).toArray } } : Shared) = sc
  have hscH : sc.heap = sb.heap.push { cls := .type "list", data := .seq ([] : List Value).toArray } := by rw [← hsc]
  have Ic : Inv X pins σ (upd Hb sb.heap.objs.size (.lst [])) sc := by
    rw [← hsc]
    exact Ib.laid (t' := sb.toks) (fun b o e => Heap.get?_push_of_some _ e) (Nat.le_refl _) ⟨Nat.zero_le _, [], 0, .nil, Heap.get?_push_size _ rfl⟩
  generalize hD : sb.heap.objs.size = D at nD w0 turn Ic itlt
  have fc : FpOk X pins (upd Hb D (.lst [])) it := ⟨by rw [upd_ne (Nat.ne_of_lt itlt)]; exact fb.1, fb.2⟩
  have ltc : it < sc.heap.objs.size := by rw [hscH, Heap.size_push, hD]; exact Nat.lt_succ_of_lt itlt
  have stc : tn 0 sc.heap := T.keep _ _ _ stb fun o e => by rw [hscH]; exact Heap.get?_push_of_some _ e
  generalize hHc : upd Hb D (.lst []) = Hc at Ic fc w0
  obtain ⟨x1, hotS⟩ := hot_of hot Ic fc
  have Id := block_start (fp := [it]) Ic ok hN fun b hb => by
    cases (show b = it by simpa using hb)
    exact ⟨fc, ltc⟩
  have pg := hg sc Hc sc.heap.objs.size (cellsFrom (sc.heap.objs.size + 1) scope.names (cloFrom X.env.cells scope.names [])) it x1 hotS
  have pt := ht sc Hc sc.heap.objs.size (cellsFrom (sc.heap.objs.size + 1) scope.names (cloFrom X.env.cells scope.names [])) it
  have pe := he sc Hc sc.heap.objs.size (cellsFrom (sc.heap.objs.size + 1) scope.names (cloFrom X.env.cells scope.names [])) it
  show codeAny _ _ (.compStart (.ListComp elt [⟨tg, iter, ifs, 0⟩] scope pos) 0 (.ref it) (.ref D) (ceOf X scope (cellsFrom (sc.heap.objs.size + 1) scope.names (cloFrom X.env.cells scope.names [])) sc.heap.objs.size)) (compPost (model X.prog X.w) X.A X.xe use Qf (.ref D) sc.heap.objs.size) { sc with heap := pushCells (sc.heap.push { cls := .type "dict", data := .dict #[] }) scope.names }
  unfold ceOf at pg pt pe ⊢
  generalize hce : compEnvC scope (cellsFrom (sc.heap.objs.size + 1) scope.names (cloFrom X.env.cells scope.names [])) sc.heap.objs.size X.env = ce at Id pg pt pe ⊢
  have cL : ce.locals = sc.heap.objs.size := by subst hce; rfl
  generalize hsd : ({ sc with heap := pushCells (sc.heap.push { cls := .type "dict", data := .dict #[] }) scope.names } : Shared) = sd at Id ⊢
  have std : tn 0 sd.heap := T.keep _ _ _ stc fun o e => by rw [← hsd]; exact pushCells_keeps _ _ _ _ (Heap.get?_push_of_some _ e)
  have stat : ∀ {σ' : L2.St} {H' : Hp} {s' : Shared}, Inv (X.blk sc Hc scope ce [it]) [] σ' H' s' → H' it = none → FpOk (X.blk sc Hc scope ce [it]) [] H' it := fun {σ' H' s'} I' hn =>
    ⟨hn, (I'.ok.exf it List.mem_cons_self).1, I'.ok.exfs it List.mem_cons_self, .inl List.mem_cons_self, fun x c e => (I'.ok.exf it List.mem_cons_self).2 x c e, fun p hp => absurd (show p ∈ ([] : List (Addr × Obj)) ++ [] from hp) (by simp)⟩
  have loop : codeAny (model X.prog X.w) X.A (.compLoop (.ListComp elt [⟨tg, iter, ifs, 0⟩] scope pos) 0 (.ref it) (.ref D) ce) (compPost (model X.prog X.w) X.A X.xe use Qf (.ref D) sc.heap.objs.size) sd := by
    refine compLoop_any (fun n s' => ∃ i H', Inv (X.blk sc Hc scope ce [it]) [] (wipe σ (own.map (·.2))) H' s' ∧ tn i s'.heap ∧ H' it = none ∧ Wv i n H') ?_ m0 ⟨0, Hc, Id, std, fc.1, w0⟩
    rintro n se ⟨i, He, Ie, ste, ne, we⟩
    rcases turn i n He we with ⟨stop, qq⟩ | ⟨go, Nx, hNx, step⟩
    · refine thnF (T.done (X.blk sc Hc scope ce [it]) rfl rfl rfl x1 i [] se _ He (fun _ _ => False) (hotS.blk Ie) Ie (stat Ie ne) ste stop) fun r sf ⟨hr, If⟩ => ?_
      subst hr
      have Ig : Inv X pins σ He sf := Ic.call' (ch := [it]) If.os If.base If.hok If.bare fun b hb => by
        cases (show b = it by simpa using hb)
        exact ⟨fc.2.2.2.1, fc.2.1, fc.2.2.2.2.1, fc.2.2.2.2.2⟩
      have nC : He sc.heap.objs.size = none := by rw [← cL]; exact If.free
      obtain ⟨m, hn, _⟩ := If.loc
      exact fin D sc.heap.objs.size sf m He Ig qq (by rw [← cL]; exact hn) (Ic.fpOk (Nat.le_refl _) nC)
    · refine thnF (T.item (X.blk sc Hc scope ce [it]) rfl rfl rfl i [] se _ He (fun _ _ => False) Ie (stat Ie ne) ste go) fun r sf ⟨u, hr, hf⟩ => ?_
      subst hr
      refine thnF hf fun _ sg ⟨x, Hg, Ig, rg, yg, stg, ng⟩ => ?_
      have Ig' := Ig.pinned (fp := [it]) (fun b hb => by
        cases (show b = it by simpa using hb)
        exact stat Ig ng) fun b hb => by
          cases (show b = it by simpa using hb)
          exact T.obj _ _ stg
      refine thnF (pg.run _ sg _ Hg x u _ Ig' rg (step x Hg yg)) fun _ sh ⟨σh, Hh, Ih, hwh, qh⟩ => thnF (pt.run _ sh σh Hh _ Ih qh) fun b si ⟨Hi, Ii, qi⟩ => ?_
      have again : ∀ {s' : Shared} {H' : Hp}, Inv (X.blk sc Hc scope ce [it]) ([] ++ pinsAt [it] sg.heap) σh H' s' → Nx H' → ∃ m, m < n ∧ ∃ i H', Inv (X.blk sc Hc scope ce [it]) [] (wipe σ (own.map (·.2))) H' s' ∧ tn i s'.heap ∧ H' it = none ∧ Wv i m H' := fun {s' H'} I' nx => by
        obtain ⟨m', hm, w'⟩ := hNx H' nx
        obtain ⟨o, eo, _⟩ := T.obj _ _ stg
        have pin' : ∀ u, sg.heap.get? it = some u → s'.heap.get? it = some u ∧ H' it = none := fun u e =>
          let z := I'.pin (it, u) (List.mem_append_right _ (List.mem_append_right _ (mem_pinsAt List.mem_cons_self e)))
          ⟨z.1, z.2.1⟩
        refine ⟨m', hm, i + 1, H', (I'.unpinned (pins := [])).weak (by rw [← hwh, wipe_length]) (fun j v e => ?_), T.keep _ _ _ stg fun u e => (pin' u e).1, (pin' o eo).2, w'⟩
        rw [← hwh] at e
        exact (wipe_some e).1
      cases b with
      | false =>
        simp only [Bool.false_eq_true, if_false] at qi ⊢
        exact again Ii qi
      | true =>
        simp only [if_true] at qi ⊢
        exact thnF (pe.run _ si σh Hi _ Ii qi) fun z sj ⟨yv, Hj, Ij, rj, acc, hDj, hzj, nx⟩ => app_ok (X := X.blk sc Hc scope ce [it]) Ij hDj hzj rj fun sk Ik => again Ik nx
  exact codeAny_compStart_list loop (T.self X.A 0 _ _ _ std loop)
/-- name = [..] on one line, the name a local -/
theorem ps_setHot {i : Nat} {y : Str} {py spos : Pos} (hot : HotC X) (hN : X.N.Nodup) (hy : X.N[i]? = some y) (hyl : X.env.scope.names.lookup y = some .local)
    (hsw : swapsWith (.ListComp elt [⟨tg, iter, ifs, 0⟩] scope pos) (some (.Name y py)) spos.line X.env = pure true) (hi : PB X tg iter wi) (ok : BlkOk X.N X.env.scope scope own)
    (hg : ∀ (s : Shared) (H : Hp) (C : Addr) (cl : List (Str × Addr)) (it x1 : Addr), HotS X x1 s H it → PG (X.blk s H scope (ceOf X scope cl C) [it]) tg g)
    (ht : ∀ (s : Shared) (H : Hp) (C : Addr) (cl : List (Str × Addr)) (it : Addr), PTs (X.blk s H scope (ceOf X scope cl C) [it]) ifs tt)
    (he : ∀ (s : Shared) (H : Hp) (C : Addr) (cl : List (Str × Addr)) (it : Addr), PE (X.blk s H scope (ceOf X scope cl C) [it]) elt te) (hs : ∀ x, foldedSetIterable iter X.env x = pure x) :
    PS X (.Assign [.Name y py] (.ListComp elt [⟨tg, iter, ifs, 0⟩] scope pos) spos) (tAsg (tLc wi g tt te (own.map (·.2))) (gName i)) := by
  refine ⟨fun pins s σ H D I h => ?_⟩
  rw [exec_Assign_Name_used _ _ _ _ hsw]
  refine wpAny_bind (wpAny_standAt (wpAny_bind ?_))
  show wpAny _ X.A (do let _ ← comprehension (.ListComp elt [⟨tg, iter, ifs, 0⟩] scope pos) scope X.env (firstIterPos [⟨tg, iter, ifs, 0⟩] pos) (newList []) false (eval iter X.env) (some (assign (.Name y py) X.env))) _ _ s
  refine wpAny_bind (thn (lc_hot (Q := fun x H1 => gName i x σ H1 D.nx) (Qf := fun _ s' => SP X pins D .next s') hot hN I hi ok hg ht he hs h fun L C s' m H' I' q hn f => ?_) fun _ s' hq => wpAny_pure (wpAny_pure hq))
  show wpAny _ _ (assign (.Name y py) X.env (.ref L)) _ _ _
  refine wpAny_assign_Name (store_ok2 (v := V.ref L) I' hN hy (.inl hyl) rfl (fun st It ⟨a, sb, ha⟩ => ⟨m, hn.sameBut sb (ha.elim (fun z => by rw [z]; exact f.2.1) fun z e => f.2.2.2.2.1 y a z e.symm), fun h3 sb3 => ?_⟩) (.inr hyl))
  exact ⟨_, H', It.turned (t' := st.toks) (fun b o hb e => (sb3.2 b hb).trans e) f.1 f.2.1 f.2.2.2.1 f.2.2.2.2.1 f.2.2.2.2.2, q⟩
end
end Ev

set_option Elab.async false
set_option linter.all false
set_option maxRecDepth 100000
set_option maxHeartbeats 1000000
/-! an except suite by its short form: the readings with something told of the slots -/
namespace Ev
open PySem PySem.Spec PyProof.Rows L2 HotX L2H
variable [TabsOf]
section
variable {X : Cx} {J : L2.St → Prop} {a b c e : Expr} {es rest : List Expr} {fa fb fc f : Fe} {pos p p2 : Pos}
abbrev tEJ (K : PySem.W.Frag) (J : L2.St → Prop) (f : Fe) : TE := fun σ H Q => J σ ∧ tE K W0 f σ H Q
abbrev tTJ (K : PySem.W.Frag) (J : L2.St → Prop) (f : Fe) : TT := fun σ H Q => J σ ∧ tT K W0 f σ H Q
abbrev tLJ (K : PySem.W.Frag) (J : L2.St → Prop) (f : Env → Store → R (List D)) : TA := fun σ H Q => J σ ∧ tL K W0 f σ H Q
abbrev PeJ (X : Cx) (J : L2.St → Prop) (e : Expr) (f : Fe) : Prop := PE X e (tEJ X.K J f)
abbrev PtJ (X : Cx) (J : L2.St → Prop) (e : Expr) (f : Fe) : Prop := PT X e (tTJ X.K J f)
theorem j_of (h : Pe X W0 e f) : PeJ X J e f := PE.mono h fun σ H Q q => q.2
theorem lj_nil : PA X [] (tLJ X.K J fun _ st => .ok [] st) := PA.mono l_nil fun σ H Q q => q.2
theorem lj_cons {fl : Env → Store → R (List D)} (ha : PeJ X J a fa) (hl : PA X es (tLJ X.K J fl)) (hs : starEach (a :: es) X.env = (false, eval a X.env) :: starEach es X.env) : PA X (a :: es) (tLJ X.K J fun env st => (fa env st).bind fun d st1 => (fl env st1).bind fun ds st2 => .ok (d :: ds) st2) :=
  PA.mono (pa_cons ha hl hs) fun σ H Q ⟨j, ρ, env, st, er, sr, p⟩ => ⟨j, ρ, env, st, er, sr, PostE.imp (PostL.step p) fun v H1 ⟨ρ1, st1, d, e1, s1, r1, _, p1⟩ =>
    ⟨j, ρ1, env, st1, er.ext e1, s1, PostL.imp (PostL.stepL p1) fun vs H2 ⟨ρ2, st2, ds, e2, s2, r2, _, p2⟩ => p2 _ ρ2 H2 (.refl _ _) s2 (.cons (r1.ext e2 _ _) r2)⟩⟩
theorem xj_tup {fl : Env → Store → R (List D)} {x1 : Nat} (hl : PA X es (tLJ X.K J fl)) (hz : ∀ env st ds st', fl env st = .ok ds st' → ds.length ≤ seqMax) : PeJ X J (.Tuple es x1 pos) fun env st => (fl env st).bind fun ds st1 => .ok (.tup ds) st1 :=
  PE.mono (pe_tup hl) fun σ H Q ⟨j, ρ, env, st, er, sr, p⟩ => ⟨j, ρ, env, st, er, sr, PostL.imp (PostE.stepL p) fun vs H1 ⟨ρ1, st1, ds, e1, s1, r1, q1, p1⟩ =>
    ⟨by rw [← r1.length]; exact Nat.le_trans (hz _ _ _ _ q1) line_ok, fun p hp => PostE.new (d := .tup ds) (st := st1) p1 s1 hp fun ex off => ⟨p, vs, rfl, upd_same, off, r1.ext ex _ _⟩⟩⟩
theorem xj_lst {fl : Env → Store → R (List D)} (hl : PA X es (tLJ X.K J fl)) (hz : ∀ env st ds st', fl env st = .ok ds st' → ds.length ≤ seqMax) : PeJ X J (.List es pos) fun env st => (fl env st).bind fun ds st1 => .ok (.lst ds) st1 :=
  PE.mono (pe_lst hl) fun σ H Q ⟨j, ρ, env, st, er, sr, p⟩ => ⟨j, ρ, env, st, er, sr, PostL.imp (PostE.stepL p) fun vs H1 ⟨ρ1, st1, ds, e1, s1, r1, q1, p1⟩ =>
    ⟨by rw [← r1.length]; exact Nat.le_trans (hz _ _ _ _ q1) line_ok, fun p hp => PostE.new (d := .lst ds) (st := st1) p1 s1 hp fun ex off => ⟨p, vs, rfl, upd_same, off, r1.ext ex _ _⟩⟩⟩
theorem twoJ {K : PySem.W.Frag} {g : D → D → Store → R D} : ∀ σ H Q, tEJ K J (fun env st => (fa env st).bind fun x st1 => (fb env st1).bind fun y st2 => g x y st2) σ H Q → tEJ K J fa σ H fun x H1 => tEJ K J fb σ H1 fun y H2 => rOp K (W0 σ) g x y H2 Q :=
  fun σ H Q ⟨j, ρ, env, st, er, sr, p⟩ => ⟨j, ρ, env, st, er, sr, p.step.imp fun v H1 ⟨ρ1, st1, d, e1, s1, r1, _, p1⟩ => ⟨j, ρ1, env, st1, er.ext e1, s1, p1.step.imp fun w H2 ⟨ρ2, st2, d2, e2, s2, r2, _, p2⟩ => ⟨ρ2, st2, d, d2, s2, r1.ext e2 _ _, r2, p2⟩⟩⟩
theorem xj_bin {op : Operator} (ha : PeJ X J a fa) (hb : PeJ X J b fb) : PeJ X J (.BinOp a op b pos) fun env st => (fa env st).bind fun x st1 => (fb env st1).bind fun y st2 => binop op x y st2 :=
  ⟨fun pins s σ H Q I h => (pe_op (binop_ok (E := W0 σ) op) ha hb).run pins s σ H Q I (twoJ σ H Q h)⟩
theorem xj_cmp {op : CmpOp} (hu : X.A.units + 65 < cLine) (ha : PeJ X J a fa) (hb : PeJ X J b fb) (hm : behindInMarks op b = false) : PeJ X J (.Compare a [op] [b] pos) fun env st => (fa env st).bind fun x st1 => (fb env st1).bind fun y st2 => cmpop op x y st2 :=
  ⟨fun pins s σ H Q I h => (pe_cmpR (cmpop_ok (E := W0 σ) hu op) ha hb hm).run pins s σ H Q I (twoJ σ H Q h)⟩
theorem xj_ix (hu : X.A.units + 65 < cLine) (ha : PeJ X J a fa) (hb : PeJ X J b fb) (hs : PlainIx b) : PeJ X J (.Subscript a b pos) fun env st => (fa env st).bind fun x st1 => (fb env st1).bind fun y st2 => ixop x y st2 :=
  ⟨fun pins s σ H Q I h => (pe_ix (ix_ok (E := W0 σ) hu) ha hb hs).run pins s σ H Q I (twoJ σ H Q h)⟩
theorem tj_val (ha : PeJ X J a fa) (he : ∀ whole, isTrue a X.env whole = (do let v ← whole; standAt a.pos; holding [v] (truthy v))) : PtJ X J a fa :=
  PT.mono (pt_truth ha he) fun σ H Q ⟨j, ρ, env, st, er, sr, p⟩ => ⟨j, ρ, env, st, er, sr, p.val⟩
theorem tj_and (ha : PtJ X J a fa) (hb : PtJ X J b fb) : PtJ X J (.BoolOp .And [a, b] pos) (andF fa fb) :=
  (PW.mono (pw_and ha (pw_and1 hb)) fun σ H Q ⟨j, ρ, env, st, er, sr, p⟩ => ⟨j, ρ, env, st, er, sr, PostT.imp (PostT.test (g := fun k x st1 => if k = true then fb env st1 else .ok x st1) p) fun k H1 ⟨ρ1, st1, d, e1, s1, _, ht, p1⟩ => by
    cases k with
    | true => exact ⟨j, ρ1, env, st1, er.ext e1, s1, p1⟩
    | false =>
      obtain ⟨k', h, p1⟩ := p1
      rw [ht] at h; cases h
      exact p1 ρ1 H1 (.refl _ _) s1⟩).pt
theorem xj_ite (hc : PtJ X J c fc) (ha : PeJ X J a fa) (hb : PeJ X J b fb) : PeJ X J (.IfExp c a b pos) fun env st => (fc env st).bind fun x st1 => match truth x st1 with
    | some k => if k = true then fa env st1 else fb env st1
    | none => .bad :=
  PE.mono (pe_ifExp hc ha hb) fun σ H Q ⟨j, ρ, env, st, er, sr, p⟩ => ⟨j, ρ, env, st, er, sr, p.test.imp fun k H1 ⟨ρ1, st1, d, e1, s1, _, _, p1⟩ => by
    cases k with
    | true => exact ⟨j, ρ1, env, st1, er.ext e1, s1, p1⟩
    | false => exact ⟨j, ρ1, env, st1, er.ext e1, s1, p1⟩⟩
theorem cmp_post {K : PySem.W.Frag} {E : Str → Hp → Prop} {op : CmpOp} {ρ : Rho} {H : Hp} {env : Env} {st : Store} {Q : Bool → Hp → Prop} (p : PostT K E ρ H ((fa env st).bind fun x st1 => (fb env st1).bind fun y st2 => cmpop op x y st2) Q) :
    PostE K E ρ H ((fa env st).bind fun x st1 => (fb env st1).bind fun y st2 => cmpop op x y st2) fun v H1 => ∃ k, v = .bl k ∧ Q k H1 := by
  revert p
  generalize hr : (fa env st).bind (fun x st1 => (fb env st1).bind fun y st2 => cmpop op x y st2) = r
  intro p
  cases r with
  | bad => exact p
  | exc x st' => exact p
  | ok d st' =>
    obtain ⟨k, h, p⟩ := p
    obtain ⟨x, st1, _, h2⟩ := bind_ok hr
    obtain ⟨y, st2, _, h4⟩ := bind_ok h2
    obtain ⟨k', rfl, _⟩ := cmp_bl h4
    cases h
    exact fun v ρ' H' e s r => by cases (show v = _ from r); exact ⟨k, rfl, p ρ' H' e s⟩
theorem tj_cmp {op : CmpOp} (hu : X.A.units + 65 < cLine) (ha : PeJ X J a fa) (hb : PeJ X J b fb) (hm : behindInMarks op b = false) : PtJ X J (.Compare a [op] [b] pos) fun env st => (fa env st).bind fun x st1 => (fb env st1).bind fun y st2 => cmpop op x y st2 :=
  ⟨fun pins s σ H Q I ⟨j, ρ, env, st, er, sr, p⟩ => (pt_cmpR (cmpop_ok (E := W0 σ) hu op) ha hb hm).run pins s σ H Q I (twoJ σ H _ ⟨j, ρ, env, st, er, sr, cmp_post p⟩)⟩
theorem xj_blt {fl : Env → Store → R (List D)} {g : List D → Store → R D} {x : Str} {id : String} (hop : ∀ E, CallR X (.builtin id) (rBl X.K E g)) (hg : Gl X x) (hm : X.mg x = none) (hv : bootBuiltins x = some (.builtin id))
    (hl : PA X (a :: es) (tLJ X.K J fl)) (hn : x ≠ "__name__") (hd : (x == ("__debug__" : Str)) = false) (he : starEach (a :: es) X.env = (false, eval a X.env) :: starEach es X.env) (hpl : (backTo pos (starEach es X.env)).any (·.1) = false) :
    PeJ X J (.Call (.Name x p) (a :: es) [] pos) fun env st => (fl env st).bind fun ds st1 => g ds st1 :=
  ⟨fun pins s σ H Q I ⟨j, h⟩ => (pe_callB (hop (W0 σ)) hg hm hv hl hn hd he hpl).run pins s σ H Q I ⟨j, args_ok σ H Q h⟩⟩
end
end Ev

set_option Elab.async false
set_option linter.all false
set_option maxRecDepth 100000
set_option maxHeartbeats 1000000
/-! an except suite by its short form: the checker, and that it is sound -/
namespace Ev
open PySem PySem.Spec PyProof.Rows L2 HotX L2H
variable [TabsOf]
def chkHAll (rec : Expr → E → Bool) : List Expr → List E → Bool
  | [], [] => true
  | e :: es, m :: ms => rec e m && chkHAll rec es ms
  | _, _ => false
/-- isinstance(the exception, a class) -/
def chkIs (cv : Cv) (en : Str) (c : Str) : Expr → Bool
  | .Call (.Name f _) [.Name x _, .Name y _] [] _ => f == ("isinstance" : Str) && (glb cv.scope f && (x == en && (y == c && (glb cv.scope y && plainName y))))
  | _ => false
def chkHT (isC : Expr → Str → Bool) (rec : Expr → E → Bool) (e : Expr) (m : E) : Bool := match m with
  | .cmp op x y => match e with
    | .Compare a [op'] [b] _ => op' == op && (rec a x && rec b y)
    | _ => false
  | .isE c => isC e c
  | _ => false
/-- en: the name of the exception -/
def chkH (cv : Cv) (en : Str) : Nat → Expr → E → Bool
  | 0, _, _ => false
  | n + 1, e, m => match m with
    | .con d => chkCon e d
    | .var k => match e with
      | .Name x _ => cv.N[k]? == some x && (vis cv.scope x && plainName x)
      | _ => false
    | .isE c => chkIs cv en c e
    | .tup ms => match e with
      | .Tuple es _ _ => chkHAll (chkH cv en n) es ms && decide (ms.length ≤ 1000000)
      | _ => false
    | .lst ms => match e with
      | .List es _ => chkHAll (chkH cv en n) es ms && decide (ms.length ≤ 1000000)
      | _ => false
    | .bin op x y => match e with
      | .BinOp a op' b _ => op' == op && (chkH cv en n a x && chkH cv en n b y)
      | _ => false
    | .cmp op x y => match e with
      | .Compare a [op'] [b] _ => op' == op && (chkH cv en n a x && chkH cv en n b y)
      | _ => false
    | .ix x y => match e with
      | .Subscript a i _ => chkH cv en n a x && chkH cv en n i y
      | _ => false
    | .blt .len [x] => match e with
      | .Call (.Name f _) [a] [] _ => f == ("len" : Str) && (glb cv.scope f && chkH cv en n a x)
      | _ => false
    | .ite (.and c1 c2) x y => match e with
      | .IfExp (.BoolOp .And [a1, a2] _) a b _ => chkHT (fun e c => chkIs cv en c e) (chkH cv en n) a1 c1 && (chkHT (fun e c => chkIs cv en c e) (chkH cv en n) a2 c2 && (chkH cv en n a x && chkH cv en n b y))
      | _ => false
    | .ite c x y => match e with
      | .IfExp c' a b _ => chkHT (fun e c => chkIs cv en c e) (chkH cv en n) c' c && (chkH cv en n a x && chkH cv en n b y)
      | _ => false
    | _ => false
/-- what is known within the suite -/
structure GoodH (X : Cx) (cv : Cv) (en : Str) (J : L2.St → Prop) (cs : Consts) : Prop where
  nd : X.N.Nodup
  N : X.N = cv.N
  sc : X.env.scope = cv.scope
  blt : ∀ x ∈ bltNames, X.mg x = none
  hu : X.A.units + 65 < cLine
  hot : HotC X
  is : ∀ (c : Str) (p p1 p2 pos : Pos), glb cv.scope "isinstance" = true → glb cv.scope c = true → plainName c = true → PeJ X J (.Call (.Name "isinstance" p) [.Name en p1, .Name c p2] [] pos) fun _ st => R.of (lookS cs c) st
section
variable {X : Cx} {cv : Cv} {en : Str} {J : L2.St → Prop} {cs : Consts}
theorem GoodH.gl (g : GoodH X cv en J cs) {x : Str} (h : glb cv.scope x = true) : Gl X x := by
  unfold glb at h
  split at h
  · rename_i q
    show X.env.scope.names.lookup x = _
    rw [g.sc]; exact q
  · cases h
theorem is_ok (g : GoodH X cv en J cs) {c : Str} {e : Expr} (h : chkIs cv en c e = true) : okE e = true ∧ PeJ X J e (fun _ st => R.of (lookS cs c) st) ∧ ∀ whole, isTrue e X.env whole = (do let v ← whole; standAt e.pos; holding [v] (truthy v)) := by
  unfold chkIs at h
  split at h
  · rename_i f p x p1 y p2 pos
    simp only [Bool.and_eq_true, beq_iff_eq] at h
    obtain ⟨rfl, h1, rfl, rfl, h2, h3⟩ := h
    exact ⟨rfl, g.is y p p1 p2 pos h1 h2 h3, fun _ => rfl⟩
  · cases h
abbrev Φ0 : Fns := fun _ _ _ => .bad
theorem j_bad {e : Expr} {f : Fe} (h : ∀ env st, f env st = .bad) : PeJ X J e f := j_of (pe_false (tE_bad h))
theorem hall_ok {rec : Expr → E → Bool} {re : Ex} (hr : ∀ e m, rec e m = true → okE e = true ∧ PeJ X J e (re m)) : ∀ {es : List Expr} {ms : List E}, chkHAll rec es ms = true → (∀ e ∈ es, okE e = true) ∧ PA X es (tLJ X.K J (evs re ms))
  | [], [], _ => ⟨fun _ h => absurd h (by simp), lj_nil⟩
  | [], _ :: _, h => by cases h
  | _ :: _, [], h => by cases h
  | e :: es, m :: ms, h => by
    unfold chkHAll at h
    simp only [Bool.and_eq_true] at h
    obtain ⟨a, b⟩ := hr e m h.1
    obtain ⟨c, d⟩ := hall_ok hr h.2
    refine ⟨fun x hx => ?_, lj_cons b d (ok_star a)⟩
    rcases List.mem_cons.mp hx with z | z
    · rw [z]; exact a
    · exact c x z
/-- a test -/
theorem ht_ok {n k : Nat} (g : GoodH X cv en J cs) (ih : ∀ e m, chkH cv en n e m = true → okE e = true ∧ PeJ X J e (ev Φ0 cs k m)) {e : Expr} {m : E} (h : chkHT (fun e c => chkIs cv en c e) (chkH cv en n) e m = true) : PtJ X J e (ev Φ0 cs (k + 1) m) := by
  cases m with
  | cmp op x y =>
    dsimp only [chkHT] at h
    split at h
    · rename_i a op' b pos
      simp only [Bool.and_eq_true, beq_iff_eq] at h
      obtain ⟨rfl, h1, h2⟩ := h
      exact tj_cmp g.hu (ih a x h1).2 (ih b y h2).2 (ok_marks (ih b y h2).1)
    · cases h
  | isE c =>
    have q := is_ok g (show chkIs cv en c e = true from h)
    exact tj_val (fa := fun _ st => R.of (lookS cs c) st) q.2.1 q.2.2
  | _ => cases h
theorem evs_le {re : Ex} {ms : List E} (h : decide (ms.length ≤ 1000000) = true) : ∀ env st ds st', evs re ms env st = .ok ds st' → ds.length ≤ seqMax := fun env st ds st' q => by
  rw [evs_len q]; exact of_decide_eq_true h
theorem con_pe {d : D} {e : Expr} (h : chkCon e d = true) : okE e = true ∧ Pe X W0 e fun _ st => .ok d st := by
  unfold chkCon at h
  split at h
  · refine ⟨rfl, ?_⟩
    split at h
    · have := eq_of_beq h; subst this; exact x_const pe_int fun _ _ => rfl
    · have := eq_of_beq h; subst this; exact x_const pe_bl fun _ _ => rfl
    · exact x_const pe_non fun _ _ => rfl
    · have := eq_of_beq h; subst this; exact x_const pe_str fun _ _ => rfl
    · cases h
  · cases h
theorem h_oke : ∀ (n : Nat) (e : Expr) (m : E), chkH cv en n e m = true → okE e = true
  | 0, _, _, h => by cases h
  | n + 1, e, m, h => by
    cases m with
    | con d =>
      have h : chkCon e d = true := h
      unfold chkCon at h
      split at h
      · rfl
      · cases h
    | isE c =>
      have h : chkIs cv en c e = true := h
      unfold chkIs at h
      split at h
      · rfl
      · cases h
    | blt bf ms =>
      cases bf <;> cases ms with
      | nil => first | cases h
      | cons x xs =>
        cases xs with
        | cons y ys => cases h
        | nil =>
          first
            | (cases h; done)
            | (dsimp only [chkH] at h; split at h <;> first | rfl | cases h)
    | ite c x y => cases c <;> (dsimp only [chkH] at h; split at h <;> first | rfl | cases h)
    | _ => first | (cases h; done) | (dsimp only [chkH] at h; split at h <;> first | rfl | cases h)
theorem h_ok (g : GoodH X cv en J cs) : ∀ (n k : Nat) (e : Expr) (m : E), chkH cv en n e m = true → okE e = true ∧ PeJ X J e (ev Φ0 cs k m)
  | 0, _, _, _, h => by cases h
  | n + 1, 0, e, m, h => by
    exact ⟨h_oke (n + 1) e m h, j_bad fun _ _ => rfl⟩
  | n + 1, k + 1, e, m, h => by
    have ih := fun k e m h => h_ok g n k e m h
    cases m with
    | con d => exact ⟨(con_pe (X := X) h).1, j_of (con_pe h).2⟩
    | var i =>
      dsimp only [chkH] at h
      split at h
      · rename_i x p
        simp only [Bool.and_eq_true, beq_iff_eq] at h
        obtain ⟨h1, h2, h3⟩ := h
        exact ⟨rfl, j_of (x_var (by rw [g.N]; exact h1) (by rw [g.sc]; exact vis_ok h2) (plain_ok h3).1 (plain_ok h3).2.1)⟩
      · cases h
    | isE c =>
      have q := is_ok g (show chkIs cv en c e = true from h)
      exact ⟨q.1, q.2.1⟩
    | tup ms =>
      dsimp only [chkH] at h
      split at h
      · simp only [Bool.and_eq_true] at h
        exact ⟨rfl, xj_tup (hall_ok (fun e m h => ih k e m h) h.1).2 (evs_le h.2)⟩
      · cases h
    | lst ms =>
      dsimp only [chkH] at h
      split at h
      · simp only [Bool.and_eq_true] at h
        exact ⟨rfl, xj_lst (hall_ok (fun e m h => ih k e m h) h.1).2 (evs_le h.2)⟩
      · cases h
    | bin op x y =>
      dsimp only [chkH] at h
      split at h
      · rename_i a op' b pos
        simp only [Bool.and_eq_true, beq_iff_eq] at h
        obtain ⟨rfl, h1, h2⟩ := h
        exact ⟨rfl, xj_bin (ih k a x h1).2 (ih k b y h2).2⟩
      · cases h
    | cmp op x y =>
      dsimp only [chkH] at h
      split at h
      · rename_i a op' b pos
        simp only [Bool.and_eq_true, beq_iff_eq] at h
        obtain ⟨rfl, h1, h2⟩ := h
        exact ⟨rfl, xj_cmp g.hu (ih k a x h1).2 (ih k b y h2).2 (ok_marks (ih k b y h2).1)⟩
      · cases h
    | ix x y =>
      dsimp only [chkH] at h
      split at h
      · rename_i a b pos
        simp only [Bool.and_eq_true] at h
        exact ⟨rfl, xj_ix g.hu (ih k a x h.1).2 (ih k b y h.2).2 (ok_ix (ih k b y h.2).1)⟩
      · cases h
    | blt bf ms =>
      cases bf <;> cases ms with
      | nil => first | cases h
      | cons x xs =>
        cases xs with
        | cons y ys => cases h
        | nil =>
          first
            | (cases h; done)
            | (dsimp only [chkH] at h
               split at h
               · rename_i f p a pos
                 simp only [Bool.and_eq_true, beq_iff_eq] at h
                 obtain ⟨rfl, h1, h2⟩ := h
                 exact ⟨rfl, xj_blt (fun E => len_ok) (g.gl h1) (g.blt _ (by decide)) rfl (lj_cons (ih k a x h2).2 lj_nil (ok_star (ih k a x h2).1)) (by decide) (by decide) (ok_star (ih k a x h2).1) rfl⟩
               · cases h)
    | ite c x y =>
      cases c with
      | and c1 c2 =>
        dsimp only [chkH] at h
        split at h
        · rename_i a1 a2 p1 a b p
          simp only [Bool.and_eq_true] at h
          obtain ⟨h1, h2, h3, h4⟩ := h
          cases k with
          | zero => exact ⟨rfl, j_bad fun _ _ => rfl⟩
          | succ k =>
            cases k with
            | zero => exact ⟨rfl, j_bad fun _ _ => rfl⟩
            | succ k => exact ⟨rfl, xj_ite (tj_and (ht_ok g (ih k) h1) (ht_ok g (ih k) h2)) (ih _ a x h3).2 (ih _ b y h4).2⟩
        · cases h
      | _ =>
        dsimp only [chkH] at h
        split at h
        · simp only [Bool.and_eq_true] at h
          obtain ⟨h1, h3, h4⟩ := h
          cases k with
          | zero => exact ⟨rfl, j_bad fun _ _ => rfl⟩
          | succ k => exact ⟨rfl, xj_ite (ht_ok g (ih k) h1) (ih (k + 1) _ x h3).2 (ih (k + 1) _ y h4).2⟩
        · cases h
    | _ => cases h
end
end Ev

set_option Elab.async false
set_option linter.all false
set_option maxRecDepth 100000
set_option maxHeartbeats 1000000
namespace Ev
open PySem PySem.Spec PyProof.Rows L2 HotX L2H
variable [TabsOf]
section
variable {X : Cx} {cv : Cv} {en : Str} {J : L2.St → Prop} {cs : Consts}
/-! ### a comprehension over pairs, its list bound to a name -/
theorem g_tupH {X : Cx} {x1 it : Addr} {s0 : Shared} {H0 : Hp} {scope : Scope} {ce : PySem.Env} {es : List Expr} {ts : List T} {k : Nat} {pos : Pos} (h0 : HotS X x1 s0 H0 it) (h : PGs (X.blk s0 H0 scope ce [it]) es (tGs X.K ts)) (hl : es.length = ts.length)
    (hn : (assignEach es ce).length = es.length) (hst : (assignEach es ce).findIdx? (·.1) = none) : PG (X.blk s0 H0 scope ce [it]) (.Tuple es k pos) (tG X.K (.tup ts)) := by
  refine ⟨fun pins s σ H v u Q I r ⟨ρ, d, env, st, env', er, sr, rd, hb, q⟩ => ?_⟩
  cases d with
  | tup l =>
    obtain ⟨a, vs, rfl, h2, off, rl⟩ := rd
    cases r
    unfold bindT at hb
    obtain ⟨its, rv, ht, _⟩ := I.tuple (SqT.of h2)
    refine unpack_hot (h0.blk I) ht (by simp [hn, hl, bindTs_len hb, rl.length, rv.length]) hst fun h' hx => ?_
    exact h.run pins _ σ H vs _ Q (I.kept (t' := s.toks) hx) (by simpa using rv) ⟨ρ, l, env, st, env', er, sr, rl, hb, fun σ' e' w => q σ' e' fun vs h => w vs fun i hi => h i (by simpa [slots] using hi)⟩
  | _ => simp [bindT] at hb
theorem turnB_range {P : Program} {w : World} {K : PySem.W.Frag} {tg : Expr} (it : Addr) (lo : Int) (n : Nat) : TurnB P w K tg (Itr lo n) it (fun i h => IsRangeIter h it (lo + (i : Nat) * 1) ((n : Int) - (i : Nat)) 1) where
  obj := fun i h st => ⟨_, st, fun v z => by cases (show Data.fields _ = Data.cell v from z)⟩
  keep := fun i h h' st k => k _ st
  item := fun X hP hw hK i pins s σ H E I hf st hg => by
    subst hP hw hK
    have hlt : i < n := hg
    refine wpAny_pyNext_range_item st (by omega) fun h' st' sb => ?_
    have st2 : IsRangeIter h' it (lo + ((i + 1 : Nat) : Int) * 1) ((n : Int) - ((i + 1 : Nat) : Int)) 1 := by
      rw [show lo + ((i + 1 : Nat) : Int) * 1 = lo + ((i : Nat) : Int) * 1 + 1 by omega, show (n : Int) - ((i + 1 : Nat) : Int) = (n : Int) - ((i : Nat) : Int) - 1 by omega]; exact st'
    refine ⟨_, rfl, go_of (s := { s with heap := h', toks := s.toks + 1 }) (n := "range_iterator") st2 rfl rfl (by decide) ⟨.int (lo + i), H, I.turned (fun b o hb e => (sb.2 b hb).trans e) hf.1 hf.2.1 hf.2.2.2.1 hf.2.2.2.2.1 hf.2.2.2.2.2, ⟨s.toks, by rw [Int.mul_one]⟩, ⟨rfl, rfl⟩, st2, hf.1⟩⟩
  done := fun X hP hw hK x1 i pins s σ H E hot I hf st hg => by
    subst hP hw hK
    exact pyNext_range_end_hot hot st (by have : n ≤ i := hg; omega) fun h' eb => ⟨rfl, I.turned (t' := s.toks) (fun b o _ e => eb b o e) hf.1 hf.2.1 hf.2.2.2.1 hf.2.2.2.2.1 hf.2.2.2.2.2⟩
  self := fun _ _ _ _ _ st h => wpAny_pyIter_rangeiter st h
theorem pb_val {tg e : Expr} {f : Fe} (he : PeJ X J e f) : PB X tg e fun σ H Rq => J σ ∧ tI X.K W0 (fun env st => (f env st).bind fun d st1 => R.of (itemsOf d st1) st1) σ H Rq := by
  refine ⟨fun pins s σ H Rq I ⟨j, ρ, env, st, er, sr, p⟩ => thn (he.run pins s σ H _ I ⟨j, ρ, env, st, er, sr, PostI.step p⟩) fun v s1 ⟨x, H1, I1, r1, ρ1, st1, d, e1, s1', rd, _, p1⟩ => ?_⟩
  have news : FpOk X pins H1 s1.heap.objs.size := I1.fpOk (Nat.le_refl _) (I1.hok.fresh (Nat.le_refl _))
  dsimp only at p1
  cases d with
  | tup l =>
    obtain ⟨t', vs, rfl, h2, off, rl⟩ := rd
    cases r1
    obtain ⟨its, rv, pl, _⟩ := I1.tuple (SqT.of h2)
    exact wpAny_pyIter_tuple (show s1.heap.IsTuple t' its.toArray from pl) ⟨s1.heap.objs.size, _, _, H1, rfl, I1.kept (t' := s1.toks) fun b o e => Heap.get?_push_of_some _ e, turnB_tuple t' _, ⟨_, Heap.get?_push_size _ rfl, rfl, rfl⟩, news, p1 _ ρ1 H1 (.refl _ _) s1' (wk_tup h2 off rl)⟩
  | lst l =>
    obtain ⟨t', vs, rfl, h2, off, rl⟩ := rd
    cases r1
    obtain ⟨its, rv, pl, _⟩ := I1.list (SqL.of h2)
    exact wpAny_pyIter_list pl.isList ⟨s1.heap.objs.size, _, _, H1, rfl, I1.kept (t' := s1.toks) fun b o e => Heap.get?_push_of_some _ e, turnB_list t' _, ⟨_, Heap.get?_push_size _ rfl, rfl, rfl⟩, news, p1 _ ρ1 H1 (.refl _ _) s1' (wk_lst h2 off rl)⟩
  | rng lo hi =>
    obtain ⟨t', rfl, h2, off⟩ := rd
    cases r1
    unfold itemsOf at p1
    dsimp only at p1
    split at p1
    · obtain ⟨t1, u1, v1, hr⟩ : ∃ t1 u1 v1, s1.heap.get? t' = some { cls := .type "range", data := .fields #[.int lo t1, .int hi u1, .int 1 v1] } := I1.hok t' _ h2
      refine wpAny_pyIter_range (show IsRange s1.heap t' lo hi 1 t1 u1 v1 from hr) (small_one (by omega) (by omega) (by omega) (by omega)) ⟨s1.heap.objs.size, _, _, H1, rfl, I1.kept (t' := s1.toks) fun b o e => Heap.get?_push_of_some _ e, turnB_range _ lo (hi - lo).toNat, ?_, news, p1 _ ρ1 H1 (.refl _ _) s1' wk_rng⟩
      show IsRangeIter _ _ (lo + ((0 : Nat) : Int) * 1) ((((hi - lo).toNat : Nat) : Int) - ((0 : Nat) : Int)) 1
      rw [show lo + ((0 : Nat) : Int) * 1 = lo by simp, show (((hi - lo).toNat : Nat) : Int) - ((0 : Nat) : Int) = Builtin.Range.rangeSize lo hi 1 by rw [rangeSize_one]; split <;> omega]
      exact Heap.get?_push_size _ rfl
    · exact p1.elim
  | _ => exact p1.elim
/-! ### the checker of a suite -/
def chkHNm (cv : Cv) (x : Str) (i : Nat) : Bool := cv.N[i]? == some x && (locl cv.scope x && (cv.fnc x || isLocal cv.scope x))
def chkHVar (cv : Cv) (x : Str) (i : Nat) : Bool := cv.N[i]? == some x && (vis cv.scope x && plainName x)
/-- y = [x for a, b in it if c] -/
def chkHLc (cv : Cv) (en : Str) (y : Str) (py : Pos) (e : Expr) (m : E) : Bool := match e, m with
  | .ListComp (.Name x _) [⟨.Tuple [.Name a _, .Name b _] _ _, it, [.Name c _], k⟩] scope pos, .lc (.var i) [.mk (.tup [.name ia, .name ib]) mi [.var ic]] own =>
    k == 0 && (cv.scope.kind == .function && (isLocal cv.scope y && (py.line == pos.line && (!(scope.names.any fun (n, k) => n == y && (k == .local || k == .cell)) && (blkOk cv scope own && (chkH cv en 20 it mi &&
      (chkHNm (cv.blk scope) a ia && (chkHNm (cv.blk scope) b ib && (chkHVar (cv.blk scope) c ic && (chkHVar (cv.blk scope) x i && (own.contains ia && own.contains ib)))))))))))
  | _, _ => false
def chkHB (cv : Cv) (en : Str) (ei : Nat) : List Stmt → List S → Bool
  | [.Return (some e) _], [.ret me] => chkH cv en 20 e me
  | .Assign [.Name x px] e _ :: ss, .set (.name j) me :: ms => cv.N[j]? == some x && (isLocal cv.scope x && (!(j == ei) && (((!isComp e && chkH cv en 20 e me) || chkHLc cv en x px e me) && chkHB cv en ei ss ms)))
  | _, _ => false
theorem evI_gen {rec : Ex} {n : Nat} {e : Expr} {m : E} (h : chkH cv en n e m = true) (env : Env) (st : Store) : evI rec m env st = (rec m env st).bind fun d st1 => R.of (itemsOf d st1) st1 := by
  cases n with
  | zero => cases h
  | succ n =>
    cases m with
    | blt bf ms => cases bf <;> first | rfl | (cases h; done)
    | _ => first | rfl | (cases h; done)
/-! ### the suite -/
theorem nm_ok {cv' : Cv} {Y : Cx} (hN : Y.N.Nodup) (gN : Y.N = cv'.N) (gs : Y.env.scope = cv'.scope) (gf : ∀ x, cv'.fnc x = true → Y.fn x = true) {x : Str} {i : Nat} {p : Pos} (h : chkHNm cv' x i = true) : PG Y (.Name x p) (tG Y.K (.name i)) := by
  unfold chkHNm at h
  simp only [Bool.and_eq_true, Bool.or_eq_true, beq_iff_eq] at h
  obtain ⟨h1, h2, h3⟩ := h
  exact g_name hN (by rw [gN]; exact h1) (by rw [gs]; exact locl_ok h2) (h3.elim (fun h => .inl (gf x h)) fun h => .inr (by rw [gs]; exact isLocal_ok h))
theorem var_pe {cv' : Cv} {Y : Cx} (gN : Y.N = cv'.N) (gs : Y.env.scope = cv'.scope) {x : Str} {i : Nat} {p : Pos} {cs : Consts} {k : Nat} (h : chkHVar cv' x i = true) : Pe Y W0 (.Name x p) (ev Φ0 cs (k + 1) (.var i)) := by
  unfold chkHVar at h
  simp only [Bool.and_eq_true, beq_iff_eq] at h
  exact x_var (by rw [gN]; exact h.1) (by rw [gs]; exact vis_ok h.2.1) (plain_ok h.2.2).1 (plain_ok h.2.2).2.1
theorem fnc_blk {scope : Scope} {s : Shared} {H : Hp} {ce : PySem.Env} {it : Addr} : ∀ x, (cv.blk scope).fnc x = true → (X.blk s H scope ce [it]).fn x = true := fun x h => by
  show (scope.names.lookup x == some .cell) = true
  unfold Cv.fnc at h
  dsimp only at h
  split at h
  · rename_i q; rw [q]; rfl
  · cases h
theorem hlc_ok (g : GoodH X cv en J cs) {y : Str} {py pos : Pos} {e : Expr} {m : E} {j k : Nat} (hy : X.N[j]? = some y) (h : chkHLc cv en y py e m = true) : PS X (.Assign [.Name y py] e pos) (tAsg (tEJ X.K J (ev Φ0 cs (k + 2) m)) (gName j)) := by
  unfold chkHLc at h
  split at h
  · rename_i x px a pa b pb kt pt it c pc kk scope p i ia ib mi ic own
    simp only [Bool.and_eq_true, Bool.not_eq_true', beq_iff_eq] at h
    obtain ⟨rfl, h1, h2, h3, h4, h5, h6, h7, h8, h9, h10, h11, h12⟩ := h
    have sc : ∀ (C : Addr) (cl : List (Str × Addr)) (s : Shared) (H : Hp) (it : Addr), (X.blk s H scope (ceOf X scope cl C) [it]).env.scope = (cv.blk scope).scope := fun C cl s H it => by
      show relS scope X.env.scope = relS scope cv.scope
      rw [g.sc]
    have yl : X.env.scope.names.lookup y = some .local := by rw [g.sc]; exact isLocal_ok h2
    have q := ps_setHot (X := X) (i := j) (y := y) (py := py) (spos := pos) (pos := p) (elt := .Name x px) (tg := .Tuple [.Name a pa, .Name b pb] kt pt) (iter := it) (ifs := [.Name c pc]) (scope := scope) (own := ownOf cv own) (te := tE X.K W0 (ev Φ0 cs (k + 1) (.var i))) (g := tG X.K (.tup [.name ia, .name ib]))
      (tt := tB' X.K W0 fun env st => (ev Φ0 cs (k + 1) (.var ic) env st).bind fun d st1 => match truth d st1 with
        | some b => .ok b st1
        | none => .bad) g.hot g.nd hy yl
      (sw_true (by rw [g.sc]; exact h1) yl (by rw [h3]; exact beq_self_eq_true _) h4) (pb_val (h_ok g 20 (k + 1) it mi h6).2) (blk_ok' h5 g.N g.sc)
      (fun s H C cl it x1 h0 => g_tupH (ts := [.name ia, .name ib]) h0 (g_cons (nm_ok (Y := X.blk s H scope (ceOf X scope cl C) [it]) (cv' := cv.blk scope) g.nd g.N (sc C cl s H it) fnc_blk h7) (g_cons (nm_ok (Y := X.blk s H scope (ceOf X scope cl C) [it]) (cv' := cv.blk scope) g.nd g.N (sc C cl s H it) fnc_blk h8) g_nil rfl) rfl) rfl rfl rfl)
      (fun s H C cl it => b_one (t_val (fa := ev Φ0 cs (k + 1) (.var ic)) (var_pe (Y := X.blk s H scope (ceOf X scope cl C) [it]) (cv' := cv.blk scope) g.N (sc C cl s H it) h9) fun _ => rfl))
      (fun s H C cl it => var_pe (Y := X.blk s H scope (ceOf X scope cl C) [it]) (cv' := cv.blk scope) g.N (sc C cl s H it) h10) (ok_fold (h_ok g 20 1 it mi h6).1)
    refine PS.mono q fun D σ H ⟨jj, r⟩ => ?_
    have hl := lc_read (K := X.K) (W := W0) (t := .tup [.name ia, .name ib]) (fi := fun env st => (ev Φ0 cs (k + 1) mi env st).bind fun d st1 => R.of (itemsOf d st1) st1) (fe := ev Φ0 cs (k + 1) (.var i)) (own := ownOf cv own)
      (ft := fun env st => (ev Φ0 cs (k + 1) (.var ic) env st).bind fun d st1 => match truth d st1 with
        | some b => .ok b st1
        | none => .bad) (fun z hz => by
        rw [ownOf_snd]
        simp [slots, slotss] at hz
        rcases hz with rfl | rfl
        · exact List.contains_iff_mem.mp h11
        · exact List.contains_iff_mem.mp h12) σ H (fun x H1 => gName j x σ H1 D.nx) (by
        obtain ⟨ρ, env, st, er, sr, pp⟩ := r
        refine ⟨ρ, env, st, er, sr, ?_⟩
        have e : ev Φ0 cs (k + 2) (.lc (.var i) [.mk (.tup [.name ia, .name ib]) mi [.var ic]] own) env st = lcF (fun env st => (ev Φ0 cs (k + 1) mi env st).bind fun d st1 => R.of (itemsOf d st1) st1) (oneF (.tup [.name ia, .name ib]) (fun env st => (ev Φ0 cs (k + 1) (.var ic) env st).bind fun d st1 => match truth d st1 with
            | some b => .ok b st1
            | none => .bad) (ev Φ0 cs (k + 1) (.var i))) own env st := by
          show (evI (ev Φ0 cs (k + 1)) mi env st).bind _ = _
          rw [evI_gen h6]
          rfl
        rw [e] at pp
        rw [ownOf_snd]
        exact pp)
    exact ⟨jj, hl⟩
  · cases h
end
end Ev

set_option Elab.async false
set_option linter.all false
set_option maxRecDepth 100000
set_option maxHeartbeats 1000000
namespace Ev
open PySem PySem.Spec PyProof.Rows L2 HotX L2H
variable [TabsOf]
section
variable {X : Cx} {cv : Cv} {en : Str} {J : L2.St → Prop} {cs : Consts} {ei : Nat}
/-- the readings of a suite -/
abbrev tSJ (K : PySem.W.Frag) (J : L2.St → Prop) (f : Fs) : TS := fun D σ H => J σ ∧ tS K W0 f D σ H
theorem exs_ret {ee : Ex} {b : Nat} {me : E} {env : Env} {st : Store} : exs (ex ee (b + 1)) [.ret me] env st = (ee me env st).bind fun d st1 => .ok (.ret d) st1 := by
  show ((ee me env st).bind fun d st1 => (.ok (.ret d) st1 : R F)).bind _ = _
  cases ee me env st <;> rfl
theorem exs_set {ee : Ex} {b : Nat} {me : E} {j : Nat} {ms : List S} {env : Env} {st : Store} : exs (ex ee (b + 1)) (.set (.name j) me :: ms) env st = (ee me env st).bind fun d st1 => if j < env.length then exs (ex ee (b + 1)) ms (env.set j (some d)) st1 else .bad := by
  show ((ee me env st).bind fun d st1 => (match bindT (.name j) d env with
    | some env1 => .ok (.next env1) st1
    | none => .bad : R F)).bind _ = _
  cases ee me env st with
  | ok d st1 =>
    show (match bindT (.name j) d env with
    | some env1 => .ok (.next env1) st1
    | none => .bad : R F).bind _ = if j < env.length then _ else _
    unfold bindT
    split
    · rename_i h
      split at h
      · rename_i hl
        cases h
        rw [if_pos hl]; rfl
      · cases h
    · rename_i h
      split at h
      · cases h
      · rename_i hl
        rw [if_neg hl]; rfl
  | exc x st' => rfl
  | bad => rfl
theorem hb_ok (g : GoodH X cv en J cs) (hJ : ∀ (j : Nat) (v : Option V) (σ : L2.St), j ≠ ei → J σ → J (σ.set j v)) (k b : Nat) : ∀ (ss : List Stmt) (ms : List S), chkHB cv en ei ss ms = true → PSs X ss (tSJ X.K J (exs (ex (ev Φ0 cs (k + 2)) (b + 1)) ms))
  | [], ms, h => by simp [chkHB] at h
  | s :: ss, [], h => by simp [chkHB] at h
  | s :: ss, m :: ms, h => by
    unfold chkHB at h
    split at h
    · rename_i e p me heq heq2
      cases heq; cases heq2
      refine PSs.mono (pss_one (ps_ret (h_ok g 20 (k + 2) e me h).2)) fun D σ H ⟨j, ρ, env, st, er, sr, q⟩ => ⟨j, ρ, env, st, er, sr, ?_⟩
      rw [exs_ret] at q
      exact PostE.imp (PostS.step σ q) fun v H1 ⟨ρ1, st1, d, e1, s1, r1, _, p1⟩ => p1 v ρ1 H1 (.refl _ _) s1 r1
    · rename_i x px e p ss' j me ms' heq heq2
      cases heq; cases heq2
      simp only [Bool.and_eq_true, Bool.or_eq_true, Bool.not_eq_true', beq_iff_eq] at h
      obtain ⟨h1, h2, h3, h4, h5⟩ := h
      have hN : X.N[j]? = some x := by rw [g.N]; exact h1
      have hx : X.env.scope.names.lookup x = some .local := by rw [g.sc]; exact isLocal_ok h2
      have nj : j ≠ ei := fun z => by rw [z] at h3; simp at h3
      have set : PS X (.Assign [.Name x px] e p) (tAsg (tEJ X.K J (ev Φ0 cs (k + 2) me)) (gName j)) := by
        rcases h4 with ⟨hc, he⟩ | he
        · obtain ⟨oe, pe⟩ := h_ok g 20 (k + 2) e me he
          exact ps_set g.nd hN (.inl hx) pe (ok_swap oe hc) (.inr hx)
        · exact hlc_ok g hN he
      refine PSs.mono (pss_cons set (hb_ok g hJ k b ss ms h5)) fun D σ H ⟨jj, ρ, env, st, er, sr, q⟩ => ⟨jj, ρ, env, st, er, sr, ?_⟩
      rw [exs_set] at q
      exact PostE.imp (PostS.step σ q) fun v H1 ⟨ρ1, st1, d, e1, s1, r1, _, p1⟩ => by
        dsimp only at p1
        split at p1
        · exact ⟨hJ j _ σ nj jj, ρ1, _, st1, (er.ext e1).set r1, s1, p1⟩
        · exact p1.elim
    · cases h
end
/-! ### isinstance of the exception -/
/-- a class by its name: a class of the module, or a built-in one -/
def ClsN (mg : Str → Option Value) (c : Str) (v : V) (u : Value) : Prop := (∃ A, mg c = some (.ref A) ∧ v = .ref A ∧ u = .ref A) ∨ (∃ T, mg c = none ∧ bootBuiltins c = some (.type T) ∧ c ≠ "__name__" ∧ v = .ty T ∧ u = .type T)
/-- what the classes must say -/
structure WF (K : PySem.W.Frag) (mg : Str → Option Value) (d : FD) : Prop where
  cl : ∀ q ∈ d.hd, ∃ A, mg q.1 = some (.ref A)
  fac : ∀ y C, (d.sup.lookup y).isSome = true → mg y = some (.ref C) → ExcC K C ∧ (∀ c ∈ d.cls, ∃ v u, ClsN mg c v u ∧ PySem.W.kitOne K (.ref C) u = some (d.isOf y c)) ∧ ∀ q ∈ d.hd, ∃ A, mg q.1 = some (.ref A) ∧ PySem.W.exmOne K (.ref C) (.ref A) = some (d.isOf y q.1)
section
variable {X : Cx} {cv : Cv}
abbrev Jat (ei : Nat) (a : Addr) : L2.St → Prop := fun σ => σ[ei]? = some (some (.ref a))
theorem is_fact {a C : Addr} {oe : Obj} {pn : List (Addr × Obj)} {d : FD} {y en : Str} {ei : Nat} (f : WF X.K X.mg d) (hy : (d.sup.lookup y).isSome = true) (hC : X.mg y = some (.ref C)) (hz : Zc (.ref C) none oe) (hf : ∃ vs, oe.data = .fields vs) (sc : X.env.scope = cv.scope)
    (hm : X.mg "isinstance" = none) (hN : X.N[ei]? = some en) (hv : Vis X.env.scope en) (hd : (en == ("__debug__" : Str)) = false) (hcd : (en == ("__classdict__" : Str)) = false)
    (c : Str) (p p1 p2 pos : Pos) (g1 : glb cv.scope "isinstance" = true) (g2 : glb cv.scope c = true) (g3 : plainName c = true) :
    PeJ (X.suite a ((a, oe) :: pn)) (Jat ei a) (.Call (.Name "isinstance" p) [.Name en p1, .Name c p2] [] pos) fun _ st => R.of (lookS (d.isTab y) c) st := by
  rw [lookS_eq]
  have gl : ∀ {x : Str}, glb cv.scope x = true → Gl (X.suite a ((a, oe) :: pn)) x := fun {x} h => by
    unfold glb at h
    split at h
    · rename_i q
      show X.env.scope.names.lookup x = _
      rw [sc]; exact q
    · cases h
  by_cases hc : c ∈ d.cls
  · obtain ⟨E, hk, _⟩ := f.fac y C hy hC
    obtain ⟨v, u, hn, hk⟩ := hk c hc
    have lk : (d.isTab y).lookup c = some (.bl (d.isOf y c)) := by
      have key : ∀ l : List Str, c ∈ l → (l.map fun c => (c, D.bl (d.isOf y c))).lookup c = some (.bl (d.isOf y c)) := fun l => by
        induction l with
        | nil => intro h; cases h
        | cons z l ih =>
          intro h
          rw [List.map_cons, List.lookup_cons]
          split
          · rename_i q; rw [eq_of_beq q]
          · rename_i q
            rcases List.mem_cons.mp h with w | w
            · rw [w] at q; simp at q
            · exact ih w
      exact key _ hc
    rw [lk]
    have pc : PE (X.suite a ((a, oe) :: pn)) (.Name c p2) (tC v) := by
      rcases hn with ⟨A, h1, rfl, rfl⟩ | ⟨T, h1, h2, h3, rfl, rfl⟩
      · exact pe_glob (X := X.suite a ((a, oe) :: pn)) (gl g2) h1 rfl (plain_ok g3).1
      · exact pe_bltn (X := X.suite a ((a, oe) :: pn)) (gl g2) h1 h2 rfl h3 (plain_ok g3).1
    have hu : ∀ w, RelV v w → w = u := fun w r => by
      rcases hn with ⟨A, h1, rfl, rfl⟩ | ⟨T, h1, h2, h3, rfl, rfl⟩
      · exact r
      · exact r
    refine PE.mono (pe_callB (X := X.suite a ((a, oe) :: pn)) (call_isE E hz hf) (gl g1) hm rfl (pa_cons (pe_var (X := X.suite a ((a, oe) :: pn)) (i := ei) hN hv hd hcd) (pa_cons pc pa_nil rfl) rfl) (by decide) (by decide) rfl rfl) fun σ H Q ⟨j, ρ, env, st, er, sr, q⟩ => ?_
    exact ⟨.ref a, j, v, u, _, rfl, hu, hk, q.here (d := .bl (d.isOf y c)) sr rfl⟩
  · have lk : (d.isTab y).lookup c = none := by
      have key : ∀ l : List Str, c ∉ l → (l.map fun c => (c, D.bl (d.isOf y c))).lookup c = none := fun l => by
        induction l with
        | nil => intro _; rfl
        | cons z l ih =>
          intro h
          rw [List.map_cons, List.lookup_cons]
          split
          · rename_i q; exact absurd (by rw [eq_of_beq q]; exact List.mem_cons_self) h
          · exact ih fun w => h (List.mem_cons_of_mem _ w)
      exact key _ hc
    rw [lk]
    exact j_bad fun _ _ => rfl
end
end Ev

set_option Elab.async false
set_option linter.all false
set_option maxRecDepth 100000
set_option maxHeartbeats 1000000
namespace Ev
open PySem PySem.Spec PyProof.Rows L2 HotX L2H
variable [TabsOf]
/-! ### a def that calls what it is given: try: a() except c as en: suite; return s -/
abbrev cvW (d : FD) (sg : Scope) : Cv := { N := d.N, scope := sg, fs := none, fns := [], exc := [] }
def chkW (d : FD) (sg : Scope) (a : Str) (bg : List Stmt) : Bool := match bg with
  | [.Try [.Expr (.Call (.Name a' _) [] [] _) _] [.ExceptHandler (some (.Name c _)) (some en) (b :: ss) _] [] [] _, .Return (some (.Constant (.str z) _ _)) _] => match d.hd, d.body with
    | [(c', hs)], [.ret (.con (.str z'))] => a' == a && (c' == c && (z' == z && (glb sg c && (plainName c && (d.N[0]? == some a && (d.N[1]? == some en && (isLocal sg en && (plainName en && (chkHB (cvW d sg) en 1 (b :: ss) hs && (d.fuel == 40 && (sg.kind == .function && plainName a)))))))))))
    | _, _ => false
  | _ => false
theorem chkW_ok {d : FD} {sg : Scope} {a : Str} {bg : List Stmt} (h : chkW d sg a bg = true) : d.N[0]? = some a ∧ (a == ("__debug__" : Str)) = false ∧ (a == ("__classdict__" : Str)) = false := by
  unfold chkW at h
  split at h
  · split at h
    · simp only [Bool.and_eq_true, beq_iff_eq] at h
      exact ⟨h.2.2.2.2.2.1, (plain_ok h.2.2.2.2.2.2.2.2.2.2.2.2).1, (plain_ok h.2.2.2.2.2.2.2.2.2.2.2.2).2.1⟩
    · cases h
  · cases h
theorem endW_ok {K : PySem.W.Frag} {ρ : Rho} {H : Hp} {n : Nat} {r : R F} {D : Ends} (hn : n = ρ.cells.length) (p : PostE K (fun _ _ => False) ρ H (endW n r) D.rt) : PostS K W0 D ρ H r := by
  subst hn
  cases r with
  | ok f st' =>
    cases f with
    | ret d => exact fun v ρ' H' e s r => trunc_ok (v := d) p e s r
    | _ => exact p.elim
  | exc x st' => exact fun σ' ρ' H' e s => p ρ' H' e s
  | bad => exact p.elim
theorem start_len {N : List Str} {v : V} {x : Str} (h : N[0]? = some x) : (L2.start N [v]).length = N.length := by
  unfold L2.start
  have := (List.getElem?_eq_some_iff.mp h).1
  simp; omega
theorem env_none {K : PySem.W.Frag} {ρ : Rho} {H : Hp} {n : Nat} {σ : L2.St} (h : σ.length = n) : EnvR K ρ H (List.replicate n none) σ :=
  ⟨by simp [h], fun i d q => by rw [List.getElem?_replicate] at q; split at q <;> cases q⟩
theorem word_gives {P : Program} {w : World} {K : PySem.W.Frag} {mg : Str → Option Value} {base : Heap} {G : List D → Store → R D} {d : FD} {x a : Str} {sg : Scope} {g : Addr} {cdg : Value} {bg : List Stmt}
    (hc : chkW d sg a bg = true) (F : WF K mg d) (nd : d.N.Nodup) (hb : ∀ x ∈ bltNames, mg x = none) (hG : ∀ args st, G args st = runW d args st ∨ G args st = .bad) : GivesN P w K mg base G d.N x sg g cdg bg a := by
  unfold chkW at hc
  split at hc
  · rename_i a' q1 q2 q3 c q4 en b ss q5 q6 z q7 q8 q9
    split at hc
    · rename_i c' hs z' hhd hbody
      simp only [Bool.and_eq_true, beq_iff_eq] at hc
      obtain ⟨rfl, rfl, rfl, h1, h2, h3, h4, h5, h6, h7, h8, h9, h10⟩ := hc
      intro A outer q f c1 s H Q tl act mono hun hco tt
      have lnm := isLocal_ok h5
      have visn : Vis sg en := .inl lnm
      have gl : ∀ {y : Str}, glb sg y = true → sg.names.lookup y = some .globalImplicit := fun {y} h => by
        unfold glb at h
        split at h
        · rename_i q; exact q
        · cases h
      -- the class that the clause names
      obtain ⟨CS, hCS⟩ := F.cl (c', hs) (by rw [hhd]; exact List.mem_cons_self)
      · skip
        refine ⟨_, pss_cons (L2N.ps_try_as (X := (gCx P w K mg base d.N x sg g cdg A outer s H).nox) (i := 1) (x := c') (n := en) (c := .ref CS)
          (tb := fun W D σ H => ∃ Ech : XK, σ[0]? = some (some (.ref f)) ∧ H c1 = some (LamX.CodeO c1 q) ∧ (∀ cls d H', Ech cls d H' → W cls d σ H') ∧ tl Ech H fun _ H' => D.nx σ H')
          (ts := fun a cls dd D σ H => Jat 1 a σ ∧ ∃ y C, cls = .ref C ∧ dd = none ∧ mg y = some (.ref C) ∧ (d.sup.lookup y).isSome = true ∧ tS K W0 (exs (ex (ev Φ0 (d.isTab y) d.fuel) d.fuel) hs) D σ H)
          rfl rfl nd h4 lnm ⟨gl h1, (plain_ok h2).1, .inl hCS⟩ takes0N (fun W pn xe tk _ => ?_) fun a oe cls dd pn hz hf => ?_) (pss_one (ps_ret pe_str)), ?_⟩
        · exact ⟨fun pins s' σ H' D I ⟨Ech, r1, r2, r3, r4⟩ => (pss_one (ps_expr (act W pn xe Ech q1 q2 tk))).run pins s' σ H' D I ⟨r1, r2, r3, r4⟩⟩
        · refine ⟨fun pins s' σ H' D I ⟨j, y, C, e1, e2, hC, hy, t⟩ => ?_⟩
          subst e1 e2
          obtain ⟨vs, hvs⟩ := hf
          have g : GoodH ((gCx P w K mg base d.N x sg g cdg A outer s H).nox.suite a ((a, oe) :: pn)) (cvW d sg) en (Jat 1 a) (d.isTab y) :=
            { nd := nd
              N := rfl
              sc := rfl
              blt := hb
              hu := hun
              hot := ⟨(a, oe), ⟨rfl, vs, hvs, hz.2.2 vs hvs⟩, List.mem_cons_self⟩
              is := fun c p p1 p2 pos g1 g2 g3 => is_fact (X := (gCx P w K mg base d.N x sg g cdg A outer s H).nox) (cv := cvW d sg) F hy hC ⟨hz.1, hz.2.1⟩ ⟨vs, hvs⟩ rfl (hb _ (by decide)) h4 visn (plain_ok h6).1 (plain_ok h6).2.1 c p p1 p2 pos g1 g2 g3 }
          have hf40 : d.fuel = 38 + 2 := h8
          rw [hf40] at t
          exact (hb_ok g (fun j v σ nj hj => by show (σ.set j v)[1]? = _; rw [List.getElem?_set_ne nj]; exact hj) 38 39 (b :: ss) hs h7).run pins s' σ H' D I ⟨j, t⟩
        · have hlen := start_len (v := V.ref f) h3
          have hl1 : 1 < d.N.length := (List.getElem?_eq_some_iff.mp h4).1
          refine ⟨fun cls dd H' => ∃ y C ρ st, cls = .ref C ∧ dd = none ∧ mg y = some (.ref C) ∧ StR K ρ H' st ∧ PostE K (fun _ _ => False) ρ H' (G [.str y] st) Q, rfl, hco, fun cls dd H' ⟨y, C, ρ, st, e1, e2, hC, sr, pp⟩ => ?_, mono _ _ _ _ _ (fun _ _ _ z => z) (fun v H' ⟨ρ, st, sr, pp⟩ => ?_) tt⟩
          · subst e1 e2
            have hr : G [.str y] st = runW d [.str y] st := (hG [.str y] st).elim id fun z => by rw [z] at pp; exact pp.elim
            rw [hr] at pp
            have hfd : d.isOf y c' = true := by
              cases q : d.isOf y c' with
              | true => rfl
              | false =>
                unfold runW at pp
                rw [hhd] at pp
                simp [List.find?, q] at pp
                exact pp.elim
            have hrun : runW d [.str y] st = endW st.length (exs (ex (ev Φ0 (d.isTab y) d.fuel) d.fuel) hs (List.replicate d.N.length none) st) := by
              unfold runW
              rw [hhd]
              simp only [List.find?, hfd]
            rw [hrun] at pp
            have hy : (d.sup.lookup y).isSome = true := by
              unfold FD.isOf at hfd
              cases q : d.sup.lookup y with
              | none => rw [q] at hfd; cases hfd
              | some l => rfl
            obtain ⟨A1, hA, hx⟩ := (F.fac y C hy hC).2.2 (c', hs) (by rw [hhd]; exact List.mem_cons_self)
            rw [hCS] at hA; cases hA
            refine ⟨true, hx.trans (by rw [hfd]), fun _ a' na => ⟨by show ((L2.start d.N [V.ref f]).set 1 _)[1]? = _; rw [List.getElem?_set_self (by rw [hlen]; exact hl1)], y, C, rfl, rfl, hC, hy, ρ, List.replicate d.N.length none, st, env_none (by rw [List.length_set, hlen]), sr, endW_ok sr.len pp⟩, fun z => by cases z⟩
          · have hr : G [] st = runW d [] st := (hG [] st).elim id fun z => by rw [z] at pp; exact pp.elim
            rw [hr] at pp
            have hrun : runW d [] st = .ok (.str z') st := by
              unfold runW
              rw [hbody, show d.fuel = 38 + 2 from h8]
              show trunc st.length (.str z') st = _
              unfold trunc
              rw [if_pos rfl]
            rw [hrun] at pp
            exact PostE.here (d := .str z') (st := st) pp sr rfl
    · cases hc
  · cases hc
end Ev

set_option Elab.async false
set_option linter.all false
set_option maxRecDepth 100000
set_option maxHeartbeats 1000000
namespace Ev
open PySem PySem.Spec PyProof.Rows L2
variable [TabsOf]
variable {K : PySem.W.Frag}
structure Df where
  name : Str
  st : Stmt
  fd : FD
def tabOf (l : List Df) : Tab := l.map fun d => (d.name, d.fd)
def fnsOf (l : List Df) : List (Str × Nat) := l.map fun d => (d.name, d.fd.ps.length)
theorem look_df : ∀ {l : List Df} {x : Str} {fd : FD}, (tabOf l).lookup x = some fd → ∃ d ∈ l, d.name = x ∧ d.fd = fd
  | [], _, _, h => by simp [tabOf] at h
  | d :: l, x, fd, h => by
    unfold tabOf at h
    rw [List.map_cons, List.lookup_cons] at h
    split at h
    · rename_i q
      cases h
      exact ⟨d, List.mem_cons_self, (eq_of_beq q).symm, rfl⟩
    · obtain ⟨d', h1, h2⟩ := look_df (l := l) h
      exact ⟨d', List.mem_cons_of_mem _ h1, h2⟩
theorem look_app {l m : List Df} {x : Str} {fd : FD} (h : (tabOf l).lookup x = some fd) : (tabOf (l ++ m)).lookup x = some fd := by
  induction l with
  | nil => simp [tabOf] at h
  | cons d l ih =>
    unfold tabOf at h ⊢
    rw [List.cons_append, List.map_cons, List.lookup_cons] at *
    split at h
    · exact h
    · exact ih h
theorem look_fn : ∀ {l : List Df} {x : Str} {n : Nat}, (fnsOf l).lookup x = some n → ∃ fd, (tabOf l).lookup x = some fd ∧ fd.ps.length = n
  | [], _, _, h => by simp [fnsOf] at h
  | d :: l, x, n, h => by
    unfold fnsOf at h
    unfold tabOf
    rw [List.map_cons, List.lookup_cons] at h ⊢
    split at h
    · rename_i q
      cases h
      exact ⟨d.fd, rfl, rfl⟩
    · exact look_fn (l := l) h
/-- positional parameters, no more -/
def BindOk (params : Arguments) (ps : List Str) : Prop := ∀ (x qual : Str) (body : List Stmt) (scope : Scope) (kV doc pm : Value) (an : Option Addr) (cdv ct : Value) (us : List Value), us.length = ps.length →
  bindArgs (PySem.W.fnOf x qual params body scope .none kV doc pm an cdv ct) ⟨us, []⟩ = pure (ps.zip us)
def scopeB (N ps : List Str) (sc : Scope) : Bool :=
  sc.kind == .function && (!sc.isCoroutine && (!sc.isGenerator && (decide N.Nodup && (N.take ps.length == ps && (ps.all (fun x => locl sc x) && sc.names.all (fun y => !(y.2 == .free)))))))
theorem scope_ok {N ps : List Str} {sc : Scope} (h : scopeB N ps sc = true) : FnScope N ps sc := by
  unfold scopeB at h
  simp only [Bool.and_eq_true, beq_iff_eq, Bool.not_eq_true', decide_eq_true_eq] at h
  obtain ⟨h1, h2, h3, h4, h5, h6, h7⟩ := h
  refine ⟨h1, h2, h3, h4, h5, fun x hx => locl_ok (List.all_eq_true.mp h6 x hx), fun y hy e => ?_⟩
  have := List.all_eq_true.mp h7 y hy
  rw [e] at this
  cases this
/-- what a law's texts are made of: the defs, those that call what they are given, the names of the defs in which lambdas stand -/
structure Txt where
  l : List Df
  ws : List Df := []
  exc : List Str := []
  lam : List Str := []
abbrev Txt.tab (t : Txt) : Tab := tabOf (t.l ++ t.ws)
abbrev cvOf (t : Txt) (d : Df) : Cv := { N := d.fd.N, scope := defScope d.st, fs := none, fns := fnsOf t.l, exc := t.exc, wds := t.ws.map (·.name), lams := t.lam.contains d.name }
def dfB (t : Txt) (d : Df) : Bool := scopeB d.fd.N d.fd.ps (defScope d.st) && (chkBody (cvOf t d) (defBody d.st) d.fd.body && isNil d.fd.hd)
def wdB (t : Txt) (d : Df) : Bool := scopeB d.fd.N d.fd.ps (defScope d.st) && (chkW d.fd (defScope d.st) (d.fd.ps.getD 0 "") (defBody d.st) && (!isNil d.fd.hd && (d.fd.ps.length == 1 && ((t.tab.lookup d.name).isSome && ((fnsOf t.l).lookup d.name).isNone))))
def Txt.ok (t : Txt) : Bool := t.l.all (dfB t) && t.ws.all (wdB t)
/-- what the head tells of the module -/
structure Mf (K : PySem.W.Frag) (mg : Str → Option Value) (t : Txt) (cs : Consts) : Prop where
  fn : ∀ d ∈ t.l ++ t.ws, ∃ fd, FunD K d.name d.name (defArgs d.st) (defBody d.st) (defScope d.st) [] [] (fnAd K d.name) fd ∧ mg d.name = some (.ref (fnAd K d.name))
  wf : ∀ d ∈ t.ws, WF K mg d.fd
  fnc : ∀ x y, cs.lookup x = some (.fn y) → ∃ ar, (fnsOf t.l).lookup x = some ar
  blt : ∀ x ∈ bltNames, mg x = none
  cons : ∀ x d, cs.lookup x = some d → ∃ v u, mg x = some u ∧ RelV v u ∧ ∀ ρ H, Rp K ρ H d v
  exc : ∀ x ∈ t.exc, ∃ C, mg x = some (.ref C) ∧ PySem.W.excIn K C He.veBase "ValueError.__new__" = true ∧ PySem.W.keepIn K (.ref C) = true ∧ PySem.W.subIn K (.ref C) (.type "BaseException") = some true ∧ PySem.W.typeIn K (.ref C) = some (.type "type")
theorem phi_bad {tab : Tab} {cs : Consts} (x : Str) (ds : List D) (st : Store) : phi tab cs 0 x ds st = .bad := rfl
theorem sp_len {mg : Str → Option Value} {ar : Nat} {g : List D → Store → R D} {ps : List Str} (h : ar = ps.length) : ∀ vs H Q E, spF K mg ar g vs H Q E → vs.length = ps.length := fun vs H Q E ⟨ρ, st, ds, _, r, hl, _⟩ => by rw [← r.length, hl, h]
/-- where lambdas stand -/
def LamT (K : PySem.W.Frag) (mg : Str → Option Value) (base : Heap) (t : Txt) : Prop := ∀ x, t.lam.contains x = true → ∃ P, LamX.TabB base mg (He.codeOf K (x, none)) P ∧ (P, x ++ ".<locals>." ++ "<lambda>") ∈ TabsOf.T ∧ ∀ p ∈ TabsOf.T, p.1 = P → p.2 = x ++ ".<locals>." ++ "<lambda>"
theorem phi_word {t : Txt} {cs : Consts} {q : Df} (hl : t.tab.lookup q.name = some q.fd) (hh : isNil q.fd.hd = false) (n : Nat) (args : List D) (st : Store) : phi t.tab cs n q.name args st = runW q.fd args st ∨ phi t.tab cs n q.name args st = .bad := by
  cases n with
  | zero => exact .inr rfl
  | succ n =>
    left
    show (match lookF t.tab q.name with
      | some d => (match d.hd with
        | [] => runF (phi t.tab cs n) cs d args st
        | _ :: _ => runW d args st)
      | none => .bad) = _
    rw [show lookF t.tab q.name = some q.fd from (lookS_eq _ _).trans hl]
    dsimp only
    cases hd : q.fd.hd with
    | nil => rw [hd] at hh; cases hh
    | cons a b => rfl
theorem phi_fn {t : Txt} {cs : Consts} {q : Df} (hl : t.tab.lookup q.name = some q.fd) (hh : isNil q.fd.hd = true) (n : Nat) (args : List D) (st : Store) : phi t.tab cs (n + 1) q.name args st = runF (phi t.tab cs n) cs q.fd args st := by
  show (match lookF t.tab q.name with
    | some d => (match d.hd with
      | [] => runF (phi t.tab cs n) cs d args st
      | _ :: _ => runW d args st)
    | none => .bad) = _
  rw [show lookF t.tab q.name = some q.fd from (lookS_eq _ _).trans hl]
  dsimp only
  cases hd : q.fd.hd with
  | nil => rfl
  | cons a b => rw [hd] at hh; cases hh
/-- the texts' checks, and the parameters -/
structure TxtOk (t : Txt) : Prop where
  ok : t.ok = true
  bnd : ∀ d ∈ t.l ++ t.ws, BindOk (defArgs d.st) d.fd.ps
  ws : ∀ d ∈ t.ws, t.tab.lookup d.name = some d.fd
theorem fn_step {P : Program} {w : World} {mg : Str → Option Value} {base : Heap} {t : Txt} {cs : Consts} {Φ : Fns} {n : Nat} (M : Mf K mg t cs) (T : TxtOk t) (L : LamT K mg base t)
    (ih : ∀ (q : Df), q ∈ t.l → (tabOf t.l).lookup q.name = some q.fd → ∀ fd, FunD K q.name q.name (defArgs q.st) (defBody q.st) (defScope q.st) [] [] (fnAd K q.name) fd →
      FnOk P w K mg base (L2N.CX P w) (3 * n) (fnAd K q.name) fd q.fd.ps (spF K mg q.fd.ps.length (Φ q.name)))
    (hw : ∀ q ∈ t.ws, t.tab.lookup q.name = some q.fd → ((fnsOf t.l).lookup q.name).isNone = true → isNil q.fd.hd = false → ∀ args st, Φ q.name args st = runW q.fd args st ∨ Φ q.name args st = .bad)
    (hf : ∀ q ∈ t.l, (tabOf t.l).lookup q.name = some q.fd → isNil q.fd.hd = true → ∀ ds st, Φ q.name ds st ≠ .bad → ds.length = q.fd.ps.length) :
    ∀ (q : Df), q ∈ t.l → (tabOf t.l).lookup q.name = some q.fd → ∀ fd, FunD K q.name q.name (defArgs q.st) (defBody q.st) (defScope q.st) [] [] (fnAd K q.name) fd →
      FnOk P w K mg base (L2N.CX P w) (3 * (n + 1)) (fnAd K q.name) fd q.fd.ps (spF K mg q.fd.ps.length (runF Φ cs q.fd)) := fun q hq hd fd F => by
    have hall := T.ok
    unfold Txt.ok at hall
    simp only [Bool.and_eq_true] at hall
    have hB := List.all_eq_true.mp hall.1 q hq
    unfold dfB at hB
    simp only [Bool.and_eq_true] at hB
    have S := scope_ok hB.1
    have lkT : t.tab.lookup q.name = some q.fd := look_app hd
    obtain ⟨oc, od, dV, kV, doc, pm, an, cdv, ct, osl, rfl, lk, hcd, hdv, hkw⟩ := F.ex
    refine fn_of lk hcd S (sp_len rfl) (fun A outer s H vs Q E hr hsp => ?_)
    obtain ⟨ρ, st, ds, sr, r, hl, p⟩ := hsp
    have hphi : runF Φ cs q.fd ds st = endF st.length (exs (ex (ev Φ cs q.fd.fuel) q.fd.fuel) q.fd.body (startE q.fd ds) st) := by
      show (if ds.length = q.fd.ps.length then _ else _) = _
      rw [if_pos hl]
    rw [hphi] at p
    have G : Good (cxOf (L2N.CX P w) P w K mg base q.fd.N q.name (defScope q.st) (fnAd K q.name) cdv A outer s H E) (fun _ x H => ∀ C, mg x = some (.ref C) → E (.ref C) none H) (3 * n) (cvOf t q) Φ cs :=
      { calm := rfl
        nd := S.nd
        N := rfl
        sc := rfl
        room := hr.mono (show 3 * n ≤ 3 * n + 2 by omega)
        fn := fun _ _ => rfl
        blt := M.blt
        cons := M.cons
        fns := fun x ar hx => by
          obtain ⟨d', h1, h2⟩ := look_fn hx
          subst h2
          obtain ⟨q', hq', rfl, rfl⟩ := look_df h1
          obtain ⟨fd', F', hm'⟩ := M.fn q' (List.mem_append_left _ hq')
          exact ⟨_, fd', q'.fd.ps, ih q' hq' h1 fd' F', hm', F'.kp, F'.bindsN (T.bnd q' (List.mem_append_left _ hq') q'.name q'.name _ _)⟩
        exc := fun x hx => by
          obtain ⟨C, a, b, c, d, e⟩ := M.exc x hx
          exact ⟨C, _, _, _, _, PySem.F.excBase_ValueError, b, a, c, raises_own d e⟩
        po := passes_of rfl
        tk := (L2N.takes_of rfl rfl rfl rfl).imp fun cls d σ H ⟨x, C, h1, h2, h3, h4⟩ => by
          subst h1; subst h2
          exact h4 C h3
        fnc := fun x y hx => by
          obtain ⟨ar, har⟩ := M.fnc x y hx
          obtain ⟨d', h1, h2⟩ := look_fn har
          obtain ⟨q', hq', e1, e2⟩ := look_df h1
          obtain ⟨fd', F', hm'⟩ := M.fn q' (List.mem_append_left _ hq')
          subst e1; subst e2
          refine ⟨ar, har, hm', fun ds st hne => ?_⟩
          have hn := (List.all_eq_true.mp hall.1 q' hq')
          unfold dfB at hn
          simp only [Bool.and_eq_true] at hn
          rw [← h2]
          exact hf q' hq' h1 hn.2.2 ds st hne
        lam := fun hl => ⟨hr, by
          obtain ⟨Pt, h1, h2, h3⟩ := L q.name hl
          obtain ⟨c, hc⟩ := He.codeIn_ref hcd
          subst hc
          have e := He.codeOf_eq (c := c) (p := (q.name, none)) lk rfl
          rw [e] at h1
          exact ⟨c, Pt, h1, rfl, h2, h3⟩⟩
        wd := fun x hx => by
          obtain ⟨q', hq', rfl⟩ := List.mem_map.mp hx
          obtain ⟨fd', F', hm'⟩ := M.fn q' (List.mem_append_right _ hq')
          have hw := List.all_eq_true.mp hall.2 q' hq'
          unfold wdB at hw
          simp only [Bool.and_eq_true, Bool.not_eq_true', beq_iff_eq] at hw
          obtain ⟨w1, w2, w3, w4, w5⟩ := hw
          obtain ⟨oc', od', dV', kV', doc', pm', an', cdv', ct', osl', rfl, lk', hcd', hdv', hkw'⟩ := id F'.ex
          have S' := scope_ok w1
          obtain ⟨a, ha⟩ : ∃ a, q'.fd.ps = [a] := by
            match hps : q'.fd.ps, w4 with
            | [a], _ => exact ⟨a, rfl⟩
          rw [ha] at w2 S'
          have bN := F'.bindsN (T.bnd q' (List.mem_append_right _ hq') q'.name q'.name _ _)
          rw [ha] at bN
          have hcw := chkW_ok w2
          exact ⟨⟨_, a, q'.fd.N, defScope q'.st, defArgs q'.st, defBody q'.st, _, _, _, _, _, _, _, _, _, _, hm', F'.kp, lk', hcd', bN, S', hcw.1, (S'.par a List.mem_cons_self).elim .inl fun h => .inr (.inl h), hcw.2.1, hcw.2.2,
            word_gives w2 (M.wf q' hq') S'.nd M.blt (hw q' hq' (T.ws q' hq') w5.2 w3)⟩⟩ }
    refine ⟨_, body_ok hB.2.1 G q.fd.fuel q.fd.fuel, ρ, startE q.fd ds, st, env_start r, sr, ?_⟩
    exact end_ok sr.len (fun σ x H h => h) p
theorem fns_ok {P : Program} {w : World} {mg : Str → Option Value} {base : Heap} {t : Txt} {cs : Consts} (M : Mf K mg t cs) (T : TxtOk t) (L : LamT K mg base t) :
    ∀ (n : Nat) (q : Df), q ∈ t.l → (tabOf t.l).lookup q.name = some q.fd → ∀ fd, FunD K q.name q.name (defArgs q.st) (defBody q.st) (defScope q.st) [] [] (fnAd K q.name) fd →
      FnOk P w K mg base (L2N.CX P w) (3 * n) (fnAd K q.name) fd q.fd.ps (spF K mg q.fd.ps.length (phi t.tab cs n q.name))
  | 0, q, hq, hd, fd, F => ⟨sp_len rfl, fun A outer s H args us vs Q E _ _ _ _ ⟨ρ, st, ds, _, _, _, p⟩ => p.elim⟩
  | n + 1, q, hq, hd, fd, F => by
    have hh := T.ok
    unfold Txt.ok at hh
    simp only [Bool.and_eq_true] at hh
    have hn : isNil q.fd.hd = true := by
      have := List.all_eq_true.mp hh.1 q hq
      unfold dfB at this
      simp only [Bool.and_eq_true] at this
      exact this.2.2
    have e : phi t.tab cs (n + 1) q.name = runF (phi t.tab cs n) cs q.fd := by
      funext args st
      exact phi_fn (look_app hd) hn n args st
    rw [e]
    refine fn_step M T L (fns_ok M T L n) (fun q' _ h1 _ h3 => phi_word h1 h3 n) (fun q' hq' h1 h2 ds st hne => ?_) q hq hd fd F
    cases n with
    | zero => exact absurd rfl hne
    | succ n =>
      rw [phi_fn (look_app h1) h2] at hne
      unfold runF at hne
      split at hne
      · assumption
      · exact absurd rfl hne
/-- nothing is let out -/
theorem calm_fn {P : Program} {w : World} {mg : Str → Option Value} {base : Heap} {k : Nat} {f : Addr} {fd : FuncData} {ps : List Str} {sp : Sp} (F : FnOk P w K mg base (L2N.CX P w) k f fd ps sp) : FnOk P w K mg base CX0 k f fd ps (fun vs H Q _ => sp vs H Q fun _ _ _ => False) :=
  ⟨fun vs H Q E h => F.len _ _ _ _ h, fun A outer s H args us vs Q E hr e0 hb hv h => codeAny_mono (F.run A outer s H args us vs Q _ hr e0 hb hv h) fun r s' hq => by
    cases r with
    | error e =>
      obtain ⟨_, _, _, _, _, _, _, _, _, _, _, _, z⟩ := hq
      exact z.elim
    | ok fl => cases fl <;> exact hq⟩
/-! ### the law -/
theorem scr_of {H : Hp} {a : Addr} {ns : List Int} (hS : SqL K H a (ns.map V.int)) : Rp K ⟨[], []⟩ H (.scr ns) (.ref a) := by
  refine ⟨a, rfl, ?_⟩
  rcases hS with (h | ⟨o, h⟩) | h
  · exact .inl ⟨_, h, .lst _, by simp [Rho.off], .inl rfl⟩
  · exact .inl ⟨_, h, .frz _ _, by simp [Rho.off], .inr ⟨o, rfl⟩⟩
  · exact .inr fun H' => .inr h
theorem law_sp {mg : Str → Option Value} {g : List D → Store → R D} {H : Hp} {a : Addr} {ns : List Int} (hT : LamX.Tabs TabsOf.T H) (hS : SqL K H a (ns.map V.int)) (hg : ∃ st, g [.scr ns] [] = .ok (.bl true) st) :
    spF K mg 1 g [.ref a] H (fun v _ => v = .bl true) fun _ _ _ => False := by
  obtain ⟨st, hg⟩ := hg
  refine ⟨⟨[], []⟩, [], [.scr ns], ⟨rfl, fun k a h => by simp at h, fun j k a h => by simp at h, fun k l h => by simp at h, fun a h => by simp at h, hT⟩, .cons (scr_of hS) .nil, rfl, ?_⟩
  rw [hg]
  exact fun v ρ' H' _ _ r => r
end Ev

set_option Elab.async false
set_option linter.all false
set_option maxRecDepth 100000
set_option maxHeartbeats 1000000
namespace Ev
open PySem PySem.Spec PyProof.Rows L2
/-! ### what the head is asked -/
def dOf (d : Df) : He.DefD := ⟨(d.name, none), d.name, d.name, defArgs d.st, defBody d.st, defScope d.st, [], []⟩
abbrev Ints := List (Str × Int)
def csOf (l : Ints) (fv : List Str) : Consts := l.map (fun q => (q.1, .int q.2)) ++ fv.map fun x => (x, .fn x)
def faOf (t : Txt) (own : List Str) (cs : Ints) : List He.Fa := ((t.l ++ t.ws).map fun d => He.Fa.glo d.name) ++ ((bltNames.map He.Fa.free) ++ ((t.exc.map He.Fa.exc) ++ ((own.map He.Fa.glo) ++ ((cs.map fun q => He.Fa.int q.1 q.2) ++ [.free "ValueError"]))))
theorem look_cs : ∀ {l : Ints} {fv : List Str} {x : Str} {d : D}, (csOf l fv).lookup x = some d → (∃ i, (x, i) ∈ l ∧ d = .int i) ∨ (x ∈ fv ∧ d = .fn x)
  | [], [], x, d, h => by simp [csOf] at h
  | [], y :: fv, x, d, h => by
    unfold csOf at h
    rw [List.map_nil, List.nil_append, List.map_cons, List.lookup_cons] at h
    split at h
    · rename_i e
      cases h
      rw [eq_of_beq e]
      exact .inr ⟨List.mem_cons_self, rfl⟩
    · rcases look_cs (l := []) (fv := fv) (x := x) (d := d) (by unfold csOf; simpa using h) with ⟨i, h1, _⟩ | ⟨h1, h2⟩
      · cases h1
      · exact .inr ⟨List.mem_cons_of_mem _ h1, h2⟩
  | q :: l, fv, x, d, h => by
    unfold csOf at h
    rw [List.map_cons, List.cons_append, List.lookup_cons] at h
    split at h
    · rename_i e
      cases h
      exact .inl ⟨q.2, by rw [eq_of_beq e]; exact List.mem_cons_self, rfl⟩
    · rcases look_cs (l := l) (fv := fv) (x := x) (d := d) h with ⟨i, h1, h2⟩ | h1
      · exact .inl ⟨i, List.mem_cons_of_mem _ h1, h2⟩
      · exact .inr h1
/-! ### the classes -/
def excCB (K : PySem.W.Frag) (D : Addr) : Bool :=
  He.eqO (PySem.W.findIn K (.ref D) "__getattribute__") (some (some (.builtin "BaseException.__getattribute__"))) && (He.eqO (PySem.W.findIn K (.ref D) "__getattr__") (some none) && (decide (PySem.W.subIn K (.ref D) (.type "BaseException") = some true) && (PySem.W.hasDictIn K D &&
    (He.eqO (PySem.W.findIn K (.ref D) "__class__") (some (some (.builtin "object.__class__"))) && (He.eqO (PySem.W.specialIn K (.builtin "object.__class__") "__get__") (some (some (.builtin "getset_descriptor.__get__"))) && (decide (PySem.W.takesIn K (.builtin "object.__class__") = some true) && decide (PySem.W.mroIn K D (.type "object") = some true)))))))
theorem excCB_ok {K : PySem.W.Frag} {D : Addr} (h : excCB K D = true) : ExcC K D := by
  unfold excCB at h
  simp only [Bool.and_eq_true, decide_eq_true_eq] at h
  obtain ⟨h1, h2, h3, h4, h5, h6, h7, h8⟩ := h
  exact ⟨He.eqO_ok h1, He.eqO_ok h2, h3, h4, He.eqO_ok h5, He.eqO_ok h6, h7, h8⟩
/-- a class by its name -/
def clsV (K : PySem.W.Frag) (c : Str) : Value := if c == ("ValueError" : Str) then .type "ValueError" else .ref (He.ga K c)
def wfB (K : PySem.W.Frag) (d : FD) : Bool := d.sup.all fun p => excCB K (He.ga K p.1) && ((d.cls.all fun c => decide (PySem.W.kitOne K (.ref (He.ga K p.1)) (clsV K c) = some (d.isOf p.1 c))) && d.hd.all fun q => decide (PySem.W.exmOne K (.ref (He.ga K p.1)) (.ref (He.ga K q.1)) = some (d.isOf p.1 q.1)))
/-- the names of the module's classes are told of -/
def clsB (own : List Str) (d : FD) : Bool := (d.sup.all fun p => own.contains p.1) && ((d.cls.all fun c => own.contains c || c == ("ValueError" : Str)) && ((d.hd.all fun q => own.contains q.1) && !own.contains ("ValueError" : Str)))
def exB (t : Txt) (K : PySem.W.Frag) : Bool := decide ((t.lam.map fun x => (He.cT K (x, none)).2).Nodup) && (t.ws.all fun d => wfB K d.fd) && !(t.lam.any fun x => (He.cT K (x, none)).2 == mainGlobals)
abbrev tfOf (t : Txt) : List He.Defn := t.lam.map fun x => (x, none)
abbrev tabsT (t : Txt) (K : PySem.W.Frag) : List (Addr × Str) := t.lam.map fun x => ((He.cT K (x, none)).2, x ++ ".<locals>." ++ "<lambda>")
theorem key_some {β : Type} : ∀ {l : List (Str × β)} {y : Str}, (l.lookup y).isSome = true → ∃ b, (y, b) ∈ l
  | [], y, h => by cases h
  | (x, b) :: l, y, h => by
    rw [List.lookup_cons] at h
    split at h
    · rename_i e
      rw [eq_of_beq e]
      exact ⟨b, List.mem_cons_self⟩
    · obtain ⟨b', hb⟩ := key_some h
      exact ⟨b', List.mem_cons_of_mem _ hb⟩
section
variable {K : PySem.W.Frag} {h : Heap} {mg : Str → Option Value} {t : Txt} {own fv : List Str} {cs : Ints}
theorem wf_of (X : K.In h) (G : h.Ns mainGlobals mg) (c : He.SaysD (faOf t own cs) ((t.l ++ t.ws).map dOf) K) {d : Df} (hw : wfB K d.fd = true) (hc : clsB own d.fd = true) : WF K mg d.fd := by
  have glo : ∀ x, own.contains x = true → mg x = some (.ref (He.ga K x)) := fun x hx => He.glo_ok X G (c.facts (f := .glo x) (by
    unfold faOf
    exact List.mem_append_right _ (List.mem_append_right _ (List.mem_append_right _ (List.mem_append_left _ (List.mem_map.mpr ⟨x, List.contains_iff_mem.mp hx, rfl⟩))))))
  have free : mg "ValueError" = none := He.free_ok X G (c.facts (f := .free "ValueError") (by
    unfold faOf
    exact List.mem_append_right _ (List.mem_append_right _ (List.mem_append_right _ (List.mem_append_right _ (List.mem_append_right _ List.mem_cons_self))))))
  unfold clsB at hc
  simp only [Bool.and_eq_true, Bool.not_eq_true'] at hc
  obtain ⟨c1, c2, c3, c4⟩ := hc
  refine ⟨fun q hq => ⟨_, glo q.1 (List.all_eq_true.mp c3 q hq)⟩, fun y C hy hC => ?_⟩
  obtain ⟨b, hb⟩ := key_some hy
  have gy := glo y (List.all_eq_true.mp c1 _ hb)
  rw [gy] at hC; cases hC
  have w := List.all_eq_true.mp hw _ hb
  simp only [Bool.and_eq_true] at w
  obtain ⟨w1, w2, w3⟩ := w
  refine ⟨excCB_ok w1, fun x hx => ?_, fun q hq => ⟨_, glo q.1 (List.all_eq_true.mp c3 q hq), of_decide_eq_true (List.all_eq_true.mp w3 q hq)⟩⟩
  have k := of_decide_eq_true (List.all_eq_true.mp w2 x hx)
  have o := List.all_eq_true.mp c2 x hx
  unfold clsV at k
  by_cases e : (x == ("ValueError" : Str)) = true
  · rw [if_pos e] at k
    have := eq_of_beq e
    subst this
    exact ⟨_, _, .inr ⟨"ValueError", free, rfl, by decide, rfl, rfl⟩, k⟩
  · rw [if_neg e] at k
    have : own.contains x = true := by
      simp only [Bool.or_eq_true] at o
      exact o.elim id fun z => absurd z e
    exact ⟨_, _, .inl ⟨_, glo x this, rfl, rfl⟩, k⟩
theorem mf_of [TabsOf] (X : K.In h) (G : h.Ns mainGlobals mg) (c : He.SaysD (faOf t own cs) ((t.l ++ t.ws).map dOf) K) (hx : (t.ws.all fun d => wfB K d.fd) = true) (hc : (t.ws.all fun d => clsB own d.fd) = true) (hf : (fv.all fun x => ((fnsOf t.l).lookup x).isSome) = true) (he : (t.exc.all fun x => own.contains x) = true) : Mf K mg t (csOf cs fv) where
  fn := fun d hd => by
    obtain ⟨fd, F⟩ := c.defs (d := dOf d) (List.mem_map.mpr ⟨d, hd, rfl⟩)
    exact ⟨fd, F, He.glo_ok X G (c.facts (f := .glo d.name) (by unfold faOf; exact List.mem_append_left _ (List.mem_map.mpr ⟨d, hd, rfl⟩)))⟩
  wf := fun d hd => wf_of X G c (List.all_eq_true.mp hx d hd) (List.all_eq_true.mp hc d hd)
  fnc := fun x y hl => by
    rcases look_cs hl with ⟨i, _, h⟩ | ⟨h1, _⟩
    · cases h
    · exact Option.isSome_iff_exists.mp (List.all_eq_true.mp hf x h1)
  blt := fun x hx => He.free_ok X G (c.facts (f := .free x) (by unfold faOf; exact List.mem_append_right _ (List.mem_append_left _ (List.mem_map.mpr ⟨x, hx, rfl⟩))))
  cons := fun x d hd => by
    rcases look_cs hd with ⟨i, hi, rfl⟩ | ⟨h1, rfl⟩
    · obtain ⟨tk, e⟩ := He.int_ok X G (c.facts (f := .int x i) (by unfold faOf; exact List.mem_append_right _ (List.mem_append_right _ (List.mem_append_right _ (List.mem_append_right _ (List.mem_append_left _ (List.mem_map.mpr ⟨(x, i), hi, rfl⟩)))))))
      exact ⟨.int i, _, e, ⟨tk, rfl⟩, fun _ _ => rfl⟩
    · obtain ⟨ar, har⟩ := Option.isSome_iff_exists.mp (List.all_eq_true.mp hf x h1)
      obtain ⟨fd, h2, _⟩ := look_fn har
      obtain ⟨q, hq, rfl, _⟩ := look_df h2
      have e := He.glo_ok X G (c.facts (f := .glo q.name) (by unfold faOf; exact List.mem_append_left _ (List.mem_map.mpr ⟨q, List.mem_append_left _ hq, rfl⟩)))
      exact ⟨.ref (He.ga K q.name), _, e, rfl, fun _ _ => rfl⟩
  exc := fun x hx => by
    have a := He.exc_ok (c.facts (f := .exc x) (by unfold faOf; exact List.mem_append_right _ (List.mem_append_right _ (List.mem_append_left _ (List.mem_map.mpr ⟨x, hx, rfl⟩)))))
    have b := He.glo_ok X G (c.facts (f := .glo x) (by
      unfold faOf
      exact List.mem_append_right _ (List.mem_append_right _ (List.mem_append_right _ (List.mem_append_left _ (List.mem_map.mpr ⟨x, List.contains_iff_mem.mp (List.all_eq_true.mp he x hx), rfl⟩))))))
    exact ⟨_, b, a.1, a.2.1, a.2.2.1, a.2.2.2⟩
/-- all that a law's texts are asked -/
structure Asked (t : Txt) (own fv : List Str) : Prop where
  txt : TxtOk t
  cls : (t.ws.all fun d => clsB own d.fd) = true
  fv : (fv.all fun x => ((fnsOf t.l).lookup x).isSome) = true
  exc : (t.exc.all fun x => own.contains x) = true
theorem law_F2 {l : PySem.W.OpenLaw} {w : World} {n N : Nat} {fa : Addr} (q : Df) (A : Asked t own fv) (X : K.In h) (G : h.Ns mainGlobals mg) (c : He.SaysX (faOf t own cs) ((t.l ++ t.ws).map dOf) [] (tfOf t) (exB t) w h K)
    (hq : q ∈ t.l) (hn : q.name = "law") (hlk : (tabOf t.l).lookup q.name = some q.fd) (hps : q.fd.ps = [("script" : Str)]) (hmg : mg "law" = some (.ref fa))
    (hlaw : ∀ ns : List Int, ns.length ≤ N → ∃ st, phi t.tab (csOf cs fv) n "law" [.scr ns] [] = .ok (.bl true) st) :
    LamX.LawAtS l w K CX0 (3 * n) N "script" mg fa h := by
  letI : TabsOf := ⟨tabsT t K⟩
  have hex := c.more
  unfold exB at hex
  simp only [Bool.and_eq_true, decide_eq_true_eq, Bool.not_eq_true'] at hex
  obtain ⟨⟨hnd, hwf⟩, hng⟩ := hex
  have M := mf_of (own := own) (fv := fv) (cs := cs) X G c.t.d hwf A.cls A.fv A.exc
  obtain ⟨fd, F, hm⟩ := M.fn q (List.mem_append_left _ hq)
  have e := (by rw [hn] at hm; exact hm : mg "law" = some (.ref (fnAd K "law"))).symm.trans hmg
  have b := FunD.bindsA (ps := q.fd.ps) F (A.txt.bnd q (List.mem_append_left _ hq) q.name q.name _ _)
  have memT : ∀ p ∈ tabsT t K, ∃ x ∈ t.lam, p = ((He.cT K (x, none)).2, x ++ ".<locals>." ++ "<lambda>") := fun p hp => by
    obtain ⟨x, hx, rfl⟩ := List.mem_map.mp hp
    exact ⟨x, hx, rfl⟩
  have inj : ∀ x y, x ∈ t.lam → y ∈ t.lam → (He.cT K (x, none)).2 = (He.cT K (y, none)).2 → x = y := by
    have key : ∀ (m : List Str), (m.map fun x => (He.cT K (x, none)).2).Nodup → ∀ x y, x ∈ m → y ∈ m → (He.cT K (x, none)).2 = (He.cT K (y, none)).2 → x = y := fun m => by
      induction m with
      | nil => intro _ x y hx; cases hx
      | cons z m ih =>
        intro hnd x y hx hy hxy
        rw [List.map_cons, List.nodup_cons] at hnd
        rcases List.mem_cons.mp hx with ex | hx
        · rcases List.mem_cons.mp hy with ey | hy
          · rw [ex, ey]
          · exact absurd (List.mem_map.mpr ⟨y, hy, by rw [← hxy, ex]⟩) hnd.1
        · rcases List.mem_cons.mp hy with ey | hy
          · exact absurd (List.mem_map.mpr ⟨x, hx, by rw [hxy, ey]⟩) hnd.1
          · exact ih hnd.2 x y hx hy hxy
    exact key t.lam hnd
  refine ⟨fd, t.lam.map fun x => He.cT K (x, none), fun vs H Q _ => spF K mg q.fd.ps.length (phi t.tab (csOf cs fv) n q.name) vs H Q fun _ _ _ => False, fun p hp => ?_, fun p hp => ?_, fun p hp => ?_, fun s v => ?_, fun H a ns hl _ hT hS => ?_, fun base KB GB hTB => ?_⟩
  · obtain ⟨x, hx, rfl⟩ := List.mem_map.mp hp
    exact c.empty (x, none) (List.mem_map.mpr ⟨x, hx, rfl⟩)
  · obtain ⟨x, hx, rfl⟩ := List.mem_map.mp hp
    exact c.out (x, none) (List.mem_map.mpr ⟨x, hx, rfl⟩)
  · obtain ⟨x, hx, rfl⟩ := List.mem_map.mp hp
    exact PySem.W.codeHd_of_K X (c.hd (x, none) (List.mem_map.mpr ⟨x, hx, rfl⟩))
  · have := b s [v] (by rw [hps]; rfl)
    rw [hps] at this
    exact this
  · rw [hps, hn]
    refine law_sp (fun p hp => ?_) hS (hlaw ns hl)
    obtain ⟨x, hx, rfl⟩ := memT p hp
    exact LamX.TabS.nil (hT (He.cT K (x, none)) (List.mem_map.mpr ⟨x, hx, rfl⟩))
  · have L : LamT K mg base t := fun x hx => by
      have hx := List.contains_iff_mem.mp hx
      refine ⟨(He.cT K (x, none)).2, hTB (He.cT K (x, none)) (List.mem_map.mpr ⟨x, hx, rfl⟩), List.mem_map.mpr ⟨x, hx, rfl⟩, fun p hp hpe => ?_⟩
      obtain ⟨y, hy, rfl⟩ := memT p hp
      rw [inj y x hy hx hpe]
    have := calm_fn (fns_ok (P := l.prog) (w := w) (base := base) M A.txt L n q hq hlk fd F)
    rw [hps] at this ⊢
    rw [hn] at this
    rw [hn]
    cases e
    exact this
end
end Ev

set_option Elab.async false
set_option linter.all false
set_option maxRecDepth 100000
set_option maxHeartbeats 1000000
/-! answers that are known already: a call by plain data gives the same whatever else is held -/
namespace Ev
open PySem PySem.Spec PyProof.Rows L2
inductive Rs where
  | ok (d : D)
  | exc (x : Str)
/-- so many calls deep, these arguments, this answer -/
structure En where
  n : Nat
  a : List D
  r : Rs
abbrev Mm := List (Str × List En)
def lookA : List En → Nat → List D → Option En
  | [], _, _ => none
  | e :: q, n, x => match Nat.ble e.n n with
    | true => match sameL e.a x with
      | true => some e
      | false => lookA q n x
    | false => lookA q n x
def lookM : Mm → Str → Nat → List D → Option En
  | [], _, _, _ => none
  | (g, l) :: q, f, n, x => match eqS g f with
    | true => lookA l n x
    | false => lookM q f n x
def Rs.at (r : Rs) (st : Store) : R D := match r with
  | .ok d => .ok d st
  | .exc x => .exc x st
def Rs.plain (r : Rs) : Bool := match r with
  | .ok d => below 0 30 d
  | .exc _ => true
def mem (E : Mm) (n : Nat) (Φ : Fns) : Fns := fun f args st => match lookM E f n args with
  | some e => e.r.at st
  | none => Φ f args st
def stepP (tab : Tab) (cs : Consts) (Φ : Fns) : Fns := fun f args st => match lookF tab f with
  | some d => match d.hd with
    | [] => runF Φ cs d args st
    | _ :: _ => runW d args st
  | none => .bad
def phiM (tab : Tab) (cs : Consts) (E : Mm) : Nat → Fns
  | 0 => fun _ _ _ => .bad
  | n + 1 => mem E (n + 1) (stepP tab cs (phiM tab cs E n))
/-- the answer is this one -/
def okR (x : R D) (r : Rs) : Bool := match x, r with
  | .ok d _, .ok d' => sameD d d'
  | .exc y _, .exc y' => eqS y y'
  | _, _ => false
inductive Tr (tab : Tab) (cs : Consts) (ar : List (Str × Nat)) : Str → En → Prop
  | mk {f : Str} {e : En} (E : Mm) (hE : ∀ g ∈ E, ∀ e ∈ g.2, Tr tab cs ar g.1 e) (h : okR (phiM tab cs E e.n f e.a []) e.r = true)
    (hp : (e.a.all (below 0 30) && (e.r.plain && lookS ar f == some e.a.length)) = true) : Tr tab cs ar f e
section
variable {tab : Tab} {cs : Consts} {ar : List (Str × Nat)} {f : Str}
theorem en_nil : ∀ e ∈ ([] : List En), Tr tab cs ar f e := fun e h => by cases h
theorem en_cons {e : En} {l : List En} (h : Tr tab cs ar f e) (t : ∀ e ∈ l, Tr tab cs ar f e) : ∀ x ∈ e :: l, Tr tab cs ar f x := fun x hx => by
  rcases List.mem_cons.mp hx with rfl | hx
  · exact h
  · exact t x hx
theorem gr_nil : ∀ g ∈ ([] : Mm), ∀ e ∈ g.2, Tr tab cs ar g.1 e := fun g h => by cases h
theorem gr_cons {l : List En} {m : Mm} (h : ∀ e ∈ l, Tr tab cs ar f e) (t : ∀ g ∈ m, ∀ e ∈ g.2, Tr tab cs ar g.1 e) : ∀ g ∈ (f, l) :: m, ∀ e ∈ g.2, Tr tab cs ar g.1 e := fun g hg => by
  rcases List.mem_cons.mp hg with rfl | hg
  · exact h
  · exact t g hg
end
theorem lookA_ok {l : List En} {n : Nat} {x : List D} {e : En} (h : lookA l n x = some e) : e ∈ l ∧ e.n ≤ n ∧ e.a = x := by
  induction l with
  | nil => cases h
  | cons q l ih =>
    unfold lookA at h
    split at h
    · rename_i h1
      split at h
      · rename_i h2
        cases h
        exact ⟨List.mem_cons_self, Nat.le_of_ble_eq_true h1, sameL_eq _ _ h2⟩
      · exact ⟨List.mem_cons_of_mem _ (ih h).1, (ih h).2⟩
    · exact ⟨List.mem_cons_of_mem _ (ih h).1, (ih h).2⟩
theorem lookM_ok {E : Mm} {f : Str} {n : Nat} {x : List D} {e : En} (h : lookM E f n x = some e) : ∃ g ∈ E, g.1 = f ∧ e ∈ g.2 ∧ e.n ≤ n ∧ e.a = x := by
  induction E with
  | nil => cases h
  | cons q E ih =>
    obtain ⟨g, l⟩ := q
    unfold lookM at h
    split at h
    · rename_i h1
      rw [eqS_eq] at h1
      exact ⟨_, List.mem_cons_self, eq_of_beq h1, lookA_ok h⟩
    · obtain ⟨g', h1, h2⟩ := ih h
      exact ⟨g', List.mem_cons_of_mem _ h1, h2⟩
variable {K : PySem.W.Frag}
mutual
theorem Rp.pure {ρ ρ' : Rho} {H : Hp} (ho : ∀ a, ρ.off a → ρ'.off a) : ∀ (f : Nat) (d : D) (v : V), below 0 f d = true → Rp K ρ H d v → Rp K ρ' H d v
  | _, .non, _, _, h => h
  | _, .bl _, _, _, h => h
  | _, .int _, _, _, h => h
  | _, .str _, _, _, h => h
  | _, .fn _, _, _, h => h
  | f + 1, .tup l, _, b, ⟨a, vs, h1, h2, h3, h4⟩ => ⟨a, vs, h1, h2, ho a h3, Rps.pure ho f l vs (by simpa [below] using b) h4⟩
  | f + 1, .lst l, _, b, ⟨a, vs, h1, h2, h3, h4⟩ => ⟨a, vs, h1, h2, ho a h3, Rps.pure ho f l vs (by simpa [below] using b) h4⟩
  | f + 1, .dic ks vs, _, b, ⟨a, o, kv, vv, h1, h2, h3, h4, h5, h6⟩ => by
    simp only [below, Bool.and_eq_true, List.all_eq_true] at b
    exact ⟨a, o, kv, vv, h1, h2, ho a h3, h4, Rps.pure ho f ks kv b.1 h5, Rps.pure ho f vs vv b.2 h6⟩
  | 0, .dic ks vs, _, b, _ => by simp [below] at b
  | 0, .tup l, _, b, _ => by simp [below] at b
  | 0, .lst l, _, b, _ => by simp [below] at b
  | _, .ref k, _, b, _ => by simp [below] at b
  | _, .rng _ _, _, _, ⟨a, h1, h2, h3⟩ => ⟨a, h1, h2, ho a h3⟩
  | _, .scr _, _, _, ⟨a, h1, h2⟩ => ⟨a, h1, by
    rcases h2 with ⟨o, q, t, m, r⟩ | q
    · exact .inl ⟨o, q, t, ho a m, r⟩
    · exact .inr q⟩
theorem Rps.pure {ρ ρ' : Rho} {H : Hp} (ho : ∀ a, ρ.off a → ρ'.off a) : ∀ (f : Nat) (l : List D) (vs : List V), (∀ x ∈ l, below 0 f x = true) → Rps K ρ H l vs → Rps K ρ' H l vs
  | _, [], _, _, h => h
  | f, d :: ds, _, b, ⟨v, r, h1, h2, h3⟩ => ⟨v, r, h1, Rp.pure ho f d v (b d List.mem_cons_self) h2, Rps.pure ho f ds r (fun x hx => b x (List.mem_cons_of_mem _ hx)) h3⟩
end
variable [TabsOf]
/-- all that is held, as if a walk held it -/
def Rho.all (ρ : Rho) : Rho := ⟨[], ρ.held ++ ρ.cells.filterMap id⟩
theorem Rho.all_off {ρ : Rho} {a : Addr} : ρ.all.off a ↔ ρ.off a := by
  unfold Rho.all Rho.off
  simp only [List.not_mem_nil, not_false_eq_true, true_and, List.mem_append, List.mem_filterMap, id_eq, exists_eq_right, not_or]
  exact ⟨fun h => ⟨h.2, h.1⟩, fun h => ⟨h.2, h.1⟩⟩
theorem StR.all {ρ : Rho} {H : Hp} {st : Store} (s : StR K ρ H st) : StR K ρ.all H [] where
  len := rfl
  cell := fun k a h => by simp [Rho.all] at h
  inj := fun j k a h => by simp [Rho.all] at h
  back := fun k c h => by simp at h
  hold := fun a ha => by
    refine ⟨?_, by simp [Rho.all]⟩
    unfold Rho.all at ha
    rcases List.mem_append.mp ha with ha | ha
    · exact (s.hold a ha).1
    · obtain ⟨o, ho, e⟩ := List.mem_filterMap.mp ha
      cases (show o = some a from e)
      obtain ⟨k, hk⟩ := mem_ix ho
      obtain ⟨c, _, h2⟩ := s.cell k a hk
      exact h2.plain
  tabs := s.tabs
theorem Ext.all {ρ ρ1 : Rho} {H H1 : Hp} (e : Ext ρ.all H ρ1 H1) : Ext ρ H ρ H1 where
  keep := fun a o h t _ => e.keep a o h t (by simp [Rho.all])
  there := e.there
  len := Nat.le_refl _
  old := fun _ _ => .inl rfl
  new := fun k a hk h => by rw [List.getElem?_eq_none hk] at h; cases h
  held := rfl
theorem StR.back_all {ρ ρ1 : Rho} {H H1 : Hp} {st st1 : Store} (s : StR K ρ H st) (e : Ext ρ.all H ρ1 H1) (s1 : StR K ρ1 H1 st1) : StR K ρ H1 st where
  len := s.len
  cell := fun k a h => let ⟨c, h1, h2⟩ := s.cell k a h; ⟨c, h1, h2.to (fun o ho t => e.keep a o ho t (by simp [Rho.all])) e.all.move⟩
  inj := s.inj
  back := s.back
  hold := fun a ha => let ⟨p, q⟩ := s.hold a ha; ⟨p.same fun o ho t => e.keep a o ho t (by simp [Rho.all]), q⟩
  tabs := s1.tabs
/-- a call by plain data is the same in any company -/
theorem frame {mg : Str → Option Value} {n : Nat} {g : List D → Store → R D} {a : List D} {r : Rs} {ρ : Rho} {H : Hp} {st : Store} {vs : List V} {Q : VK} {E : XK} (hg : okR (g a []) r = true) (pa : a.all (below 0 30) = true) (pr : r.plain = true)
    (s : StR K ρ H st) (rv : Rps K ρ H a vs) (hl : a.length = n) (p : PostE K (fun x H => ∀ C, mg x = some (.ref C) → E (.ref C) none H) ρ H (r.at st) Q) : spF K mg n g vs H Q E := by
  refine ⟨ρ.all, [], a, s.all, Rps.pure (fun b hb => Rho.all_off.mpr hb) 30 a vs (List.all_eq_true.mp pa) rv, hl, ?_⟩
  cases q : g a [] with
  | ok d st' =>
    rw [q] at hg
    cases r with
    | exc x => cases hg
    | ok d' =>
      cases sameD_eq _ _ hg
      intro v ρ1 H1 e1 s1 r1
      refine p v ρ H1 e1.all (s.back_all e1 s1) (Rp.pure (fun b hb => Rho.all_off.mp ⟨by simp [Rho.all], ?_⟩) 30 d v pr r1)
      rw [← e1.held]
      exact hb.2
  | exc x st' =>
    rw [q] at hg
    cases r with
    | ok d' => cases hg
    | exc x' =>
      have hg : eqS x x' = true := hg
      rw [eqS_eq] at hg
      cases eq_of_beq hg
      exact fun ρ1 H1 e1 s1 => p ρ H1 e1.all (s.back_all e1 s1)
  | bad => rw [q] at hg; cases r <;> cases hg
theorem phiM_fn {t : Txt} {cs : Consts} {q : Df} {E : Mm} (hl : t.tab.lookup q.name = some q.fd) (hh : isNil q.fd.hd = true) (n : Nat) (args : List D) (st : Store) : stepP t.tab cs (phiM t.tab cs E n) q.name args st = runF (phiM t.tab cs E n) cs q.fd args st := by
  unfold stepP
  rw [show lookF t.tab q.name = some q.fd from (lookS_eq _ _).trans hl]
  dsimp only
  cases hd : q.fd.hd with
  | nil => rfl
  | cons a b => rw [hd] at hh; cases hh
theorem phiM_wd {t : Txt} {cs : Consts} {q : Df} {E : Mm} (hl : t.tab.lookup q.name = some q.fd) (hh : isNil q.fd.hd = false) (n : Nat) (args : List D) (st : Store) : stepP t.tab cs (phiM t.tab cs E n) q.name args st = runW q.fd args st := by
  unfold stepP
  rw [show lookF t.tab q.name = some q.fd from (lookS_eq _ _).trans hl]
  dsimp only
  cases hd : q.fd.hd with
  | nil => rw [hd] at hh; cases hh
  | cons a b => rfl
theorem tr_fact {tab : Tab} {cs : Consts} {ar : List (Str × Nat)} {f : Str} {e : En} (h : Tr tab cs ar f e) : e.a.all (below 0 30) = true ∧ e.r.plain = true ∧ ar.lookup f = some e.a.length := by
  cases h with
  | mk E hE h hp =>
    simp only [Bool.and_eq_true, beq_iff_eq] at hp
    rw [lookS_eq] at hp
    exact hp
section
variable {P : Program} {w : World} {mg : Str → Option Value} {base : Heap} {t : Txt} {cs : Consts}
/-- what a known answer says of the program -/
def Sem (K : PySem.W.Frag) (P : Program) (w : World) (mg : Str → Option Value) (base : Heap) (t : Txt) (f : Str) (e : En) : Prop := ∀ q ∈ t.l, (tabOf t.l).lookup q.name = some q.fd → q.name = f → ∀ fd, FunD K q.name q.name (defArgs q.st) (defBody q.st) (defScope q.st) [] [] (fnAd K q.name) fd →
  ∃ g, FnOk P w K mg base (L2N.CX P w) (3 * e.n) (fnAd K q.name) fd q.fd.ps (spF K mg q.fd.ps.length g) ∧ okR (g e.a []) e.r = true
theorem fns_okE (M : Mf K mg t cs) (T : TxtOk t) (L : LamT K mg base t) {E : Mm} (hE : ∀ g ∈ E, ∀ e ∈ g.2, Tr t.tab cs (fnsOf t.l) g.1 e) (hS : ∀ g ∈ E, ∀ e ∈ g.2, Sem K P w mg base t g.1 e) :
    ∀ (n : Nat) (q : Df), q ∈ t.l → (tabOf t.l).lookup q.name = some q.fd → ∀ fd, FunD K q.name q.name (defArgs q.st) (defBody q.st) (defScope q.st) [] [] (fnAd K q.name) fd →
      FnOk P w K mg base (L2N.CX P w) (3 * n) (fnAd K q.name) fd q.fd.ps (spF K mg q.fd.ps.length (phiM t.tab cs E n q.name))
  | 0, q, hq, hd, fd, F => ⟨sp_len rfl, fun A outer s H args us vs Q E _ _ _ _ ⟨ρ, st, ds, _, _, _, p⟩ => p.elim⟩
  | n + 1, q, hq, hd, fd, F => by
    have hh := T.ok
    unfold Txt.ok at hh
    simp only [Bool.and_eq_true] at hh
    have hn : isNil q.fd.hd = true := by
      have := List.all_eq_true.mp hh.1 q hq
      unfold dfB at this
      simp only [Bool.and_eq_true] at this
      exact this.2.2
    have ihn := fns_okE M T L hE hS n
    have step := fn_step (w := w) (P := P) (Φ := phiM t.tab cs E n) (n := n) M T L ihn (fun q' hq' h1 h2 h3 args st => by
      cases n with
      | zero => exact .inr rfl
      | succ n =>
        left
        show mem E (n + 1) _ q'.name args st = _
        unfold mem
        split
        · rename_i e he
          obtain ⟨g, hg, e1, e2, _, _⟩ := lookM_ok he
          have := (tr_fact (hE g hg e e2)).2.2
          rw [e1] at this
          rw [this] at h2
          cases h2
        · exact phiM_wd h1 h3 n args st) (fun q' hq' h1 h2 ds st hne => by
      cases n with
      | zero => exact absurd rfl hne
      | succ n =>
        have hne : mem E (n + 1) (stepP t.tab cs (phiM t.tab cs E n)) q'.name ds st ≠ .bad := hne
        unfold mem at hne
        split at hne
        · rename_i e he
          obtain ⟨g, hg, e1, e2, _, e4⟩ := lookM_ok he
          have h5 := (tr_fact (hE g hg e e2)).2.2
          obtain ⟨fd', h6, h7⟩ := look_fn h5
          rw [e1, h1] at h6
          cases h6
          rw [← e4, h7]
        · rw [phiM_fn (look_app h1) h2] at hne
          unfold runF at hne
          split at hne
          · assumption
          · exact absurd rfl hne) q hq hd fd F
    refine ⟨sp_len rfl, fun A outer s H args us vs Q E' hr he hb hv ⟨ρ, st, ds, sr, r, hl, p⟩ => ?_⟩
    have p : PostE K _ ρ H (mem E (n + 1) (stepP t.tab cs (phiM t.tab cs E n)) q.name ds st) Q := p
    unfold mem at p
    split at p
    · rename_i e hk
      obtain ⟨g, hg, e1, e2, e3, e4⟩ := lookM_ok hk
      obtain ⟨f1, f2, f3⟩ := tr_fact (hE g hg e e2)
      obtain ⟨g', F', o⟩ := hS g hg e e2 q hq hd e1.symm fd F
      exact F'.run A outer s H args us vs Q E' (hr.mono (by omega)) he hb hv (frame o f1 f2 sr (by rw [e4]; exact r) (by rw [e4]; exact hl) p)
    · rw [phiM_fn (look_app hd) hn] at p
      exact step.run A outer s H args us vs Q E' hr he hb hv ⟨ρ, st, ds, sr, r, hl, p⟩
theorem tr_sem (M : Mf K mg t cs) (T : TxtOk t) (L : LamT K mg base t) {f : Str} {e : En} (h : Tr t.tab cs (fnsOf t.l) f e) : Sem K P w mg base t f e := by
  induction h with
  | mk E hE h hp ih =>
    rename_i f e
    intro q hq hd hf fd F
    subst hf
    exact ⟨_, fns_okE M T L hE ih e.n q hq hd fd F, h⟩
theorem fns_okM (M : Mf K mg t cs) (T : TxtOk t) (L : LamT K mg base t) {E : Mm} (hE : ∀ g ∈ E, ∀ e ∈ g.2, Tr t.tab cs (fnsOf t.l) g.1 e) (n : Nat) (q : Df) (hq : q ∈ t.l) (hd : (tabOf t.l).lookup q.name = some q.fd) (fd : FuncData)
    (F : FunD K q.name q.name (defArgs q.st) (defBody q.st) (defScope q.st) [] [] (fnAd K q.name) fd) : FnOk P w K mg base (L2N.CX P w) (3 * n) (fnAd K q.name) fd q.fd.ps (spF K mg q.fd.ps.length (phiM t.tab cs E n q.name)) :=
  fns_okE M T L hE (fun g hg e he => tr_sem M T L (hE g hg e he)) n q hq hd fd F
end
end Ev

set_option Elab.async false
set_option linter.all false
set_option maxRecDepth 100000
set_option maxHeartbeats 1000000
namespace Ev
open PySem PySem.Spec PyProof.Rows L2
section
variable {K : PySem.W.Frag} {h : Heap} {mg : Str → Option Value} {t : Txt} {own fv : List Str} {cs : Ints}
theorem law_F3 {l : PySem.W.OpenLaw} {w : World} {n N : Nat} {fa : Addr} (q : Df) (A : Asked t own fv) (X : K.In h) (G : h.Ns mainGlobals mg) (c : He.SaysX (faOf t own cs) ((t.l ++ t.ws).map dOf) [] (tfOf t) (exB t) w h K)
    (hq : q ∈ t.l) (hn : q.name = "law") (hlk : (tabOf t.l).lookup q.name = some q.fd) (hps : q.fd.ps = [("script" : Str)]) (hmg : mg "law" = some (.ref fa))
    (hlaw : ∀ ns : List Int, ns.length ≤ N → ∃ E : Mm, (∀ g ∈ E, ∀ e ∈ g.2, Tr t.tab (csOf cs fv) (fnsOf t.l) g.1 e) ∧ ∃ st, phiM t.tab (csOf cs fv) E n "law" [.scr ns] [] = .ok (.bl true) st) :
    LamX.LawAtS l w K CX0 (3 * n) N "script" mg fa h := by
  letI : TabsOf := ⟨tabsT t K⟩
  have hex := c.more
  unfold exB at hex
  simp only [Bool.and_eq_true, decide_eq_true_eq, Bool.not_eq_true'] at hex
  obtain ⟨⟨hnd, hwf⟩, hng⟩ := hex
  have M := mf_of (own := own) (fv := fv) (cs := cs) X G c.t.d hwf A.cls A.fv A.exc
  obtain ⟨fd, F, hm⟩ := M.fn q (List.mem_append_left _ hq)
  have e := (by rw [hn] at hm; exact hm : mg "law" = some (.ref (fnAd K "law"))).symm.trans hmg
  have b := FunD.bindsA (ps := q.fd.ps) F (A.txt.bnd q (List.mem_append_left _ hq) q.name q.name _ _)
  have memT : ∀ p ∈ tabsT t K, ∃ x ∈ t.lam, p = ((He.cT K (x, none)).2, x ++ ".<locals>." ++ "<lambda>") := fun p hp => by
    obtain ⟨x, hx, rfl⟩ := List.mem_map.mp hp
    exact ⟨x, hx, rfl⟩
  have inj : ∀ x y, x ∈ t.lam → y ∈ t.lam → (He.cT K (x, none)).2 = (He.cT K (y, none)).2 → x = y := by
    have key : ∀ (m : List Str), (m.map fun x => (He.cT K (x, none)).2).Nodup → ∀ x y, x ∈ m → y ∈ m → (He.cT K (x, none)).2 = (He.cT K (y, none)).2 → x = y := fun m => by
      induction m with
      | nil => intro _ x y hx; cases hx
      | cons z m ih =>
        intro hnd x y hx hy hxy
        rw [List.map_cons, List.nodup_cons] at hnd
        rcases List.mem_cons.mp hx with ex | hx
        · rcases List.mem_cons.mp hy with ey | hy
          · rw [ex, ey]
          · exact absurd (List.mem_map.mpr ⟨y, hy, by rw [← hxy, ex]⟩) hnd.1
        · rcases List.mem_cons.mp hy with ey | hy
          · exact absurd (List.mem_map.mpr ⟨x, hx, by rw [hxy, ey]⟩) hnd.1
          · exact ih hnd.2 x y hx hy hxy
    exact key t.lam hnd
  refine ⟨fd, t.lam.map fun x => He.cT K (x, none), fun vs H Q _ => ∃ E : Mm, (∀ g ∈ E, ∀ e ∈ g.2, Tr t.tab (csOf cs fv) (fnsOf t.l) g.1 e) ∧ spF K mg q.fd.ps.length (phiM t.tab (csOf cs fv) E n q.name) vs H Q fun _ _ _ => False, fun p hp => ?_, fun p hp => ?_, fun p hp => ?_, fun s v => ?_, fun H a ns hl _ hT hS => ?_, fun base KB GB hTB => ?_⟩
  · obtain ⟨x, hx, rfl⟩ := List.mem_map.mp hp
    exact c.empty (x, none) (List.mem_map.mpr ⟨x, hx, rfl⟩)
  · obtain ⟨x, hx, rfl⟩ := List.mem_map.mp hp
    exact c.out (x, none) (List.mem_map.mpr ⟨x, hx, rfl⟩)
  · obtain ⟨x, hx, rfl⟩ := List.mem_map.mp hp
    exact PySem.W.codeHd_of_K X (c.hd (x, none) (List.mem_map.mpr ⟨x, hx, rfl⟩))
  · have := b s [v] (by rw [hps]; rfl)
    rw [hps] at this
    exact this
  · rw [hps, hn]
    obtain ⟨E, hE, hr⟩ := hlaw ns hl
    refine ⟨E, hE, law_sp (fun p hp => ?_) hS hr⟩
    obtain ⟨x, hx, rfl⟩ := memT p hp
    exact LamX.TabS.nil (hT (He.cT K (x, none)) (List.mem_map.mpr ⟨x, hx, rfl⟩))
  · have L : LamT K mg base t := fun x hx => by
      have hx := List.contains_iff_mem.mp hx
      refine ⟨(He.cT K (x, none)).2, hTB (He.cT K (x, none)) (List.mem_map.mpr ⟨x, hx, rfl⟩), List.mem_map.mpr ⟨x, hx, rfl⟩, fun p hp hpe => ?_⟩
      obtain ⟨y, hy, rfl⟩ := memT p hp
      rw [inj y x hy hx hpe]
    have F3 := fun (E : Mm) (hE : ∀ g ∈ E, ∀ e ∈ g.2, Tr t.tab (csOf cs fv) (fnsOf t.l) g.1 e) => calm_fn (fns_okM (P := l.prog) (w := w) (base := base) M A.txt L hE n q hq hlk fd F)
    have this : FnOk l.prog w K mg base CX0 (3 * n) (fnAd K q.name) fd q.fd.ps (fun vs H Q _ => ∃ E : Mm, (∀ g ∈ E, ∀ e ∈ g.2, Tr t.tab (csOf cs fv) (fnsOf t.l) g.1 e) ∧ spF K mg q.fd.ps.length (phiM t.tab (csOf cs fv) E n q.name) vs H Q fun _ _ _ => False) :=
      ⟨fun vs H Q E' ⟨E, hE, h⟩ => (F3 E hE).len vs H Q E' h, fun A outer s H args us vs Q E' hr he hb hv ⟨E, hE, h⟩ => (F3 E hE).run A outer s H args us vs Q E' hr he hb hv h⟩
    rw [hps] at this ⊢
    rw [hn] at this
    rw [hn]
    cases e
    exact this
end
end Ev

set_option Elab.async false
set_option linter.all false
set_option maxRecDepth 100000
set_option maxHeartbeats 1000000
/-! the evaluator's equations for simp; loops and comprehensions by what one turn does -/
namespace Lw
open Ev
open PySem (Str)
section
variable {Φ : Fns} {cs : Consts} {n : Nat} {env : Env} {st : Store}
@[simp] theorem R.bind_ok {α β : Type} (a : α) (st : Store) (f : α → Store → R β) : (R.ok a st).bind f = f a st := (rfl)
@[simp] theorem R.bind_exc {α β : Type} (x : Str) (st : Store) (f : α → Store → R β) : (R.exc x st : R α).bind f = .exc x st := (rfl)
@[simp] theorem R.bind_bad {α β : Type} (f : α → Store → R β) : (R.bad : R α).bind f = .bad := (rfl)
@[simp] theorem R.calm_ok {α : Type} (a : α) (st : Store) : (R.ok a st).calm = .ok a st := (rfl)
@[simp] theorem R.of_some {α : Type} (a : α) (st : Store) : R.of (some a) st = .ok a st := (rfl)
@[simp] theorem evs_nil (rec : Ex) : evs rec [] env st = .ok [] st := (rfl)
@[simp] theorem evs_cons (rec : Ex) (e : E) (r : List E) : evs rec (e :: r) env st = (rec e env st).bind fun d st1 => (evs rec r env st1).bind fun ds st2 => .ok (d :: ds) st2 := (rfl)
@[simp] theorem ev_con (d : D) : ev Φ cs (n+1) (.con d) env st = .ok d st := (rfl)
@[simp] theorem ev_var (i : Nat) : ev Φ cs (n+1) (.var i) env st = match env[i]? with
    | some (some d) => .ok d st
    | _ => .bad := (rfl)
@[simp] theorem ev_glob (x : Str) : ev Φ cs (n+1) (.glob x) env st = R.of (lookS cs x) st := (rfl)
@[simp] theorem ev_tup (l : List E) : ev Φ cs (n+1) (.tup l) env st = (evs (ev Φ cs n) l env st).bind fun ds st1 => .ok (.tup ds) st1 := (rfl)
@[simp] theorem ev_lst (l : List E) : ev Φ cs (n+1) (.lst l) env st = (evs (ev Φ cs n) l env st).bind fun ds st1 => .ok (.lst ds) st1 := (rfl)
@[simp] theorem ev_cel (l : List E) : ev Φ cs (n+1) (.cel l) env st = (evs (ev Φ cs n) l env st).bind fun ds st1 => .ok (.ref st1.length) (st1 ++ [.lst ds]) := (rfl)
@[simp] theorem ev_bin (op : PySem.Operator) (a b : E) : ev Φ cs (n+1) (.bin op a b) env st = (ev Φ cs n a env st).bind fun x st1 => (ev Φ cs n b env st1).bind fun y st2 => binop op x y st2 := (rfl)
@[simp] theorem ev_neg (a : E) : ev Φ cs (n+1) (.neg a) env st = (ev Φ cs n a env st).bind fun x st1 => match x with
    | .int i => .ok (.int (-i)) st1
    | _ => .bad := (rfl)
@[simp] theorem ev_not (a : E) : ev Φ cs (n+1) (.not a) env st = (ev Φ cs n a env st).bind fun x st1 => match truth x st1 with
    | some b => .ok (.bl (!b)) st1
    | none => .bad := (rfl)
@[simp] theorem ev_and (a b : E) : ev Φ cs (n+1) (.and a b) env st = (ev Φ cs n a env st).bind fun x st1 => match truth x st1 with
    | some k => if k = true then ev Φ cs n b env st1 else .ok x st1
    | none => .bad := (rfl)
@[simp] theorem ev_or (a b : E) : ev Φ cs (n+1) (.or a b) env st = (ev Φ cs n a env st).bind fun x st1 => match truth x st1 with
    | some k => if k = true then .ok x st1 else ev Φ cs n b env st1
    | none => .bad := (rfl)
@[simp] theorem ev_cmp (op : PySem.CmpOp) (a b : E) : ev Φ cs (n+1) (.cmp op a b) env st = (ev Φ cs n a env st).bind fun x st1 => (ev Φ cs n b env st1).bind fun y st2 => cmpop op x y st2 := (rfl)
def andB (k : D) (st : Store) (f : R D) : R D := match k with
  | .bl true => f
  | .bl false => .ok (.bl false) st
  | _ => .bad
@[simp] theorem andB_bl (b : Bool) (st : Store) (f : R D) : andB (.bl b) st f = if b = true then f else .ok (.bl false) st := by cases b <;> rfl
@[simp] theorem ev_cmp2 (op op2 : PySem.CmpOp) (a b c : E) : ev Φ cs (n+1) (.cmp2 op op2 a b c) env st = (ev Φ cs n a env st).bind fun x st1 => (ev Φ cs n b env st1).bind fun y st2 => (cmpop op x y st2).bind fun k st3 =>
    andB k st3 ((ev Φ cs n c env st3).bind fun z st4 => cmpop op2 y z st4) := (rfl)
@[simp] theorem ev_ite (c a b : E) : ev Φ cs (n+1) (.ite c a b) env st = (ev Φ cs n c env st).bind fun x st1 => match truth x st1 with
    | some k => if k = true then ev Φ cs n a env st1 else ev Φ cs n b env st1
    | none => .bad := (rfl)
@[simp] theorem ev_call (f : Str) (args : List E) : ev Φ cs (n+1) (.call f args) env st = (evs (ev Φ cs n) args env st).bind fun ds st1 => Φ f ds st1 := (rfl)
@[simp] theorem ev_blt (f : Bf) (args : List E) : ev Φ cs (n+1) (.blt f args) env st = (evs (ev Φ cs n) args env st).bind fun ds st1 => bltop f ds st1 := (rfl)
@[simp] theorem ev_isin (a : E) (ty : String) : ev Φ cs (n+1) (.isin a ty) env st = (ev Φ cs n a env st).bind fun x st1 => if okTy ty = true then R.of ((isinop x ty st1).map D.bl) st1 else .bad := (rfl)
@[simp] theorem ev_ix (a b : E) : ev Φ cs (n+1) (.ix a b) env st = (ev Φ cs n a env st).bind fun x st1 => (ev Φ cs n b env st1).bind fun y st2 => ixop x y st2 := (rfl)
def lamR (Φ : Fns) (f : Str) (r : R D) : R D := match r with
  | .ok _ st1 => (Φ f [] st1).calm
  | .exc x st1 => (Φ f [.str x] st1).calm
  | .bad => .bad
@[simp] theorem lamR_ok (f : Str) (d : D) : lamR Φ f (.ok d st) = (Φ f [] st).calm := (rfl)
@[simp] theorem lamR_exc (f x : Str) : lamR Φ f (.exc x st) = (Φ f [.str x] st).calm := (rfl)
@[simp] theorem ev_lam (f : Str) (b : E) : ev Φ cs (n+1) (.lam f b) env st = lamR Φ f (ev Φ cs n b env st) := (rfl)
@[simp] theorem ev_callv (i : Nat) (args : List E) : ev Φ cs (n+1) (.callv i args) env st = (match env[i]? with
    | some (some (.fn x)) => match lookS cs x with
      | some (.fn _) => (evs (ev Φ cs n) args env st).bind fun ds st1 => Φ x ds st1
      | _ => .bad
    | _ => .bad) := (rfl)
@[simp] theorem part_none (rec : Ex) : evStep.part rec none env st = .ok none st := (rfl)
@[simp] theorem part_some (rec : Ex) (e : E) : evStep.part rec (some e) env st = (rec e env st).bind fun d st1 => match d with
    | .int i => .ok (some i) st1
    | _ => .bad := (rfl)
@[simp] theorem ev_sl (a : E) (lo hi : Option E) : ev Φ cs (n+1) (.sl a lo hi) env st = (ev Φ cs n a env st).bind fun x st1 => (evStep.part (ev Φ cs n) lo env st1).bind fun l st2 => (evStep.part (ev Φ cs n) hi env st2).bind fun h st3 => slop x l h st3 := (rfl)
@[simp] theorem ev_meth (m : Mth) (o : E) (args : List E) : ev Φ cs (n+1) (.meth m o args) env st = (ev Φ cs n o env st).bind fun x st1 => if liveC x st1 = true then (evs (ev Φ cs n) args env st1).bind fun ds st2 => methop m x ds st2 else .bad := (rfl)
@[simp] theorem ev_rev (a : E) : ev Φ cs (n+1) (.rev a) env st = (ev Φ cs n a env st).bind fun x st1 => revop x st1 := (rfl)
def lcEnd (ys : List D) (st : Store) : R D := if ys.length ≤ seqMax then .ok (.lst ys) st else .bad
@[simp] theorem ev_lc (elt : E) (t : T) (it : E) (ifs : List E) (gs : List G) (own : List Nat) : ev Φ cs (n+1) (.lc elt (.mk t it ifs :: gs) own) env st =
    (evI (ev Φ cs n) it env st).bind fun xs st1 => (lcItems (lcOne (ev Φ cs n) elt gs t ifs) xs (wipeE env own) st1).calm.bind lcEnd := (rfl)
@[simp] theorem evI_zip (rec : Ex) (a b : E) : evI rec (.blt .zip [a, b]) env st = (rec a env st).bind fun x st1 => (rec b env st1).bind fun y st2 => match x, y with
    | .tup xs, .tup ys => .ok (zipL xs ys) st2
    | .lst xs, .lst ys => .ok (zipL xs ys) st2
    | _, _ => .bad := (rfl)
@[simp] theorem evI_enum (rec : Ex) (a : E) : evI rec (.blt .enumerate [a]) env st = (rec a env st).bind fun x st1 => match x with
    | .tup xs => .ok (enumL 0 xs) st1
    | .lst xs => .ok (enumL 0 xs) st1
    | _ => .bad := (rfl)
@[simp] theorem evI_var (rec : Ex) (i : Nat) : evI rec (.var i) env st = (rec (.var i) env st).bind fun d st1 => R.of (itemsOf d st1) st1 := (rfl)
@[simp] theorem evI_tup (rec : Ex) (l : List E) : evI rec (.tup l) env st = (rec (.tup l) env st).bind fun d st1 => R.of (itemsOf d st1) st1 := (rfl)
@[simp] theorem evI_lst (rec : Ex) (l : List E) : evI rec (.lst l) env st = (rec (.lst l) env st).bind fun d st1 => R.of (itemsOf d st1) st1 := (rfl)
@[simp] theorem evI_call (rec : Ex) (f : Str) (l : List E) : evI rec (.call f l) env st = (rec (.call f l) env st).bind fun d st1 => R.of (itemsOf d st1) st1 := (rfl)
@[simp] theorem evI_ix (rec : Ex) (a b : E) : evI rec (.ix a b) env st = (rec (.ix a b) env st).bind fun d st1 => R.of (itemsOf d st1) st1 := (rfl)
@[simp] theorem evI_sl (rec : Ex) (a : E) (l h : Option E) : evI rec (.sl a l h) env st = (rec (.sl a l h) env st).bind fun d st1 => R.of (itemsOf d st1) st1 := (rfl)
@[simp] theorem evI_range1 (rec : Ex) (l : List E) : evI rec (.blt .range1 l) env st = (rec (.blt .range1 l) env st).bind fun d st1 => R.of (itemsOf d st1) st1 := (rfl)
@[simp] theorem evI_range2 (rec : Ex) (l : List E) : evI rec (.blt .range2 l) env st = (rec (.blt .range2 l) env st).bind fun d st1 => R.of (itemsOf d st1) st1 := (rfl)
@[simp] theorem evI_bin (rec : Ex) (op : PySem.Operator) (a b : E) : evI rec (.bin op a b) env st = (rec (.bin op a b) env st).bind fun d st1 => R.of (itemsOf d st1) st1 := (rfl)
@[simp] theorem evI_lc (rec : Ex) (a : E) (g : List G) (o : List Nat) : evI rec (.lc a g o) env st = (rec (.lc a g o) env st).bind fun d st1 => R.of (itemsOf d st1) st1 := (rfl)
@[simp] theorem evI_rev (rec : Ex) (a : E) : evI rec (.rev a) env st = (rec (.rev a) env st).bind fun d st1 => R.of (itemsOf d st1) st1 := (rfl)
@[simp] theorem items_tup (l : List D) : itemsOf (.tup l) st = some l := (rfl)
@[simp] theorem items_lst (l : List D) : itemsOf (.lst l) st = some l := (rfl)
theorem items_rng {lo hi : Int} (h : -1000000 ≤ lo ∧ lo ≤ 1000000 ∧ -1000000 ≤ hi ∧ hi ≤ 1000000) : itemsOf (.rng lo hi) st = some (rangeL lo (hi - lo).toNat) := if_pos h
@[simp] theorem tests_nil (rec : Ex) : tests rec [] env st = .ok true st := (rfl)
@[simp] theorem tests_one (rec : Ex) (e : E) : tests rec [e] env st = (rec e env st).bind fun d st1 => match truth d st1 with
    | some b => .ok b st1
    | none => .bad := (rfl)
@[simp] theorem lcOne_nil (rec : Ex) (elt : E) (t : T) (ifs : List E) (x : D) : lcOne rec elt [] t ifs x env st = match bindT t x env with
    | none => .bad
    | some env1 => (tests rec ifs env1 st).bind fun b st1 => if b = true then (rec elt env1 st1).bind fun y st2 => .ok [y] st2 else .ok [] st1 := (rfl)
@[simp] theorem lcOne_cons (rec : Ex) (elt : E) (t t2 : T) (it2 : E) (ifs ifs2 : List E) (gs : List G) (x : D) : lcOne rec elt (.mk t2 it2 ifs2 :: gs) t ifs x env st = match bindT t x env with
    | none => .bad
    | some env1 => (tests rec ifs env1 st).bind fun b st1 =>
      if b = true then (evI rec it2 env1 st1).bind fun xs st2 => lcItems (lcOne rec elt gs t2 ifs2) xs (wipeE env1 (deepSlots t2 gs)) st2 else .ok [] st1 := (rfl)
@[simp] theorem deep_nil (t : T) : deepSlots t [] = slots t := (rfl)
@[simp] theorem bindT_name (i : Nat) (d : D) : bindT (.name i) d env = if i < env.length then some (env.set i (some d)) else none := (rfl)
@[simp] theorem bindT_tup (ts : List T) (ds : List D) : bindT (.tup ts) (.tup ds) env = bindTs ts ds env := (rfl)
@[simp] theorem bindTs_nil : bindTs [] [] env = some env := (rfl)
@[simp] theorem bindTs_cons (t : T) (ts : List T) (d : D) (ds : List D) : bindTs (t :: ts) (d :: ds) env = match bindT t d env with
    | some env1 => bindTs ts ds env1
    | none => none := (rfl)
@[simp] theorem slots_name (i : Nat) : slots (.name i) = [i] := (rfl)
@[simp] theorem slots_tup (ts : List T) : slots (.tup ts) = slotss ts := (rfl)
@[simp] theorem slotss_nil : slotss [] = [] := (rfl)
@[simp] theorem slotss_cons (t : T) (ts : List T) : slotss (t :: ts) = slots t ++ slotss ts := (rfl)
@[simp] theorem wipeE_nil : wipeE env [] = env := (rfl)
@[simp] theorem wipeE_cons (v : Nat) (vs : List Nat) : wipeE env (v :: vs) = (wipeE env vs).set v none := (rfl)
/-! statements -/
variable {ee : Ex} {rec : Sx}
@[simp] theorem exs_nil : exs rec [] env st = .ok (.next env) st := (rfl)
def thenF (f : F) (st : Store) (g : Env → Store → R F) : R F := match f with
  | .next env1 => g env1 st
  | _ => .ok f st
@[simp] theorem then_next (e : Env) (g : Env → Store → R F) : thenF (.next e) st g = g e st := (rfl)
@[simp] theorem then_ret (d : D) (g : Env → Store → R F) : thenF (.ret d) st g = .ok (.ret d) st := (rfl)
@[simp] theorem then_brk (e : Env) (g : Env → Store → R F) : thenF (.brk e) st g = .ok (.brk e) st := (rfl)
@[simp] theorem then_cont (e : Env) (g : Env → Store → R F) : thenF (.cont e) st g = .ok (.cont e) st := (rfl)
@[simp] theorem exs_cons (s : S) (r : List S) : exs rec (s :: r) env st = (rec s env st).bind fun f st1 => thenF f st1 fun env1 st2 => exs rec r env1 st2 := (rfl)
@[simp] theorem ex_set (t : T) (e : E) : ex ee (n+1) (.set t e) env st = (ee e env st).bind fun d st1 => match bindT t d env with
    | some env1 => .ok (.next env1) st1
    | none => .bad := (rfl)
@[simp] theorem ex_sub (o i e : E) : ex ee (n+1) (.sub o i e) env st = (ee e env st).bind fun d st1 => (ee o env st1).bind fun x st2 => (ee i env st2).bind fun y st3 => match subop x y d st3 with
    | some st4 => .ok (.next env) st4
    | none => .bad := (rfl)
@[simp] theorem ex_ex (e : E) : ex ee (n+1) (.ex e) env st = (ee e env st).bind fun _ st1 => .ok (.next env) st1 := (rfl)
@[simp] theorem ex_ret (e : E) : ex ee (n+1) (.ret e) env st = (ee e env st).bind fun d st1 => .ok (.ret d) st1 := (rfl)
@[simp] theorem ex_retN : ex ee (n+1) .retN env st = .ok (.ret .non) st := (rfl)
@[simp] theorem ex_cond (c : E) (a b : List S) : ex ee (n+1) (.cond c a b) env st = (ee c env st).bind fun x st1 => match truth x st1 with
    | some k => if k = true then exs (ex ee n) a env st1 else exs (ex ee n) b env st1
    | none => .bad := (rfl)
@[simp] theorem ex_for (t : T) (it : E) (b : List S) : ex ee (n+1) (.for t it b) env st = (evI ee it env st).bind fun xs st1 => forGo (exs (ex ee n) b) t xs env st1 := (rfl)
@[simp] theorem ex_while (c : E) (b : List S) : ex ee (n+1) (.while c b) env st = whileGo (ee c) (exs (ex ee n) b) whileFuel env st := (rfl)
@[simp] theorem ex_raise (x : Str) : ex ee (n+1) (.raise x) env st = .exc x st := (rfl)
@[simp] theorem ex_pass : ex ee (n+1) .pass env st = .ok (.next env) st := (rfl)
@[simp] theorem ex_brk : ex ee (n+1) .brk env st = .ok (.brk env) st := (rfl)
@[simp] theorem ex_cont : ex ee (n+1) .cont env st = .ok (.cont env) st := (rfl)
@[simp] theorem trunc_same {v : D} {n : Nat} (h : st.length = n) : trunc n v st = .ok v st := by unfold trunc; rw [if_pos h]
@[simp] theorem end_ret (k : Nat) (d : D) : endF k (.ok (.ret d) st) = trunc k d st := (rfl)
@[simp] theorem end_next (k : Nat) (e : Env) : endF k (.ok (.next e) st) = trunc k .non st := (rfl)
@[simp] theorem end_exc (k : Nat) (x : Str) : endF k (.exc x st) = .exc x st := (rfl)
theorem runF_eq {d : FD} {args : List D} (h : args.length = d.ps.length) : runF Φ cs d args st = endF st.length (exs (ex (ev Φ cs d.fuel) d.fuel) d.body (startE d args) st) := if_pos h
end
/-! ### truth, isinstance, operators -/
section
variable {st : Store}
@[simp] theorem truth_non : truth .non st = some false := (rfl)
@[simp] theorem truth_bl (b : Bool) : truth (.bl b) st = some b := (rfl)
@[simp] theorem truth_int (i : Int) : truth (.int i) st = some (i != 0) := (rfl)
@[simp] theorem truth_tup (l : List D) : truth (.tup l) st = some (!l.isEmpty) := (rfl)
@[simp] theorem truth_lst (l : List D) : truth (.lst l) st = some (!l.isEmpty) := (rfl)
@[simp] theorem isin_non (ty : String) : isinop .non ty st = some (isinTy "NoneType" ty) := (rfl)
@[simp] theorem isin_bl (b : Bool) (ty : String) : isinop (.bl b) ty st = some (isinTy "bool" ty) := (rfl)
@[simp] theorem isin_int (i : Int) (ty : String) : isinop (.int i) ty st = some (isinTy "int" ty) := (rfl)
@[simp] theorem isin_str (x : Str) (ty : String) : isinop (.str x) ty st = some (isinTy "str" ty) := (rfl)
@[simp] theorem isin_tup (l : List D) (ty : String) : isinop (.tup l) ty st = some (isinTy "tuple" ty) := (rfl)
@[simp] theorem isin_lst (l : List D) (ty : String) : isinop (.lst l) ty st = some (isinTy "list" ty) := (rfl)
@[simp] theorem add_int (i j : Int) : binop .Add (.int i) (.int j) st = .ok (.int (i + j)) st := (rfl)
@[simp] theorem sub_int (i j : Int) : binop .Sub (.int i) (.int j) st = .ok (.int (i - j)) st := (rfl)
theorem add_tup {xs ys : List D} (h : xs.length + ys.length ≤ seqMax) : binop .Add (.tup xs) (.tup ys) st = .ok (.tup (xs ++ ys)) st := if_pos h
theorem add_lst {xs ys : List D} (h : xs.length + ys.length ≤ seqMax) : binop .Add (.lst xs) (.lst ys) st = .ok (.lst (xs ++ ys)) st := if_pos h
theorem mod_int {i j : Int} (h : 0 < j) : binop .Mod (.int i) (.int j) st = .ok (.int (i % j)) st := if_pos h
theorem div_int {i j : Int} (h : 0 < j) (h2 : j < 2 ^ 64) : binop .FloorDiv (.int i) (.int j) st = .ok (.int (i / j)) st := by
  refine if_pos ?_
  have h3 : j.natAbs.log2 < 9000 := by
    have h4 : j.natAbs ≠ 0 := by omega
    have : j.natAbs < 2 ^ 64 := by omega
    exact Nat.lt_trans ((Nat.log2_lt h4).mpr this) (by decide)
  simp [h, h3]
theorem mul_int {i j : Int} (h : -(2 ^ 64) < i ∧ i < 2 ^ 64) : binop .Mult (.int i) (.int j) st = .ok (.int (i * j)) st := by
  refine if_pos ?_
  have e : (decide (-(2 ^ 64) < i) && decide (i < 2 ^ 64)) = true := by simp only [h.1, h.2, decide_true, Bool.and_true]
  rw [e, Bool.true_or, Bool.true_or]
theorem mul_int' {i j : Int} (h : -(2 ^ 64) < j ∧ j < 2 ^ 64) : binop .Mult (.int i) (.int j) st = .ok (.int (i * j)) st := by
  refine if_pos ?_
  have e : (decide (-(2 ^ 64) < j) && decide (j < 2 ^ 64)) = true := by simp only [h.1, h.2, decide_true, Bool.and_true]
  rw [e, Bool.or_true, Bool.true_or]
@[simp] theorem lt_int' (i j : Int) : cmpop .Lt (.int i) (.int j) st = .ok (.bl (decide (i < j))) st := (rfl)
@[simp] theorem le_int' (i j : Int) : cmpop .LtE (.int i) (.int j) st = .ok (.bl (decide (i ≤ j))) st := (rfl)
@[simp] theorem gt_int' (i j : Int) : cmpop .Gt (.int i) (.int j) st = .ok (.bl (decide (j < i))) st := (rfl)
@[simp] theorem ge_int' (i j : Int) : cmpop .GtE (.int i) (.int j) st = .ok (.bl (decide (j ≤ i))) st := (rfl)
@[simp] theorem eq_int' (i j : Int) : cmpop .Eq (.int i) (.int j) st = .ok (.bl (i == j)) st := (rfl)
@[simp] theorem ne_int' (i j : Int) : cmpop .NotEq (.int i) (.int j) st = .ok (.bl (!(i == j))) st := (rfl)
@[simp] theorem is_bl (a b : Bool) : cmpop .Is (.bl a) (.bl b) st = .ok (.bl (decide (a = b))) st := (rfl)
@[simp] theorem isnot_bl (a b : Bool) : cmpop .IsNot (.bl a) (.bl b) st = .ok (.bl (!decide (a = b))) st := (rfl)
@[simp] theorem is_non : cmpop .Is .non .non st = .ok (.bl true) st := (rfl)
@[simp] theorem is_int_non (i : Int) : cmpop .Is (.int i) .non st = .ok (.bl false) st := (rfl)
@[simp] theorem is_bl_non (i : Bool) : cmpop .Is (.bl i) .non st = .ok (.bl false) st := (rfl)
@[simp] theorem is_tup_non (i : List D) : cmpop .Is (.tup i) .non st = .ok (.bl false) st := (rfl)
@[simp] theorem len_tup (l : List D) : bltop .len [.tup l] st = .ok (.int l.length) st := (rfl)
@[simp] theorem len_lst (l : List D) : bltop .len [.lst l] st = .ok (.int l.length) st := (rfl)
@[simp] theorem tuple_lst (l : List D) : bltop .tuple [.lst l] st = .ok (.tup l) st := (rfl)
@[simp] theorem tuple_tup (l : List D) : bltop .tuple [.tup l] st = .ok (.tup l) st := (rfl)
@[simp] theorem list_scr (l : List Int) : bltop .list [.scr l] st = .ok (.lst (l.map D.int)) st := (rfl)
@[simp] theorem abs_int (i : Int) : bltop .abs [.int i] st = .ok (.int (if i < 0 then -i else i)) st := (rfl)
@[simp] theorem int_int (i : Int) : bltop .int [.int i] st = .ok (.int i) st := (rfl)
@[simp] theorem range1_int (i : Int) : bltop .range1 [.int i] st = .ok (.rng 0 i) st := (rfl)
@[simp] theorem range2_int (i j : Int) : bltop .range2 [.int i, .int j] st = .ok (.rng i j) st := (rfl)
theorem boolsOf_map : ∀ l : List Bool, boolsOf (l.map D.bl) = some l
  | [] => rfl
  | b :: r => by rw [List.map_cons, boolsOf, boolsOf_map r]
theorem intsOf_map : ∀ l : List Int, intsOf (l.map D.int) = some l
  | [] => rfl
  | b :: r => by rw [List.map_cons, intsOf, intsOf_map r]
theorem all_bools (l : List Bool) : bltop .all [.lst (l.map D.bl)] st = .ok (.bl (l.all id)) st := by
  show (match boolsOf (l.map D.bl) with
    | some bs => R.ok (D.bl (bs.all id)) st
    | none => .bad) = _
  rw [boolsOf_map]
theorem any_bools (l : List Bool) : bltop .any [.lst (l.map D.bl)] st = .ok (.bl (l.any id)) st := by
  show (match boolsOf (l.map D.bl) with
    | some bs => R.ok (D.bl (bs.any id)) st
    | none => .bad) = _
  rw [boolsOf_map]
theorem sumTup (l : List Int) : bltop .sum [.tup (l.map D.int)] st = .ok (.int l.sum) st := by
  show (match intsOf (l.map D.int) with
    | some bs => R.ok (D.int bs.sum) st
    | none => .bad) = _
  rw [intsOf_map]
theorem sumLst (l : List Int) : bltop .sum [.lst (l.map D.int)] st = .ok (.int l.sum) st := by
  show (match intsOf (l.map D.int) with
    | some bs => R.ok (D.int bs.sum) st
    | none => .bad) = _
  rw [intsOf_map]
theorem ss_lst {l : List Int} (h : l.length < 1000) (h2 : (sortSet l).length < 64) : bltop .sortedSet [.lst (l.map D.int)] st = .ok (.lst ((sortSet l).map D.int)) st := by
  show (match intsOf (l.map D.int) with
    | some ns => if ns.length < 1000 ∧ (sortSet ns).length < 64 then R.ok (D.lst ((sortSet ns).map D.int)) st else .bad
    | none => .bad) = _
  rw [intsOf_map]
  exact if_pos ⟨h, h2⟩
theorem ix_tup {l : List D} {i : Nat} {d : D} (h : l[i]? = some d) : ixop (.tup l) (.int i) st = .ok d st := by
  have hl := (List.getElem?_eq_some_iff.mp h).1
  show R.of (atI l i) st = _
  unfold atI ixN
  rw [if_pos (by omega), if_pos (by omega)]
  simp [h]
theorem ix_lst {l : List D} {i : Nat} {d : D} (h : l[i]? = some d) : ixop (.lst l) (.int i) st = .ok d st := by
  have hl := (List.getElem?_eq_some_iff.mp h).1
  show R.of (atI l i) st = _
  unfold atI ixN
  rw [if_pos (by omega), if_pos (by omega)]
  simp [h]
end
/-! ### walks -/
/-- a comprehension whose turns change nothing -/
theorem lc_pure {one : D → Env → Store → R (List D)} {env : Env} {st : Store} (g : D → List D) : ∀ {xs : List D}, (∀ x ∈ xs, one x env st = .ok (g x) st) → lcItems one xs env st = .ok (xs.flatMap g) st
  | [], _ => rfl
  | x :: r, h => by
    unfold lcItems
    rw [h x List.mem_cons_self, R.bind_ok, lc_pure g (fun y hy => h y (List.mem_cons_of_mem _ hy))]
    rfl
theorem lc_map {one : D → Env → Store → R (List D)} {env : Env} {st : Store} {α : Type} (f : α → D) (g : α → List D) {xs : List α} (h : ∀ x ∈ xs, one (f x) env st = .ok (g x) st) : lcItems one (xs.map f) env st = .ok (xs.flatMap g) st := by
  induction xs with
  | nil => rfl
  | cons x r ih =>
    rw [List.map_cons]
    unfold lcItems
    rw [h x List.mem_cons_self, R.bind_ok, ih (fun y hy => h y (List.mem_cons_of_mem _ hy))]
    rfl
inductive All2 {α β : Type} (P : α → β → Prop) : List α → List β → Prop where
  | nil : All2 P [] []
  | cons {a : α} {b : β} {l : List α} {m : List β} (h : P a b) (r : All2 P l m) : All2 P (a :: l) (b :: m)
/-- a comprehension whose turns keep a word of the store -/
theorem lc_keep {one : D → Env → Store → R (List D)} {env : Env} {α : Type} (f : α → D) (I : Store → Prop) (P : α → List D → Prop) : ∀ {xs : List α} {st : Store}, I st → (∀ x ∈ xs, ∀ st, I st → ∃ ys st', one (f x) env st = .ok ys st' ∧ I st' ∧ P x ys) →
    ∃ (yss : List (List D)) (st' : Store), lcItems one (xs.map f) env st = .ok yss.flatten st' ∧ I st' ∧ All2 P xs yss
  | [], st, hI, _ => ⟨[], st, rfl, hI, .nil⟩
  | x :: r, st, hI, h => by
    obtain ⟨ys, st1, h1, h2, h3⟩ := h x List.mem_cons_self st hI
    obtain ⟨yss, st2, h4, h5, h6⟩ := lc_keep f I P h2 (fun y hy => h y (List.mem_cons_of_mem _ hy))
    refine ⟨ys :: yss, st2, ?_, h5, .cons h3 h6⟩
    rw [List.map_cons]
    unfold lcItems
    rw [h1, R.bind_ok, h4]
    rfl
theorem lc_keep1 {one : D → Env → Store → R (List D)} {env : Env} {α : Type} (f : α → D) (I : Store → Prop) (Q : α → D → Prop) : ∀ {xs : List α} {st : Store}, I st → (∀ x ∈ xs, ∀ st, I st → ∃ d st', one (f x) env st = .ok [d] st' ∧ I st' ∧ Q x d) →
    ∃ (ds : List D) (st' : Store), lcItems one (xs.map f) env st = .ok ds st' ∧ I st' ∧ All2 Q xs ds
  | [], st, hI, _ => ⟨[], st, rfl, hI, .nil⟩
  | x :: r, st, hI, h => by
    obtain ⟨d, st1, h1, h2, h3⟩ := h x List.mem_cons_self st hI
    obtain ⟨ds, st2, h4, h5, h6⟩ := lc_keep1 f I Q h2 (fun y hy => h y (List.mem_cons_of_mem _ hy))
    refine ⟨d :: ds, st2, ?_, h5, .cons h3 h6⟩
    rw [List.map_cons]
    unfold lcItems
    rw [h1, R.bind_ok, h4]
    rfl
theorem all2_map {α β : Type} {xs : List α} {ds : List D} (enc : β → D) (P : β → Prop) (h : All2 (fun _ d => ∃ b, d = enc b ∧ P b) xs ds) : ∃ r : List β, ds = r.map enc ∧ r.length = xs.length ∧ ∀ b ∈ r, P b := by
  induction h with
  | nil => exact ⟨[], rfl, rfl, fun _ h => absurd h (by simp)⟩
  | cons h r ih =>
    obtain ⟨b, rfl, hb⟩ := h
    obtain ⟨rs, rfl, h2, h3⟩ := ih
    exact ⟨b :: rs, rfl, by simp [h2], fun c hc => by
      rcases List.mem_cons.mp hc with z | z
      · rw [z]; exact hb
      · exact h3 c z⟩
theorem sum_pos : ∀ {l : List Int}, (∀ x ∈ l, 0 ≤ x) → (∃ x ∈ l, 0 < x) → 0 < l.sum
  | [], _, ⟨_, h, _⟩ => absurd h (by simp)
  | x :: r, h, ⟨y, hy, hp⟩ => by
    have h0 : ∀ {l : List Int}, (∀ x ∈ l, 0 ≤ x) → 0 ≤ l.sum := by
      intro l
      induction l with
      | nil => intro _; simp
      | cons a l ih =>
        intro h
        have := h a List.mem_cons_self
        have := ih fun x hx => h x (List.mem_cons_of_mem _ hx)
        rw [List.sum_cons]; omega
    rw [List.sum_cons]
    have h1 := h x List.mem_cons_self
    have h2 := h0 (l := r) fun z hz => h z (List.mem_cons_of_mem _ hz)
    rcases List.mem_cons.mp hy with z | z
    · rw [z] at hp; omega
    · have := sum_pos (l := r) (fun z hz => h z (List.mem_cons_of_mem _ hz)) ⟨y, z, hp⟩
      omega
theorem sum_has : ∀ {l : List Int}, 0 < l.sum → ∃ x ∈ l, 0 < x
  | [], h => by simp at h
  | x :: r, h => by
    by_cases hx : 0 < x
    · exact ⟨x, List.mem_cons_self, hx⟩
    · rw [List.sum_cons] at h
      obtain ⟨y, h1, h2⟩ := sum_has (l := r) (by omega)
      exact ⟨y, List.mem_cons_of_mem _ h1, h2⟩
theorem cut_tail (l : List D) : cut l (some 1) none = l.tail := by
  unfold cut sIx
  simp
  cases l with
  | nil => simp
  | cons x r => simp
theorem range_split {k x : Nat} {ys zs : List Nat} (h : List.range k = ys ++ x :: zs) : x = ys.length ∧ x < k := by
  have h1 : (List.range k)[ys.length]? = some x := by rw [h]; simp
  have h2 := (List.getElem?_eq_some_iff.mp h1)
  obtain ⟨h3, h4⟩ := h2
  simp at h3 h4
  omega
theorem exs_app {rec : Sx} : ∀ {l m : List S} {env : Env} {st : Store}, exs rec (l ++ m) env st = (exs rec l env st).bind fun f st1 => thenF f st1 fun env1 st2 => exs rec m env1 st2
  | [], m, env, st => rfl
  | s :: l, m, env, st => by
    rw [List.cons_append, exs_cons, exs_cons]
    cases rec s env st with
    | ok f st1 =>
      rw [R.bind_ok, R.bind_ok]
      cases f with
      | next env1 => rw [then_next, then_next, exs_app]
      | ret d => rfl
      | brk e => rfl
      | cont e => rfl
    | exc x st1 => rfl
    | bad => rfl
theorem range_map : ∀ (n : Nat) (lo : Int), rangeL lo n = (List.range n).map fun (i : Nat) => D.int (lo + i)
  | 0, _ => rfl
  | n + 1, lo => by
    rw [rangeL, range_map n, List.range_succ_eq_map, List.map_cons, List.map_map]
    congr 1
    · simp
    · refine List.map_congr_left fun i _ => ?_
      show D.int _ = D.int _
      congr 1
      push_cast
      omega
theorem range0 (n : Nat) : rangeL 0 n = (List.range n).map fun (i : Nat) => D.int i := by
  rw [range_map]
  refine List.map_congr_left fun i _ => ?_
  simp
theorem items_range (n : Nat) {st : Store} (h : n ≤ 1000000) : itemsOf (.rng 0 (n : Int)) st = some ((List.range n).map fun (i : Nat) => D.int i) := by
  rw [items_rng (by omega), show ((n : Int) - 0).toNat = n by omega, range0]
theorem tuple_rng {n : Nat} {st : Store} (h : n ≤ 1000000) : bltop .tuple [.rng 0 n] st = .ok (.tup ((List.range n).map fun (i : Nat) => D.int i)) st := by
  have := items_range (st := st) n h
  have e : itemsOf (.rng 0 (n : Int)) st = some (rangeL 0 ((n : Int) - 0).toNat) := items_rng (by omega)
  have e2 := Option.some.inj (e.symm.trans this)
  rw [← e2]
  exact if_pos (by omega)
/-- a for: a word of the turn, kept to the end -/
theorem for_keep0 {body : Env → Store → R F} {t : T} {α : Type} (f : α → D) (P : List α → Env → Store → Prop) (all : List α) : ∀ {xs ys : List α} {env : Env} {st : Store}, all = ys ++ xs → P ys env st →
    (∀ ys x zs env st, all = ys ++ x :: zs → P ys env st → ∃ env1 env2 st2, bindT t (f x) env = some env1 ∧ (body env1 st = .ok (.next env2) st2 ∨ body env1 st = .ok (.cont env2) st2) ∧ P (ys ++ [x]) env2 st2) →
    ∃ env' st', forGo body t (xs.map f) env st = .ok (.next env') st' ∧ P all env' st'
  | [], ys, env, st, e, h0, _ => ⟨env, st, rfl, by rw [e, List.append_nil]; exact h0⟩
  | x :: r, ys, env, st, e, h0, h => by
    obtain ⟨env1, env2, st2, h1, h2, h3⟩ := h ys x r env st e h0
    obtain ⟨env3, st3, h4, h5⟩ := for_keep0 f P all (xs := r) (by rw [e]; simp) h3 h
    refine ⟨env3, st3, ?_, h5⟩
    rw [List.map_cons]
    unfold forGo
    rw [h1]
    rcases h2 with h2 | h2
    · show (body env1 st).bind _ = _
      rw [h2]
      exact h4
    · show (body env1 st).bind _ = _
      rw [h2]
      exact h4
theorem for_keep {body : Env → Store → R F} {t : T} {α : Type} (f : α → D) (P : List α → Env → Store → Prop) {xs : List α} {env : Env} {st : Store} (h0 : P [] env st)
    (h : ∀ ys x zs env st, xs = ys ++ x :: zs → P ys env st → ∃ env1 env2 st2, bindT t (f x) env = some env1 ∧ (body env1 st = .ok (.next env2) st2 ∨ body env1 st = .ok (.cont env2) st2) ∧ P (ys ++ [x]) env2 st2) :
    ∃ env' st', forGo body t (xs.map f) env st = .ok (.next env') st' ∧ P xs env' st' := for_keep0 f P xs (by simp) h0 h
theorem lc_map1 {one : D → Env → Store → R (List D)} {env : Env} {st : Store} {α : Type} (f : α → D) (g : α → D) {xs : List α} (h : ∀ x ∈ xs, one (f x) env st = .ok [g x] st) : lcItems one (xs.map f) env st = .ok (xs.map g) st := by
  rw [lc_map f (fun x => [g x]) h]
  congr 1
  clear h
  induction xs with
  | nil => rfl
  | cons x r ih => rw [List.flatMap_cons, ih]; rfl
theorem lc_filter1 {one : D → Env → Store → R (List D)} {env : Env} {st : Store} {α : Type} (f : α → D) (p : α → Bool) (g : α → D) {xs : List α} (h : ∀ x ∈ xs, one (f x) env st = .ok (if p x = true then [g x] else []) st) : lcItems one (xs.map f) env st = .ok ((xs.filter p).map g) st := by
  rw [lc_map f (fun x => if p x = true then [g x] else []) h]
  congr 1
  clear h
  induction xs with
  | nil => rfl
  | cons x r ih =>
    rw [List.flatMap_cons, ih, List.filter_cons]
    split <;> simp
theorem lcEnd_ok {ys : List D} {st : Store} (h : ys.length ≤ 1000000) : lcEnd ys st = .ok (.lst ys) st := if_pos h
theorem lcE1 {one : D → Env → Store → R (List D)} {env : Env} {st : Store} {α : Type} (f : α → D) (g : α → D) {xs : List α} (hl : xs.length ≤ 1000000) (h : ∀ x ∈ xs, one (f x) env st = .ok [g x] st) : (lcItems one (xs.map f) env st).calm.bind lcEnd = .ok (.lst (xs.map g)) st := by
  rw [lc_map1 f g h, R.calm_ok, R.bind_ok, lcEnd_ok (by rw [List.length_map]; exact hl)]
theorem lcEF {one : D → Env → Store → R (List D)} {env : Env} {st : Store} {α : Type} (f : α → D) (p : α → Bool) (g : α → D) {xs : List α} (hl : xs.length ≤ 1000000) (h : ∀ x ∈ xs, one (f x) env st = .ok (if p x = true then [g x] else []) st) : (lcItems one (xs.map f) env st).calm.bind lcEnd = .ok (.lst ((xs.filter p).map g)) st := by
  rw [lc_filter1 f p g h, R.calm_ok, R.bind_ok, lcEnd_ok (by rw [List.length_map]; exact Nat.le_trans (List.length_filter_le _ _) hl)]
theorem lcEM {one : D → Env → Store → R (List D)} {env : Env} {st : Store} {α : Type} (f : α → D) (g : α → List D) {xs : List α} (hl : (xs.flatMap g).length ≤ 1000000) (h : ∀ x ∈ xs, one (f x) env st = .ok (g x) st) : (lcItems one (xs.map f) env st).calm.bind lcEnd = .ok (.lst (xs.flatMap g)) st := by
  rw [lc_map f g h, R.calm_ok, R.bind_ok, lcEnd_ok hl]
theorem all_map {α : Type} {st : Store} (p : α → Bool) (xs : List α) : bltop .all [.lst (xs.map fun x => D.bl (p x))] st = .ok (.bl (xs.all p)) st := by
  have := all_bools (st := st) (xs.map p)
  rw [List.map_map, List.all_map] at this
  exact this
theorem any_map {α : Type} {st : Store} (p : α → Bool) (xs : List α) : bltop .any [.lst (xs.map fun x => D.bl (p x))] st = .ok (.bl (xs.any p)) st := by
  have := any_bools (st := st) (xs.map p)
  rw [List.map_map, List.any_map] at this
  exact this
theorem all_true {α : Type} {st : Store} (xs : List α) : bltop .all [.lst (xs.map fun _ => D.bl true)] st = .ok (.bl true) st := by
  rw [all_map (fun _ => true)]; simp
theorem ix_map {α : Type} {f : α → D} {l : List α} {i : Nat} {st : Store} (d : α) (h : i < l.length) : ixop (.tup (l.map f)) (.int i) st = .ok (f (l[i]?.getD d)) st :=
  ix_tup (by rw [List.getElem?_map, List.getElem?_eq_getElem h]; simp [List.getD, List.getElem?_eq_getElem h])
theorem ix_mapL {α : Type} {f : α → D} {l : List α} {i : Nat} {st : Store} (d : α) (h : i < l.length) : ixop (.lst (l.map f)) (.int i) st = .ok (f (l[i]?.getD d)) st :=
  ix_lst (by rw [List.getElem?_map, List.getElem?_eq_getElem h]; simp [List.getD, List.getElem?_eq_getElem h])
theorem enum_map {α : Type} {f : α → D} (d : α) : ∀ (l : List α) (k : Int), enumL k (l.map f) = (List.range l.length).map fun (i : Nat) => D.tup [.int (k + i), f (l[i]?.getD d)]
  | [], _ => rfl
  | x :: r, k => by
    rw [List.map_cons, enumL, enum_map d r (k + 1), List.length_cons, List.range_succ_eq_map, List.map_cons, List.map_map]
    congr 1
    · simp
    · refine List.map_congr_left fun i _ => ?_
      show D.tup _ = D.tup _
      congr 2
      · congr 1; push_cast; omega
theorem zip_map {α β : Type} {f : α → D} {g : β → D} : ∀ (l : List α) (m : List β), zipL (l.map f) (m.map g) = (l.zip m).map fun p => D.tup [f p.1, g p.2]
  | [], _ => by simp [zipL]
  | _ :: _, [] => by simp [zipL]
  | x :: r, y :: q => by simp [zipL, zip_map r q]
end Lw

set_option Elab.async false
set_option linter.all false
set_option maxRecDepth 100000
set_option maxHeartbeats 2000000
namespace K79
open Ev Lw
abbrev prog : PySem.Program := PySem.Challenge.pw_setbyothers_k79_whole_errors_of_splits
def top (i : Nat) : PySem.Stmt := prog.main.body.getD i (.Pass ⟨0, 0, 0, 0⟩)
def f_is_whole : FD where
  ps := ["value", "low", "high"]
  N := ["value", "low", "high"]
  body := [.ret (.and (.isin (.var 0) "int") (.and (.not (.isin (.var 0) "bool")) (.cmp2 .LtE .LtE (.var 1) (.var 0) (.var 2))))]
def f_is_tuple_of : FD where
  ps := ["value", "low", "high"]
  N := ["value", "low", "high"]
  body := [.ret (.and (.isin (.var 0) "tuple") (.cmp2 .LtE .LtE (.var 1) (.blt .len [(.var 0)]) (.var 2)))]
def f_is_rising : FD where
  ps := ["values"]
  N := ["values", "one", "other"]
  body := [.ret (.blt .all [(.lc (.cmp .Lt (.var 1) (.var 2)) [.mk (.tup [(.name 1), (.name 2)]) (.blt .zip [(.var 0), (.sl (.var 0) (some (.con (.int 1))) none)]) []] [1, 2])])]
def f_fits_meeting : FD where
  ps := ["value"]
  N := ["value", "many", "row", "own"]
  body := [.cond (.not (.call (sx [105, 115, 95, 116, 117, 112, 108, 101, 95, 111, 102]) [(.var 0), (.con (.int 1)), (.glob (sx [77, 69, 77, 66, 69, 82, 83]))]))
    [.ret (.con (.bl false))]
    [],
  .set (.name 1) (.blt .len [(.var 0)]),
  .cond (.not (.blt .all [(.lc (.and (.call (sx [105, 115, 95, 116, 117, 112, 108, 101, 95, 111, 102]) [(.var 2), (.var 1), (.var 1)]) (.blt .all [(.lc (.call (sx [105, 115, 95, 119, 104, 111, 108, 101]) [(.var 3), (.con (.int 0)), (.glob (sx [87, 69, 73, 71, 72, 84]))]) [.mk (.name 3) (.var 2) []] [3])])) [.mk (.name 2) (.var 0) []] [2])]))
    [.ret (.con (.bl false))]
    [],
  .ret (.blt .all [(.lc (.cmp .Gt (.blt .sum [(.var 2)]) (.con (.int 0))) [.mk (.name 2) (.var 0) []] [2])])]
def f_need_meeting : FD where
  ps := ["meeting"]
  N := ["meeting"]
  body := [.cond (.not (.call (sx [102, 105, 116, 115, 95, 109, 101, 101, 116, 105, 110, 103]) [(.var 0)]))
    [.raise (sx [73, 110, 118, 97, 108, 105, 100, 77, 101, 101, 116, 105, 110, 103])]
    []]
def f_fits_book : FD where
  ps := ["value"]
  N := ["value", "own"]
  body := [.cond (.or (.not (.call (sx [105, 115, 95, 116, 117, 112, 108, 101, 95, 111, 102]) [(.var 0), (.con (.int 1)), (.glob (sx [77, 69, 69, 84, 73, 78, 71, 83]))])) (.not (.blt .all [(.lc (.call (sx [102, 105, 116, 115, 95, 109, 101, 101, 116, 105, 110, 103]) [(.var 1)]) [.mk (.name 1) (.var 0) []] [1])])))
    [.ret (.con (.bl false))]
    [],
  .ret (.blt .all [(.lc (.cmp .Eq (.blt .len [(.var 1)]) (.blt .len [(.ix (.var 0) (.con (.int 0)))])) [.mk (.name 1) (.var 0) []] [1])])]
def f_need_book : FD where
  ps := ["book"]
  N := ["book"]
  body := [.cond (.not (.call (sx [102, 105, 116, 115, 95, 98, 111, 111, 107]) [(.var 0)]))
    [.raise (sx [73, 110, 118, 97, 108, 105, 100, 77, 101, 101, 116, 105, 110, 103])]
    []]
def f_fits_lot : FD where
  ps := ["many", "value"]
  N := ["many", "value", "own"]
  body := [.cond (.or (.not (.call (sx [105, 115, 95, 116, 117, 112, 108, 101, 95, 111, 102]) [(.var 1), (.con (.int 1)), (.var 0)])) (.not (.blt .all [(.lc (.call (sx [105, 115, 95, 119, 104, 111, 108, 101]) [(.var 2), (.con (.int 0)), (.bin .Sub (.var 0) (.con (.int 1)))]) [.mk (.name 2) (.var 1) []] [2])])))
    [.ret (.con (.bl false))]
    [],
  .ret (.call (sx [105, 115, 95, 114, 105, 115, 105, 110, 103]) [(.var 1)])]
def f_need_lot : FD where
  ps := ["many", "lot"]
  N := ["many", "lot"]
  body := [.cond (.not (.call (sx [102, 105, 116, 115, 95, 108, 111, 116]) [(.var 0), (.var 1)]))
    [.raise (sx [73, 110, 118, 97, 108, 105, 100, 77, 101, 109, 98, 101, 114])]
    []]
def f_need_member : FD where
  ps := ["many", "member"]
  N := ["many", "member"]
  body := [.cond (.not (.call (sx [105, 115, 95, 119, 104, 111, 108, 101]) [(.var 1), (.con (.int 0)), (.bin .Sub (.var 0) (.con (.int 1)))]))
    [.raise (sx [73, 110, 118, 97, 108, 105, 100, 77, 101, 109, 98, 101, 114])]
    []]
def f_heard_in : FD where
  ps := ["meeting", "lot"]
  N := ["meeting", "lot", "at", "own"]
  body := [.ret (.blt .tuple [(.lc (.var 2) [.mk (.name 2) (.blt .range1 [(.blt .len [(.var 0)])]) [(.blt .any [(.lc (.cmp .Gt (.ix (.ix (.var 0) (.var 3)) (.var 2)) (.con (.int 0))) [.mk (.name 3) (.var 1) []] [3])])]] [2])])]
def f_divisor_of_b0 : List S := [.set (.tup [(.name 0), (.name 1)]) (.tup [(.var 1), (.bin .Mod (.var 0) (.var 1))])]
def f_divisor_of : FD where
  ps := ["one", "other"]
  N := ["one", "other"]
  body := [.while (.cmp .Gt (.var 1) (.con (.int 0))) f_divisor_of_b0,
  .ret (.var 0)]
def f_heard_in_all : FD where
  ps := ["book", "lot"]
  N := ["book", "lot", "found", "meeting", "own"]
  body := [.set (.name 2) (.dc false (.var 4) (.con (.bl true)) [.mk (.name 3) (.var 0) [], .mk (.name 4) (.call (sx [104, 101, 97, 114, 100, 95, 105, 110]) [(.var 3), (.var 1)]) []] [3, 4]),
  .ret (.blt .tuple [(.blt .sorted [(.var 2)])])]
def f_is_shut_in : FD where
  ps := ["book", "lot"]
  N := ["book", "lot", "own"]
  body := [.ret (.blt .all [(.lc (.cmp .In (.var 2) (.var 1)) [.mk (.name 2) (.call (sx [104, 101, 97, 114, 100, 95, 105, 110, 95, 97, 108, 108]) [(.var 0), (.var 1)]) []] [2])])]
def f_hull_in_b0 : List S := [.set (.name 2) (.blt .tuple [(.blt .sorted [(.dc false (.var 3) (.con (.bl true)) [.mk (.name 3) (.bin .Add (.var 2) (.call (sx [104, 101, 97, 114, 100, 95, 105, 110, 95, 97, 108, 108]) [(.var 0), (.var 2)])) []] [3])])])]
def f_hull_in : FD where
  ps := ["book", "lot"]
  N := ["book", "lot", "found", "own"]
  body := [.set (.name 2) (.var 1),
  .while (.not (.call (sx [105, 115, 95, 115, 104, 117, 116, 95, 105, 110]) [(.var 0), (.var 2)])) f_hull_in_b0,
  .ret (.var 2)]
def f_ever_in : FD where
  ps := ["book", "lot"]
  N := ["book", "lot"]
  body := [.ret (.call (sx [104, 117, 108, 108, 95, 105, 110]) [(.var 0), (.call (sx [104, 101, 97, 114, 100, 95, 105, 110, 95, 97, 108, 108]) [(.var 0), (.var 1)])])]
def f_lots_in_b0 : List S := [.set (.name 1) (.bin .Add (.var 1) (.lc (.bin .Add (.var 3) (.tup [(.var 2)])) [.mk (.name 3) (.var 1) []] [3]))]
def f_lots_in : FD where
  ps := ["many"]
  N := ["many", "found", "own", "lot"]
  body := [.set (.name 1) (.lst [(.tup [])]),
  .for (.name 2) (.blt .range1 [(.var 0)]) f_lots_in_b0,
  .ret (.blt .sorted [(.lc (.var 3) [.mk (.name 3) (.var 1) [(.cmp .NotEq (.var 3) (.tup []))]] [3])])]
def f_is_within : FD where
  ps := ["one", "other"]
  N := ["one", "other", "own"]
  body := [.ret (.blt .all [(.lc (.cmp .In (.var 2) (.var 1)) [.mk (.name 2) (.var 0) []] [2])])]
def f_least_in : FD where
  ps := ["book"]
  N := ["book", "hulls", "own", "lot"]
  body := [.set (.name 1) (.blt .sorted [(.dc false (.call (sx [104, 117, 108, 108, 95, 105, 110]) [(.var 0), (.tup [(.var 2)])]) (.con (.bl true)) [.mk (.name 2) (.blt .range1 [(.blt .len [(.ix (.var 0) (.con (.int 0)))])]) []] [2])]),
  .ret (.lc (.var 3) [.mk (.name 3) (.var 1) [(.not (.blt .any [(.lc (.call (sx [105, 115, 95, 119, 105, 116, 104, 105, 110]) [(.var 2), (.var 3)]) [.mk (.name 2) (.var 1) [(.cmp .NotEq (.var 2) (.var 3))]] [2])]))]] [3])]
def f_either_in : FD where
  ps := ["book"]
  N := ["book", "rows", "heard", "own", "at"]
  body := [.set (.name 1) (.blt .list [(.blt .range1 [(.blt .len [(.ix (.var 0) (.con (.int 0)))])])]),
  .set (.name 2) (.lc (.call (sx [104, 101, 97, 114, 100, 95, 105, 110, 95, 97, 108, 108]) [(.var 0), (.tup [(.var 3)])]) [.mk (.name 3) (.var 1) []] [3]),
  .ret (.lc (.blt .tuple [(.lc (.var 4) [.mk (.name 4) (.var 1) [(.or (.cmp .In (.var 4) (.ix (.var 2) (.var 3))) (.or (.cmp .In (.var 3) (.ix (.var 2) (.var 4))) (.cmp .Eq (.var 4) (.var 3))))]] [4])]) [.mk (.name 3) (.var 1) []] [3])]
def f_camps_in_b1 : List S := [.set (.tup [(.name 4), (.name 5)]) (.tup [(.var 5), (.blt .tuple [(.blt .sorted [(.dc false (.var 7) (.con (.bl true)) [.mk (.name 6) (.var 5) [], .mk (.name 7) (.ix (.var 1) (.var 6)) []] [6, 7])])])])]
def f_camps_in_b0 : List S := [.set (.tup [(.name 4), (.name 5)]) (.tup [(.tup [(.var 3)]), (.ix (.var 1) (.var 3))]),
  .while (.cmp .NotEq (.var 4) (.var 5)) f_camps_in_b1,
  .sub (.var 2) (.var 4) (.con (.bl true))]
def f_camps_in : FD where
  ps := ["book"]
  N := ["book", "near", "found", "own", "lot", "late", "by", "at"]
  body := [.set (.tup [(.name 1), (.name 2)]) (.tup [(.call (sx [101, 105, 116, 104, 101, 114, 95, 105, 110]) [(.var 0)]), (.dnew true)]),
  .for (.name 3) (.blt .range1 [(.blt .len [(.ix (.var 0) (.con (.int 0)))])]) f_camps_in_b0,
  .ret (.blt .sorted [(.var 2)])]
def f_circles_in_b0 : List S := [.sub (.var 4) (.blt .tuple [(.lc (.var 5) [.mk (.name 5) (.var 1) [(.or (.cmp .Eq (.var 5) (.var 3)) (.and (.cmp .In (.var 5) (.ix (.var 2) (.var 3))) (.cmp .In (.var 3) (.ix (.var 2) (.var 5)))))]] [5])]) (.con (.bl true))]
def f_circles_in : FD where
  ps := ["book"]
  N := ["book", "rows", "ever", "own", "found", "at"]
  body := [.set (.name 1) (.blt .list [(.blt .range1 [(.blt .len [(.ix (.var 0) (.con (.int 0)))])])]),
  .set (.name 2) (.lc (.call (sx [101, 118, 101, 114, 95, 105, 110]) [(.var 0), (.tup [(.var 3)])]) [.mk (.name 3) (.var 1) []] [3]),
  .set (.name 4) (.dnew true),
  .for (.name 3) (.var 1) f_circles_in_b0,
  .ret (.blt .sorted [(.var 4)])]
def f_depths_in_b1 : List S := [.cond (.cmp .NotIn (.var 5) (.var 2))
    [.sub (.var 2) (.var 5) (.bin .Add (.ix (.var 2) (.var 4)) (.con (.int 1))),
    .ex (.meth .append (.var 3) [(.var 5)])]
    []]
def f_depths_in_b0 : List S := [.set (.name 4) (.ix (.var 3) (.con (.int 0))),
  .set (.name 3) (.slc (.var 3) (some (.con (.int 1))) none),
  .for (.name 5) (.call (sx [104, 101, 97, 114, 100, 95, 105, 110]) [(.var 0), (.tup [(.var 4)])]) f_depths_in_b1]
def f_depths_in : FD where
  ps := ["meeting", "lot"]
  N := ["meeting", "lot", "found", "line", "own", "at"]
  body := [.set (.tup [(.name 2), (.name 3)]) (.tup [(.dic1 true (.ix (.var 1) (.con (.int 0))) (.con (.int 0))), (.cel [(.ix (.var 1) (.con (.int 0)))])]),
  .while (.cmp .NotEq (.var 3) (.lst [])) f_depths_in_b0,
  .ret (.froze (.var 2))]
def f_rounds_in_b1 : List S := [.set (.name 6) (.blt .abs [(.bin .Sub (.bin .Add (.ix (.var 2) (.var 4)) (.con (.int 1))) (.ix (.var 2) (.var 5)))]),
  .set (.name 3) (.ite (.cmp .Gt (.bin .Add (.var 3) (.var 6)) (.con (.int 0))) (.call (sx [100, 105, 118, 105, 115, 111, 114, 95, 111, 102]) [(.var 3), (.var 6)]) (.con (.int 0)))]
def f_rounds_in_b0 : List S := [.for (.name 5) (.call (sx [104, 101, 97, 114, 100, 95, 105, 110]) [(.var 0), (.tup [(.var 4)])]) f_rounds_in_b1]
def f_rounds_in : FD where
  ps := ["meeting", "lot"]
  N := ["meeting", "lot", "depths", "found", "own", "at", "off"]
  body := [.set (.tup [(.name 2), (.name 3)]) (.tup [(.call (sx [100, 101, 112, 116, 104, 115, 95, 105, 110]) [(.var 0), (.var 1)]), (.con (.int 0))]),
  .for (.name 4) (.var 1) f_rounds_in_b0,
  .ret (.var 3)]
def f_classes_in : FD where
  ps := ["meeting", "lot"]
  N := ["meeting", "lot", "many", "depths", "at", "own"]
  body := [.set (.tup [(.name 2), (.name 3)]) (.tup [(.call (sx [114, 111, 117, 110, 100, 115, 95, 105, 110]) [(.var 0), (.var 1)]), (.call (sx [100, 101, 112, 116, 104, 115, 95, 105, 110]) [(.var 0), (.var 1)])]),
  .ret (.lc (.blt .tuple [(.lc (.var 5) [.mk (.name 5) (.var 1) [(.cmp .Eq (.bin .Mod (.ix (.var 3) (.var 5)) (.var 2)) (.var 4))]] [5])]) [.mk (.name 4) (.blt .range1 [(.var 2)]) []] [4])]
def f_is_shut : FD where
  ps := ["book", "lot"]
  N := ["book", "lot"]
  body := [.ex (.call (sx [110, 101, 101, 100, 95, 98, 111, 111, 107]) [(.var 0)]),
  .ex (.call (sx [110, 101, 101, 100, 95, 108, 111, 116]) [(.blt .len [(.ix (.var 0) (.con (.int 0)))]), (.var 1)]),
  .ret (.call (sx [105, 115, 95, 115, 104, 117, 116, 95, 105, 110]) [(.var 0), (.var 1)])]
def f_shut_lots : FD where
  ps := ["book"]
  N := ["book", "lot"]
  body := [.ex (.call (sx [110, 101, 101, 100, 95, 98, 111, 111, 107]) [(.var 0)]),
  .ret (.blt .tuple [(.lc (.var 1) [.mk (.name 1) (.call (sx [108, 111, 116, 115, 95, 105, 110]) [(.blt .len [(.ix (.var 0) (.con (.int 0)))])]) [(.call (sx [105, 115, 95, 115, 104, 117, 116, 95, 105, 110]) [(.var 0), (.var 1)])]] [1])])]
def f_least_shut_lots : FD where
  ps := ["book"]
  N := ["book"]
  body := [.ex (.call (sx [110, 101, 101, 100, 95, 98, 111, 111, 107]) [(.var 0)]),
  .ret (.blt .tuple [(.call (sx [108, 101, 97, 115, 116, 95, 105, 110]) [(.var 0)])])]
def f_shut_hull : FD where
  ps := ["book", "lot"]
  N := ["book", "lot"]
  body := [.ex (.call (sx [110, 101, 101, 100, 95, 98, 111, 111, 107]) [(.var 0)]),
  .ex (.call (sx [110, 101, 101, 100, 95, 108, 111, 116]) [(.blt .len [(.ix (.var 0) (.con (.int 0)))]), (.var 1)]),
  .ret (.call (sx [104, 117, 108, 108, 95, 105, 110]) [(.var 0), (.var 1)])]
def f_heard_ever : FD where
  ps := ["book", "member"]
  N := ["book", "member"]
  body := [.ex (.call (sx [110, 101, 101, 100, 95, 98, 111, 111, 107]) [(.var 0)]),
  .ex (.call (sx [110, 101, 101, 100, 95, 109, 101, 109, 98, 101, 114]) [(.blt .len [(.ix (.var 0) (.con (.int 0)))]), (.var 1)]),
  .ret (.call (sx [101, 118, 101, 114, 95, 105, 110]) [(.var 0), (.tup [(.var 1)])])]
def f_heard_by_all : FD where
  ps := ["book"]
  N := ["book", "rows", "hulls", "own", "lot"]
  body := [.ex (.call (sx [110, 101, 101, 100, 95, 98, 111, 111, 107]) [(.var 0)]),
  .set (.name 1) (.blt .list [(.blt .range1 [(.blt .len [(.ix (.var 0) (.con (.int 0)))])])]),
  .set (.name 2) (.lc (.call (sx [104, 117, 108, 108, 95, 105, 110]) [(.var 0), (.tup [(.var 3)])]) [.mk (.name 3) (.var 1) []] [3]),
  .ret (.blt .tuple [(.lc (.var 3) [.mk (.name 3) (.var 1) [(.blt .all [(.lc (.cmp .In (.var 3) (.var 4)) [.mk (.name 4) (.var 2) []] [4])])]] [3])])]
def f_members_between : FD where
  ps := ["book"]
  N := ["book", "least", "own", "lot"]
  body := [.ex (.call (sx [110, 101, 101, 100, 95, 98, 111, 111, 107]) [(.var 0)]),
  .set (.name 1) (.call (sx [108, 101, 97, 115, 116, 95, 105, 110]) [(.var 0)]),
  .ret (.blt .tuple [(.lc (.var 2) [.mk (.name 2) (.blt .range1 [(.blt .len [(.ix (.var 0) (.con (.int 0)))])]) [(.not (.blt .any [(.lc (.cmp .In (.var 2) (.var 3)) [.mk (.name 3) (.var 1) []] [3])]))]] [2])])]
def f_camps_of : FD where
  ps := ["book"]
  N := ["book"]
  body := [.ex (.call (sx [110, 101, 101, 100, 95, 98, 111, 111, 107]) [(.var 0)]),
  .ret (.blt .tuple [(.call (sx [99, 97, 109, 112, 115, 95, 105, 110]) [(.var 0)])])]
def f_circles_of : FD where
  ps := ["book"]
  N := ["book"]
  body := [.ex (.call (sx [110, 101, 101, 100, 95, 98, 111, 111, 107]) [(.var 0)]),
  .ret (.blt .tuple [(.call (sx [99, 105, 114, 99, 108, 101, 115, 95, 105, 110]) [(.var 0)])])]
def f_circle_steps : FD where
  ps := ["book"]
  N := ["book", "rows", "found", "one", "other", "pair", "own"]
  body := [.ex (.call (sx [110, 101, 101, 100, 95, 98, 111, 111, 107]) [(.var 0)]),
  .set (.name 1) (.call (sx [99, 105, 114, 99, 108, 101, 115, 95, 105, 110]) [(.var 0)]),
  .set (.name 2) (.lc (.tup [(.var 3), (.var 4)]) [.mk (.name 3) (.var 1) [], .mk (.name 4) (.var 1) [(.cmp .NotEq (.var 3) (.var 4))]] [3, 4]),
  .ret (.blt .tuple [(.lc (.var 5) [.mk (.name 5) (.var 2) [(.blt .any [(.lc (.cmp .In (.var 6) (.call (sx [104, 101, 97, 114, 100, 95, 105, 110, 95, 97, 108, 108]) [(.var 0), (.ix (.var 5) (.con (.int 0)))])) [.mk (.name 6) (.ix (.var 5) (.con (.int 1))) []] [6])])]] [5])])]
def f_split_of : FD where
  ps := ["book"]
  N := ["book", "found"]
  body := [.ex (.call (sx [110, 101, 101, 100, 95, 98, 111, 111, 107]) [(.var 0)]),
  .set (.name 1) (.call (sx [108, 101, 97, 115, 116, 95, 105, 110]) [(.var 0)]),
  .ret (.ite (.cmp .Gt (.blt .len [(.var 1)]) (.con (.int 1))) (.tup [(.ix (.var 1) (.con (.int 0))), (.ix (.var 1) (.con (.int 1)))]) (.con .non))]
def f_is_split : FD where
  ps := ["book", "value"]
  N := ["book", "value", "many", "own"]
  body := [.ex (.call (sx [110, 101, 101, 100, 95, 98, 111, 111, 107]) [(.var 0)]),
  .set (.name 2) (.blt .len [(.ix (.var 0) (.con (.int 0)))]),
  .cond (.or (.not (.call (sx [105, 115, 95, 116, 117, 112, 108, 101, 95, 111, 102]) [(.var 1), (.con (.int 2)), (.con (.int 2))])) (.not (.blt .all [(.lc (.call (sx [102, 105, 116, 115, 95, 108, 111, 116]) [(.var 2), (.var 3)]) [.mk (.name 3) (.var 1) []] [3])])))
    [.ret (.con (.bl false))]
    [],
  .cond (.blt .any [(.lc (.cmp .In (.var 3) (.ix (.var 1) (.con (.int 1)))) [.mk (.name 3) (.ix (.var 1) (.con (.int 0))) []] [3])])
    [.ret (.con (.bl false))]
    [],
  .ret (.and (.call (sx [105, 115, 95, 115, 104, 117, 116, 95, 105, 110]) [(.var 0), (.ix (.var 1) (.con (.int 0)))]) (.call (sx [105, 115, 95, 115, 104, 117, 116, 95, 105, 110]) [(.var 0), (.ix (.var 1) (.con (.int 1)))]))]
def f_carousel_of : FD where
  ps := ["meeting", "lot"]
  N := ["meeting", "lot"]
  body := [.ex (.call (sx [110, 101, 101, 100, 95, 109, 101, 101, 116, 105, 110, 103]) [(.var 0)]),
  .ex (.call (sx [110, 101, 101, 100, 95, 108, 111, 116]) [(.blt .len [(.var 0)]), (.var 1)]),
  .cond (.cmp .NotIn (.var 1) (.call (sx [108, 101, 97, 115, 116, 95, 105, 110]) [(.tup [(.var 0)])]))
    [.raise (sx [73, 110, 118, 97, 108, 105, 100, 77, 101, 109, 98, 101, 114])]
    [],
  .ret (.blt .tuple [(.call (sx [99, 108, 97, 115, 115, 101, 115, 95, 105, 110]) [(.var 0), (.var 1)])])]
def f_carousels_of : FD where
  ps := ["meeting"]
  N := ["meeting", "lot"]
  body := [.ex (.call (sx [110, 101, 101, 100, 95, 109, 101, 101, 116, 105, 110, 103]) [(.var 0)]),
  .ret (.blt .tuple [(.lc (.blt .tuple [(.call (sx [99, 108, 97, 115, 115, 101, 115, 95, 105, 110]) [(.var 0), (.var 1)])]) [.mk (.name 1) (.call (sx [108, 101, 97, 115, 116, 95, 105, 110]) [(.tup [(.var 0)])]) []] [1])])]
def f_is_carousel : FD where
  ps := ["meeting", "value"]
  N := ["meeting", "value", "many", "own", "at", "one", "other"]
  body := [.ex (.call (sx [110, 101, 101, 100, 95, 109, 101, 101, 116, 105, 110, 103]) [(.var 0)]),
  .set (.name 2) (.blt .len [(.var 0)]),
  .cond (.or (.not (.call (sx [105, 115, 95, 116, 117, 112, 108, 101, 95, 111, 102]) [(.var 1), (.con (.int 1)), (.var 2)])) (.not (.blt .all [(.lc (.call (sx [102, 105, 116, 115, 95, 108, 111, 116]) [(.var 2), (.var 3)]) [.mk (.name 3) (.var 1) []] [3])])))
    [.ret (.con (.bl false))]
    [],
  .cond (.cmp .Gt (.blt .sum [(.lc (.blt .len [(.var 3)]) [.mk (.name 3) (.var 1) []] [3])]) (.blt .len [(.dc false (.var 4) (.con (.bl true)) [.mk (.name 3) (.var 1) [], .mk (.name 4) (.var 3) []] [3, 4])]))
    [.ret (.con (.bl false))]
    [],
  .ret (.blt .all [(.lc (.call (sx [105, 115, 95, 119, 105, 116, 104, 105, 110]) [(.call (sx [104, 101, 97, 114, 100, 95, 105, 110]) [(.var 0), (.var 5)]), (.var 6)]) [.mk (.tup [(.name 5), (.name 6)]) (.blt .zip [(.var 1), (.bin .Add (.sl (.var 1) (some (.con (.int 1))) none) (.sl (.var 1) none (some (.con (.int 1)))))]) []] [5, 6])])]
def f_whole_round_b0 : List S := [.set (.name 3) (.call (sx [114, 111, 117, 110, 100, 115, 95, 105, 110]) [(.var 0), (.var 2)]),
  .set (.name 1) (.bin .FloorDiv (.bin .Mult (.var 1) (.var 3)) (.call (sx [100, 105, 118, 105, 115, 111, 114, 95, 111, 102]) [(.var 1), (.var 3)]))]
def f_whole_round : FD where
  ps := ["meeting"]
  N := ["meeting", "found", "lot", "many"]
  body := [.ex (.call (sx [110, 101, 101, 100, 95, 109, 101, 101, 116, 105, 110, 103]) [(.var 0)]),
  .set (.name 1) (.con (.int 1)),
  .for (.name 2) (.call (sx [108, 101, 97, 115, 116, 95, 105, 110]) [(.tup [(.var 0)])]) f_whole_round_b0,
  .ret (.var 1)]
def f_heard_after_b0 : List S := [.set (.name 3) (.call (sx [104, 101, 97, 114, 100, 95, 105, 110]) [(.var 0), (.var 3)])]
def f_heard_after : FD where
  ps := ["meeting", "member", "times"]
  N := ["meeting", "member", "times", "found", "turn"]
  body := [.ex (.call (sx [110, 101, 101, 100, 95, 109, 101, 101, 116, 105, 110, 103]) [(.var 0)]),
  .ex (.call (sx [110, 101, 101, 100, 95, 109, 101, 109, 98, 101, 114]) [(.blt .len [(.var 0)]), (.var 1)]),
  .cond (.not (.call (sx [105, 115, 95, 119, 104, 111, 108, 101]) [(.var 2), (.con (.int 0)), (.glob (sx [82, 79, 85, 78, 68, 83]))]))
    [.raise (sx [73, 110, 118, 97, 108, 105, 100, 67, 111, 117, 110, 116])]
    [],
  .set (.name 3) (.tup [(.var 1)]),
  .for (.name 4) (.blt .range1 [(.var 2)]) f_heard_after_b0,
  .ret (.var 3)]
def f__law_cup : FD where
  ps := ["script"]
  N := ["script", "cell"]
  body := [.set (.name 1) (.blt .abs [(.ix (.bin .Add (.blt .list [(.var 0)]) (.lst [(.con (.int 0))])) (.con (.int 0)))]),
  .ret (.cel [(.ite (.cmp .GtE (.var 1) (.bin .Pow (.con (.int 10)) (.con (.int 18)))) (.bin .FloorDiv (.var 1) (.con (.int 271))) (.con (.int 0))), (.bin .Add (.bin .Mod (.blt .int [(.bin .Add (.bin .Mult (.var 1) (.con (.int 601))) (.con (.int 5249)))]) (.con (.int 2077503101))) (.con (.int 391)))])]
def f__law_roll : FD where
  ps := ["cup", "many"]
  N := ["cup", "many", "found", "deep"]
  body := [.cond (.cmp .Gt (.ix (.var 0) (.con (.int 0))) (.con (.int 0)))
    [.set (.name 2) (.bin .Mod (.blt .int [(.ix (.var 0) (.con (.int 0)))]) (.var 1)),
    .sub (.var 0) (.con (.int 0)) (.bin .FloorDiv (.ix (.var 0) (.con (.int 0))) (.var 1)),
    .ret (.var 2)]
    [],
  .sub (.var 0) (.con (.int 1)) (.bin .Mod (.blt .int [(.bin .Add (.bin .Mult (.ix (.var 0) (.con (.int 1))) (.con (.int 31259))) (.con (.int 8275)))]) (.con (.int 2147483399))),
  .set (.name 3) (.bin .Mod (.blt .int [(.bin .Mult (.ix (.var 0) (.con (.int 1))) (.bin .Add (.ix (.var 0) (.con (.int 1))) (.con (.int 545))))]) (.con (.int 2147483563))),
  .ret (.bin .Mod (.blt .int [(.bin .FloorDiv (.var 3) (.con (.int 797)))]) (.var 1))]
def f__law_word : FD where
  ps := ["call"]
  N := ["call", "error", "some", "words", "word", "is_so"]
  body := [.ret (.con (.str (sx [])))]
  hd := [((sx [83, 101, 116, 69, 114, 114, 111, 114]), [.set (.name 2) (.lst [(.tup [(.con (.str (sx [99, 111, 117, 110, 116]))), (.isE (sx [73, 110, 118, 97, 108, 105, 100, 67, 111, 117, 110, 116]))]), (.tup [(.con (.str (sx [109, 101, 101, 116, 105, 110, 103]))), (.isE (sx [73, 110, 118, 97, 108, 105, 100, 77, 101, 101, 116, 105, 110, 103]))]), (.tup [(.con (.str (sx [109, 101, 109, 98, 101, 114]))), (.isE (sx [73, 110, 118, 97, 108, 105, 100, 77, 101, 109, 98, 101, 114]))])]), .set (.name 3) (.lc (.var 4) [.mk (.tup [(.name 4), (.name 5)]) (.var 2) [(.var 5)]] [4, 5]), .ret (.ite (.and (.cmp .Eq (.blt .len [(.var 3)]) (.con (.int 1))) (.isE (sx [86, 97, 108, 117, 101, 69, 114, 114, 111, 114]))) (.ix (.var 3) (.con (.int 0))) (.con (.str (sx [111, 100, 100]))))])]
  cls := [(sx [73, 110, 118, 97, 108, 105, 100, 67, 111, 117, 110, 116]), (sx [73, 110, 118, 97, 108, 105, 100, 77, 101, 101, 116, 105, 110, 103]), (sx [73, 110, 118, 97, 108, 105, 100, 77, 101, 109, 98, 101, 114]), (sx [86, 97, 108, 117, 101, 69, 114, 114, 111, 114])]
  sup := [((sx [73, 110, 118, 97, 108, 105, 100, 77, 101, 101, 116, 105, 110, 103]), [(sx [73, 110, 118, 97, 108, 105, 100, 77, 101, 101, 116, 105, 110, 103]), (sx [86, 97, 108, 117, 101, 69, 114, 114, 111, 114]), (sx [83, 101, 116, 69, 114, 114, 111, 114])]), ((sx [73, 110, 118, 97, 108, 105, 100, 77, 101, 109, 98, 101, 114]), [(sx [73, 110, 118, 97, 108, 105, 100, 77, 101, 109, 98, 101, 114]), (sx [86, 97, 108, 117, 101, 69, 114, 114, 111, 114]), (sx [83, 101, 116, 69, 114, 114, 111, 114])]), ((sx [73, 110, 118, 97, 108, 105, 100, 67, 111, 117, 110, 116]), [(sx [73, 110, 118, 97, 108, 105, 100, 67, 111, 117, 110, 116]), (sx [86, 97, 108, 117, 101, 69, 114, 114, 111, 114]), (sx [83, 101, 116, 69, 114, 114, 111, 114])])]
def f__law_book_words : FD where
  ps := ["book", "lot", "member"]
  N := ["book", "lot", "member", "some", "words", "call"]
  body := [.set (.name 3) (.tup [(.glob (sx [115, 104, 117, 116, 95, 108, 111, 116, 115])), (.glob (sx [108, 101, 97, 115, 116, 95, 115, 104, 117, 116, 95, 108, 111, 116, 115])), (.glob (sx [115, 112, 108, 105, 116, 95, 111, 102])), (.glob (sx [109, 101, 109, 98, 101, 114, 115, 95, 98, 101, 116, 119, 101, 101, 110])), (.glob (sx [99, 97, 109, 112, 115, 95, 111, 102])), (.glob (sx [99, 105, 114, 99, 108, 101, 115, 95, 111, 102])), (.glob (sx [99, 105, 114, 99, 108, 101, 95, 115, 116, 101, 112, 115])), (.glob (sx [104, 101, 97, 114, 100, 95, 98, 121, 95, 97, 108, 108]))]),
  .set (.name 4) (.lcc (.lam (sx [95, 108, 97, 119, 95, 119, 111, 114, 100]) (.callv 5 [(.var 0)])) [.mk (.name 5) (.var 3) []] [5]),
  .ex (.meth .append (.var 4) [(.lam (sx [95, 108, 97, 119, 95, 119, 111, 114, 100]) (.call (sx [105, 115, 95, 115, 112, 108, 105, 116]) [(.var 0), (.con .non)]))]),
  .set (.name 4) (.addc (.var 4) (.lc (.lam (sx [95, 108, 97, 119, 95, 119, 111, 114, 100]) (.callv 5 [(.var 0), (.var 1)])) [.mk (.name 5) (.tup [(.glob (sx [105, 115, 95, 115, 104, 117, 116])), (.glob (sx [115, 104, 117, 116, 95, 104, 117, 108, 108]))]) []] [5])),
  .ret (.bin .Add (.var 4) (.lst [(.lam (sx [95, 108, 97, 119, 95, 119, 111, 114, 100]) (.call (sx [104, 101, 97, 114, 100, 95, 101, 118, 101, 114]) [(.var 0), (.var 2)]))]))]
def f__law_meeting_words : FD where
  ps := ["meeting", "lot", "member", "times"]
  N := ["meeting", "lot", "member", "times", "words", "call"]
  body := [.set (.name 4) (.lcc (.lam (sx [95, 108, 97, 119, 95, 119, 111, 114, 100]) (.callv 5 [(.var 0)])) [.mk (.name 5) (.tup [(.glob (sx [99, 97, 114, 111, 117, 115, 101, 108, 115, 95, 111, 102])), (.glob (sx [119, 104, 111, 108, 101, 95, 114, 111, 117, 110, 100]))]) []] [5]),
  .ex (.meth .append (.var 4) [(.lam (sx [95, 108, 97, 119, 95, 119, 111, 114, 100]) (.call (sx [105, 115, 95, 99, 97, 114, 111, 117, 115, 101, 108]) [(.var 0), (.con .non)]))]),
  .ex (.meth .append (.var 4) [(.lam (sx [95, 108, 97, 119, 95, 119, 111, 114, 100]) (.call (sx [99, 97, 114, 111, 117, 115, 101, 108, 95, 111, 102]) [(.var 0), (.var 1)]))]),
  .ret (.bin .Add (.var 4) (.lst [(.lam (sx [95, 108, 97, 119, 95, 119, 111, 114, 100]) (.call (sx [104, 101, 97, 114, 100, 95, 97, 102, 116, 101, 114]) [(.var 0), (.var 2), (.var 3)]))]))]
def f_law_b0 : List S := [.cond (.cmp .NotEq (.call (sx [95, 108, 97, 119, 95, 98, 111, 111, 107, 95, 119, 111, 114, 100, 115]) [(.var 3), (.con .non), (.con .non)]) (.bin .Mult (.lst [(.con (.str (sx [109, 101, 101, 116, 105, 110, 103])))]) (.con (.int 12))))
    [.ret (.con (.bl false))]
    []]
def f_law_b1 : List S := [.cond (.cmp .NotEq (.call (sx [95, 108, 97, 119, 95, 109, 101, 101, 116, 105, 110, 103, 95, 119, 111, 114, 100, 115]) [(.var 3), (.con .non), (.con .non), (.con .non)]) (.bin .Mult (.lst [(.con (.str (sx [109, 101, 101, 116, 105, 110, 103])))]) (.con (.int 5))))
    [.ret (.con (.bl false))]
    []]
def f_law_b2 : List S := [.cond (.or (.cmp .NotEq (.call (sx [95, 108, 97, 119, 95, 98, 111, 111, 107, 95, 119, 111, 114, 100, 115]) [(.tup [(.var 2)]), (.var 3), (.con (.int 0))]) (.bin .Add (.bin .Add (.bin .Mult (.lst [(.con (.str (sx [])))]) (.con (.int 9))) (.bin .Mult (.lst [(.con (.str (sx [109, 101, 109, 98, 101, 114])))]) (.con (.int 2)))) (.lst [(.con (.str (sx [])))]))) (.cmp .NotEq (.call (sx [95, 108, 97, 119, 95, 109, 101, 101, 116, 105, 110, 103, 95, 119, 111, 114, 100, 115]) [(.var 2), (.var 3), (.con (.int 0)), (.con (.int 0))]) (.bin .Add (.bin .Mult (.lst [(.con (.str (sx [])))]) (.con (.int 3))) (.lst [(.con (.str (sx [109, 101, 109, 98, 101, 114]))), (.con (.str (sx [])))]))))
    [.ret (.con (.bl false))]
    []]
def f_law_b3 : List S := [.cond (.or (.cmp .NotEq (.call (sx [95, 108, 97, 119, 95, 98, 111, 111, 107, 95, 119, 111, 114, 100, 115]) [(.tup [(.var 2)]), (.tup [(.con (.int 0))]), (.var 3)]) (.bin .Add (.bin .Mult (.lst [(.con (.str (sx [])))]) (.con (.int 11))) (.lst [(.con (.str (sx [109, 101, 109, 98, 101, 114])))]))) (.cmp .NotEq (.call (sx [95, 108, 97, 119, 95, 109, 101, 101, 116, 105, 110, 103, 95, 119, 111, 114, 100, 115]) [(.var 2), (.tup [(.con (.int 0))]), (.var 3), (.con .non)]) (.bin .Add (.bin .Mult (.lst [(.con (.str (sx [])))]) (.con (.int 4))) (.lst [(.con (.str (sx [109, 101, 109, 98, 101, 114])))]))))
    [.ret (.con (.bl false))]
    []]
def f_law_b4 : List S := [.cond (.cmp .NotEq (.call (sx [95, 108, 97, 119, 95, 109, 101, 101, 116, 105, 110, 103, 95, 119, 111, 114, 100, 115]) [(.var 2), (.tup [(.con (.int 0))]), (.con (.int 0)), (.var 3)]) (.bin .Add (.bin .Mult (.lst [(.con (.str (sx [])))]) (.con (.int 4))) (.lst [(.con (.str (sx [99, 111, 117, 110, 116])))])))
    [.ret (.con (.bl false))]
    []]
def f_law_b5 : List S := [.cond (.cmp .NotEq (.call (sx [95, 108, 97, 119, 95, 109, 101, 101, 116, 105, 110, 103, 95, 119, 111, 114, 100, 115]) [(.var 2), (.var 3), (.con (.int 0)), (.con (.int 0))]) (.bin .Add (.bin .Mult (.lst [(.con (.str (sx [])))]) (.con (.int 3))) (.lst [(.con (.str (sx [109, 101, 109, 98, 101, 114]))), (.con (.str (sx [])))])))
    [.ret (.con (.bl false))]
    []]
def f_law : FD where
  ps := ["script"]
  N := ["script", "cup", "meeting", "odd", "full"]
  body := [.set (.name 1) (.call (sx [95, 108, 97, 119, 95, 99, 117, 112]) [(.var 0)]),
  .set (.name 2) (.tup [(.tup [(.bin .Add (.con (.int 1)) (.call (sx [95, 108, 97, 119, 95, 114, 111, 108, 108]) [(.var 1), (.con (.int 9))])), (.con (.int 0))]), (.tup [(.con (.int 1)), (.con (.int 2))])]),
  .cond (.or (.cmp .NotEq (.call (sx [95, 108, 97, 119, 95, 98, 111, 111, 107, 95, 119, 111, 114, 100, 115]) [(.tup [(.var 2)]), (.tup [(.con (.int 0)), (.con (.int 1))]), (.con (.int 1))]) (.bin .Mult (.lst [(.con (.str (sx [])))]) (.con (.int 12)))) (.cmp .NotEq (.call (sx [95, 108, 97, 119, 95, 109, 101, 101, 116, 105, 110, 103, 95, 119, 111, 114, 100, 115]) [(.var 2), (.tup [(.con (.int 0))]), (.con (.int 1)), (.con (.int 24))]) (.bin .Mult (.lst [(.con (.str (sx [])))]) (.con (.int 5)))))
    [.ret (.con (.bl false))]
    [],
  .for (.name 3) (.tup [(.con .non), (.tup []), (.lst [(.var 2)]), (.var 2), (.tup [(.var 2), (.tup [(.tup [(.con (.int 1))])])]), (.bin .Mult (.tup [(.var 2)]) (.con (.int 7))), (.tup [(.tup [(.tup [(.con (.int 0))])])]), (.tup [(.tup [(.tup [(.con (.int 100))])])]), (.tup [(.tup [(.tup [(.con (.bl true))])])]), (.tup [(.tup [(.tup [(.neg (.con (.int 1))), (.con (.int 2))]), (.tup [(.con (.int 1)), (.con (.int 1))])])]), (.tup [(.con .non)]), (.con (.int 5))]) f_law_b0,
  .for (.name 3) (.tup [(.con .non), (.tup []), (.lst [(.ix (.var 2) (.con (.int 0)))]), (.tup [(.tup [(.con (.int 0))])]), (.tup [(.tup [(.con (.int 100))])]), (.tup [(.tup [(.con (.bl true))])]), (.tup [(.tup [(.con (.int 1)), (.con (.int 1))]), (.tup [(.con (.int 0)), (.con (.int 0))])]), (.tup [(.tup [(.con (.int 1)), (.con (.int 1))])]), (.bin .Mult (.tup [(.bin .Mult (.tup [(.con (.int 1))]) (.con (.int 7)))]) (.con (.int 7))), (.con (.int 5))]) f_law_b1,
  .for (.name 3) (.tup [(.con .non), (.tup []), (.lst [(.con (.int 0))]), (.con (.int 0)), (.tup [(.con (.int 2))]), (.tup [(.neg (.con (.int 1)))]), (.tup [(.con (.bl true))]), (.tup [(.con (.int 0)), (.con (.int 0))]), (.tup [(.con (.int 1)), (.con (.int 0))]), (.tup [(.con (.str (sx [48])))])]) f_law_b2,
  .for (.name 3) (.tup [(.con .non), (.neg (.con (.int 1))), (.con (.int 2)), (.con (.bl true)), (.con (.str (sx [48])))]) f_law_b3,
  .for (.name 3) (.tup [(.con .non), (.neg (.con (.int 1))), (.con (.int 25)), (.con (.bl true)), (.con (.str (sx [49])))]) f_law_b4,
  .for (.name 3) (.tup [(.tup [(.con (.int 1))]), (.tup [(.con (.int 0)), (.con (.int 1))])]) f_law_b5,
  .set (.name 4) (.bin .Mult (.tup [(.bin .Mult (.tup [(.con (.int 99))]) (.con (.int 6)))]) (.con (.int 6))),
  .ret (.and (.cmp .Eq (.call (sx [95, 108, 97, 119, 95, 98, 111, 111, 107, 95, 119, 111, 114, 100, 115]) [(.bin .Mult (.tup [(.var 4)]) (.con (.int 6))), (.tup [(.con (.int 0)), (.con (.int 5))]), (.con (.int 5))]) (.bin .Mult (.lst [(.con (.str (sx [])))]) (.con (.int 12)))) (.cmp .Eq (.call (sx [95, 108, 97, 119, 95, 109, 101, 101, 116, 105, 110, 103, 95, 119, 111, 114, 100, 115]) [(.var 4), (.tup [(.con (.int 0)), (.con (.int 1)), (.con (.int 2)), (.con (.int 3)), (.con (.int 4)), (.con (.int 5))]), (.con (.int 5)), (.con (.int 24))]) (.bin .Mult (.lst [(.con (.str (sx [])))]) (.con (.int 5)))))]
def defs : List Df := [⟨(sx [105, 115, 95, 119, 104, 111, 108, 101]), top 9, f_is_whole⟩, ⟨(sx [105, 115, 95, 116, 117, 112, 108, 101, 95, 111, 102]), top 10, f_is_tuple_of⟩, ⟨(sx [105, 115, 95, 114, 105, 115, 105, 110, 103]), top 11, f_is_rising⟩, ⟨(sx [102, 105, 116, 115, 95, 109, 101, 101, 116, 105, 110, 103]), top 12, f_fits_meeting⟩, ⟨(sx [110, 101, 101, 100, 95, 109, 101, 101, 116, 105, 110, 103]), top 13, f_need_meeting⟩, ⟨(sx [102, 105, 116, 115, 95, 98, 111, 111, 107]), top 14, f_fits_book⟩, ⟨(sx [110, 101, 101, 100, 95, 98, 111, 111, 107]), top 15, f_need_book⟩, ⟨(sx [102, 105, 116, 115, 95, 108, 111, 116]), top 16, f_fits_lot⟩, ⟨(sx [110, 101, 101, 100, 95, 108, 111, 116]), top 17, f_need_lot⟩, ⟨(sx [110, 101, 101, 100, 95, 109, 101, 109, 98, 101, 114]), top 18, f_need_member⟩, ⟨(sx [104, 101, 97, 114, 100, 95, 105, 110]), top 19, f_heard_in⟩, ⟨(sx [100, 105, 118, 105, 115, 111, 114, 95, 111, 102]), top 21, f_divisor_of⟩, ⟨(sx [104, 101, 97, 114, 100, 95, 105, 110, 95, 97, 108, 108]), top 24, f_heard_in_all⟩, ⟨(sx [105, 115, 95, 115, 104, 117, 116, 95, 105, 110]), top 25, f_is_shut_in⟩, ⟨(sx [104, 117, 108, 108, 95, 105, 110]), top 26, f_hull_in⟩, ⟨(sx [101, 118, 101, 114, 95, 105, 110]), top 27, f_ever_in⟩, ⟨(sx [108, 111, 116, 115, 95, 105, 110]), top 28, f_lots_in⟩, ⟨(sx [105, 115, 95, 119, 105, 116, 104, 105, 110]), top 29, f_is_within⟩, ⟨(sx [108, 101, 97, 115, 116, 95, 105, 110]), top 30, f_least_in⟩, ⟨(sx [101, 105, 116, 104, 101, 114, 95, 105, 110]), top 31, f_either_in⟩, ⟨(sx [99, 97, 109, 112, 115, 95, 105, 110]), top 32, f_camps_in⟩, ⟨(sx [99, 105, 114, 99, 108, 101, 115, 95, 105, 110]), top 33, f_circles_in⟩, ⟨(sx [100, 101, 112, 116, 104, 115, 95, 105, 110]), top 34, f_depths_in⟩, ⟨(sx [114, 111, 117, 110, 100, 115, 95, 105, 110]), top 35, f_rounds_in⟩, ⟨(sx [99, 108, 97, 115, 115, 101, 115, 95, 105, 110]), top 36, f_classes_in⟩, ⟨(sx [105, 115, 95, 115, 104, 117, 116]), top 37, f_is_shut⟩, ⟨(sx [115, 104, 117, 116, 95, 108, 111, 116, 115]), top 38, f_shut_lots⟩, ⟨(sx [108, 101, 97, 115, 116, 95, 115, 104, 117, 116, 95, 108, 111, 116, 115]), top 39, f_least_shut_lots⟩, ⟨(sx [115, 104, 117, 116, 95, 104, 117, 108, 108]), top 40, f_shut_hull⟩, ⟨(sx [104, 101, 97, 114, 100, 95, 101, 118, 101, 114]), top 41, f_heard_ever⟩, ⟨(sx [104, 101, 97, 114, 100, 95, 98, 121, 95, 97, 108, 108]), top 42, f_heard_by_all⟩, ⟨(sx [109, 101, 109, 98, 101, 114, 115, 95, 98, 101, 116, 119, 101, 101, 110]), top 43, f_members_between⟩, ⟨(sx [99, 97, 109, 112, 115, 95, 111, 102]), top 44, f_camps_of⟩, ⟨(sx [99, 105, 114, 99, 108, 101, 115, 95, 111, 102]), top 45, f_circles_of⟩, ⟨(sx [99, 105, 114, 99, 108, 101, 95, 115, 116, 101, 112, 115]), top 46, f_circle_steps⟩, ⟨(sx [115, 112, 108, 105, 116, 95, 111, 102]), top 47, f_split_of⟩, ⟨(sx [105, 115, 95, 115, 112, 108, 105, 116]), top 48, f_is_split⟩, ⟨(sx [99, 97, 114, 111, 117, 115, 101, 108, 95, 111, 102]), top 49, f_carousel_of⟩, ⟨(sx [99, 97, 114, 111, 117, 115, 101, 108, 115, 95, 111, 102]), top 50, f_carousels_of⟩, ⟨(sx [105, 115, 95, 99, 97, 114, 111, 117, 115, 101, 108]), top 51, f_is_carousel⟩, ⟨(sx [119, 104, 111, 108, 101, 95, 114, 111, 117, 110, 100]), top 52, f_whole_round⟩, ⟨(sx [104, 101, 97, 114, 100, 95, 97, 102, 116, 101, 114]), top 53, f_heard_after⟩, ⟨(sx [95, 108, 97, 119, 95, 99, 117, 112]), top 55, f__law_cup⟩, ⟨(sx [95, 108, 97, 119, 95, 114, 111, 108, 108]), top 56, f__law_roll⟩, ⟨(sx [95, 108, 97, 119, 95, 98, 111, 111, 107, 95, 119, 111, 114, 100, 115]), top 58, f__law_book_words⟩, ⟨(sx [95, 108, 97, 119, 95, 109, 101, 101, 116, 105, 110, 103, 95, 119, 111, 114, 100, 115]), top 59, f__law_meeting_words⟩, ⟨(sx [108, 97, 119]), top 60, f_law⟩]
def wdefs : List Df := [⟨(sx [95, 108, 97, 119, 95, 119, 111, 114, 100]), top 57, f__law_word⟩]
def exc : List PySem.Str := [(sx [73, 110, 118, 97, 108, 105, 100, 77, 101, 101, 116, 105, 110, 103]), (sx [73, 110, 118, 97, 108, 105, 100, 77, 101, 109, 98, 101, 114]), (sx [73, 110, 118, 97, 108, 105, 100, 67, 111, 117, 110, 116])]
def lams : List PySem.Str := [(sx [95, 108, 97, 119, 95, 98, 111, 111, 107, 95, 119, 111, 114, 100, 115]), (sx [95, 108, 97, 119, 95, 109, 101, 101, 116, 105, 110, 103, 95, 119, 111, 114, 100, 115])]
def fvals : List PySem.Str := [(sx [115, 104, 117, 116, 95, 108, 111, 116, 115]), (sx [108, 101, 97, 115, 116, 95, 115, 104, 117, 116, 95, 108, 111, 116, 115]), (sx [115, 112, 108, 105, 116, 95, 111, 102]), (sx [109, 101, 109, 98, 101, 114, 115, 95, 98, 101, 116, 119, 101, 101, 110]), (sx [99, 97, 109, 112, 115, 95, 111, 102]), (sx [99, 105, 114, 99, 108, 101, 115, 95, 111, 102]), (sx [99, 105, 114, 99, 108, 101, 95, 115, 116, 101, 112, 115]), (sx [104, 101, 97, 114, 100, 95, 98, 121, 95, 97, 108, 108]), (sx [105, 115, 95, 115, 104, 117, 116]), (sx [115, 104, 117, 116, 95, 104, 117, 108, 108]), (sx [99, 97, 114, 111, 117, 115, 101, 108, 115, 95, 111, 102]), (sx [119, 104, 111, 108, 101, 95, 114, 111, 117, 110, 100])]
def owns : List PySem.Str := [(sx [73, 110, 118, 97, 108, 105, 100, 77, 101, 101, 116, 105, 110, 103]), (sx [73, 110, 118, 97, 108, 105, 100, 77, 101, 109, 98, 101, 114]), (sx [73, 110, 118, 97, 108, 105, 100, 67, 111, 117, 110, 116]), (sx [83, 101, 116, 69, 114, 114, 111, 114])]
abbrev txt : Txt := ⟨defs, wdefs, exc, lams⟩
def nums : Ints := [((sx [77, 69, 77, 66, 69, 82, 83]), 6), ((sx [87, 69, 73, 71, 72, 84]), 99), ((sx [77, 69, 69, 84, 73, 78, 71, 83]), 6), ((sx [82, 79, 85, 78, 68, 83]), 24)]
abbrev tab : Tab := txt.tab
abbrev cs : Consts := csOf nums fvals
abbrev ph (n : Nat) : Fns := phi tab cs n
theorem b_is_whole : BindOk (L2.defArgs (top 9)) f_is_whole.ps := fun _ _ _ _ _ _ _ _ _ _ us hl => match us, hl with | [_, _, _], _ => rfl
theorem b_is_tuple_of : BindOk (L2.defArgs (top 10)) f_is_tuple_of.ps := fun _ _ _ _ _ _ _ _ _ _ us hl => match us, hl with | [_, _, _], _ => rfl
theorem b_is_rising : BindOk (L2.defArgs (top 11)) f_is_rising.ps := fun _ _ _ _ _ _ _ _ _ _ us hl => match us, hl with | [_], _ => rfl
theorem b_fits_meeting : BindOk (L2.defArgs (top 12)) f_fits_meeting.ps := fun _ _ _ _ _ _ _ _ _ _ us hl => match us, hl with | [_], _ => rfl
theorem b_need_meeting : BindOk (L2.defArgs (top 13)) f_need_meeting.ps := fun _ _ _ _ _ _ _ _ _ _ us hl => match us, hl with | [_], _ => rfl
theorem b_fits_book : BindOk (L2.defArgs (top 14)) f_fits_book.ps := fun _ _ _ _ _ _ _ _ _ _ us hl => match us, hl with | [_], _ => rfl
theorem b_need_book : BindOk (L2.defArgs (top 15)) f_need_book.ps := fun _ _ _ _ _ _ _ _ _ _ us hl => match us, hl with | [_], _ => rfl
theorem b_fits_lot : BindOk (L2.defArgs (top 16)) f_fits_lot.ps := fun _ _ _ _ _ _ _ _ _ _ us hl => match us, hl with | [_, _], _ => rfl
theorem b_need_lot : BindOk (L2.defArgs (top 17)) f_need_lot.ps := fun _ _ _ _ _ _ _ _ _ _ us hl => match us, hl with | [_, _], _ => rfl
theorem b_need_member : BindOk (L2.defArgs (top 18)) f_need_member.ps := fun _ _ _ _ _ _ _ _ _ _ us hl => match us, hl with | [_, _], _ => rfl
theorem b_heard_in : BindOk (L2.defArgs (top 19)) f_heard_in.ps := fun _ _ _ _ _ _ _ _ _ _ us hl => match us, hl with | [_, _], _ => rfl
theorem b_divisor_of : BindOk (L2.defArgs (top 21)) f_divisor_of.ps := fun _ _ _ _ _ _ _ _ _ _ us hl => match us, hl with | [_, _], _ => rfl
theorem b_heard_in_all : BindOk (L2.defArgs (top 24)) f_heard_in_all.ps := fun _ _ _ _ _ _ _ _ _ _ us hl => match us, hl with | [_, _], _ => rfl
theorem b_is_shut_in : BindOk (L2.defArgs (top 25)) f_is_shut_in.ps := fun _ _ _ _ _ _ _ _ _ _ us hl => match us, hl with | [_, _], _ => rfl
theorem b_hull_in : BindOk (L2.defArgs (top 26)) f_hull_in.ps := fun _ _ _ _ _ _ _ _ _ _ us hl => match us, hl with | [_, _], _ => rfl
theorem b_ever_in : BindOk (L2.defArgs (top 27)) f_ever_in.ps := fun _ _ _ _ _ _ _ _ _ _ us hl => match us, hl with | [_, _], _ => rfl
theorem b_lots_in : BindOk (L2.defArgs (top 28)) f_lots_in.ps := fun _ _ _ _ _ _ _ _ _ _ us hl => match us, hl with | [_], _ => rfl
theorem b_is_within : BindOk (L2.defArgs (top 29)) f_is_within.ps := fun _ _ _ _ _ _ _ _ _ _ us hl => match us, hl with | [_, _], _ => rfl
theorem b_least_in : BindOk (L2.defArgs (top 30)) f_least_in.ps := fun _ _ _ _ _ _ _ _ _ _ us hl => match us, hl with | [_], _ => rfl
theorem b_either_in : BindOk (L2.defArgs (top 31)) f_either_in.ps := fun _ _ _ _ _ _ _ _ _ _ us hl => match us, hl with | [_], _ => rfl
theorem b_camps_in : BindOk (L2.defArgs (top 32)) f_camps_in.ps := fun _ _ _ _ _ _ _ _ _ _ us hl => match us, hl with | [_], _ => rfl
theorem b_circles_in : BindOk (L2.defArgs (top 33)) f_circles_in.ps := fun _ _ _ _ _ _ _ _ _ _ us hl => match us, hl with | [_], _ => rfl
theorem b_depths_in : BindOk (L2.defArgs (top 34)) f_depths_in.ps := fun _ _ _ _ _ _ _ _ _ _ us hl => match us, hl with | [_, _], _ => rfl
theorem b_rounds_in : BindOk (L2.defArgs (top 35)) f_rounds_in.ps := fun _ _ _ _ _ _ _ _ _ _ us hl => match us, hl with | [_, _], _ => rfl
theorem b_classes_in : BindOk (L2.defArgs (top 36)) f_classes_in.ps := fun _ _ _ _ _ _ _ _ _ _ us hl => match us, hl with | [_, _], _ => rfl
theorem b_is_shut : BindOk (L2.defArgs (top 37)) f_is_shut.ps := fun _ _ _ _ _ _ _ _ _ _ us hl => match us, hl with | [_, _], _ => rfl
theorem b_shut_lots : BindOk (L2.defArgs (top 38)) f_shut_lots.ps := fun _ _ _ _ _ _ _ _ _ _ us hl => match us, hl with | [_], _ => rfl
theorem b_least_shut_lots : BindOk (L2.defArgs (top 39)) f_least_shut_lots.ps := fun _ _ _ _ _ _ _ _ _ _ us hl => match us, hl with | [_], _ => rfl
theorem b_shut_hull : BindOk (L2.defArgs (top 40)) f_shut_hull.ps := fun _ _ _ _ _ _ _ _ _ _ us hl => match us, hl with | [_, _], _ => rfl
theorem b_heard_ever : BindOk (L2.defArgs (top 41)) f_heard_ever.ps := fun _ _ _ _ _ _ _ _ _ _ us hl => match us, hl with | [_, _], _ => rfl
theorem b_heard_by_all : BindOk (L2.defArgs (top 42)) f_heard_by_all.ps := fun _ _ _ _ _ _ _ _ _ _ us hl => match us, hl with | [_], _ => rfl
theorem b_members_between : BindOk (L2.defArgs (top 43)) f_members_between.ps := fun _ _ _ _ _ _ _ _ _ _ us hl => match us, hl with | [_], _ => rfl
theorem b_camps_of : BindOk (L2.defArgs (top 44)) f_camps_of.ps := fun _ _ _ _ _ _ _ _ _ _ us hl => match us, hl with | [_], _ => rfl
theorem b_circles_of : BindOk (L2.defArgs (top 45)) f_circles_of.ps := fun _ _ _ _ _ _ _ _ _ _ us hl => match us, hl with | [_], _ => rfl
theorem b_circle_steps : BindOk (L2.defArgs (top 46)) f_circle_steps.ps := fun _ _ _ _ _ _ _ _ _ _ us hl => match us, hl with | [_], _ => rfl
theorem b_split_of : BindOk (L2.defArgs (top 47)) f_split_of.ps := fun _ _ _ _ _ _ _ _ _ _ us hl => match us, hl with | [_], _ => rfl
theorem b_is_split : BindOk (L2.defArgs (top 48)) f_is_split.ps := fun _ _ _ _ _ _ _ _ _ _ us hl => match us, hl with | [_, _], _ => rfl
theorem b_carousel_of : BindOk (L2.defArgs (top 49)) f_carousel_of.ps := fun _ _ _ _ _ _ _ _ _ _ us hl => match us, hl with | [_, _], _ => rfl
theorem b_carousels_of : BindOk (L2.defArgs (top 50)) f_carousels_of.ps := fun _ _ _ _ _ _ _ _ _ _ us hl => match us, hl with | [_], _ => rfl
theorem b_is_carousel : BindOk (L2.defArgs (top 51)) f_is_carousel.ps := fun _ _ _ _ _ _ _ _ _ _ us hl => match us, hl with | [_, _], _ => rfl
theorem b_whole_round : BindOk (L2.defArgs (top 52)) f_whole_round.ps := fun _ _ _ _ _ _ _ _ _ _ us hl => match us, hl with | [_], _ => rfl
theorem b_heard_after : BindOk (L2.defArgs (top 53)) f_heard_after.ps := fun _ _ _ _ _ _ _ _ _ _ us hl => match us, hl with | [_, _, _], _ => rfl
theorem b__law_cup : BindOk (L2.defArgs (top 55)) f__law_cup.ps := fun _ _ _ _ _ _ _ _ _ _ us hl => match us, hl with | [_], _ => rfl
theorem b__law_roll : BindOk (L2.defArgs (top 56)) f__law_roll.ps := fun _ _ _ _ _ _ _ _ _ _ us hl => match us, hl with | [_, _], _ => rfl
theorem b__law_book_words : BindOk (L2.defArgs (top 58)) f__law_book_words.ps := fun _ _ _ _ _ _ _ _ _ _ us hl => match us, hl with | [_, _, _], _ => rfl
theorem b__law_meeting_words : BindOk (L2.defArgs (top 59)) f__law_meeting_words.ps := fun _ _ _ _ _ _ _ _ _ _ us hl => match us, hl with | [_, _, _, _], _ => rfl
theorem b_law : BindOk (L2.defArgs (top 60)) f_law.ps := fun _ _ _ _ _ _ _ _ _ _ us hl => match us, hl with | [_], _ => rfl
theorem b__law_word : BindOk (L2.defArgs (top 57)) f__law_word.ps := fun _ _ _ _ _ _ _ _ _ _ us hl => match us, hl with | [_], _ => rfl
def loose : List PySem.Str := (["SetError", "InvalidMeeting", "InvalidMember", "InvalidCount", "is_whole", "is_tuple_of", "is_rising", "fits_meeting", "need_meeting", "fits_book", "need_book", "fits_lot", "need_lot", "need_member", "heard_in", "divisor_of", "heard_in_all", "is_shut_in", "hull_in", "ever_in", "lots_in", "is_within", "least_in", "either_in"] : List PySem.Str) ++ (["camps_in", "circles_in", "depths_in", "rounds_in", "classes_in", "is_shut", "shut_lots", "least_shut_lots", "shut_hull", "heard_ever", "heard_by_all", "members_between", "camps_of", "circles_of", "circle_steps", "split_of", "is_split", "carousel_of", "carousels_of", "is_carousel", "whole_round", "heard_after", "_law_cup", "_law_roll"] : List PySem.Str) ++ (["_law_word", "_law_book_words", "_law_meeting_words", "MEMBERS", "WEIGHT", "MEETINGS", "ROUNDS"] : List PySem.Str)
abbrev n_is_whole : PySem.Str := (sx [105, 115, 95, 119, 104, 111, 108, 101])
abbrev n_is_tuple_of : PySem.Str := (sx [105, 115, 95, 116, 117, 112, 108, 101, 95, 111, 102])
abbrev n_is_rising : PySem.Str := (sx [105, 115, 95, 114, 105, 115, 105, 110, 103])
abbrev n_fits_meeting : PySem.Str := (sx [102, 105, 116, 115, 95, 109, 101, 101, 116, 105, 110, 103])
abbrev n_need_meeting : PySem.Str := (sx [110, 101, 101, 100, 95, 109, 101, 101, 116, 105, 110, 103])
abbrev n_fits_book : PySem.Str := (sx [102, 105, 116, 115, 95, 98, 111, 111, 107])
abbrev n_need_book : PySem.Str := (sx [110, 101, 101, 100, 95, 98, 111, 111, 107])
abbrev n_fits_lot : PySem.Str := (sx [102, 105, 116, 115, 95, 108, 111, 116])
abbrev n_need_lot : PySem.Str := (sx [110, 101, 101, 100, 95, 108, 111, 116])
abbrev n_need_member : PySem.Str := (sx [110, 101, 101, 100, 95, 109, 101, 109, 98, 101, 114])
abbrev n_heard_in : PySem.Str := (sx [104, 101, 97, 114, 100, 95, 105, 110])
abbrev n_divisor_of : PySem.Str := (sx [100, 105, 118, 105, 115, 111, 114, 95, 111, 102])
abbrev n_heard_in_all : PySem.Str := (sx [104, 101, 97, 114, 100, 95, 105, 110, 95, 97, 108, 108])
abbrev n_is_shut_in : PySem.Str := (sx [105, 115, 95, 115, 104, 117, 116, 95, 105, 110])
abbrev n_hull_in : PySem.Str := (sx [104, 117, 108, 108, 95, 105, 110])
abbrev n_ever_in : PySem.Str := (sx [101, 118, 101, 114, 95, 105, 110])
abbrev n_lots_in : PySem.Str := (sx [108, 111, 116, 115, 95, 105, 110])
abbrev n_is_within : PySem.Str := (sx [105, 115, 95, 119, 105, 116, 104, 105, 110])
abbrev n_least_in : PySem.Str := (sx [108, 101, 97, 115, 116, 95, 105, 110])
abbrev n_either_in : PySem.Str := (sx [101, 105, 116, 104, 101, 114, 95, 105, 110])
abbrev n_camps_in : PySem.Str := (sx [99, 97, 109, 112, 115, 95, 105, 110])
abbrev n_circles_in : PySem.Str := (sx [99, 105, 114, 99, 108, 101, 115, 95, 105, 110])
abbrev n_depths_in : PySem.Str := (sx [100, 101, 112, 116, 104, 115, 95, 105, 110])
abbrev n_rounds_in : PySem.Str := (sx [114, 111, 117, 110, 100, 115, 95, 105, 110])
abbrev n_classes_in : PySem.Str := (sx [99, 108, 97, 115, 115, 101, 115, 95, 105, 110])
abbrev n_is_shut : PySem.Str := (sx [105, 115, 95, 115, 104, 117, 116])
abbrev n_shut_lots : PySem.Str := (sx [115, 104, 117, 116, 95, 108, 111, 116, 115])
abbrev n_least_shut_lots : PySem.Str := (sx [108, 101, 97, 115, 116, 95, 115, 104, 117, 116, 95, 108, 111, 116, 115])
abbrev n_shut_hull : PySem.Str := (sx [115, 104, 117, 116, 95, 104, 117, 108, 108])
abbrev n_heard_ever : PySem.Str := (sx [104, 101, 97, 114, 100, 95, 101, 118, 101, 114])
abbrev n_heard_by_all : PySem.Str := (sx [104, 101, 97, 114, 100, 95, 98, 121, 95, 97, 108, 108])
abbrev n_members_between : PySem.Str := (sx [109, 101, 109, 98, 101, 114, 115, 95, 98, 101, 116, 119, 101, 101, 110])
abbrev n_camps_of : PySem.Str := (sx [99, 97, 109, 112, 115, 95, 111, 102])
abbrev n_circles_of : PySem.Str := (sx [99, 105, 114, 99, 108, 101, 115, 95, 111, 102])
abbrev n_circle_steps : PySem.Str := (sx [99, 105, 114, 99, 108, 101, 95, 115, 116, 101, 112, 115])
abbrev n_split_of : PySem.Str := (sx [115, 112, 108, 105, 116, 95, 111, 102])
abbrev n_is_split : PySem.Str := (sx [105, 115, 95, 115, 112, 108, 105, 116])
abbrev n_carousel_of : PySem.Str := (sx [99, 97, 114, 111, 117, 115, 101, 108, 95, 111, 102])
abbrev n_carousels_of : PySem.Str := (sx [99, 97, 114, 111, 117, 115, 101, 108, 115, 95, 111, 102])
abbrev n_is_carousel : PySem.Str := (sx [105, 115, 95, 99, 97, 114, 111, 117, 115, 101, 108])
abbrev n_whole_round : PySem.Str := (sx [119, 104, 111, 108, 101, 95, 114, 111, 117, 110, 100])
abbrev n_heard_after : PySem.Str := (sx [104, 101, 97, 114, 100, 95, 97, 102, 116, 101, 114])
abbrev n__law_cup : PySem.Str := (sx [95, 108, 97, 119, 95, 99, 117, 112])
abbrev n__law_roll : PySem.Str := (sx [95, 108, 97, 119, 95, 114, 111, 108, 108])
abbrev n__law_book_words : PySem.Str := (sx [95, 108, 97, 119, 95, 98, 111, 111, 107, 95, 119, 111, 114, 100, 115])
abbrev n__law_meeting_words : PySem.Str := (sx [95, 108, 97, 119, 95, 109, 101, 101, 116, 105, 110, 103, 95, 119, 111, 114, 100, 115])
abbrev n_law : PySem.Str := (sx [108, 97, 119])
abbrev n__law_word : PySem.Str := (sx [95, 108, 97, 119, 95, 119, 111, 114, 100])
abbrev n_InvalidMeeting : PySem.Str := (sx [73, 110, 118, 97, 108, 105, 100, 77, 101, 101, 116, 105, 110, 103])
abbrev n_InvalidMember : PySem.Str := (sx [73, 110, 118, 97, 108, 105, 100, 77, 101, 109, 98, 101, 114])
abbrev n_InvalidCount : PySem.Str := (sx [73, 110, 118, 97, 108, 105, 100, 67, 111, 117, 110, 116])
abbrev n_SetError : PySem.Str := (sx [83, 101, 116, 69, 114, 114, 111, 114])
theorem chk_all : txt.ok = true := by decide +kernel
theorem bnd_all : ∀ d ∈ txt.l ++ txt.ws, BindOk (L2.defArgs d.st) d.fd.ps := by
  show ∀ d ∈ defs ++ wdefs, _
  unfold defs wdefs
  simp only [List.cons_append, List.nil_append, List.forall_mem_cons]
  exact ⟨b_is_whole, b_is_tuple_of, b_is_rising, b_fits_meeting, b_need_meeting, b_fits_book, b_need_book, b_fits_lot, b_need_lot, b_need_member, b_heard_in, b_divisor_of, b_heard_in_all, b_is_shut_in, b_hull_in, b_ever_in, b_lots_in, b_is_within, b_least_in, b_either_in, b_camps_in, b_circles_in, b_depths_in, b_rounds_in, b_classes_in, b_is_shut, b_shut_lots, b_least_shut_lots, b_shut_hull, b_heard_ever, b_heard_by_all, b_members_between, b_camps_of, b_circles_of, b_circle_steps, b_split_of, b_is_split, b_carousel_of, b_carousels_of, b_is_carousel, b_whole_round, b_heard_after, b__law_cup, b__law_roll, b__law_book_words, b__law_meeting_words, b_law, b__law_word, fun _ h => absurd h (by simp)⟩
@[simp] theorem c_MEMBERS : lookS cs (sx [77, 69, 77, 66, 69, 82, 83]) = some (D.int 6) := by kernel_rfl
@[simp] theorem c_WEIGHT : lookS cs (sx [87, 69, 73, 71, 72, 84]) = some (D.int 99) := by kernel_rfl
@[simp] theorem c_MEETINGS : lookS cs (sx [77, 69, 69, 84, 73, 78, 71, 83]) = some (D.int 6) := by kernel_rfl
@[simp] theorem c_ROUNDS : lookS cs (sx [82, 79, 85, 78, 68, 83]) = some (D.int 24) := by kernel_rfl
theorem asked : Asked txt owns fvals := ⟨⟨chk_all, bnd_all, by
  show ∀ d ∈ wdefs, _
  unfold wdefs
  simp only [List.forall_mem_cons]
  exact ⟨by kernel_rfl, fun _ h => absurd h (by simp)⟩⟩, by decide +kernel, by decide +kernel, by decide +kernel⟩
theorem u_is_whole (n : Nat) (args : List D) (st : Store) : ph (n+1) n_is_whole args st = runF (ph n) cs f_is_whole args st := by kernel_rfl
theorem u_is_tuple_of (n : Nat) (args : List D) (st : Store) : ph (n+1) n_is_tuple_of args st = runF (ph n) cs f_is_tuple_of args st := by kernel_rfl
theorem u_is_rising (n : Nat) (args : List D) (st : Store) : ph (n+1) n_is_rising args st = runF (ph n) cs f_is_rising args st := by kernel_rfl
theorem u_fits_meeting (n : Nat) (args : List D) (st : Store) : ph (n+1) n_fits_meeting args st = runF (ph n) cs f_fits_meeting args st := by kernel_rfl
theorem u_need_meeting (n : Nat) (args : List D) (st : Store) : ph (n+1) n_need_meeting args st = runF (ph n) cs f_need_meeting args st := by kernel_rfl
theorem u_fits_book (n : Nat) (args : List D) (st : Store) : ph (n+1) n_fits_book args st = runF (ph n) cs f_fits_book args st := by kernel_rfl
theorem u_need_book (n : Nat) (args : List D) (st : Store) : ph (n+1) n_need_book args st = runF (ph n) cs f_need_book args st := by kernel_rfl
theorem u_fits_lot (n : Nat) (args : List D) (st : Store) : ph (n+1) n_fits_lot args st = runF (ph n) cs f_fits_lot args st := by kernel_rfl
theorem u_need_lot (n : Nat) (args : List D) (st : Store) : ph (n+1) n_need_lot args st = runF (ph n) cs f_need_lot args st := by kernel_rfl
theorem u_need_member (n : Nat) (args : List D) (st : Store) : ph (n+1) n_need_member args st = runF (ph n) cs f_need_member args st := by kernel_rfl
theorem u_heard_in (n : Nat) (args : List D) (st : Store) : ph (n+1) n_heard_in args st = runF (ph n) cs f_heard_in args st := by kernel_rfl
theorem u_divisor_of (n : Nat) (args : List D) (st : Store) : ph (n+1) n_divisor_of args st = runF (ph n) cs f_divisor_of args st := by kernel_rfl
theorem u_heard_in_all (n : Nat) (args : List D) (st : Store) : ph (n+1) n_heard_in_all args st = runF (ph n) cs f_heard_in_all args st := by kernel_rfl
theorem u_is_shut_in (n : Nat) (args : List D) (st : Store) : ph (n+1) n_is_shut_in args st = runF (ph n) cs f_is_shut_in args st := by kernel_rfl
theorem u_hull_in (n : Nat) (args : List D) (st : Store) : ph (n+1) n_hull_in args st = runF (ph n) cs f_hull_in args st := by kernel_rfl
theorem u_ever_in (n : Nat) (args : List D) (st : Store) : ph (n+1) n_ever_in args st = runF (ph n) cs f_ever_in args st := by kernel_rfl
theorem u_lots_in (n : Nat) (args : List D) (st : Store) : ph (n+1) n_lots_in args st = runF (ph n) cs f_lots_in args st := by kernel_rfl
theorem u_is_within (n : Nat) (args : List D) (st : Store) : ph (n+1) n_is_within args st = runF (ph n) cs f_is_within args st := by kernel_rfl
theorem u_least_in (n : Nat) (args : List D) (st : Store) : ph (n+1) n_least_in args st = runF (ph n) cs f_least_in args st := by kernel_rfl
theorem u_either_in (n : Nat) (args : List D) (st : Store) : ph (n+1) n_either_in args st = runF (ph n) cs f_either_in args st := by kernel_rfl
theorem u_camps_in (n : Nat) (args : List D) (st : Store) : ph (n+1) n_camps_in args st = runF (ph n) cs f_camps_in args st := by kernel_rfl
theorem u_circles_in (n : Nat) (args : List D) (st : Store) : ph (n+1) n_circles_in args st = runF (ph n) cs f_circles_in args st := by kernel_rfl
theorem u_depths_in (n : Nat) (args : List D) (st : Store) : ph (n+1) n_depths_in args st = runF (ph n) cs f_depths_in args st := by kernel_rfl
theorem u_rounds_in (n : Nat) (args : List D) (st : Store) : ph (n+1) n_rounds_in args st = runF (ph n) cs f_rounds_in args st := by kernel_rfl
theorem u_classes_in (n : Nat) (args : List D) (st : Store) : ph (n+1) n_classes_in args st = runF (ph n) cs f_classes_in args st := by kernel_rfl
theorem u_is_shut (n : Nat) (args : List D) (st : Store) : ph (n+1) n_is_shut args st = runF (ph n) cs f_is_shut args st := by kernel_rfl
theorem u_shut_lots (n : Nat) (args : List D) (st : Store) : ph (n+1) n_shut_lots args st = runF (ph n) cs f_shut_lots args st := by kernel_rfl
theorem u_least_shut_lots (n : Nat) (args : List D) (st : Store) : ph (n+1) n_least_shut_lots args st = runF (ph n) cs f_least_shut_lots args st := by kernel_rfl
theorem u_shut_hull (n : Nat) (args : List D) (st : Store) : ph (n+1) n_shut_hull args st = runF (ph n) cs f_shut_hull args st := by kernel_rfl
theorem u_heard_ever (n : Nat) (args : List D) (st : Store) : ph (n+1) n_heard_ever args st = runF (ph n) cs f_heard_ever args st := by kernel_rfl
theorem u_heard_by_all (n : Nat) (args : List D) (st : Store) : ph (n+1) n_heard_by_all args st = runF (ph n) cs f_heard_by_all args st := by kernel_rfl
theorem u_members_between (n : Nat) (args : List D) (st : Store) : ph (n+1) n_members_between args st = runF (ph n) cs f_members_between args st := by kernel_rfl
theorem u_camps_of (n : Nat) (args : List D) (st : Store) : ph (n+1) n_camps_of args st = runF (ph n) cs f_camps_of args st := by kernel_rfl
theorem u_circles_of (n : Nat) (args : List D) (st : Store) : ph (n+1) n_circles_of args st = runF (ph n) cs f_circles_of args st := by kernel_rfl
theorem u_circle_steps (n : Nat) (args : List D) (st : Store) : ph (n+1) n_circle_steps args st = runF (ph n) cs f_circle_steps args st := by kernel_rfl
theorem u_split_of (n : Nat) (args : List D) (st : Store) : ph (n+1) n_split_of args st = runF (ph n) cs f_split_of args st := by kernel_rfl
theorem u_is_split (n : Nat) (args : List D) (st : Store) : ph (n+1) n_is_split args st = runF (ph n) cs f_is_split args st := by kernel_rfl
theorem u_carousel_of (n : Nat) (args : List D) (st : Store) : ph (n+1) n_carousel_of args st = runF (ph n) cs f_carousel_of args st := by kernel_rfl
theorem u_carousels_of (n : Nat) (args : List D) (st : Store) : ph (n+1) n_carousels_of args st = runF (ph n) cs f_carousels_of args st := by kernel_rfl
theorem u_is_carousel (n : Nat) (args : List D) (st : Store) : ph (n+1) n_is_carousel args st = runF (ph n) cs f_is_carousel args st := by kernel_rfl
theorem u_whole_round (n : Nat) (args : List D) (st : Store) : ph (n+1) n_whole_round args st = runF (ph n) cs f_whole_round args st := by kernel_rfl
theorem u_heard_after (n : Nat) (args : List D) (st : Store) : ph (n+1) n_heard_after args st = runF (ph n) cs f_heard_after args st := by kernel_rfl
theorem u__law_cup (n : Nat) (args : List D) (st : Store) : ph (n+1) n__law_cup args st = runF (ph n) cs f__law_cup args st := by kernel_rfl
theorem u__law_roll (n : Nat) (args : List D) (st : Store) : ph (n+1) n__law_roll args st = runF (ph n) cs f__law_roll args st := by kernel_rfl
theorem u__law_book_words (n : Nat) (args : List D) (st : Store) : ph (n+1) n__law_book_words args st = runF (ph n) cs f__law_book_words args st := by kernel_rfl
theorem u__law_meeting_words (n : Nat) (args : List D) (st : Store) : ph (n+1) n__law_meeting_words args st = runF (ph n) cs f__law_meeting_words args st := by kernel_rfl
theorem u_law (n : Nat) (args : List D) (st : Store) : ph (n+1) n_law args st = runF (ph n) cs f_law args st := by kernel_rfl
theorem u__law_word (n : Nat) (args : List D) (st : Store) : ph (n+1) n__law_word args st = runW f__law_word args st := by kernel_rfl
end K79

set_option Elab.async false
set_option linter.all false
set_option maxRecDepth 100000
set_option maxHeartbeats 0
namespace K79
open Ev Lw

variable {n : Nat} {st : Store}
abbrev C (a b : Int) : Store := [.lst [.int a, .int b]]
theorem c0 {a b : Int} : ixop (.ref 0) (.int 0) (C a b) = .ok (.int a) (C a b) := rfl
theorem c1 {a b : Int} : ixop (.ref 0) (.int 1) (C a b) = .ok (.int b) (C a b) := rfl
theorem s0 {a b : Int} {d : Int} : subop (.ref 0) (.int 0) (.int d) (C a b) = some (C d b) := rfl
theorem s1 {a b : Int} {d : Int} : subop (.ref 0) (.int 1) (.int d) (C a b) = some (C a d) := rfl
theorem roll_ok (a b : Int) {k : Nat} (h1 : 1 ≤ k) (h2 : k ≤ 1000) : ∃ (r : Nat) (a' b' : Int), r < k ∧ ph (n+1) n__law_roll [.ref 0, .int k] (C a b) = .ok (.int r) (C a' b') := by
  have hk : (0 : Int) < k := by omega
  have hm : ∀ i : Int, ∃ r : Nat, r < k ∧ (r : Int) = i % k := fun i => by
    have h3 := Int.emod_nonneg i (show (k : Int) ≠ 0 by omega)
    have h4 := Int.emod_lt_of_pos i hk
    exact ⟨(i % k).toNat, by omega, by omega⟩
  rw [u__law_roll]
  by_cases ha : 0 < a
  · obtain ⟨r, hr, e⟩ := hm a
    refine ⟨r, a / k, b, hr, ?_⟩
    simp [runF, f__law_roll, startE, c0, ha, mod_int hk, div_int hk (show (k : Int) < 2 ^ 64 by omega), s0, ← e]
  · have m1 : ∀ st, binop .Mult (.int b) (.int 31259) st = .ok (.int (b * 31259)) st := fun st => mul_int' (by decide)
    have m2 : ∀ i st, binop .Mod (.int i) (.int 2147483399) st = .ok (.int (i % 2147483399)) st := fun i st => mod_int (by decide)
    have m3 : ∀ i st, binop .Mod (.int i) (.int 2147483563) st = .ok (.int (i % 2147483563)) st := fun i st => mod_int (by decide)
    have m4 : ∀ i st, binop .FloorDiv (.int i) (.int 797) st = .ok (.int (i / 797)) st := fun i st => div_int (by decide) (by decide)
    have hb := Int.emod_nonneg (b * 31259 + 8275) (show (2147483399 : Int) ≠ 0 by decide)
    have hb2 := Int.emod_lt_of_pos (b * 31259 + 8275) (show (0 : Int) < 2147483399 by decide)
    generalize hq : (b * 31259 + 8275) % 2147483399 = q at hb hb2
    have m5 : ∀ j st, binop .Mult (.int q) (.int j) st = .ok (.int (q * j)) st := fun j st => mul_int (by omega)
    obtain ⟨r, hr, e⟩ := hm (q * (q + 545) % 2147483563 / 797)
    refine ⟨r, a, q, hr, ?_⟩
    simp [runF, f__law_roll, startE, c0, c1, ha, m1, m2, hq, s1, m5, m3, m4, mod_int hk, ← e]
theorem cup_ok (ns : List Int) (h : ns.length ≤ 63) : ∃ a b, ph (n+1) n__law_cup [.scr ns] [] = .ok (.ref 0) (C a b) := by
  have key : ∃ c : Int, ixop (.lst (ns.map D.int ++ [.int 0])) (.int 0) [] = .ok (.int c) [] := by
    cases ns with
    | nil => exact ⟨0, rfl⟩
    | cons x r => exact ⟨x, ix_lst (i := 0) rfl⟩
  obtain ⟨c, e⟩ := key
  have p : ∀ st, binop .Pow (.int 10) (.int 18) st = .ok (.int 1000000000000000000) st := fun st => by simp [binop]
  rw [u__law_cup]
  simp [runF, f__law_cup, startE]
  rw [add_lst (by simp [seqMax]; omega)]
  simp [e, p]
  generalize (if c < 0 then -c else c) = v
  have d1 : ∀ st, binop .FloorDiv (.int v) (.int 271) st = .ok (.int (v / 271)) st := fun st => div_int (by decide) (by decide)
  have d2 : ∀ st, binop .Mult (.int v) (.int 601) st = .ok (.int (v * 601)) st := fun st => mul_int' (by decide)
  have d3 : ∀ i st, binop .Mod (.int i) (.int 2077503101) st = .ok (.int (i % 2077503101)) st := fun i st => mod_int (by decide)
  simp [d1, d2, d3]
  by_cases hv : 1000000000000000000 ≤ v
  · exact ⟨_, _, by simp [hv, trunc, below]; exact ⟨rfl, rfl⟩⟩
  · exact ⟨_, _, by simp [hv, trunc, below]; exact ⟨rfl, rfl⟩⟩
abbrev env0 (ns : List Int) : Env := some (.scr ns) :: List.replicate 4 none
abbrev env1 (ns : List Int) : Env := (env0 ns).set 1 (some (.ref 0))
abbrev EX : Sx := ex (ev (ph 29) cs 40) 40
theorem step0 {ns : List Int} {a b : Int} (e : ph 29 n__law_cup [.scr ns] [] = .ok (.ref 0) (C a b)) : exs EX (f_law.body.take 1) (env0 ns) [] = .ok (.next (env1 ns)) (C a b) := by
  simp [f_law, e]
end K79

set_option Elab.async false
set_option linter.all false
set_option maxRecDepth 100000
set_option maxHeartbeats 0
namespace K79
open Ev Lw

/-- what stands behind the draw of r -/
def env2 (ns : List Int) (r : Int) : Env := [some (.scr ns), some (.ref 0), some (.tup [.tup [.int (1 + r), .int 0], .tup [.int 1, .int 2]]), none, none]
def env3 (ns : List Int) (r : Int) : Env := (env2 ns r).set 3 (some (.tup [.int 0, .int 1]))
theorem step1 {ns : List Int} {a b a' b' : Int} {r : Nat} (e : ph 29 n__law_roll [.ref 0, .int 9] (C a b) = .ok (.int r) (C a' b')) : exs EX ((f_law.body.drop 1).take 1) (env1 ns) (C a b) = .ok (.next (env2 ns r)) (C a' b') := by
  simp [f_law, e, env2]
end K79

set_option Elab.async false
set_option linter.all false
set_option maxRecDepth 100000
set_option maxHeartbeats 0
namespace K79
open Ev Lw
theorem c0_2 (ns : List Int) (a b : Int) (x : Option D) : exs EX ((f_law.body.drop 2).take 1) ((env2 ns 0).set 3 x) (C a b) = .ok (.next ((env2 ns 0).set 3 x)) (C a b) := by kernel_rfl
theorem c0_3 (ns : List Int) (a b : Int) (x : Option D) : exs EX ((f_law.body.drop 3).take 1) ((env2 ns 0).set 3 x) (C a b) = .ok (.next ((env2 ns 0).set 3 (some (.int 5)))) (C a b) := by kernel_rfl
theorem c0_4 (ns : List Int) (a b : Int) (x : Option D) : exs EX ((f_law.body.drop 4).take 1) ((env2 ns 0).set 3 x) (C a b) = .ok (.next ((env2 ns 0).set 3 (some (.int 5)))) (C a b) := by kernel_rfl
theorem c0_5 (ns : List Int) (a b : Int) (x : Option D) : exs EX ((f_law.body.drop 5).take 1) ((env2 ns 0).set 3 x) (C a b) = .ok (.next ((env2 ns 0).set 3 (some (.tup [.str (sx [48])])))) (C a b) := by kernel_rfl
theorem c0_6 (ns : List Int) (a b : Int) (x : Option D) : exs EX ((f_law.body.drop 6).take 1) ((env2 ns 0).set 3 x) (C a b) = .ok (.next ((env2 ns 0).set 3 (some (.str (sx [48]))))) (C a b) := by kernel_rfl
theorem c0_7 (ns : List Int) (a b : Int) (x : Option D) : exs EX ((f_law.body.drop 7).take 1) ((env2 ns 0).set 3 x) (C a b) = .ok (.next ((env2 ns 0).set 3 (some (.str (sx [49]))))) (C a b) := by kernel_rfl
theorem c0_8 (ns : List Int) (a b : Int) (x : Option D) : exs EX ((f_law.body.drop 8).take 1) ((env2 ns 0).set 3 x) (C a b) = .ok (.next ((env2 ns 0).set 3 (some (.tup [.int 0, .int 1])))) (C a b) := by kernel_rfl
theorem case0 (ns : List Int) (a b : Int) : exs EX ((f_law.body.drop 2).take 7) (env2 ns 0) (C a b) = .ok (.next (env3 ns 0)) (C a b) := by
  have sp : (f_law.body.drop 2).take 7 = (f_law.body.drop 2).take 1 ++ ((f_law.body.drop 3).take 1 ++ ((f_law.body.drop 4).take 1 ++ ((f_law.body.drop 5).take 1 ++ ((f_law.body.drop 6).take 1 ++ ((f_law.body.drop 7).take 1 ++ ((f_law.body.drop 8).take 1)))))) := by kernel_rfl
  have e0 : env2 ns 0 = (env2 ns 0).set 3 none := rfl
  rw [sp, e0, exs_app, c0_2 ns a b _, R.bind_ok, then_next, exs_app, c0_3 ns a b _, R.bind_ok, then_next, exs_app, c0_4 ns a b _, R.bind_ok, then_next, exs_app, c0_5 ns a b _, R.bind_ok, then_next, exs_app, c0_6 ns a b _, R.bind_ok, then_next, exs_app, c0_7 ns a b _, R.bind_ok, then_next, c0_8 ns a b _]
  rfl
end K79

set_option Elab.async false
set_option linter.all false
set_option maxRecDepth 100000
set_option maxHeartbeats 0
namespace K79
open Ev Lw
theorem c1_2 (ns : List Int) (a b : Int) (x : Option D) : exs EX ((f_law.body.drop 2).take 1) ((env2 ns 1).set 3 x) (C a b) = .ok (.next ((env2 ns 1).set 3 x)) (C a b) := by kernel_rfl
theorem c1_3 (ns : List Int) (a b : Int) (x : Option D) : exs EX ((f_law.body.drop 3).take 1) ((env2 ns 1).set 3 x) (C a b) = .ok (.next ((env2 ns 1).set 3 (some (.int 5)))) (C a b) := by kernel_rfl
theorem c1_4 (ns : List Int) (a b : Int) (x : Option D) : exs EX ((f_law.body.drop 4).take 1) ((env2 ns 1).set 3 x) (C a b) = .ok (.next ((env2 ns 1).set 3 (some (.int 5)))) (C a b) := by kernel_rfl
theorem c1_5 (ns : List Int) (a b : Int) (x : Option D) : exs EX ((f_law.body.drop 5).take 1) ((env2 ns 1).set 3 x) (C a b) = .ok (.next ((env2 ns 1).set 3 (some (.tup [.str (sx [48])])))) (C a b) := by kernel_rfl
theorem c1_6 (ns : List Int) (a b : Int) (x : Option D) : exs EX ((f_law.body.drop 6).take 1) ((env2 ns 1).set 3 x) (C a b) = .ok (.next ((env2 ns 1).set 3 (some (.str (sx [48]))))) (C a b) := by kernel_rfl
theorem c1_7 (ns : List Int) (a b : Int) (x : Option D) : exs EX ((f_law.body.drop 7).take 1) ((env2 ns 1).set 3 x) (C a b) = .ok (.next ((env2 ns 1).set 3 (some (.str (sx [49]))))) (C a b) := by kernel_rfl
theorem c1_8 (ns : List Int) (a b : Int) (x : Option D) : exs EX ((f_law.body.drop 8).take 1) ((env2 ns 1).set 3 x) (C a b) = .ok (.next ((env2 ns 1).set 3 (some (.tup [.int 0, .int 1])))) (C a b) := by kernel_rfl
theorem case1 (ns : List Int) (a b : Int) : exs EX ((f_law.body.drop 2).take 7) (env2 ns 1) (C a b) = .ok (.next (env3 ns 1)) (C a b) := by
  have sp : (f_law.body.drop 2).take 7 = (f_law.body.drop 2).take 1 ++ ((f_law.body.drop 3).take 1 ++ ((f_law.body.drop 4).take 1 ++ ((f_law.body.drop 5).take 1 ++ ((f_law.body.drop 6).take 1 ++ ((f_law.body.drop 7).take 1 ++ ((f_law.body.drop 8).take 1)))))) := by kernel_rfl
  have e0 : env2 ns 1 = (env2 ns 1).set 3 none := rfl
  rw [sp, e0, exs_app, c1_2 ns a b _, R.bind_ok, then_next, exs_app, c1_3 ns a b _, R.bind_ok, then_next, exs_app, c1_4 ns a b _, R.bind_ok, then_next, exs_app, c1_5 ns a b _, R.bind_ok, then_next, exs_app, c1_6 ns a b _, R.bind_ok, then_next, exs_app, c1_7 ns a b _, R.bind_ok, then_next, c1_8 ns a b _]
  rfl
end K79

set_option Elab.async false
set_option linter.all false
set_option maxRecDepth 100000
set_option maxHeartbeats 0
namespace K79
open Ev Lw
theorem c2_2 (ns : List Int) (a b : Int) (x : Option D) : exs EX ((f_law.body.drop 2).take 1) ((env2 ns 2).set 3 x) (C a b) = .ok (.next ((env2 ns 2).set 3 x)) (C a b) := by kernel_rfl
theorem c2_3 (ns : List Int) (a b : Int) (x : Option D) : exs EX ((f_law.body.drop 3).take 1) ((env2 ns 2).set 3 x) (C a b) = .ok (.next ((env2 ns 2).set 3 (some (.int 5)))) (C a b) := by kernel_rfl
theorem c2_4 (ns : List Int) (a b : Int) (x : Option D) : exs EX ((f_law.body.drop 4).take 1) ((env2 ns 2).set 3 x) (C a b) = .ok (.next ((env2 ns 2).set 3 (some (.int 5)))) (C a b) := by kernel_rfl
theorem c2_5 (ns : List Int) (a b : Int) (x : Option D) : exs EX ((f_law.body.drop 5).take 1) ((env2 ns 2).set 3 x) (C a b) = .ok (.next ((env2 ns 2).set 3 (some (.tup [.str (sx [48])])))) (C a b) := by kernel_rfl
theorem c2_6 (ns : List Int) (a b : Int) (x : Option D) : exs EX ((f_law.body.drop 6).take 1) ((env2 ns 2).set 3 x) (C a b) = .ok (.next ((env2 ns 2).set 3 (some (.str (sx [48]))))) (C a b) := by kernel_rfl
theorem c2_7 (ns : List Int) (a b : Int) (x : Option D) : exs EX ((f_law.body.drop 7).take 1) ((env2 ns 2).set 3 x) (C a b) = .ok (.next ((env2 ns 2).set 3 (some (.str (sx [49]))))) (C a b) := by kernel_rfl
theorem c2_8 (ns : List Int) (a b : Int) (x : Option D) : exs EX ((f_law.body.drop 8).take 1) ((env2 ns 2).set 3 x) (C a b) = .ok (.next ((env2 ns 2).set 3 (some (.tup [.int 0, .int 1])))) (C a b) := by kernel_rfl
theorem case2 (ns : List Int) (a b : Int) : exs EX ((f_law.body.drop 2).take 7) (env2 ns 2) (C a b) = .ok (.next (env3 ns 2)) (C a b) := by
  have sp : (f_law.body.drop 2).take 7 = (f_law.body.drop 2).take 1 ++ ((f_law.body.drop 3).take 1 ++ ((f_law.body.drop 4).take 1 ++ ((f_law.body.drop 5).take 1 ++ ((f_law.body.drop 6).take 1 ++ ((f_law.body.drop 7).take 1 ++ ((f_law.body.drop 8).take 1)))))) := by kernel_rfl
  have e0 : env2 ns 2 = (env2 ns 2).set 3 none := rfl
  rw [sp, e0, exs_app, c2_2 ns a b _, R.bind_ok, then_next, exs_app, c2_3 ns a b _, R.bind_ok, then_next, exs_app, c2_4 ns a b _, R.bind_ok, then_next, exs_app, c2_5 ns a b _, R.bind_ok, then_next, exs_app, c2_6 ns a b _, R.bind_ok, then_next, exs_app, c2_7 ns a b _, R.bind_ok, then_next, c2_8 ns a b _]
  rfl
end K79

set_option Elab.async false
set_option linter.all false
set_option maxRecDepth 100000
set_option maxHeartbeats 0
namespace K79
open Ev Lw
theorem c3_2 (ns : List Int) (a b : Int) (x : Option D) : exs EX ((f_law.body.drop 2).take 1) ((env2 ns 3).set 3 x) (C a b) = .ok (.next ((env2 ns 3).set 3 x)) (C a b) := by kernel_rfl
theorem c3_3 (ns : List Int) (a b : Int) (x : Option D) : exs EX ((f_law.body.drop 3).take 1) ((env2 ns 3).set 3 x) (C a b) = .ok (.next ((env2 ns 3).set 3 (some (.int 5)))) (C a b) := by kernel_rfl
theorem c3_4 (ns : List Int) (a b : Int) (x : Option D) : exs EX ((f_law.body.drop 4).take 1) ((env2 ns 3).set 3 x) (C a b) = .ok (.next ((env2 ns 3).set 3 (some (.int 5)))) (C a b) := by kernel_rfl
theorem c3_5 (ns : List Int) (a b : Int) (x : Option D) : exs EX ((f_law.body.drop 5).take 1) ((env2 ns 3).set 3 x) (C a b) = .ok (.next ((env2 ns 3).set 3 (some (.tup [.str (sx [48])])))) (C a b) := by kernel_rfl
theorem c3_6 (ns : List Int) (a b : Int) (x : Option D) : exs EX ((f_law.body.drop 6).take 1) ((env2 ns 3).set 3 x) (C a b) = .ok (.next ((env2 ns 3).set 3 (some (.str (sx [48]))))) (C a b) := by kernel_rfl
theorem c3_7 (ns : List Int) (a b : Int) (x : Option D) : exs EX ((f_law.body.drop 7).take 1) ((env2 ns 3).set 3 x) (C a b) = .ok (.next ((env2 ns 3).set 3 (some (.str (sx [49]))))) (C a b) := by kernel_rfl
theorem c3_8 (ns : List Int) (a b : Int) (x : Option D) : exs EX ((f_law.body.drop 8).take 1) ((env2 ns 3).set 3 x) (C a b) = .ok (.next ((env2 ns 3).set 3 (some (.tup [.int 0, .int 1])))) (C a b) := by kernel_rfl
theorem case3 (ns : List Int) (a b : Int) : exs EX ((f_law.body.drop 2).take 7) (env2 ns 3) (C a b) = .ok (.next (env3 ns 3)) (C a b) := by
  have sp : (f_law.body.drop 2).take 7 = (f_law.body.drop 2).take 1 ++ ((f_law.body.drop 3).take 1 ++ ((f_law.body.drop 4).take 1 ++ ((f_law.body.drop 5).take 1 ++ ((f_law.body.drop 6).take 1 ++ ((f_law.body.drop 7).take 1 ++ ((f_law.body.drop 8).take 1)))))) := by kernel_rfl
  have e0 : env2 ns 3 = (env2 ns 3).set 3 none := rfl
  rw [sp, e0, exs_app, c3_2 ns a b _, R.bind_ok, then_next, exs_app, c3_3 ns a b _, R.bind_ok, then_next, exs_app, c3_4 ns a b _, R.bind_ok, then_next, exs_app, c3_5 ns a b _, R.bind_ok, then_next, exs_app, c3_6 ns a b _, R.bind_ok, then_next, exs_app, c3_7 ns a b _, R.bind_ok, then_next, c3_8 ns a b _]
  rfl
end K79

set_option Elab.async false
set_option linter.all false
set_option maxRecDepth 100000
set_option maxHeartbeats 0
namespace K79
open Ev Lw
theorem c4_2 (ns : List Int) (a b : Int) (x : Option D) : exs EX ((f_law.body.drop 2).take 1) ((env2 ns 4).set 3 x) (C a b) = .ok (.next ((env2 ns 4).set 3 x)) (C a b) := by kernel_rfl
theorem c4_3 (ns : List Int) (a b : Int) (x : Option D) : exs EX ((f_law.body.drop 3).take 1) ((env2 ns 4).set 3 x) (C a b) = .ok (.next ((env2 ns 4).set 3 (some (.int 5)))) (C a b) := by kernel_rfl
theorem c4_4 (ns : List Int) (a b : Int) (x : Option D) : exs EX ((f_law.body.drop 4).take 1) ((env2 ns 4).set 3 x) (C a b) = .ok (.next ((env2 ns 4).set 3 (some (.int 5)))) (C a b) := by kernel_rfl
theorem c4_5 (ns : List Int) (a b : Int) (x : Option D) : exs EX ((f_law.body.drop 5).take 1) ((env2 ns 4).set 3 x) (C a b) = .ok (.next ((env2 ns 4).set 3 (some (.tup [.str (sx [48])])))) (C a b) := by kernel_rfl
theorem c4_6 (ns : List Int) (a b : Int) (x : Option D) : exs EX ((f_law.body.drop 6).take 1) ((env2 ns 4).set 3 x) (C a b) = .ok (.next ((env2 ns 4).set 3 (some (.str (sx [48]))))) (C a b) := by kernel_rfl
theorem c4_7 (ns : List Int) (a b : Int) (x : Option D) : exs EX ((f_law.body.drop 7).take 1) ((env2 ns 4).set 3 x) (C a b) = .ok (.next ((env2 ns 4).set 3 (some (.str (sx [49]))))) (C a b) := by kernel_rfl
theorem c4_8 (ns : List Int) (a b : Int) (x : Option D) : exs EX ((f_law.body.drop 8).take 1) ((env2 ns 4).set 3 x) (C a b) = .ok (.next ((env2 ns 4).set 3 (some (.tup [.int 0, .int 1])))) (C a b) := by kernel_rfl
theorem case4 (ns : List Int) (a b : Int) : exs EX ((f_law.body.drop 2).take 7) (env2 ns 4) (C a b) = .ok (.next (env3 ns 4)) (C a b) := by
  have sp : (f_law.body.drop 2).take 7 = (f_law.body.drop 2).take 1 ++ ((f_law.body.drop 3).take 1 ++ ((f_law.body.drop 4).take 1 ++ ((f_law.body.drop 5).take 1 ++ ((f_law.body.drop 6).take 1 ++ ((f_law.body.drop 7).take 1 ++ ((f_law.body.drop 8).take 1)))))) := by kernel_rfl
  have e0 : env2 ns 4 = (env2 ns 4).set 3 none := rfl
  rw [sp, e0, exs_app, c4_2 ns a b _, R.bind_ok, then_next, exs_app, c4_3 ns a b _, R.bind_ok, then_next, exs_app, c4_4 ns a b _, R.bind_ok, then_next, exs_app, c4_5 ns a b _, R.bind_ok, then_next, exs_app, c4_6 ns a b _, R.bind_ok, then_next, exs_app, c4_7 ns a b _, R.bind_ok, then_next, c4_8 ns a b _]
  rfl
end K79

set_option Elab.async false
set_option linter.all false
set_option maxRecDepth 100000
set_option maxHeartbeats 0
namespace K79
open Ev Lw
theorem c5_2 (ns : List Int) (a b : Int) (x : Option D) : exs EX ((f_law.body.drop 2).take 1) ((env2 ns 5).set 3 x) (C a b) = .ok (.next ((env2 ns 5).set 3 x)) (C a b) := by kernel_rfl
theorem c5_3 (ns : List Int) (a b : Int) (x : Option D) : exs EX ((f_law.body.drop 3).take 1) ((env2 ns 5).set 3 x) (C a b) = .ok (.next ((env2 ns 5).set 3 (some (.int 5)))) (C a b) := by kernel_rfl
theorem c5_4 (ns : List Int) (a b : Int) (x : Option D) : exs EX ((f_law.body.drop 4).take 1) ((env2 ns 5).set 3 x) (C a b) = .ok (.next ((env2 ns 5).set 3 (some (.int 5)))) (C a b) := by kernel_rfl
theorem c5_5 (ns : List Int) (a b : Int) (x : Option D) : exs EX ((f_law.body.drop 5).take 1) ((env2 ns 5).set 3 x) (C a b) = .ok (.next ((env2 ns 5).set 3 (some (.tup [.str (sx [48])])))) (C a b) := by kernel_rfl
theorem c5_6 (ns : List Int) (a b : Int) (x : Option D) : exs EX ((f_law.body.drop 6).take 1) ((env2 ns 5).set 3 x) (C a b) = .ok (.next ((env2 ns 5).set 3 (some (.str (sx [48]))))) (C a b) := by kernel_rfl
theorem c5_7 (ns : List Int) (a b : Int) (x : Option D) : exs EX ((f_law.body.drop 7).take 1) ((env2 ns 5).set 3 x) (C a b) = .ok (.next ((env2 ns 5).set 3 (some (.str (sx [49]))))) (C a b) := by kernel_rfl
theorem c5_8 (ns : List Int) (a b : Int) (x : Option D) : exs EX ((f_law.body.drop 8).take 1) ((env2 ns 5).set 3 x) (C a b) = .ok (.next ((env2 ns 5).set 3 (some (.tup [.int 0, .int 1])))) (C a b) := by kernel_rfl
theorem case5 (ns : List Int) (a b : Int) : exs EX ((f_law.body.drop 2).take 7) (env2 ns 5) (C a b) = .ok (.next (env3 ns 5)) (C a b) := by
  have sp : (f_law.body.drop 2).take 7 = (f_law.body.drop 2).take 1 ++ ((f_law.body.drop 3).take 1 ++ ((f_law.body.drop 4).take 1 ++ ((f_law.body.drop 5).take 1 ++ ((f_law.body.drop 6).take 1 ++ ((f_law.body.drop 7).take 1 ++ ((f_law.body.drop 8).take 1)))))) := by kernel_rfl
  have e0 : env2 ns 5 = (env2 ns 5).set 3 none := rfl
  rw [sp, e0, exs_app, c5_2 ns a b _, R.bind_ok, then_next, exs_app, c5_3 ns a b _, R.bind_ok, then_next, exs_app, c5_4 ns a b _, R.bind_ok, then_next, exs_app, c5_5 ns a b _, R.bind_ok, then_next, exs_app, c5_6 ns a b _, R.bind_ok, then_next, exs_app, c5_7 ns a b _, R.bind_ok, then_next, c5_8 ns a b _]
  rfl
end K79

set_option Elab.async false
set_option linter.all false
set_option maxRecDepth 100000
set_option maxHeartbeats 0
namespace K79
open Ev Lw
theorem c6_2 (ns : List Int) (a b : Int) (x : Option D) : exs EX ((f_law.body.drop 2).take 1) ((env2 ns 6).set 3 x) (C a b) = .ok (.next ((env2 ns 6).set 3 x)) (C a b) := by kernel_rfl
theorem c6_3 (ns : List Int) (a b : Int) (x : Option D) : exs EX ((f_law.body.drop 3).take 1) ((env2 ns 6).set 3 x) (C a b) = .ok (.next ((env2 ns 6).set 3 (some (.int 5)))) (C a b) := by kernel_rfl
theorem c6_4 (ns : List Int) (a b : Int) (x : Option D) : exs EX ((f_law.body.drop 4).take 1) ((env2 ns 6).set 3 x) (C a b) = .ok (.next ((env2 ns 6).set 3 (some (.int 5)))) (C a b) := by kernel_rfl
theorem c6_5 (ns : List Int) (a b : Int) (x : Option D) : exs EX ((f_law.body.drop 5).take 1) ((env2 ns 6).set 3 x) (C a b) = .ok (.next ((env2 ns 6).set 3 (some (.tup [.str (sx [48])])))) (C a b) := by kernel_rfl
theorem c6_6 (ns : List Int) (a b : Int) (x : Option D) : exs EX ((f_law.body.drop 6).take 1) ((env2 ns 6).set 3 x) (C a b) = .ok (.next ((env2 ns 6).set 3 (some (.str (sx [48]))))) (C a b) := by kernel_rfl
theorem c6_7 (ns : List Int) (a b : Int) (x : Option D) : exs EX ((f_law.body.drop 7).take 1) ((env2 ns 6).set 3 x) (C a b) = .ok (.next ((env2 ns 6).set 3 (some (.str (sx [49]))))) (C a b) := by kernel_rfl
theorem c6_8 (ns : List Int) (a b : Int) (x : Option D) : exs EX ((f_law.body.drop 8).take 1) ((env2 ns 6).set 3 x) (C a b) = .ok (.next ((env2 ns 6).set 3 (some (.tup [.int 0, .int 1])))) (C a b) := by kernel_rfl
theorem case6 (ns : List Int) (a b : Int) : exs EX ((f_law.body.drop 2).take 7) (env2 ns 6) (C a b) = .ok (.next (env3 ns 6)) (C a b) := by
  have sp : (f_law.body.drop 2).take 7 = (f_law.body.drop 2).take 1 ++ ((f_law.body.drop 3).take 1 ++ ((f_law.body.drop 4).take 1 ++ ((f_law.body.drop 5).take 1 ++ ((f_law.body.drop 6).take 1 ++ ((f_law.body.drop 7).take 1 ++ ((f_law.body.drop 8).take 1)))))) := by kernel_rfl
  have e0 : env2 ns 6 = (env2 ns 6).set 3 none := rfl
  rw [sp, e0, exs_app, c6_2 ns a b _, R.bind_ok, then_next, exs_app, c6_3 ns a b _, R.bind_ok, then_next, exs_app, c6_4 ns a b _, R.bind_ok, then_next, exs_app, c6_5 ns a b _, R.bind_ok, then_next, exs_app, c6_6 ns a b _, R.bind_ok, then_next, exs_app, c6_7 ns a b _, R.bind_ok, then_next, c6_8 ns a b _]
  rfl
end K79

set_option Elab.async false
set_option linter.all false
set_option maxRecDepth 100000
set_option maxHeartbeats 0
namespace K79
open Ev Lw
theorem c7_2 (ns : List Int) (a b : Int) (x : Option D) : exs EX ((f_law.body.drop 2).take 1) ((env2 ns 7).set 3 x) (C a b) = .ok (.next ((env2 ns 7).set 3 x)) (C a b) := by kernel_rfl
theorem c7_3 (ns : List Int) (a b : Int) (x : Option D) : exs EX ((f_law.body.drop 3).take 1) ((env2 ns 7).set 3 x) (C a b) = .ok (.next ((env2 ns 7).set 3 (some (.int 5)))) (C a b) := by kernel_rfl
theorem c7_4 (ns : List Int) (a b : Int) (x : Option D) : exs EX ((f_law.body.drop 4).take 1) ((env2 ns 7).set 3 x) (C a b) = .ok (.next ((env2 ns 7).set 3 (some (.int 5)))) (C a b) := by kernel_rfl
theorem c7_5 (ns : List Int) (a b : Int) (x : Option D) : exs EX ((f_law.body.drop 5).take 1) ((env2 ns 7).set 3 x) (C a b) = .ok (.next ((env2 ns 7).set 3 (some (.tup [.str (sx [48])])))) (C a b) := by kernel_rfl
theorem c7_6 (ns : List Int) (a b : Int) (x : Option D) : exs EX ((f_law.body.drop 6).take 1) ((env2 ns 7).set 3 x) (C a b) = .ok (.next ((env2 ns 7).set 3 (some (.str (sx [48]))))) (C a b) := by kernel_rfl
theorem c7_7 (ns : List Int) (a b : Int) (x : Option D) : exs EX ((f_law.body.drop 7).take 1) ((env2 ns 7).set 3 x) (C a b) = .ok (.next ((env2 ns 7).set 3 (some (.str (sx [49]))))) (C a b) := by kernel_rfl
theorem c7_8 (ns : List Int) (a b : Int) (x : Option D) : exs EX ((f_law.body.drop 8).take 1) ((env2 ns 7).set 3 x) (C a b) = .ok (.next ((env2 ns 7).set 3 (some (.tup [.int 0, .int 1])))) (C a b) := by kernel_rfl
theorem case7 (ns : List Int) (a b : Int) : exs EX ((f_law.body.drop 2).take 7) (env2 ns 7) (C a b) = .ok (.next (env3 ns 7)) (C a b) := by
  have sp : (f_law.body.drop 2).take 7 = (f_law.body.drop 2).take 1 ++ ((f_law.body.drop 3).take 1 ++ ((f_law.body.drop 4).take 1 ++ ((f_law.body.drop 5).take 1 ++ ((f_law.body.drop 6).take 1 ++ ((f_law.body.drop 7).take 1 ++ ((f_law.body.drop 8).take 1)))))) := by kernel_rfl
  have e0 : env2 ns 7 = (env2 ns 7).set 3 none := rfl
  rw [sp, e0, exs_app, c7_2 ns a b _, R.bind_ok, then_next, exs_app, c7_3 ns a b _, R.bind_ok, then_next, exs_app, c7_4 ns a b _, R.bind_ok, then_next, exs_app, c7_5 ns a b _, R.bind_ok, then_next, exs_app, c7_6 ns a b _, R.bind_ok, then_next, exs_app, c7_7 ns a b _, R.bind_ok, then_next, c7_8 ns a b _]
  rfl
end K79

set_option Elab.async false
set_option linter.all false
set_option maxRecDepth 100000
set_option maxHeartbeats 0
namespace K79
open Ev Lw
theorem c8_2 (ns : List Int) (a b : Int) (x : Option D) : exs EX ((f_law.body.drop 2).take 1) ((env2 ns 8).set 3 x) (C a b) = .ok (.next ((env2 ns 8).set 3 x)) (C a b) := by kernel_rfl
theorem c8_3 (ns : List Int) (a b : Int) (x : Option D) : exs EX ((f_law.body.drop 3).take 1) ((env2 ns 8).set 3 x) (C a b) = .ok (.next ((env2 ns 8).set 3 (some (.int 5)))) (C a b) := by kernel_rfl
theorem c8_4 (ns : List Int) (a b : Int) (x : Option D) : exs EX ((f_law.body.drop 4).take 1) ((env2 ns 8).set 3 x) (C a b) = .ok (.next ((env2 ns 8).set 3 (some (.int 5)))) (C a b) := by kernel_rfl
theorem c8_5 (ns : List Int) (a b : Int) (x : Option D) : exs EX ((f_law.body.drop 5).take 1) ((env2 ns 8).set 3 x) (C a b) = .ok (.next ((env2 ns 8).set 3 (some (.tup [.str (sx [48])])))) (C a b) := by kernel_rfl
theorem c8_6 (ns : List Int) (a b : Int) (x : Option D) : exs EX ((f_law.body.drop 6).take 1) ((env2 ns 8).set 3 x) (C a b) = .ok (.next ((env2 ns 8).set 3 (some (.str (sx [48]))))) (C a b) := by kernel_rfl
theorem c8_7 (ns : List Int) (a b : Int) (x : Option D) : exs EX ((f_law.body.drop 7).take 1) ((env2 ns 8).set 3 x) (C a b) = .ok (.next ((env2 ns 8).set 3 (some (.str (sx [49]))))) (C a b) := by kernel_rfl
theorem c8_8 (ns : List Int) (a b : Int) (x : Option D) : exs EX ((f_law.body.drop 8).take 1) ((env2 ns 8).set 3 x) (C a b) = .ok (.next ((env2 ns 8).set 3 (some (.tup [.int 0, .int 1])))) (C a b) := by kernel_rfl
theorem case8 (ns : List Int) (a b : Int) : exs EX ((f_law.body.drop 2).take 7) (env2 ns 8) (C a b) = .ok (.next (env3 ns 8)) (C a b) := by
  have sp : (f_law.body.drop 2).take 7 = (f_law.body.drop 2).take 1 ++ ((f_law.body.drop 3).take 1 ++ ((f_law.body.drop 4).take 1 ++ ((f_law.body.drop 5).take 1 ++ ((f_law.body.drop 6).take 1 ++ ((f_law.body.drop 7).take 1 ++ ((f_law.body.drop 8).take 1)))))) := by kernel_rfl
  have e0 : env2 ns 8 = (env2 ns 8).set 3 none := rfl
  rw [sp, e0, exs_app, c8_2 ns a b _, R.bind_ok, then_next, exs_app, c8_3 ns a b _, R.bind_ok, then_next, exs_app, c8_4 ns a b _, R.bind_ok, then_next, exs_app, c8_5 ns a b _, R.bind_ok, then_next, exs_app, c8_6 ns a b _, R.bind_ok, then_next, exs_app, c8_7 ns a b _, R.bind_ok, then_next, c8_8 ns a b _]
  rfl
end K79

set_option Elab.async false
set_option linter.all false
set_option maxRecDepth 100000
set_option maxHeartbeats 0
namespace K79
open Ev Lw

theorem tail_ok (ns : List Int) (a b : Int) (x2 x3 x4 : Option D) : exs EX (f_law.body.drop 9) [some (.scr ns), some (.ref 0), x2, x3, x4] (C a b) = .ok (.ret (.bl true)) (C a b) := by kernel_rfl
end K79

set_option Elab.async false
set_option linter.all false
set_option maxRecDepth 100000
set_option maxHeartbeats 0
namespace K79
open Ev Lw

theorem law_true (ns : List Int) (h : ns.length ≤ 63) : ∃ st, ph 30 n_law [.scr ns] [] = .ok (.bl true) st := by
  obtain ⟨a, b, e1⟩ := cup_ok (n := 28) ns h
  obtain ⟨r, a', b', hr, e2⟩ := roll_ok (n := 28) a b (k := 9) (by decide) (by decide)
  have e3 := step0 e1
  have e4 := step1 (ns := ns) e2
  have e5 : exs EX ((f_law.body.drop 2).take 7) (env2 ns r) (C a' b') = .ok (.next (env3 ns r)) (C a' b') := by
    match r, hr with
    | 0, _ => exact case0 ns a' b'
    | 1, _ => exact case1 ns a' b'
    | 2, _ => exact case2 ns a' b'
    | 3, _ => exact case3 ns a' b'
    | 4, _ => exact case4 ns a' b'
    | 5, _ => exact case5 ns a' b'
    | 6, _ => exact case6 ns a' b'
    | 7, _ => exact case7 ns a' b'
    | 8, _ => exact case8 ns a' b'
    | n + 9, h => omega
  refine ⟨[], ?_⟩
  rw [u_law]
  have e6 : runF (ph 29) cs f_law [.scr ns] [] = endF 0 (exs EX f_law.body (env0 ns) []) := by kernel_rfl
  have sp : f_law.body = f_law.body.take 1 ++ ((f_law.body.drop 1).take 1 ++ ((f_law.body.drop 2).take 7 ++ f_law.body.drop 9)) := by kernel_rfl
  rw [e6, sp, exs_app, e3, R.bind_ok, then_next, exs_app, e4, R.bind_ok, then_next, exs_app, e5, R.bind_ok, then_next]
  have e7 : exs EX (f_law.body.drop 9) (env3 ns r) (C a' b') = .ok (.ret (.bl true)) (C a' b') := tail_ok ns a' b' _ _ _
  rw [e7]
  rfl
end K79

set_option Elab.async false
set_option linter.all false
set_option maxRecDepth 100000
set_option maxHeartbeats 0
namespace K79
open Ev
abbrev rw' : PySem.W.OpenLaw := PySem.Challenge.rw_setbyothers_k79_whole_errors_of_splits
abbrev R : PySem.W.OpenRow := PySem.W.OpenLaw.row rw'
abbrev fa : List He.Fa := faOf txt owns nums
abbrev fn : List He.DefD := (txt.l ++ txt.ws).map dOf
abbrev hk : PySem.W.Hook := He.hookX 4 fa fn [] (tfOf txt) (exB txt)
def ob (s : PySem.W.SharedT) : He.AlX := He.obsX 4 fa fn [] (tfOf txt) (exB txt) (HandSHeadRun.getT s)
theorem ob_eq (s : PySem.W.SharedT) : ob s = hk.obs s.abs := He.obsX_eq (HandSHeadRun.getT_eq s)
theorem run (w : PySem.World) : HandSHeadRun.RunEq R (PySem.W.view R.prog [60]) hk ob 3000 loose w := by
  intro os
  kernel_rfl
end K79

set_option Elab.async false
set_option linter.all false
set_option maxRecDepth 100000
set_option maxHeartbeats 0
open PySem PySem.W PySem.Calls PyProof.Rows
theorem PySem.Challenge.cw_setbyothers_k79_whole_errors_of_splits_holds : PySem.Challenge.rw_setbyothers_k79_whole_errors_of_splits.Holds := by
  w_on; o_law
  refine HandSHeadRun.head_any (r := OpenLaw.row PySem.Challenge.rw_setbyothers_k79_whole_errors_of_splits) (q := view (OpenLaw.row PySem.Challenge.rw_setbyothers_k79_whole_errors_of_splits).prog [60]) (H := K79.hk) (ob := K79.ob) (M := 3000) (loose := K79.loose) (d := HandSHeadRun.topDef (OpenLaw.row PySem.Challenge.rw_setbyothers_k79_whole_errors_of_splits).prog 60) (kwd := []) K79.ob_eq
    (by kernel_rfl) (fun s => by kernel_rfl) K79.run (by kernel_rfl) (by kernel_rfl) (by kernel_rfl) (by rfl) (by first | assumption | decide +kernel) (by decide +kernel) ⟨rfl, rfl, rfl, rfl, rfl, by decide +kernel⟩ ?hw ?hc
  case hw => w_witness2
  case hc =>
    refine LamX.walk_ofTsE (l := PySem.Challenge.rw_setbyothers_k79_whole_errors_of_splits) (n := 63) (k := 90) (x := "script") (CX := fun _ => L2.CX0) rfl (by decide) (by kernel_rfl) ⟨by decide, by decide, by decide⟩ ?F (fun _ _ _ _ _ z => z)
    intro w mg fa h Y G hmg0
    obtain ⟨K, KX, c⟩ := Y
    have hmg : mg ("law" : PySem.Str) = some (.ref fa) := by
      have e : (HandSHeadRun.topDef (OpenLaw.row PySem.Challenge.rw_setbyothers_k79_whole_errors_of_splits).prog 60).name = ("law" : PySem.Str) := by kernel_rfl
      rw [← e]
      exact hmg0
    exact ⟨K, KX, Ev.law_F2 (n := 30) (q := ⟨"law", K79.top 60, K79.f_law⟩) K79.asked KX G c (List.mem_of_getLast? rfl) rfl (by kernel_rfl) rfl hmg K79.law_true⟩
