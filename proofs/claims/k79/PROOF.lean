import PyProof.Rows.All
import Wide.All
import OpenK.AllK
import Wide.FinOn
import HandS.ForMost
import HandS.Exc
import HandS.IsInst
import HandS.TupAny
import HandS.Style
import HandS.Flow
import HandS.Deep
import HandS.Small
import HandS.TryMany
import HandS.WordsExc
import HandS.Conv
import HandS.Zip
import HandS.Rev
import HandS.RevRange
import HandS.Comp
import KE.DataCmp
import KE.SortData
import PySem.Challenge.RW_sawwhen_k79_whole_parting_cases
set_option Elab.async false
set_option linter.all false
set_option maxRecDepth 100000
section
/-! The domain of the evaluator: data, stores, and what expressions and statements compute. -/
namespace Ev
open PySem

/-- data: immutable values, and places of the store -/
inductive D where
  | non | bl (b : Bool) | int (i : Int) | str (x : Str)
  | tup (ds : List D) | ilst (ds : List D) | loc (i : Nat)
  deriving Inhabited

mutual
def D.beq : D → D → Bool
  | .non, .non => true
  | .bl a, .bl b => a == b
  | .int a, .int b => decide (a = b)
  | .str a, .str b => decide (a = b)
  | .tup a, .tup b => D.beqs a b
  | .ilst a, .ilst b => D.beqs a b
  | .loc a, .loc b => decide (a = b)
  | _, _ => false
def D.beqs : List D → List D → Bool
  | [], [] => true
  | a :: as, b :: bs => D.beq a b && D.beqs as bs
  | _, _ => false
end
mutual
theorem D.beq_self : ∀ d : D, D.beq d d = true
  | .non => by simp [D.beq]
  | .bl _ => by simp [D.beq]
  | .int _ => by simp [D.beq]
  | .str _ => by simp [D.beq]
  | .loc _ => by simp [D.beq]
  | .tup a => by rw [D.beq]; exact D.beqs_self a
  | .ilst a => by rw [D.beq]; exact D.beqs_self a
theorem D.beqs_self : ∀ ds : List D, D.beqs ds ds = true
  | [] => by simp [D.beqs]
  | a :: as => by rw [D.beqs, D.beq_self a, D.beqs_self as]; rfl
end
mutual
theorem D.eq_of_beq : ∀ a b : D, D.beq a b = true → a = b
  | .non, b, h => by cases b <;> simp_all [D.beq]
  | .bl _, b, h => by cases b <;> simp_all [D.beq]
  | .int _, b, h => by cases b <;> simp_all [D.beq]
  | .str _, b, h => by cases b <;> simp_all [D.beq]
  | .loc _, b, h => by cases b <;> simp_all [D.beq]
  | .tup x, b, h => by
    cases b with
    | tup y => rw [D.beq] at h; rw [D.eqs_of_beqs x y h]
    | _ => simp [D.beq] at h
  | .ilst x, b, h => by
    cases b with
    | ilst y => rw [D.beq] at h; rw [D.eqs_of_beqs x y h]
    | _ => simp [D.beq] at h
theorem D.eqs_of_beqs : ∀ a b : List D, D.beqs a b = true → a = b
  | [], b, h => by cases b <;> simp_all [D.beqs]
  | x :: xs, b, h => by
    cases b with
    | nil => simp [D.beqs] at h
    | cons y ys =>
      rw [D.beqs, Bool.and_eq_true] at h
      rw [D.eq_of_beq x y h.1, D.eqs_of_beqs xs ys h.2]
end
instance : DecidableEq D := fun a b =>
  if h : D.beq a b = true then isTrue (D.eq_of_beq a b h) else isFalse fun e => h (by rw [e]; exact D.beq_self b)

mutual
/-- all places lie blw n -/
def D.blw (n : Nat) : D → Bool
  | .tup ds => D.blws n ds
  | .ilst ds => D.blws n ds
  | .loc i => decide (i < n)
  | .non => true
  | .bl _ => true
  | .int _ => true
  | .str _ => true
def D.blws (n : Nat) : List D → Bool
  | [] => true
  | d :: ds => D.blw n d && D.blws n ds
end

inductive Cell where
  | lst (ds : List D)
  | dct (kvs : List (D × D))
  | set (ds : List D)
  deriving DecidableEq, Inhabited
def Cell.blw (n : Nat) : Cell → Bool
  | .lst ds => D.blws n ds
  | .dct kvs => D.blws n (kvs.map (·.1)) && D.blws n (kvs.map (·.2))
  | .set ds => D.blws n ds
abbrev Store := List Cell
abbrev Env := List (Option D)
abbrev SZ : Nat := 16777216

/-- an exception: its class's name, its fields -/
structure Xn where
  cls : Str
  fs : List (Str × D)
inductive R (α : Type) where
  | ok (a : α) (S : Store)
  | exn (x : Xn) (S : Store)
  | bad
def R.bind {α β : Type} : R α → (α → Store → R β) → R β
  | .ok a S, f => f a S
  | .exn x S, _ => .exn x S
  | .bad, _ => .bad
@[simp] theorem R.bind_ok {α β : Type} (a : α) (S : Store) (f : α → Store → R β) : (R.ok a S).bind f = f a S := rfl
@[simp] theorem R.bind_exn {α β : Type} (x : Xn) (S : Store) (f : α → Store → R β) : (R.exn x S : R α).bind f = .exn x S := rfl
@[simp] theorem R.bind_bad {α β : Type} (f : α → Store → R β) : (R.bad : R α).bind f = .bad := rfl
def R.ofO {α : Type} (S : Store) : Option α → R α
  | some a => .ok a S
  | none => .bad
@[simp] theorem R.ofO_some {α : Type} (S : Store) (a : α) : R.ofO S (some a) = .ok a S := rfl
@[simp] theorem R.ofO_none {α : Type} (S : Store) : R.ofO S (none : Option α) = .bad := rfl

/-! ### what is thrown away -/
/-- what stood in the store stands as it did, or tells of no new place -/
def stable (n : Nat) : Store → Store → Bool
  | [], _ => true
  | _ :: _, [] => false
  | c :: S, c1 :: S1 => (decide (c1 = c) || c1.blw n) && stable n S S1
/-- behind a computation that began at S: its own cells are let go where nothing tells of them -/
def gcAfter (S : Store) (d : D) (S1 : Store) : R D :=
  if stable S.length S S1 then
    if d.blw S.length then .ok d (S1.take S.length)
    else match d with
      | .loc i => match S1[i]? with
        | some c => if S.length ≤ i ∧ c.blw S.length = true then .ok (.loc S.length) (S1.take S.length ++ [c]) else .ok d S1
        | none => .ok d S1
      | _ => .ok d S1
  else .ok d S1
theorem stable_app (n : Nat) : ∀ S T : Store, stable n S (S ++ T) = true
  | [], T => rfl
  | c :: S, T => by
    show ((decide (c = c) || c.blw n) && stable n S (S ++ T)) = true
    rw [stable_app n S T]; simp
@[simp] theorem gcAfter_app {S T : Store} {d : D} (h : d.blw S.length = true) : gcAfter S d (S ++ T) = .ok d S := by
  unfold gcAfter
  rw [if_pos (stable_app _ S T), if_pos h, List.take_left' rfl]
@[simp] theorem gcAfter_self {S : Store} {d : D} (h : d.blw S.length = true) : gcAfter S d S = .ok d S := by
  have := gcAfter_app (S := S) (T := []) h
  rwa [List.append_nil] at this

/-! ### sequences, as data -/
def seqOf (S : Store) : D → Option (List D)
  | .tup ds => some ds
  | .ilst ds => some ds
  | .loc i => match S[i]? with
    | some (.lst ds) => some ds
    | _ => none
  | _ => none
/-- the same as the library's data; places are read by f -/
def optAll {α β : Type} (f : α → Option β) : List α → Option (List β)
  | [] => some []
  | a :: as => match f a with
    | some b => match optAll f as with
      | some bs => some (b :: bs)
      | none => none
    | none => none
mutual
def toP (f : Nat → Option PyData) : D → Option PyData
  | .non => some .none
  | .bl b => some (.bool b)
  | .int i => some (.int i)
  | .str x => some (.str x)
  | .tup ds => match toPs f ds with
    | some ps => some (.tuple ps)
    | none => none
  | .ilst ds => match toPs f ds with
    | some ps => some (.list ps)
    | none => none
  | .loc i => f i
def toPs (f : Nat → Option PyData) : List D → Option (List PyData)
  | [] => some []
  | d :: ds => match toP f d with
    | some p => match toPs f ds with
      | some ps => some (p :: ps)
      | none => none
    | none => none
end
/-- lists are read n deep -/
def rdP (S : Store) : Nat → Nat → Option PyData
  | 0, _ => none
  | n + 1, i => match S[i]? with
    | some (.lst ds) => match toPs (rdP S n) ds with
      | some ps => some (.list ps)
      | none => none
    | _ => none
abbrev asP (S : Store) (d : D) : Option PyData := toP (rdP S 3) d

/-! ### operators -/
def alloc (S : Store) (c : Cell) : R D := .ok (.loc S.length) (S ++ [c])
def mulOk (i j : Int) : Bool := decide (i.natAbs < 2 ^ 64) || decide (j.natAbs < 2 ^ 64)
def binD (op : Operator) (a b : D) (S : Store) : R D :=
  match op, a, b with
  | .Add, .int i, .int j => .ok (.int (i + j)) S
  | .Sub, .int i, .int j => .ok (.int (i - j)) S
  | .Mult, .int i, .int j => if mulOk i j then .ok (.int (i * j)) S else .bad
  | .FloorDiv, .int i, .int j => if 0 < j ∧ j < 1073741824 then .ok (.int (i / j)) S else .bad
  | .Mod, .int i, .int j => if 0 < j then .ok (.int (i % j)) S else .bad
  | .Pow, .int i, .int j => if 0 ≤ j ∧ j ≤ 1000000 ∧ i.natAbs < 2 ^ 64 then .ok (.int (i ^ j.toNat)) S else .bad
  | .Add, .str x, .str y => if x.length + y.length ≤ SZ then .ok (.str (x ++ y)) S else .bad
  | .Add, .tup xs, .tup ys => if xs.length + ys.length ≤ SZ then .ok (.tup (xs ++ ys)) S else .bad
  | .Add, .loc i, .loc j => match S[i]?, S[j]? with
    | some (.lst xs), some (.lst ys) => if xs.length + ys.length ≤ SZ then alloc S (.lst (xs ++ ys)) else .bad
    | _, _ => .bad
  | .Mult, .loc i, .int k => match S[i]? with
    | some (.lst xs) => if -(2 ^ 63) ≤ k ∧ k < 2 ^ 63 ∧ xs.length * k.toNat ≤ SZ then alloc S (.lst (List.replicate k.toNat xs).flatten) else .bad
    | _ => .bad
  | _, _, _ => .bad
def unD (op : UnaryOp) (a : D) (S : Store) : R D :=
  match op, a with
  | .USub, .int i => .ok (.int (-i)) S
  | _, _ => .bad
/-- a == b -/
def eqD (a b : D) (S : Store) : Option Bool :=
  match a, b with
  | .int i, .int j => some (decide (i = j))
  | .str x, .str y => some (decide (x = y))
  | a, b => match asP S a, asP S b with
    | some p, some q => if SeqAt.shaped p && SeqAt.shaped q then some (PyData.eqv p q) else none
    | _, _ => none
def notNone : PyData → Bool
  | .none => false
  | _ => true
/-- a < b -/
def ltD (a b : D) (S : Store) : Option Bool :=
  match a, b with
  | .int i, .int j => some (decide (i < j))
  | a, b => match asP S a, asP S b with
    | some p, some q => if W.alike p q && SeqAt.shaped p && SeqAt.shaped q && notNone p then some (W.dataLt p q) else none
    | _, _ => none
/-- a in b: b a list or a tuple -/
def inD (a b : D) (S : Store) : Option Bool :=
  match seqOf S b with
  | some ds => match asP S a, toPs (rdP S 3) ds with
    | some p, some qs => if SeqAt.shaped p && SeqAt.shaped (.list qs) then some (qs.any fun q => PyData.eqv q p) else none
    | _, _ => none
  | none => none
def isD (a b : D) : Option Bool :=
  match b with
  | .non => some (match a with | .non => true | _ => false)
  | .bl k => match a with
    | .bl j => some (decide (j = k))
    | _ => none
  | _ => none
def cmpD (op : CmpOp) (a b : D) (S : Store) : R Bool :=
  match op with
  | .Eq => .ofO S (eqD a b S)
  | .NotEq => .ofO S ((eqD a b S).map not)
  | .Lt => .ofO S (ltD a b S)
  | .Gt => .ofO S (ltD b a S)
  | .LtE => .ofO S ((ltD b a S).map not)
  | .GtE => .ofO S ((ltD a b S).map not)
  | .Is => .ofO S (isD a b)
  | .IsNot => .ofO S ((isD a b).map not)
  | .In => .ofO S (inD a b S)
  | .NotIn => .ofO S ((inD a b S).map not)
def truD (a : D) (S : Store) : Option Bool :=
  match a with
  | .non => some false
  | .bl b => some b
  | .int i => some (i != 0)
  | .tup ds => some (!ds.isEmpty)
  | .ilst ds => some (!ds.isEmpty)
  | .loc i => match S[i]? with
    | some (.lst ds) => some (!ds.isEmpty)
    | _ => none
  | .str x => if x.length ≤ SZ then some ((x.length : Int) != 0) else none
def ixL {α : Type} (xs : List α) (i : Int) : Option α := L2.atI xs i
def ixD (a b : D) (S : Store) : R D :=
  match b with
  | .int i => match seqOf S a with
    | some ds => .ofO S (ixL ds i)
    | none => .bad
  | _ => .bad
def cutD (xs : List D) (lo hi : Option Int) : List D :=
  (xs.drop (HT.sIx xs.length 0 lo)).take (HT.sIx xs.length xs.length hi - HT.sIx xs.length 0 lo)
def slD (a : D) (lo hi : Option Int) (S : Store) : R D :=
  match a with
  | .tup ds => .ok (.tup (cutD ds lo hi)) S
  | .ilst ds => alloc S (.lst (cutD ds lo hi))
  | .loc i => match S[i]? with
    | some (.lst ds) => alloc S (.lst (cutD ds lo hi))
    | _ => .bad
  | _ => .bad

end Ev
end

section
/-! The evaluator: terms with resolved names, and what they compute. -/
namespace Ev
open PySem

inductive Ty | int | bool | str | tuple | list | dict
  deriving DecidableEq
inductive Blt | len | int | bool | all | any | tuple | list | sorted | max2 | min2 | sum | abs
  deriving DecidableEq
inductive Mt | append | pop | popAt | extend | reverse
  deriving DecidableEq
/-- further forms of the text -/
inductive Sx | rev | lrng1 | lrng2 | trng1 | trng2
  deriving DecidableEq
inductive Tg where
  | name (i : Nat)
  | tup (gs : List Tg)
mutual
inductive Tm where
  | var (i : Nat) | con (d : D)
  | bin (op : Operator) (a b : Tm) | un (op : UnaryOp) (a : Tm)
  | cmp (op : CmpOp) (a b : Tm) | chain (o1 o2 : CmpOp) (a b c : Tm)
  | and (a b : Tm) | or (a b : Tm) | not (a : Tm) | ife (c a b : Tm)
  | tup (ts : List Tm) | lst (ts : List Tm)
  | ix (a b : Tm) | sl (a : Tm) (lo hi : Option Tm)
  | isi (a : Tm) (t : Ty)
  | call (f : Nat) (ts : List Tm)
  | blt (b : Blt) (ts : List Tm)
  | mt (m : Mt) (o : Tm) (ts : List Tm)
  | lc (g : Tg) (it : It) (cs : List Tm) (e : Tm) (own : List Nat)
  | lc2 (g : Tg) (it : It) (cs : List Tm) (g2 : Tg) (it2 : It) (cs2 : List Tm) (e : Tm) (own : List Nat)
  | gc (t : Tm)
  | sp (s : Sx) (ts : List Tm)
inductive It where
  | val (t : Tm) | rng1 (t : Tm) | rng2 (a b : Tm) | enum (t : Tm) | zip (a b : Tm) | rev (t : Tm)
end

/-! ### targets -/
mutual
def asg : Tg → D → Env → Option Env
  | .name i, d, σ => some (σ.set i (some d))
  | .tup gs, d, σ => match d with
    | .tup ds => asgs gs ds σ
    | _ => none
def asgs : List Tg → List D → Env → Option Env
  | [], [], σ => some σ
  | g :: gs, d :: ds, σ => match asg g d σ with
    | some σ1 => asgs gs ds σ1
    | none => none
  | _, _, _ => none
end
def wipeD (σ : Env) : List Nat → Env
  | [] => σ
  | v :: vs => (wipeD σ vs).set v none

/-! ### built-ins -/
def isiD (t : Ty) (d : D) (S : Store) : Option Bool :=
  match d with
  | .non => some false
  | .bl _ => some (t == .bool || t == .int)
  | .int _ => some (t == .int)
  | .str _ => some (t == .str)
  | .tup _ => some (t == .tuple)
  | .ilst _ => some (t == .list)
  | .loc i => match S[i]? with
    | some (.lst _) => some (t == .list)
    | some (.dct _) => some (t == .dict)
    | _ => none
def bools : List D → Option (List Bool)
  | [] => some []
  | .bl b :: ds => match bools ds with
    | some bs => some (b :: bs)
    | none => none
  | _ :: _ => none
def intsOf : List D → Option (List Int)
  | [] => some []
  | .int i :: ds => match intsOf ds with
    | some is => some (i :: is)
    | none => none
  | _ :: _ => none
/-- the items with their data, sorted -/
def insP (x : D × PyData) : List (D × PyData) → List (D × PyData)
  | [] => [x]
  | y :: ys => if W.dataLt y.2 x.2 then y :: insP x ys else x :: y :: ys
def sortP : List (D × PyData) → List (D × PyData)
  | [] => []
  | x :: xs => insP x (sortP xs)
def alikes (ps : List PyData) : Bool := ps.all fun p => ps.all fun q => W.alike p q
def isTup : PyData → Bool
  | .tuple (_ :: _) => true
  | _ => false
def isPlain : PyData → Bool
  | .tuple _ => false
  | .none => false
  | _ => true
def sortD (ds : List D) (S : Store) : Option (List D) :=
  match toPs (rdP S 3) ds with
  | some ps => if alikes ps && (ps.all isTup || ps.all isPlain) && ps.all SeqAt.shaped && decide (ds.length ≤ SZ) then some ((sortP (ds.zip ps)).map (·.1)) else none
  | none => none
/-- the items of a list -/
def lstOf (S : Store) : D → Option (List D)
  | .ilst ds => some ds
  | .loc i => match S[i]? with
    | some (.lst ds) => some ds
    | _ => none
  | _ => none
def bltD (b : Blt) (ds : List D) (S : Store) : R D :=
  match b, ds with
  | .len, [d] => match d with
    | .str x => if x.length ≤ SZ then .ok (.int x.length) S else .bad
    | d => match seqOf S d with
      | some ds => .ok (.int ds.length) S
      | none => .bad
  | .int, [.int i] => .ok (.int i) S
  | .int, [.bl k] => .ok (.int (if k then 1 else 0)) S
  | .bool, [d] => match d with
    | .int i => .ok (.bl (i != 0)) S
    | .bl b => .ok (.bl b) S
    | d => match lstOf S d with
      | some ds => .ok (.bl (!ds.isEmpty)) S
      | none => .bad
  | .all, [d] => match lstOf S d with
    | some ds => .ofO S ((bools ds).map fun bs => .bl (bs.all id))
    | none => .bad
  | .any, [d] => match lstOf S d with
    | some ds => .ofO S ((bools ds).map fun bs => .bl (bs.any id))
    | none => .bad
  | .tuple, [d] => match seqOf S d with
    | some ds => .ok (.tup ds) S
    | none => .bad
  | .list, [d] => match seqOf S d with
    | some ds => alloc S (.lst ds)
    | none => .bad
  | .sorted, [d] => match seqOf S d with
    | some ds => match sortD ds S with
      | some es => alloc S (.lst es)
      | none => .bad
    | none => .bad
  | .max2, [.int i, .int j] => .ok (.int (if j > i then j else i)) S
  | .min2, [.int i, .int j] => .ok (.int (if j < i then j else i)) S
  | .sum, [d] => match lstOf S d with
    | some ds => .ofO S ((intsOf ds).map fun is => .int is.sum)
    | none => .bad
  | .abs, [.int i] => .ok (.int (if i < 0 then -i else i)) S
  | _, _ => .bad
def mtD (m : Mt) (o : D) (ds : List D) (S : Store) : R D :=
  match o with
  | .loc i => match S[i]? with
    | some (.lst xs) => match m, ds with
      | .append, [d] => if xs.length < SZ then .ok .non (S.set i (.lst (xs ++ [d]))) else .bad
      | .pop, [] => match xs[xs.length - 1]? with
        | some y => .ok y (S.set i (.lst xs.dropLast))
        | none => .bad
      | .popAt, [.int k] => if -(2 ^ 63) ≤ k ∧ k < 2 ^ 63 then
          match L2.ixN xs.length k with
          | some j => match xs[j]? with
            | some y => .ok y (S.set i (.lst (xs.eraseIdx j)))
            | none => .bad
          | none => .bad
        else .bad
      | .extend, [.loc j] => match S[j]? with
        | some (.lst ys) => if xs.length + ys.length ≤ SZ then .ok .non (S.set i (.lst (xs ++ ys))) else .bad
        | _ => .bad
      | .reverse, [] => .ok .non (S.set i (.lst xs.reverse))
      | _, _ => .bad
    | _ => .bad
  | _ => .bad

def rngL (lo : Int) (n : Nat) : List D := (List.range n).map fun (k : Nat) => D.int (lo + (k : Int))
def rngOk (i : Int) : Bool := decide (-(2 ^ 62) ≤ i) && decide (i < 2 ^ 62)
def rngB (i j : Int) : Bool := rngOk i && rngOk j && decide ((j - i).toNat ≤ SZ)
def spcD (s : Sx) (ds : List D) (S : Store) : R D :=
  match s, ds with
  | .rev, [d] => match lstOf S d with
    | some es => alloc S (.lst es.reverse)
    | none => .bad
  | .lrng1, [.int j] => if rngB 0 j then alloc S (.lst (rngL 0 (j - 0).toNat)) else .bad
  | .trng1, [.int j] => if rngB 0 j then .ok (.tup (rngL 0 (j - 0).toNat)) S else .bad
  | .lrng2, [.int i, .int j] => if rngB i j then alloc S (.lst (rngL i (j - i).toNat)) else .bad
  | .trng2, [.int i, .int j] => if rngB i j then .ok (.tup (rngL i (j - i).toNat)) S else .bad
  | _, _ => .bad

/-! ### what is walked -/
/-- the items, and the lists that must stay meanwhile -/
structure Src where
  items : List D
  keep : List (Nat × List D)
def Src.chk (r : Src) (S : Store) : Bool := r.keep.all fun p => decide (S[p.1]? = some (.lst p.2))
def keepOf : D → List D → List (Nat × List D)
  | .loc i, ds => [(i, ds)]
  | _, _ => []

/-- a comprehension's turns: what it makes of the items left -/
def lcD (chk : Store → Bool) (g : Tg) (t : Env → Store → R Bool) (e : Env → Store → R D) (σ : Env) : List D → Store → R (List D)
  | [], S => if chk S then .ok [] S else .bad
  | d :: ds, S => if chk S then match asg g d σ with
      | none => .bad
      | some σ1 => match t σ1 S with
        | .ok true S1 => match e σ1 S1 with
          | .ok x S2 => match lcD chk g t e σ ds S2 with
            | .ok xs S3 => .ok (x :: xs) S3
            | _ => .bad
          | _ => .bad
        | .ok false S1 => lcD chk g t e σ ds S1
        | _ => .bad
    else .bad

abbrev CallT := Nat → List D → Store → R D
def R.tru : R D → R Bool := fun r => r.bind fun d S => .ofO S (truD d S)

mutual
def evE (C : CallT) : Tm → Env → Store → R D
  | .var i, σ, S => match σ[i]? with
    | some (some d) => .ok d S
    | _ => .bad
  | .con d, _, S => if d.blw 0 then .ok d S else .bad
  | .bin op a b, σ, S => (evE C a σ S).bind fun x S1 => (evE C b σ S1).bind fun y S2 => binD op x y S2
  | .un op a, σ, S => (evE C a σ S).bind fun x S1 => unD op x S1
  | .cmp op a b, σ, S => (evE C a σ S).bind fun x S1 => (evE C b σ S1).bind fun y S2 => (cmpD op x y S2).bind fun k S3 => .ok (.bl k) S3
  | .chain o1 o2 a b c, σ, S => (evE C a σ S).bind fun x S1 => (evE C b σ S1).bind fun y S2 => (cmpD o1 x y S2).bind fun k S3 =>
      if k then (evE C c σ S3).bind fun z S4 => (cmpD o2 y z S4).bind fun k S5 => .ok (.bl k) S5 else .ok (.bl false) S3
  | .and a b, σ, S => (evE C a σ S).bind fun x S1 => match truD x S1 with
    | some true => evE C b σ S1
    | some false => .ok x S1
    | none => .bad
  | .or a b, σ, S => (evE C a σ S).bind fun x S1 => match truD x S1 with
    | some true => .ok x S1
    | some false => evE C b σ S1
    | none => .bad
  | .not a, σ, S => (evE C a σ S).tru.bind fun k S1 => .ok (.bl (!k)) S1
  | .ife c a b, σ, S => (evE C c σ S).tru.bind fun k S1 => if k then evE C a σ S1 else evE C b σ S1
  | .tup ts, σ, S => (evEs C ts σ S).bind fun ds S1 => if ds.length ≤ SZ then .ok (.tup ds) S1 else .bad
  | .lst ts, σ, S => (evEs C ts σ S).bind fun ds S1 => if ds.length ≤ SZ then alloc S1 (.lst ds) else .bad
  | .ix a b, σ, S => (evE C a σ S).bind fun x S1 => (evE C b σ S1).bind fun y S2 => ixD x y S2
  | .sl a lo hi, σ, S => (evE C a σ S).bind fun x S1 => (evO C lo σ S1).bind fun l S2 => (evO C hi σ S2).bind fun h S3 => slD x l h S3
  | .isi a t, σ, S => (evE C a σ S).bind fun x S1 => .ofO S1 ((isiD t x S1).map .bl)
  | .call f ts, σ, S => (evEs C ts σ S).bind fun ds S1 => C f ds S1
  | .blt b ts, σ, S => (evEs C ts σ S).bind fun ds S1 => bltD b ds S1
  | .mt m o ts, σ, S => (evE C o σ S).bind fun x S1 => if (lstOf S1 x).isSome then (evEs C ts σ S1).bind fun ds S2 => mtD m x ds S2 else .bad
  | .lc g it cs e own, σ, S => (evI C it σ S).bind fun r S1 =>
      (lcD r.chk g (evT C cs) (evE C e) (wipeD σ own) r.items S1).bind fun xs S2 => if xs.length < SZ then alloc S2 (.lst xs) else .bad
  | .lc2 _ _ _ _ _ _ _ _, _, _ => .bad
  | .gc t, σ, S => (evE C t σ S).bind fun d S1 => gcAfter S d S1
  | .sp s ts, σ, S => (evEs C ts σ S).bind fun ds S1 => spcD s ds S1
def evEs (C : CallT) : List Tm → Env → Store → R (List D)
  | [], _, S => .ok [] S
  | t :: ts, σ, S => (evE C t σ S).bind fun d S1 => (evEs C ts σ S1).bind fun ds S2 => .ok (d :: ds) S2
/-- several tests, one after the other -/
def evT (C : CallT) : List Tm → Env → Store → R Bool
  | [], _, S => .ok true S
  | t :: ts, σ, S => (evE C t σ S).tru.bind fun k S1 => if k then evT C ts σ S1 else .ok false S1
def evO (C : CallT) : Option Tm → Env → Store → R (Option Int)
  | none, _, S => .ok none S
  | some t, σ, S => (evE C t σ S).bind fun d S1 => match d with
    | .int i => .ok (some i) S1
    | _ => .bad
def evI (C : CallT) : It → Env → Store → R Src
  | .val t, σ, S => (evE C t σ S).bind fun d S1 => match seqOf S1 d with
    | some ds => .ok ⟨ds, keepOf d ds⟩ S1
    | none => .bad
  | .rng1 t, σ, S => (evE C t σ S).bind fun d S1 => match d with
    | .int j => if rngOk j then .ok ⟨rngL 0 j.toNat, []⟩ S1 else .bad
    | _ => .bad
  | .rng2 a b, σ, S => (evE C a σ S).bind fun x S1 => (evE C b σ S1).bind fun y S2 => match x, y with
    | .int i, .int j => if rngOk i && rngOk j then .ok ⟨rngL i (j - i).toNat, []⟩ S2 else .bad
    | _, _ => .bad
  | .enum _, _, _ => .bad
  | .zip _ _, _, _ => .bad
  | .rev _, _, _ => .bad
end

/-! ### statements -/
inductive Sm where
  | expr (t : Tm) | set (i : Nat) (t : Tm) | asg (g : Tg) (t : Tm) | aug (i : Nat) (op : Operator) (t : Tm)
  | setIx (o i v : Tm)
  | ret (t : Tm) | retN
  | ite (c : Tm) (a b : List Sm)
  | for_ (g : Tg) (it : It) (b : List Sm)
  | while_ (c : Tm) (b : List Sm)
  | brk | cont | pass | never
inductive Out where
  | nx (σ : Env) | brk (σ : Env) | cont (σ : Env) | ret (d : D) | exn (x : Xn) (σ : Env)
abbrev RS := Option (Out × Store)
def R.thenS {α : Type} (σ : Env) : R α → (α → Store → RS) → RS
  | .ok a S, f => f a S
  | .exn x S, _ => some (.exn x σ, S)
  | .bad, _ => none
@[simp] theorem R.thenS_ok {α : Type} (σ : Env) (a : α) (S : Store) (f : α → Store → RS) : (R.ok a S).thenS σ f = f a S := rfl
@[simp] theorem R.thenS_bad {α : Type} (σ : Env) (f : α → Store → RS) : (R.bad : R α).thenS σ f = none := rfl
@[simp] theorem R.thenS_exn {α : Type} (σ : Env) (x : Xn) (S : Store) (f : α → Store → RS) : (R.exn x S : R α).thenS σ f = some (.exn x σ, S) := rfl
def forD (chk : Store → Bool) (g : Tg) (b : Env → Store → RS) : List D → Env → Store → RS
  | [], σ, S => if chk S then some (.nx σ, S) else none
  | d :: ds, σ, S => if chk S then match asg g d σ with
      | none => none
      | some σ1 => match b σ1 S with
        | some (.nx σ2, S2) => forD chk g b ds σ2 S2
        | some (.cont σ2, S2) => forD chk g b ds σ2 S2
        | some (.brk σ2, S2) => some (.nx σ2, S2)
        | r => r
    else none
def whileD (c : Env → Store → R Bool) (b : Env → Store → RS) : Nat → Env → Store → RS
  | 0, _, _ => none
  | n + 1, σ, S => (c σ S).thenS σ fun k S1 => if k then match b σ S1 with
        | some (.nx σ2, S2) => whileD c b n σ2 S2
        | some (.cont σ2, S2) => whileD c b n σ2 S2
        | some (.brk σ2, S2) => some (.nx σ2, S2)
        | r => r
      else some (.nx σ, S1)
def augD (op : Operator) (a b : D) (S : Store) : R D :=
  match op, a, b with
  | .Add, .int i, .int j => .ok (.int (i + j)) S
  | .Sub, .int i, .int j => .ok (.int (i - j)) S
  | _, _, _ => .bad
def setIxD (o i v : D) (S : Store) : Option Store :=
  match o, i with
  | .loc p, .int k => match S[p]? with
    | some (.lst xs) => match L2.ixN xs.length k with
      | some j => some (S.set p (.lst (xs.set j v)))
      | none => none
    | _ => none
  | _, _ => none
mutual
def evS (C : CallT) (W : Nat) : Sm → Env → Store → RS
  | .expr t, σ, S => (evE C t σ S).thenS σ fun _ S1 => some (.nx σ, S1)
  | .set i t, σ, S => (evE C t σ S).thenS σ fun d S1 => some (.nx (σ.set i (some d)), S1)
  | .asg g t, σ, S => (evE C t σ S).thenS σ fun d S1 => match asg g d σ with
    | some σ1 => some (.nx σ1, S1)
    | none => none
  | .aug i op t, σ, S => match σ[i]? with
    | some (some x) => (evE C t σ S).thenS σ fun y S1 => (augD op x y S1).thenS σ fun z S2 => some (.nx (σ.set i (some z)), S2)
    | _ => none
  | .setIx o i v, σ, S => (evE C v σ S).thenS σ fun x S1 => (evE C o σ S1).thenS σ fun a S2 => (evE C i σ S2).thenS σ fun k S3 => match setIxD a k x S3 with
    | some S4 => some (.nx σ, S4)
    | none => none
  | .ret t, σ, S => (evE C t σ S).thenS σ fun d S1 => some (.ret d, S1)
  | .retN, _, S => some (.ret .non, S)
  | .ite c a b, σ, S => (evE C c σ S).tru.thenS σ fun k S1 => if k then evSs C W a σ S1 else evSs C W b σ S1
  | .for_ g it b, σ, S => (evI C it σ S).thenS σ fun r S1 => forD r.chk g (evSs C W b) r.items σ S1
  | .while_ c b, σ, S => whileD (fun σ S => (evE C c σ S).tru) (evSs C W b) W σ S
  | .brk, σ, S => some (.brk σ, S)
  | .cont, σ, S => some (.cont σ, S)
  | .pass, σ, S => some (.nx σ, S)
  | .never, _, _ => none
def evSs (C : CallT) (W : Nat) : List Sm → Env → Store → RS
  | [], σ, S => some (.nx σ, S)
  | s :: ss, σ, S => match evS C W s σ S with
    | some (.nx σ1, S1) => evSs C W ss σ1 S1
    | r => r
end

/-! ### defs -/
structure Fn where
  npar : Nat
  nloc : Nat
  body : List Sm
def WF : Nat := 100000
def bodyD (C : CallT) (W : Nat) (b : List Sm) (σ : Env) (S : Store) : R D :=
  match evSs C W b σ S with
  | some (.nx _, S1) => gcAfter S .non S1
  | some (.ret d, S1) => gcAfter S d S1
  | some (.exn x _, S1) => .exn x S1
  | _ => .bad
def callD (fns : List Fn) : Nat → CallT
  | 0, _, _, _ => .bad
  | n + 1, f, ds, S => match fns[f]? with
    | some fn => if ds.length = fn.npar then bodyD (callD fns n) WF fn.body (ds.map some ++ List.replicate (fn.nloc - fn.npar) none) S else .bad
    | none => .bad
end Ev
end

section
/-! The data against the layer's values and abstract heaps. -/
namespace Ev
open PySem PySem.Spec PyProof.Rows L2

/-- a list that is read, never written -/
def FzL (K : PySem.W.Frag) (H : Hp) (a : Addr) (xs : List V) : Prop :=
  (∃ o, H a = some (.frz o (.lst xs))) ∨
    ∃ (o : Obj) (its : Array Value) (n : Nat), K.lookup a = some o ∧ o.cls = .type "list" ∧ o.dict = none ∧ o.data = .seq its n ∧ its.size ≤ sizeLine ∧ Vals xs its.toList
theorem FzL.sq {K : PySem.W.Frag} {H : Hp} {a : Addr} {xs : List V} (h : FzL K H a xs) : SqL K H a xs := by
  rcases h with h | h
  · exact .inl (.inr h)
  · exact .inr h

mutual
inductive VR (K : PySem.W.Frag) (H : Hp) (α : List Addr) : V → D → Prop
  | non : VR K H α .non .non
  | bl (b : Bool) : VR K H α (.bl b) (.bl b)
  | int (i : Int) : VR K H α (.int i) (.int i)
  | str (x : Str) : VR K H α (.str x) (.str x)
  | tup {a : Addr} {xs : List V} {ds : List D} : SqT K H a xs → VRs K H α xs ds → VR K H α (.ref a) (.tup ds)
  | ilst {a : Addr} {xs : List V} {ds : List D} : FzL K H a xs → VRs K H α xs ds → VR K H α (.ref a) (.ilst ds)
  | loc {i : Nat} {a : Addr} : α[i]? = some a → VR K H α (.ref a) (.loc i)
inductive VRs (K : PySem.W.Frag) (H : Hp) (α : List Addr) : List V → List D → Prop
  | nil : VRs K H α [] []
  | cons {v : V} {vs : List V} {d : D} {ds : List D} : VR K H α v d → VRs K H α vs ds → VRs K H α (v :: vs) (d :: ds)
end

/-- a cell of the store, at a -/
def CR (K : PySem.W.Frag) (H : Hp) (α : List Addr) (a : Addr) : Cell → Prop
  | .lst ds => ∃ xs, H a = some (.lst xs) ∧ VRs K H α xs ds
  | .dct _ => False
  | .set _ => False
structure SR (K : PySem.W.Frag) (S : Store) (H : Hp) (α : List Addr) : Prop where
  len : α.length = S.length
  nd : α.Nodup
  cell : ∀ (i : Nat) (c : Cell) (a : Addr), S[i]? = some c → α[i]? = some a → CR K H α a c
structure Ext (α : List Addr) (H H' : Hp) (α' : List Addr) : Prop where
  pre : ∃ β, α' = α ++ β ∧ ∀ b ∈ β, H b = none
  keep : ∀ a o, H a = some o → a ∉ α → H' a = some o

section
variable {K : PySem.W.Frag} {H H' H1 H2 : Hp} {α α' α1 α2 : List Addr} {S S1 : Store}
theorem VRs.length : ∀ {xs : List V} {ds : List D}, VRs K H α xs ds → xs.length = ds.length
  | _, _, .nil => rfl
  | _, _, .cons _ t => by rw [List.length_cons, List.length_cons, VRs.length t]
theorem VRs.get : ∀ {xs : List V} {ds : List D} {i : Nat} {d : D}, VRs K H α xs ds → ds[i]? = some d → ∃ v, xs[i]? = some v ∧ VR K H α v d
  | _, _, _, _, .nil, h => by simp at h
  | _, _, 0, _, .cons h _, e => by simp at e; subst e; exact ⟨_, rfl, h⟩
  | _, _, i + 1, _, .cons _ t, e => by
    obtain ⟨v, e1, h1⟩ := VRs.get (i := i) t (by simpa using e)
    exact ⟨v, by simpa using e1, h1⟩
theorem VRs.append : ∀ {xs ys : List V} {ds es : List D}, VRs K H α xs ds → VRs K H α ys es → VRs K H α (xs ++ ys) (ds ++ es)
  | _, _, _, _, .nil, h => h
  | _, _, _, _, .cons a t, h => .cons a (VRs.append t h)
theorem VRs.take : ∀ {xs : List V} {ds : List D} (n : Nat), VRs K H α xs ds → VRs K H α (xs.take n) (ds.take n)
  | _, _, 0, _ => .nil
  | _, _, _ + 1, .nil => .nil
  | _, _, n + 1, .cons a t => .cons a (VRs.take n t)
theorem VRs.drop : ∀ {xs : List V} {ds : List D} (n : Nat), VRs K H α xs ds → VRs K H α (xs.drop n) (ds.drop n)
  | _, _, 0, h => h
  | _, _, _ + 1, .nil => .nil
  | _, _, n + 1, .cons _ t => VRs.drop n t
theorem VRs.set {v : V} {d : D} (r : VR K H α v d) : ∀ {xs : List V} {ds : List D} (i : Nat), VRs K H α xs ds → VRs K H α (xs.set i v) (ds.set i d)
  | _, _, _, .nil => .nil
  | _, _, 0, .cons _ t => .cons r t
  | _, _, i + 1, .cons a t => .cons a (VRs.set r i t)
theorem VRs.one {v : V} {d : D} (r : VR K H α v d) : VRs K H α [v] [d] := .cons r .nil
theorem VRs.eraseIdx : ∀ {xs : List V} {ds : List D} (i : Nat), VRs K H α xs ds → VRs K H α (xs.eraseIdx i) (ds.eraseIdx i)
  | _, _, _, .nil => .nil
  | _, _, 0, .cons _ t => t
  | _, _, i + 1, .cons a t => .cons a (VRs.eraseIdx i t)
theorem VRs.dropLast {xs : List V} {ds : List D} (h : VRs K H α xs ds) : VRs K H α xs.dropLast ds.dropLast := by
  rw [List.dropLast_eq_take, List.dropLast_eq_take, h.length]
  exact h.take _
theorem VRs.reverse : ∀ {xs : List V} {ds : List D}, VRs K H α xs ds → VRs K H α xs.reverse ds.reverse
  | _, _, .nil => .nil
  | _, _, .cons a t => by
    rw [List.reverse_cons, List.reverse_cons]
    exact (VRs.reverse t).append (.one a)
theorem VRs.rep {xs : List V} {ds : List D} (h : VRs K H α xs ds) : ∀ k : Nat, VRs K H α (List.replicate k xs).flatten (List.replicate k ds).flatten
  | 0 => .nil
  | k + 1 => by
    rw [List.replicate_succ, List.replicate_succ, List.flatten_cons, List.flatten_cons]
    exact h.append (h.rep k)
theorem VRs.inv_cons {xs : List V} {d : D} {ds : List D} (h : VRs K H α xs (d :: ds)) : ∃ v vs, xs = v :: vs ∧ VR K H α v d ∧ VRs K H α vs ds := by
  cases h with
  | cons a t => exact ⟨_, _, rfl, a, t⟩
theorem VRs.inv_nil {xs : List V} (h : VRs K H α xs []) : xs = [] := by
  cases h; rfl

theorem SR.at_ (sr : SR K S H α) {i : Nat} {c : Cell} (h : S[i]? = some c) : ∃ a, α[i]? = some a ∧ CR K H α a c := by
  have hi : i < α.length := by
    rw [sr.len]
    exact (List.getElem?_eq_some_iff.mp h).1
  exact ⟨α[i], List.getElem?_eq_getElem hi, sr.cell i c _ h (List.getElem?_eq_getElem hi)⟩
theorem SR.cellOf (sr : SR K S H α) {a : Addr} (ha : a ∈ α) : ∃ (i : Nat) (c : Cell), α[i]? = some a ∧ S[i]? = some c ∧ CR K H α a c := by
  obtain ⟨i, hi, e⟩ := List.mem_iff_getElem.mp ha
  have hS : i < S.length := by rw [← sr.len]; exact hi
  have e1 : α[i]? = some a := by rw [List.getElem?_eq_getElem hi, e]
  exact ⟨i, S[i], e1, List.getElem?_eq_getElem hS, sr.cell i _ a (List.getElem?_eq_getElem hS) e1⟩
/-- a cell's object is neither a tuple nor locked -/
theorem CR.obj {a : Addr} {c : Cell} (h : CR K H α a c) : ∃ o, H a = some o ∧ (∀ xs, o ≠ .tup xs) ∧ (∀ ob u, o ≠ .frz ob u) ∧ ∀ x, o ≠ .own x := by
  cases c with
  | lst ds =>
    obtain ⟨xs, e, _⟩ := h
    refine ⟨_, e, fun _ z => ?_, fun _ _ z => ?_, fun _ z => ?_⟩ <;> cases z
  | dct _ => exact False.elim h
  | set _ => exact False.elim h
theorem SR.ntup (sr : SR K S H α) {a : Addr} {xs : List V} (h : H a = some (.tup xs)) : a ∉ α := fun ha => by
  obtain ⟨i, c, _, _, hc⟩ := sr.cellOf ha
  obtain ⟨o, e, n1, _⟩ := hc.obj
  rw [h] at e; cases e
  exact n1 _ rfl
theorem SR.nfrz (sr : SR K S H α) {a : Addr} {ob : Obj} {u : HO} (h : H a = some (.frz ob u)) : a ∉ α := fun ha => by
  obtain ⟨i, c, _, _, hc⟩ := sr.cellOf ha
  obtain ⟨o, e, _, n1, _⟩ := hc.obj
  rw [h] at e; cases e
  exact n1 _ _ rfl
theorem SR.there (sr : SR K S H α) {a : Addr} (ha : a ∈ α) : ∃ o, H a = some o := by
  obtain ⟨i, c, _, _, hc⟩ := sr.cellOf ha
  obtain ⟨o, e, _⟩ := hc.obj
  exact ⟨o, e⟩
theorem SR.fresh (sr : SR K S H α) {a : Addr} (h : H a = none) : a ∉ α := fun ha => by
  obtain ⟨o, e⟩ := sr.there ha
  rw [h] at e; cases e

theorem Ext.refl : Ext α H H α := ⟨⟨[], by simp, fun _ z => by cases z⟩, fun _ _ h _ => h⟩
theorem Ext.trans (a : Ext α H H1 α1) (b : Ext α1 H1 H2 α2) (sr1 : SR K S1 H1 α1) : Ext α H H2 α2 := by
  obtain ⟨β, e1, n1⟩ := a.pre
  obtain ⟨γ, e2, n2⟩ := b.pre
  have nin : ∀ x o, H x = some o → x ∉ α → x ∉ α1 := fun x o h hx hm => by
    rw [e1] at hm
    rcases List.mem_append.mp hm with hm | hm
    · exact hx hm
    · rw [n1 x hm] at h; cases h
  refine ⟨⟨β ++ γ, by rw [e2, e1, List.append_assoc], fun x hx => ?_⟩, fun x o h hx => b.keep x o (a.keep x o h hx) (nin x o h hx)⟩
  rcases List.mem_append.mp hx with hx | hx
  · exact n1 x hx
  · cases q : H x with
    | none => rfl
    | some o =>
      by_cases hn : x ∈ α
      · obtain ⟨o', e'⟩ := sr1.there (a := x) (by rw [e1]; exact List.mem_append_left _ hn)
        rw [n2 x hx] at e'; cases e'
      · have := a.keep x o q hn
        rw [n2 x hx] at this; cases this
theorem Ext.get (e : Ext α H H' α') {i : Nat} {a : Addr} (h : α[i]? = some a) : α'[i]? = some a := by
  obtain ⟨β, e1, _⟩ := e.pre
  rw [e1, List.getElem?_append_left (List.getElem?_eq_some_iff.mp h).1]
  exact h

theorem sqT_keep (e : Ext α H H' α') (sr : SR K S H α) {a : Addr} {xs : List V} (h : SqT K H a xs) : SqT K H' a xs := by
  rcases h with (h | ⟨o, h⟩) | h
  · exact .inl (.inl (e.keep _ _ h (sr.ntup h)))
  · exact .inl (.inr ⟨o, e.keep _ _ h (sr.nfrz h)⟩)
  · exact .inr h
theorem fzL_keep (e : Ext α H H' α') (sr : SR K S H α) {a : Addr} {xs : List V} (h : FzL K H a xs) : FzL K H' a xs := by
  rcases h with ⟨o, h⟩ | h
  · exact .inl ⟨o, e.keep _ _ h (sr.nfrz h)⟩
  · exact .inr h
mutual
theorem VR.mono (e : Ext α H H' α') (sr : SR K S H α) : ∀ {v : V} {d : D}, VR K H α v d → VR K H' α' v d
  | _, _, .non => .non
  | _, _, .bl b => .bl b
  | _, _, .int i => .int i
  | _, _, .str x => .str x
  | _, _, .tup h t => .tup (sqT_keep e sr h) (VRs.mono e sr t)
  | _, _, .ilst h t => .ilst (fzL_keep e sr h) (VRs.mono e sr t)
  | _, _, .loc h => .loc (e.get h)
theorem VRs.mono (e : Ext α H H' α') (sr : SR K S H α) : ∀ {xs : List V} {ds : List D}, VRs K H α xs ds → VRs K H' α' xs ds
  | _, _, .nil => .nil
  | _, _, .cons h t => .cons (VR.mono e sr h) (VRs.mono e sr t)
end

mutual
theorem VR.blw : ∀ {v : V} {d : D}, VR K H α v d → d.blw α.length = true
  | _, _, .non => by simp [D.blw]
  | _, _, .bl b => by simp [D.blw]
  | _, _, .int i => by simp [D.blw]
  | _, _, .str x => by simp [D.blw]
  | _, _, .tup _ t => by rw [D.blw]; exact VRs.blw t
  | _, _, .ilst _ t => by rw [D.blw]; exact VRs.blw t
  | _, _, .loc h => by rw [D.blw]; exact decide_eq_true (List.getElem?_eq_some_iff.mp h).1
theorem VRs.blw : ∀ {xs : List V} {ds : List D}, VRs K H α xs ds → D.blws α.length ds = true
  | _, _, .nil => by simp [D.blws]
  | _, _, .cons h t => by rw [D.blws, VR.blw h, VRs.blw t]; rfl
end
mutual
/-- fewer places are enough -/
theorem VR.cut {n : Nat} (hα : ∀ i a, i < n → α[i]? = some a → α'[i]? = some a) : ∀ {v : V} {d : D}, VR K H α v d → d.blw n = true → VR K H α' v d
  | _, _, .non, _ => .non
  | _, _, .bl b, _ => .bl b
  | _, _, .int i, _ => .int i
  | _, _, .str x, _ => .str x
  | _, _, .tup h t, hb => .tup h (VRs.cut hα t (by rwa [D.blw] at hb))
  | _, _, .ilst h t, hb => .ilst h (VRs.cut hα t (by rwa [D.blw] at hb))
  | _, _, .loc h, hb => .loc (hα _ _ (of_decide_eq_true (by rwa [D.blw] at hb)) h)
theorem VRs.cut {n : Nat} (hα : ∀ i a, i < n → α[i]? = some a → α'[i]? = some a) : ∀ {xs : List V} {ds : List D}, VRs K H α xs ds → D.blws n ds = true → VRs K H α' xs ds
  | _, _, .nil, _ => .nil
  | _, _, .cons h t, hb => by
    rw [D.blws, Bool.and_eq_true] at hb
    exact .cons (VR.cut hα h hb.1) (VRs.cut hα t hb.2)
end
theorem CR.blw {a : Addr} {c : Cell} (h : CR K H α a c) : c.blw α.length = true := by
  cases c with
  | lst ds => obtain ⟨xs, _, t⟩ := h; exact t.blw
  | dct _ => exact False.elim h
  | set _ => exact False.elim h
theorem CR.cut {a : Addr} {c : Cell} {n : Nat} (hα : ∀ i a, i < n → α[i]? = some a → α'[i]? = some a) (h : CR K H α a c) (hb : c.blw n = true) : CR K H α' a c := by
  cases c with
  | lst ds => obtain ⟨xs, e, t⟩ := h; exact ⟨xs, e, t.cut hα hb⟩
  | dct _ => exact False.elim h
  | set _ => exact False.elim h
theorem CR.mono {a : Addr} {c : Cell} (e : Ext α H H' α') (sr : SR K S H α) (hH : H' a = H a) (h : CR K H α a c) : CR K H' α' a c := by
  cases c with
  | lst ds => obtain ⟨xs, q, t⟩ := h; exact ⟨xs, hH.trans q, t.mono e sr⟩
  | dct _ => exact False.elim h
  | set _ => exact False.elim h

/-! ### new objects, changed cells -/
theorem upd_ext {p : Addr} {o : HO} (hp : H p = none) : Ext α H (upd H p o) α :=
  ⟨⟨[], by simp, fun _ z => by cases z⟩, fun a u h _ => by rw [upd_ne (ne_of_none h hp)]; exact h⟩
theorem SR.tupd (sr : SR K S H α) {p : Addr} {o : HO} (hp : H p = none) : SR K S (upd H p o) α := by
  refine ⟨sr.len, sr.nd, fun i c a h1 h2 => ?_⟩
  have hc := sr.cell i c a h1 h2
  obtain ⟨u, hu, _⟩ := hc.obj
  exact hc.mono (upd_ext hp) sr (upd_ne (ne_of_none hu hp))
/-- a new tuple -/
theorem new_tup (sr : SR K S H α) {p : Addr} {xs : List V} {ds : List D} (hp : H p = none) (r : VRs K H α xs ds) :
    Ext α H (upd H p (.tup xs)) α ∧ SR K S (upd H p (.tup xs)) α ∧ VR K (upd H p (.tup xs)) α (.ref p) (.tup ds) :=
  ⟨upd_ext hp, sr.tupd hp, .tup (.inl (.inl upd_same)) (r.mono (upd_ext hp) sr)⟩
theorem app_ext {p : Addr} {o : HO} (hp : H p = none) : Ext α H (upd H p o) (α ++ [p]) :=
  ⟨⟨[p], rfl, fun b hb => by rw [List.mem_singleton.mp hb]; exact hp⟩, fun a u h _ => by rw [upd_ne (ne_of_none h hp)]; exact h⟩
/-- a new list -/
theorem new_lst (sr : SR K S H α) {p : Addr} {xs : List V} {ds : List D} (hp : H p = none) (r : VRs K H α xs ds) :
    Ext α H (upd H p (.lst xs)) (α ++ [p]) ∧ SR K (S ++ [.lst ds]) (upd H p (.lst xs)) (α ++ [p]) ∧ VR K (upd H p (.lst xs)) (α ++ [p]) (.ref p) (.loc S.length) := by
  have e : Ext α H (upd H p (.lst xs)) (α ++ [p]) := app_ext hp
  refine ⟨e, ⟨by rw [List.length_append, List.length_append, sr.len]; rfl, ?_, fun i c a h1 h2 => ?_⟩, .loc ?_⟩
  · exact List.nodup_append.mpr ⟨sr.nd, by simp, fun a ha b hb => by rw [List.mem_singleton.mp hb]; rintro rfl; exact sr.fresh hp ha⟩
  · by_cases hi : i < S.length
    · rw [List.getElem?_append_left hi] at h1
      rw [List.getElem?_append_left (by rw [sr.len]; exact hi)] at h2
      have hc := sr.cell i c a h1 h2
      obtain ⟨u, hu, _⟩ := hc.obj
      exact hc.mono e sr (upd_ne (ne_of_none hu hp))
    · rw [List.getElem?_append_right (by omega)] at h1
      rw [List.getElem?_append_right (by rw [sr.len]; omega)] at h2
      obtain ⟨h3, h4⟩ := List.getElem?_eq_some_iff.mp h1
      have h5 : i - S.length = 0 := by simp at h3; omega
      rw [sr.len] at h2
      rw [h5] at h1 h2
      simp at h1 h2
      subst h1 h2
      exact ⟨xs, upd_same, r.mono e sr⟩
  · rw [← sr.len, List.getElem?_append_right (Nat.le_refl _)]; simp
/-- a cell is changed -/
theorem set_ext {p : Addr} {o : HO} (hp : p ∈ α) : Ext α H (upd H p o) α :=
  ⟨⟨[], by simp, fun _ z => by cases z⟩, fun a u h hn => by rw [upd_ne (fun z => hn (by rw [z]; exact hp))]; exact h⟩
theorem set_lst (sr : SR K S H α) {i : Nat} {p : Addr} {xs : List V} {ds : List D} (h : α[i]? = some p) (r : VRs K H α xs ds) :
    Ext α H (upd H p (.lst xs)) α ∧ SR K (S.set i (.lst ds)) (upd H p (.lst xs)) α := by
  have hm : p ∈ α := List.mem_of_getElem? h
  have e : Ext α H (upd H p (.lst xs)) α := set_ext hm
  refine ⟨e, by rw [List.length_set]; exact sr.len, sr.nd, fun j c a h1 h2 => ?_⟩
  by_cases hj : i = j
  · subst hj
    rw [h] at h2; cases h2
    have hi : i < S.length := by rw [← sr.len]; exact (List.getElem?_eq_some_iff.mp h).1
    rw [List.getElem?_set_self hi] at h1; cases h1
    exact ⟨xs, upd_same, r.mono e sr⟩
  · rw [List.getElem?_set_ne hj] at h1
    refine (sr.cell j c a h1 h2).mono e sr (upd_ne fun z => hj ?_)
    subst z
    obtain ⟨i1, e1⟩ := List.getElem?_eq_some_iff.mp h
    obtain ⟨i2, e2⟩ := List.getElem?_eq_some_iff.mp h2
    exact (List.getElem_inj sr.nd).mp (e1.trans e2.symm)

/-! ### what is let go -/
theorem stable_get : ∀ {n : Nat} {S S1 : Store} {i : Nat} {c1 : Cell}, stable n S S1 = true → i < S.length → S1[i]? = some c1 → S[i]? = some c1 ∨ c1.blw n = true
  | n, [], S1, i, c1, _, hi, _ => by simp at hi
  | n, c :: S, [], i, c1, h, _, _ => by simp [stable] at h
  | n, c :: S, c' :: S1, 0, c1, h, _, e => by
    simp at e; subst e
    rw [stable, Bool.and_eq_true, Bool.or_eq_true] at h
    rcases h.1 with h | h
    · exact .inl (by rw [of_decide_eq_true h]; rfl)
    · exact .inr h
  | n, c :: S, c' :: S1, i + 1, c1, h, hi, e => by
    rw [stable, Bool.and_eq_true] at h
    simpa using stable_get (i := i) h.2 (by simpa using hi) (by simpa using e)
theorem stable_len : ∀ {n : Nat} {S S1 : Store}, stable n S S1 = true → S.length ≤ S1.length
  | _, [], _, _ => Nat.zero_le _
  | _, _ :: _, [], h => by simp [stable] at h
  | n, _ :: S, _ :: S1, h => by
    rw [stable, Bool.and_eq_true] at h
    exact Nat.succ_le_succ (stable_len h.2)
theorem gc_ok {S' : Store} {d d' : D} {v : V} (sr : SR K S H α) (e : Ext α H H1 α1) (sr1 : SR K S1 H1 α1) (r : VR K H1 α1 v d) (g : gcAfter S d S1 = .ok d' S') :
    ∃ α', Ext α H H1 α' ∧ SR K S' H1 α' ∧ VR K H1 α' v d' := by
  unfold gcAfter at g
  by_cases hs : stable S.length S S1 = true
  · rw [if_pos hs] at g
    obtain ⟨β, eβ, nβ⟩ := e.pre
    have eL : S1.take S.length = S1.take S.length := rfl
    have hl := stable_len hs
    have cutI : ∀ i a, i < S.length → α1[i]? = some a → α[i]? = some a := fun i a hi h => by
      rw [eβ, List.getElem?_append_left (by rw [sr.len]; exact hi)] at h
      exact h
    have eA : Ext α H H1 α := ⟨⟨[], by simp, fun _ z => by cases z⟩, e.keep⟩
    have cells : ∀ (i : Nat) (c : Cell) (a : Addr), i < S.length → S1[i]? = some c → α[i]? = some a → CR K H1 α a c := fun i c a hi h1 h2 => by
      have hc := sr1.cell i c a h1 (e.get h2)
      refine hc.cut cutI ?_
      rcases stable_get hs hi h1 with z | z
      · have := (sr.cell i c a z h2).blw
        rwa [sr.len] at this
      · exact z
    have srT : SR K (S1.take S.length) H1 α := ⟨by rw [List.length_take, sr.len]; omega, sr.nd, fun i c a h1 h2 => by
      have hi : i < S.length := by rw [← sr.len]; exact (List.getElem?_eq_some_iff.mp h2).1
      rw [List.getElem?_take_of_lt hi] at h1
      exact cells i c a hi h1 h2⟩
    by_cases hb : d.blw S.length = true
    · rw [if_pos hb] at g
      cases g
      exact ⟨α, eA, srT, r.cut cutI hb⟩
    · rw [if_neg hb] at g
      cases d with
      | loc i =>
        cases r with
        | @loc _ a ha =>
        cases hc : S1[i]? with
        | none => simp only [hc] at g; cases g; exact ⟨α1, e, sr1, .loc ha⟩
        | some c =>
          simp only [hc] at g
          by_cases hq : S.length ≤ i ∧ c.blw S.length = true
          · rw [if_pos hq] at g
            cases g
            have han : H a = none := by
              have hm : a ∈ β := by
                rw [eβ, List.getElem?_append_right (by rw [sr.len]; exact hq.1)] at ha
                exact List.mem_of_getElem? ha
              exact nβ a hm
            have eB : Ext α H H1 (α ++ [a]) := ⟨⟨[a], rfl, fun b hb => by rw [List.mem_singleton.mp hb]; exact han⟩, e.keep⟩
            have tl : (S1.take S.length).length = S.length := by rw [List.length_take]; omega
            refine ⟨α ++ [a], eB, ⟨by rw [List.length_append, List.length_append, tl, sr.len]; rfl, ?_, fun j c' a' h1 h2 => ?_⟩, .loc (by rw [← sr.len, List.getElem?_append_right (Nat.le_refl _)]; simp)⟩
            · exact List.nodup_append.mpr ⟨sr.nd, by simp, fun x hx b hb => by rw [List.mem_singleton.mp hb]; rintro rfl; exact sr.fresh han hx⟩
            · by_cases hj : j < S.length
              · rw [List.getElem?_append_left (by rw [tl]; exact hj), List.getElem?_take_of_lt hj] at h1
                rw [List.getElem?_append_left (by rw [sr.len]; exact hj)] at h2
                refine (cells j c' a' hj h1 h2).cut (n := S.length) (fun i a hi h => ?_) ?_
                · rw [List.getElem?_append_left (by rw [sr.len]; exact hi)]; exact h
                · have := (cells j c' a' hj h1 h2).blw
                  rwa [sr.len] at this
              · rw [List.getElem?_append_right (by rw [tl]; omega)] at h1
                rw [List.getElem?_append_right (by rw [sr.len]; omega)] at h2
                have h3 := (List.getElem?_eq_some_iff.mp h1).1
                have h5 : j - S.length = 0 := by simp at h3; omega
                rw [tl, h5] at h1
                rw [sr.len, h5] at h2
                simp at h1 h2
                subst h1 h2
                refine (sr1.cell i c a hc ha).cut (n := S.length) (fun i a hi h => ?_) hq.2
                rw [List.getElem?_append_left (by rw [sr.len]; exact hi)]
                exact cutI i a hi h
          · rw [if_neg hq] at g
            cases g
            exact ⟨α1, e, sr1, .loc ha⟩
      | _ => cases g; exact ⟨α1, e, sr1, r⟩
  · rw [if_neg hs] at g
    cases g
    exact ⟨α1, e, sr1, r⟩
theorem gc_noexn {d : D} {S1 : Store} {r : R D} (h : gcAfter S d S1 = r) : ∃ d' S', r = .ok d' S' := by
  unfold gcAfter at h
  split at h
  · split at h
    · exact ⟨_, _, h.symm⟩
    · split at h
      · split at h
        · split at h
          · exact ⟨_, _, h.symm⟩
          · exact ⟨_, _, h.symm⟩
        · exact ⟨_, _, h.symm⟩
      · exact ⟨_, _, h.symm⟩
  · exact ⟨_, _, h.symm⟩
end
end Ev
end

section
/-! What is wanted behind a computation; operators and built-ins. -/
namespace Ev
open PySem PySem.Spec PyProof.Rows L2

structure EnvR (K : PySem.W.Frag) (H : Hp) (α : List Addr) (σ : L2.St) (σd : Env) : Prop where
  len : σ.length = σd.length
  get : ∀ (i : Nat) (d : D), σd[i]? = some (some d) → ∃ v, σ[i]? = some (some v) ∧ VR K H α v d
/-- an exception's class and dict -/
def XR (K : PySem.W.Frag) (mg : Str → Option Value) (x : Xn) (c : Value) (o : Option Addr) (H : Hp) (α : List Addr) : Prop :=
  mg x.cls = some c ∧ match o with
    | none => x.fs = []
    | some d => ∃ fs : List (Str × V), H d = some (.xd fs) ∧ fs.map (·.1) = x.fs.map (·.1) ∧ VRs K H α (fs.map (·.2)) (x.fs.map (·.2))
/-- what is wanted behind a computation that has the answer r -/
def Af {A B : Type} (X : Cx) (W : WX) (σ : L2.St) (rel : Hp → List Addr → B → A → Prop) (r : R A) (H : Hp) (α : List Addr) (Q : B → Hp → Prop) : Prop :=
  match r with
  | .ok a S' => ∀ b H' α', Ext α H H' α' → SR X.K S' H' α' → rel H' α' b a → Q b H'
  | .exn x S' => ∀ c o H' α', Ext α H H' α' → SR X.K S' H' α' → XR X.K X.mg x c o H' α' → W c o σ H'
  | .bad => False
def relV (K : PySem.W.Frag) : Hp → List Addr → V → D → Prop := fun H α v d => VR K H α v d
def relVs (K : PySem.W.Frag) : Hp → List Addr → List V → List D → Prop := fun H α v d => VRs K H α v d
def relEq {A : Type} : Hp → List Addr → A → A → Prop := fun _ _ b a => b = a

section
variable {X : Cx} {W : WX} {σ : L2.St} {H H1 H' : Hp} {α α1 α' : List Addr} {S S1 : Store} {A A' B B' : Type}
theorem EnvR.mono {K : PySem.W.Frag} {σd : Env} (e : Ext α H H' α') (sr : SR K S H α) (h : EnvR K H α σ σd) : EnvR K H' α' σ σd :=
  ⟨h.len, fun i d q => let ⟨v, e1, r⟩ := h.get i d q; ⟨v, e1, r.mono e sr⟩⟩
theorem EnvR.set {K : PySem.W.Frag} {σd : Env} {i : Nat} {v : V} {d : D} (h : EnvR K H α σ σd) (r : VR K H α v d) : EnvR K H α (σ.set i (some v)) (σd.set i (some d)) := by
  refine ⟨by rw [List.length_set, List.length_set, h.len], fun j d' q => ?_⟩
  by_cases hj : i = j
  · subst hj
    have hi : i < σd.length := by
      have := (List.getElem?_eq_some_iff.mp q).1
      rwa [List.length_set] at this
    rw [List.getElem?_set_self hi] at q
    cases q
    exact ⟨v, List.getElem?_set_self (by rw [h.len]; exact hi), r⟩
  · rw [List.getElem?_set_ne hj] at q
    obtain ⟨v', e, r'⟩ := h.get j d' q
    exact ⟨v', by rw [List.getElem?_set_ne hj]; exact e, r'⟩
theorem EnvR.none {K : PySem.W.Frag} {σd : Env} {i : Nat} (h : EnvR K H α σ σd) : EnvR K H α (σ.set i none) (σd.set i none) := by
  refine ⟨by rw [List.length_set, List.length_set, h.len], fun j d' q => ?_⟩
  by_cases hj : i = j
  · subst hj
    by_cases hi : i < σd.length
    · rw [List.getElem?_set_self hi] at q; cases q
    · rw [List.getElem?_eq_none (by rw [List.length_set]; omega)] at q; cases q
  · rw [List.getElem?_set_ne hj] at q
    obtain ⟨v', e, r'⟩ := h.get j d' q
    exact ⟨v', by rw [List.getElem?_set_ne hj]; exact e, r'⟩
theorem EnvR.wipe {K : PySem.W.Frag} {σd : Env} (h : EnvR K H α σ σd) : ∀ vs : List Nat, EnvR K H α (wipe σ vs) (wipeD σd vs)
  | [] => h
  | _ :: vs => (h.wipe vs).none
theorem Af.step {rel : Hp → List Addr → B → A → Prop} {r : R A} {Q : B → Hp → Prop} (e : Ext α H H1 α1) (sr1 : SR X.K S1 H1 α1) (h : Af X W σ rel r H α Q) : Af X W σ rel r H1 α1 Q := by
  cases r with
  | ok a S' => exact fun b H' α' e' sr' rl => h b H' α' (e.trans e' sr1) sr' rl
  | exn x S' => exact fun c o H' α' e' sr' rl => h c o H' α' (e.trans e' sr1) sr' rl
  | bad => exact h
/-- one computation, then another -/
theorem Af.bind {rel : Hp → List Addr → B → A → Prop} {rel' : Hp → List Addr → B' → A' → Prop} {r : R A} {f : A → Store → R A'} {Q : B' → Hp → Prop} {Q1 : B → Hp → Prop} (h : Af X W σ rel' (r.bind f) H α Q)
    (k : ∀ a S1 b H1 α1, Ext α H H1 α1 → SR X.K S1 H1 α1 → rel H1 α1 b a → Af X W σ rel' (f a S1) H1 α1 Q → Q1 b H1) : Af X W σ rel r H α Q1 := by
  cases r with
  | ok a S1 => exact fun b H1 α1 e1 sr1 rl => k a S1 b H1 α1 e1 sr1 rl (Af.step e1 sr1 h)
  | exn x S' => exact h
  | bad => exact h
theorem Af.ok {rel : Hp → List Addr → B → A → Prop} {Q : B → Hp → Prop} {a : A} {b : B} (sr : SR X.K S H α) (h : Af X W σ rel (.ok a S) H α Q) (r : rel H α b a) : Q b H := h b H α .refl sr r
theorem Af.ok' {rel : Hp → List Addr → B → A → Prop} {Q : B → Hp → Prop} {a : A} {b : B} (h : Af X W σ rel (.ok a S) H α Q) (e : Ext α H H' α') (sr : SR X.K S H' α') (r : rel H' α' b a) : Q b H' := h b H' α' e sr r
theorem Af.mono {rel : Hp → List Addr → B → A → Prop} {r : R A} {Q Q' : B → Hp → Prop} (h : Af X W σ rel r H α Q) (k : ∀ b H', Q b H' → Q' b H') : Af X W σ rel r H α Q' := by
  cases r with
  | ok a S' => exact fun b H' α' e' sr' rl => k _ _ (h b H' α' e' sr' rl)
  | exn x S' => exact h
  | bad => exact h
end

/-! ### readings -/
def tE (X : Cx) (W : WX) (C : CallT) (t : Tm) : TE := fun σ H Q => ∃ α S σd, SR X.K S H α ∧ EnvR X.K H α σ σd ∧ Af X W σ (relV X.K) (evE C t σd S) H α Q
def tA (X : Cx) (W : WX) (C : CallT) (ts : List Tm) : TA := fun σ H Q => ∃ α S σd, SR X.K S H α ∧ EnvR X.K H α σ σd ∧ Af X W σ (relVs X.K) (evEs C ts σd S) H α Q
def tT (X : Cx) (W : WX) (C : CallT) (t : Tm) : TT := fun σ H Q => ∃ α S σd, SR X.K S H α ∧ EnvR X.K H α σ σd ∧ Af X W σ relEq (evE C t σd S).tru H α Q
def tTs (X : Cx) (W : WX) (C : CallT) (ts : List Tm) : TT := fun σ H Q => ∃ α S σd, SR X.K S H α ∧ EnvR X.K H α σ σd ∧ Af X W σ relEq (evT C ts σd S) H α Q
def tO (X : Cx) (W : WX) (C : CallT) (t : Option Tm) : TO := fun σ H Q => ∃ α S σd, SR X.K S H α ∧ EnvR X.K H α σ σd ∧ Af X W σ relEq (evO C t σd S) H α Q

theorem PE.imp {X : Cx} {e : Expr} {t t' : TE} (h : PE X e t') (i : ∀ σ H Q, t σ H Q → t' σ H Q) : PE X e t := ⟨fun pins s σ H Q I q => h.run pins s σ H Q I (i σ H Q q)⟩
theorem PT.imp {X : Cx} {e : Expr} {t t' : TT} (h : PT X e t') (i : ∀ σ H Q, t σ H Q → t' σ H Q) : PT X e t := ⟨fun pins s σ H Q I q => h.run pins s σ H Q I (i σ H Q q)⟩
theorem PA.imp {X : Cx} {e : List Expr} {t t' : TA} (h : PA X e t') (i : ∀ σ H Q, t σ H Q → t' σ H Q) : PA X e t := ⟨fun pos pins s σ H Q I q => h.run pos pins s σ H Q I (i σ H Q q)⟩
theorem PS.imp {X : Cx} {e : Stmt} {t t' : TS} (h : PS X e t') (i : ∀ D σ H, t D σ H → t' D σ H) : PS X e t := ⟨fun pins s σ H D I q => h.run pins s σ H D I (i D σ H q)⟩
theorem PSs.imp {X : Cx} {e : List Stmt} {t t' : TS} (h : PSs X e t') (i : ∀ D σ H, t D σ H → t' D σ H) : PSs X e t := ⟨fun pins s σ H D I q => h.run pins s σ H D I (i D σ H q)⟩

/-! ### data as the library's -/
section
variable {K : PySem.W.Frag} {H : Hp} {α : List Addr} {S : Store}
mutual
theorem VR.dp {f : Nat → Option PyData} (hf : ∀ i a p, α[i]? = some a → f i = some p → Dp K H (.ref a) p) : ∀ {v : V} {d : D} {p : PyData}, VR K H α v d → toP f d = some p → Dp K H v p
  | _, _, _, .non, h => by simp only [toP, Option.some.injEq] at h; subst h; exact .non
  | _, _, _, .bl b, h => by simp only [toP, Option.some.injEq] at h; subst h; exact .bl b
  | _, _, _, .int i, h => by simp only [toP, Option.some.injEq] at h; subst h; exact .int i
  | _, _, _, .str x, h => by simp only [toP, Option.some.injEq] at h; subst h; exact .str x
  | _, _, p, .tup (ds := ds) ht t, h => by
    simp only [toP] at h
    cases q : toPs f ds with
    | none => simp [q] at h
    | some ps =>
      simp only [q, Option.some.injEq] at h
      subst h
      exact .tup ht (VRs.dp hf t q)
  | _, _, p, .ilst (ds := ds) ht t, h => by
    simp only [toP] at h
    cases q : toPs f ds with
    | none => simp [q] at h
    | some ps =>
      simp only [q, Option.some.injEq] at h
      subst h
      exact .lst ht.sq (VRs.dp hf t q)
  | _, _, _, .loc ha, h => by simp only [toP] at h; exact hf _ _ _ ha h
theorem VRs.dp {f : Nat → Option PyData} (hf : ∀ i a p, α[i]? = some a → f i = some p → Dp K H (.ref a) p) : ∀ {xs : List V} {ds : List D} {ps : List PyData}, VRs K H α xs ds → toPs f ds = some ps → DpAll K H xs ps
  | _, _, _, .nil, h => by simp only [toPs, Option.some.injEq] at h; subst h; exact .nil
  | _, _, _, .cons (d := d) (ds := ds) r t, h => by
    simp only [toPs] at h
    cases q : toP f d with
    | none => simp [q] at h
    | some p =>
      simp only [q] at h
      cases q2 : toPs f ds with
      | none => simp [q2] at h
      | some ps =>
        simp only [q2, Option.some.injEq] at h
        subst h
        exact .cons (VR.dp hf r q) (VRs.dp hf t q2)
end
theorem rdP_dp (sr : SR K S H α) : ∀ (n i : Nat) (a : Addr) (p : PyData), α[i]? = some a → rdP S n i = some p → Dp K H (.ref a) p
  | 0, _, _, _, _, h => by simp [rdP] at h
  | n + 1, i, a, p, ha, h => by
    simp only [rdP] at h
    cases hc : S[i]? with
    | none => simp [hc] at h
    | some c =>
      simp only [hc] at h
      have cr := sr.cell i c a hc ha
      cases c with
      | lst ds =>
        simp only at h
        cases q : toPs (rdP S n) ds with
        | none => simp [q] at h
        | some ps =>
          simp only [q, Option.some.injEq] at h
          subst h
          obtain ⟨xs, e, t⟩ := cr
          exact .lst (.inl (.inl e)) (t.dp (rdP_dp sr n) q)
      | dct _ => simp at h
      | set _ => simp at h
theorem VR.asP (sr : SR K S H α) {v : V} {d : D} {p : PyData} (r : VR K H α v d) (h : Ev.asP S d = some p) : Dp K H v p := r.dp (rdP_dp sr 3) h
theorem VRs.asP (sr : SR K S H α) {v : List V} {d : List D} {p : List PyData} (r : VRs K H α v d) (h : toPs (rdP S 3) d = some p) : DpAll K H v p := r.dp (rdP_dp sr 3) h
/-- a sequence is a list or a tuple -/
theorem seq_ok (sr : SR K S H α) {v : V} {d : D} {ds : List D} (r : VR K H α v d) (h : seqOf S d = some ds) : ∃ a xs, v = .ref a ∧ (SqL K H a xs ∨ SqT K H a xs) ∧ VRs K H α xs ds := by
  cases r with
  | tup ht t => simp only [seqOf, Option.some.injEq] at h; subst h; exact ⟨_, _, rfl, .inr ht, t⟩
  | ilst ht t => simp only [seqOf, Option.some.injEq] at h; subst h; exact ⟨_, _, rfl, .inl ht.sq, t⟩
  | @loc i a ha =>
    simp only [seqOf] at h
    cases hc : S[i]? with
    | none => simp [hc] at h
    | some c =>
      have cr := sr.cell i c a hc ha
      cases c with
      | lst es =>
        simp only [hc, Option.some.injEq] at h
        subst h
        obtain ⟨xs, e, t⟩ := cr
        exact ⟨a, xs, rfl, .inl (.inl (.inl e)), t⟩
      | dct _ => simp [hc] at h
      | set _ => simp [hc] at h
  | _ => simp [seqOf] at h
end
end Ev
end

section
/-! Operators, comparisons, subscripts: by values. -/
namespace Ev
open PySem PySem.Spec PyProof.Rows L2

def AfV {A B : Type} (K : PySem.W.Frag) (rel : Hp → List Addr → B → A → Prop) (r : R A) (H : Hp) (α : List Addr) (Q : B → Hp → Prop) : Prop :=
  match r with
  | .ok a S' => ∀ b H' α', Ext α H H' α' → SR K S' H' α' → rel H' α' b a → Q b H'
  | _ => False
theorem Af.toV {A B : Type} {X : Cx} {W : WX} {σ : L2.St} {rel : Hp → List Addr → B → A → Prop} {r : R A} {H : Hp} {α : List Addr} {Q : B → Hp → Prop} (h : Af X W σ rel r H α Q) (n : ∀ x S', r ≠ .exn x S') : AfV X.K rel r H α Q := by
  cases r with
  | ok a S' => exact h
  | exn x S' => exact absurd rfl (n x S')
  | bad => exact h
theorem AfV.toAf {A B : Type} {X : Cx} {W : WX} {σ : L2.St} {rel : Hp → List Addr → B → A → Prop} {r : R A} {H : Hp} {α : List Addr} {Q : B → Hp → Prop} (h : AfV X.K rel r H α Q) : Af X W σ rel r H α Q := by
  cases r with
  | ok a S' => exact h
  | exn x S' => exact False.elim h
  | bad => exact h

/-- an operation on two values, by data -/
def rBin (K : PySem.W.Frag) (f : D → D → Store → R D) : R2 := fun x y H Q => ∃ α S d e, SR K S H α ∧ VR K H α x d ∧ VR K H α y e ∧ AfV K (relV K) (f d e S) H α Q
def rUn1 (K : PySem.W.Frag) (f : D → Store → R D) : V → Hp → VK → Prop := fun x H Q => ∃ α S d, SR K S H α ∧ VR K H α x d ∧ AfV K (relV K) (f d S) H α Q

section
variable {X : Cx} {K : PySem.W.Frag} {H : Hp} {α : List Addr} {S : Store}
theorem AfV.int {i : Int} {Q : VK} (sr : SR K S H α) (h : AfV K (relV K) (.ok (.int i) S) H α Q) : Q (.int i) H := h _ _ _ .refl sr (.int i)
theorem AfV.bl {i : Bool} {Q : VK} (sr : SR K S H α) (h : AfV K (relV K) (.ok (.bl i) S) H α Q) : Q (.bl i) H := h _ _ _ .refl sr (.bl i)
theorem AfV.str {i : Str} {Q : VK} (sr : SR K S H α) (h : AfV K (relV K) (.ok (.str i) S) H α Q) : Q (.str i) H := h _ _ _ .refl sr (.str i)
theorem AfV.non {Q : VK} (sr : SR K S H α) (h : AfV K (relV K) (.ok .non S) H α Q) : Q .non H := h _ _ _ .refl sr .non
theorem AfV.tup {xs : List V} {ds : List D} {Q : VK} {p : Addr} (sr : SR K S H α) (r : VRs K H α xs ds) (h : AfV K (relV K) (.ok (.tup ds) S) H α Q) (hp : H p = none) : Q (.ref p) (upd H p (.tup xs)) :=
  let ⟨e, s, v⟩ := new_tup sr hp r
  h _ _ _ e s v
theorem AfV.lst {xs : List V} {ds : List D} {Q : VK} {p : Addr} (sr : SR K S H α) (r : VRs K H α xs ds) (h : AfV K (relV K) (alloc S (.lst ds)) H α Q) (hp : H p = none) : Q (.ref p) (upd H p (.lst xs)) :=
  let ⟨e, s, v⟩ := new_lst sr hp r
  h _ _ _ e s v
theorem VR.inv_int {v : V} {i : Int} (h : VR K H α v (.int i)) : v = .int i := by cases h; rfl
theorem VR.inv_bl {v : V} {i : Bool} (h : VR K H α v (.bl i)) : v = .bl i := by cases h; rfl
theorem VR.inv_str {v : V} {i : Str} (h : VR K H α v (.str i)) : v = .str i := by cases h; rfl
theorem VR.inv_non {v : V} (h : VR K H α v .non) : v = .non := by cases h; rfl
theorem VR.inv_tup {v : V} {ds : List D} (h : VR K H α v (.tup ds)) : ∃ a xs, v = .ref a ∧ SqT K H a xs ∧ VRs K H α xs ds := by
  cases h with
  | tup a b => exact ⟨_, _, rfl, a, b⟩
theorem VR.inv_ilst {v : V} {ds : List D} (h : VR K H α v (.ilst ds)) : ∃ a xs, v = .ref a ∧ FzL K H a xs ∧ VRs K H α xs ds := by
  cases h with
  | ilst a b => exact ⟨_, _, rfl, a, b⟩
theorem VR.inv_loc {v : V} {i : Nat} (h : VR K H α v (.loc i)) : ∃ a, v = .ref a ∧ α[i]? = some a := by
  cases h with
  | loc a => exact ⟨_, rfl, a⟩
theorem VR.lst (sr : SR K S H α) {v : V} {i : Nat} {ds : List D} (h : VR K H α v (.loc i)) (hc : S[i]? = some (.lst ds)) : ∃ a xs, v = .ref a ∧ α[i]? = some a ∧ H a = some (.lst xs) ∧ VRs K H α xs ds := by
  obtain ⟨a, e, ha⟩ := h.inv_loc
  obtain ⟨xs, h1, h2⟩ := sr.cell i _ a hc ha
  exact ⟨a, xs, e, ha, h1, h2⟩
theorem SZ_eq : SZ = sizeLine := by rw [sizeLine_eq]

theorem op_binD {op : Operator} : OpR X (binaryOp op) (rBin X.K (binD op)) := by
  intro pins s σ H x y v u Q I rx ry h
  obtain ⟨α, S, d, e, sr, vx, vy, q⟩ := h
  unfold binD at q
  split at q
  · obtain rfl := vx.inv_int; obtain rfl := vy.inv_int
    exact op_add pins s σ H _ _ v u Q I rx ry ⟨_, _, rfl, rfl, q.int sr⟩
  · obtain rfl := vx.inv_int; obtain rfl := vy.inv_int
    exact op_sub pins s σ H _ _ v u Q I rx ry ⟨_, _, rfl, rfl, q.int sr⟩
  · rename_i i j
    obtain rfl := vx.inv_int; obtain rfl := vy.inv_int
    by_cases hm : mulOk i j = true
    · rw [if_pos hm] at q
      refine op_mul pins s σ H _ _ v u Q I rx ry ⟨_, _, rfl, rfl, ?_, q.int sr⟩
      unfold mulOk at hm
      rw [Bool.or_eq_true, decide_eq_true_iff, decide_eq_true_iff] at hm
      rcases hm with hm | hm
      · exact .inl (by omega)
      · exact .inr (by omega)
    · rw [if_neg hm] at q; exact False.elim q
  · rename_i i j
    obtain rfl := vx.inv_int; obtain rfl := vy.inv_int
    by_cases hm : 0 < j ∧ j < 1073741824
    · rw [if_pos hm] at q
      exact op_fdiv pins s σ H _ _ v u Q I rx ry ⟨_, _, rfl, rfl, hm, q.int sr⟩
    · rw [if_neg hm] at q; exact False.elim q
  · rename_i i j
    obtain rfl := vx.inv_int; obtain rfl := vy.inv_int
    by_cases hm : 0 < j
    · rw [if_pos hm] at q
      exact op_mod pins s σ H _ _ v u Q I rx ry ⟨_, _, rfl, rfl, hm, q.int sr⟩
    · rw [if_neg hm] at q; exact False.elim q
  · rename_i i j
    obtain rfl := vx.inv_int; obtain rfl := vy.inv_int
    by_cases hm : 0 ≤ j ∧ j ≤ 1000000 ∧ i.natAbs < 2 ^ 64
    · rw [if_pos hm] at q
      exact op_pow pins s σ H _ _ v u Q I rx ry ⟨_, _, rfl, rfl, hm, q.int sr⟩
    · rw [if_neg hm] at q; exact False.elim q
  · rename_i a b
    obtain rfl := vx.inv_str; obtain rfl := vy.inv_str
    by_cases hm : a.length + b.length ≤ SZ
    · rw [if_pos hm] at q
      exact op_add_str pins s σ H _ _ v u Q I rx ry ⟨_, _, rfl, rfl, by rw [← SZ_eq]; exact hm, q.str sr⟩
    · rw [if_neg hm] at q; exact False.elim q
  · rename_i xs ys
    obtain ⟨a, vs, rfl, ha, ra⟩ := vx.inv_tup
    obtain ⟨b, ws, rfl, hb, rb⟩ := vy.inv_tup
    by_cases hm : xs.length + ys.length ≤ SZ
    · rw [if_pos hm] at q
      refine op_catA pins s σ H _ _ v u Q I rx ry ⟨a, b, vs, ws, rfl, rfl, ha, hb, by rw [← SZ_eq, ra.length, rb.length]; exact hm, fun z => ?_, fun _ z => ?_, fun _ _ p hp => q.tup sr (ra.append rb) hp⟩
      · subst z
        cases ra
        exact q _ _ _ .refl sr (.tup hb rb)
      · subst z
        cases rb
        rw [List.append_nil] at q
        exact q _ _ _ .refl sr (.tup ha ra)
    · rw [if_neg hm] at q; exact False.elim q
  · rename_i i j
    split at q
    · rename_i xs ys h1 h2
      obtain ⟨a, vs, rfl, ha, la, ra⟩ := vx.lst sr h1
      obtain ⟨b, ws, rfl, hb, lb, rb⟩ := vy.lst sr h2
      by_cases hm : xs.length + ys.length ≤ SZ
      · rw [if_pos hm] at q
        exact op_cat pins s σ H _ _ v u Q I rx ry ⟨a, b, vs, ws, rfl, rfl, la, lb, by rw [← SZ_eq, ra.length, rb.length]; exact hm, fun p hp => q.lst sr (ra.append rb) hp⟩
      · rw [if_neg hm] at q; exact False.elim q
    · exact False.elim q
  · rename_i i k
    split at q
    · rename_i xs h1
      obtain ⟨a, vs, rfl, ha, la, ra⟩ := vx.lst sr h1
      obtain rfl := vy.inv_int
      by_cases hm : -(2 ^ 63) ≤ k ∧ k < 2 ^ 63 ∧ xs.length * k.toNat ≤ SZ
      · rw [if_pos hm] at q
        exact op_rep pins s σ H _ _ v u Q I rx ry ⟨a, k, vs, rfl, rfl, la, hm.1, hm.2.1, by rw [← SZ_eq, ra.length]; exact hm.2.2, fun p hp => q.lst sr (ra.rep _) hp⟩
      · rw [if_neg hm] at q; exact False.elim q
    · exact False.elim q
  · exact False.elim q
theorem binD_noexn {op : Operator} {d e : D} {S : Store} (x : Xn) (S' : Store) : binD op d e S ≠ .exn x S' := by
  unfold binD
  repeat' split
  all_goals (intro h; cases h)
theorem un_unD {op : UnaryOp} : UnR X (unaryOp op) (rUn1 X.K (unD op)) := by
  intro pins s σ H x v Q I rx h
  obtain ⟨α, S, d, sr, vx, q⟩ := h
  unfold unD at q
  split at q
  · obtain rfl := vx.inv_int
    exact un_neg pins s σ H _ v Q I rx ⟨_, rfl, q.int sr⟩
  · exact False.elim q
theorem unD_noexn {op : UnaryOp} {d : D} {S : Store} (x : Xn) (S' : Store) : unD op d S ≠ .exn x S' := by
  unfold unD
  split <;> (intro h; cases h)
end

/-! ### comparisons -/
def cmpV (op : CmpOp) (a b : D) (S : Store) : R D := (cmpD op a b S).bind fun k S3 => .ok (.bl k) S3
section
variable {X : Cx}
theorem deepLt (hu : X.A.units + 65 < cLine) {op : CmpOp} {f : PyData → PyData → Bool}
    (rule : ∀ {s : Shared} {a b : Value} {da db : PyData} {as bs : List Addr} {Q : Value → Shared → Prop}, Reads s.heap a da as → Reads s.heap b db bs → PySem.W.alike da db = true → da ≠ .none → X.A.units + min da.depth db.depth < cLine → Q (.bool (f da db)) s →
      wpAny (model X.prog X.w) X.A (compareOp op a b) Q X.xe s) :
    OpR X (compareOp op) (fun x y H Q => ∃ p q, Dp X.K H x p ∧ Dp X.K H y q ∧ PySem.W.alike p q = true ∧ p ≠ .none ∧ SeqAt.shaped p = true ∧ Q (.bl (f p q)) H) := by
  intro pins s σ H x y v u Q I rx ry h
  obtain ⟨p, q, hp, hq, al, nn, sh, k⟩ := h
  obtain ⟨as, r1⟩ := Dp.reads I p x v hp rx
  obtain ⟨bs, r2⟩ := Dp.reads I q y u hq ry
  refine rule r1 r2 al nn ?_ ⟨.bl _, H, I, rfl, k⟩
  have := SeqAt.depth_of_shaped sh
  have h2 : min p.depth q.depth ≤ p.depth := Nat.min_le_left _ _
  omega
theorem ofO_cmp {K : PySem.W.Frag} {S : Store} {H : Hp} {α : List Addr} {Q : VK} {o : Option Bool} (sr : SR K S H α) (h : AfV K (relV K) ((R.ofO S o).bind fun k S3 => .ok (.bl k) S3) H α Q) : ∃ b, o = some b ∧ Q (.bl b) H := by
  cases o with
  | none => exact False.elim h
  | some b => exact ⟨b, rfl, h.bl sr⟩
theorem map_not {o : Option Bool} {b : Bool} (h : o.map not = some b) : ∃ c, o = some c ∧ b = !c := by
  cases o with
  | none => cases h
  | some c => cases h; exact ⟨c, rfl, rfl⟩
/-- what == tells, by cases -/
theorem eqD_cases {K : PySem.W.Frag} {H : Hp} {α : List Addr} {S : Store} (sr : SR K S H α) {x y : V} {d e : D} {b : Bool} (rx : VR K H α x d) (ry : VR K H α y e) (h : eqD d e S = some b) :
    (scal x y = true ∧ b = decide (x = y)) ∨ ∃ p q, Dp K H x p ∧ Dp K H y q ∧ SeqAt.shaped p = true ∧ SeqAt.shaped q = true ∧ b = PyData.eqv p q := by
  unfold eqD at h
  split at h
  · obtain rfl := rx.inv_int; obtain rfl := ry.inv_int
    rename_i i j
    refine .inl ⟨rfl, ?_⟩
    cases h
    by_cases e : i = j
    · subst e; simp
    · simp [e]
  · obtain rfl := rx.inv_str; obtain rfl := ry.inv_str
    rename_i i j
    refine .inl ⟨rfl, ?_⟩
    cases h
    by_cases e : i = j
    · subst e; simp
    · simp [e]
  · split at h
    · rename_i p q h1 h2
      split at h
      · rename_i h3
        cases h
        rw [Bool.and_eq_true] at h3
        exact .inr ⟨p, q, rx.asP sr h1, ry.asP sr h2, h3.1, h3.2, rfl⟩
      · cases h
    · cases h
mutual
theorem alike_symm : ∀ p q : PyData, PySem.W.alike p q = true → PySem.W.alike q p = true
  | .list xs, q, h => by
    cases q with
    | list ys => rw [PySem.W.alike] at h ⊢; exact alikeAll_symm xs ys h
    | _ => simp [PySem.W.alike] at h
  | .tuple xs, q, h => by
    cases q with
    | tuple ys => rw [PySem.W.alike] at h ⊢; exact alikeAll_symm xs ys h
    | _ => simp [PySem.W.alike] at h
  | .none, q, h => by cases q <;> simp_all [PySem.W.alike]
  | .bool _, q, h => by cases q <;> simp_all [PySem.W.alike]
  | .int _, q, h => by cases q <;> simp_all [PySem.W.alike]
  | .str _, q, h => by cases q <;> simp_all [PySem.W.alike]
  | .dict _, q, h => by cases q <;> simp_all [PySem.W.alike]
theorem alikeAll_symm : ∀ xs ys : List PyData, PySem.W.alikeAll xs ys = true → PySem.W.alikeAll ys xs = true
  | [], ys, _ => by cases ys <;> simp [PySem.W.alikeAll]
  | _ :: _, [], _ => by simp [PySem.W.alikeAll]
  | x :: xs, y :: ys, h => by
    rw [PySem.W.alikeAll, Bool.and_eq_true] at h ⊢
    exact ⟨alike_symm x y h.1, alikeAll_symm xs ys h.2⟩
end
/-- what < tells, by cases -/
theorem ltD_cases {K : PySem.W.Frag} {H : Hp} {α : List Addr} {S : Store} (sr : SR K S H α) {x y : V} {d e : D} {b : Bool} (rx : VR K H α x d) (ry : VR K H α y e) (h : ltD d e S = some b) :
    (∃ i j, x = .int i ∧ y = .int j ∧ b = decide (i < j)) ∨ ∃ p q, Dp K H x p ∧ Dp K H y q ∧ PySem.W.alike p q = true ∧ PySem.W.alike q p = true ∧ p ≠ .none ∧ q ≠ .none ∧ SeqAt.shaped p = true ∧ SeqAt.shaped q = true ∧ b = PySem.W.dataLt p q := by
  unfold ltD at h
  split at h
  · obtain rfl := rx.inv_int; obtain rfl := ry.inv_int
    cases h
    exact .inl ⟨_, _, rfl, rfl, rfl⟩
  · split at h
    · rename_i p q h1 h2
      by_cases h3 : (PySem.W.alike p q && SeqAt.shaped p && SeqAt.shaped q && notNone p) = true
      · rw [if_pos h3] at h
        cases h
        rw [Bool.and_eq_true, Bool.and_eq_true, Bool.and_eq_true] at h3
        obtain ⟨⟨⟨h3, h4⟩, h5⟩, h6⟩ := h3
        have n1 : p ≠ .none := by rintro rfl; simp [notNone] at h6
        have n2 : q ≠ .none := by
          rintro rfl
          cases p <;> simp [PySem.W.alike, notNone] at h3 h6
        exact .inr ⟨p, q, rx.asP sr h1, ry.asP sr h2, h3, alike_symm p q h3, n1, n2, h4, h5, rfl⟩
      · rw [if_neg h3] at h
        cases h
    · cases h
/-- what `in` tells -/
theorem inD_cases {K : PySem.W.Frag} {H : Hp} {α : List Addr} {S : Store} (sr : SR K S H α) {x y : V} {d e : D} {b : Bool} (rx : VR K H α x d) (ry : VR K H α y e) (h : inD d e S = some b) :
    ∃ p qs, Dp K H x p ∧ (Dp K H y (.list qs) ∨ Dp K H y (.tuple qs)) ∧ SeqAt.shaped p = true ∧ SeqAt.shaped (.list qs) = true ∧ b = qs.any fun q => PyData.eqv q p := by
  unfold inD at h
  split at h
  · rename_i ds hs
    split at h
    · rename_i p qs h1 h2
      by_cases h3 : (SeqAt.shaped p && SeqAt.shaped (.list qs)) = true
      · rw [if_pos h3] at h
        cases h
        rw [Bool.and_eq_true] at h3
        obtain ⟨a, xs, rfl, hq, rs⟩ := seq_ok sr ry hs
        refine ⟨p, qs, rx.asP sr h1, ?_, h3.1, h3.2, rfl⟩
        rcases hq with hq | hq
        · exact .inl (.lst hq (rs.asP sr h2))
        · exact .inr (.tup hq (rs.asP sr h2))
      · rw [if_neg h3] at h; cases h
    · cases h
  · cases h
theorem op_cmpD (hu : X.A.units + 65 < cLine) {op : CmpOp} : OpR X (compareOp op) (rBin X.K (cmpV op)) := by
  intro pins s σ H x y v u Q I rx ry h
  obtain ⟨α, S, d, e, sr, vx, vy, q⟩ := h
  cases op with
  | Eq =>
    obtain ⟨b, hb, q⟩ := ofO_cmp sr q
    rcases eqD_cases sr vx vy hb with ⟨h1, rfl⟩ | ⟨p, r, h1, h2, h3, h4, rfl⟩
    · exact op_eq pins s σ H x y v u Q I rx ry ⟨h1, q⟩
    · exact op_eqD (by omega) pins s σ H x y v u Q I rx ry ⟨p, r, h1, h2, h3, h4, q⟩
  | NotEq =>
    obtain ⟨b, hb, q⟩ := ofO_cmp sr q
    obtain ⟨c, hc, rfl⟩ := map_not hb
    rcases eqD_cases sr vx vy hc with ⟨h1, rfl⟩ | ⟨p, r, h1, h2, h3, h4, rfl⟩
    · exact op_ne pins s σ H x y v u Q I rx ry ⟨h1, q⟩
    · exact op_neD (by omega) pins s σ H x y v u Q I rx ry ⟨p, r, h1, h2, h3, h4, q⟩
  | Lt =>
    obtain ⟨b, hb, q⟩ := ofO_cmp sr q
    rcases ltD_cases sr vx vy hb with ⟨i, j, h1, h2, rfl⟩ | ⟨p, r, h1, h2, h3, h3', h4, h4', h5, h5', rfl⟩
    · exact op_lt pins s σ H x y v u Q I rx ry ⟨i, j, h1, h2, q⟩
    · exact deepLt hu (f := fun p q => PySem.W.dataLt p q) (fun a b c d e f => PySem.W.lt_data a b c d e f) pins s σ H x y v u Q I rx ry ⟨p, r, h1, h2, h3, h4, h5, q⟩
  | Gt =>
    obtain ⟨b, hb, q⟩ := ofO_cmp sr q
    rcases ltD_cases sr vy vx hb with ⟨i, j, h1, h2, rfl⟩ | ⟨p, r, h1, h2, h3, h3', h4, h4', h5, h5', rfl⟩
    · exact op_gt pins s σ H x y v u Q I rx ry ⟨j, i, h2, h1, q⟩
    · exact deepLt hu (f := fun p q => PySem.W.dataLt q p) (fun a b c d e f => PySem.W.gt_data a b c d e f) pins s σ H x y v u Q I rx ry ⟨r, p, h2, h1, h3', h4', h5', q⟩
  | LtE =>
    obtain ⟨b, hb, q⟩ := ofO_cmp sr q
    obtain ⟨c, hc, rfl⟩ := map_not hb
    rcases ltD_cases sr vy vx hc with ⟨i, j, h1, h2, rfl⟩ | ⟨p, r, h1, h2, h3, h3', h4, h4', h5, h5', rfl⟩
    · refine op_le pins s σ H x y v u Q I rx ry ⟨j, i, h2, h1, ?_⟩
      have : (decide (j ≤ i)) = !(decide (i < j)) := by by_cases h : i < j <;> simp [h] <;> omega
      show Q (V.bl (decide (j ≤ i))) H
      rw [this]; exact q
    · exact deepLt hu (f := fun p q => !PySem.W.dataLt q p) (fun a b c d e f => PySem.W.le_data a b c d e f) pins s σ H x y v u Q I rx ry ⟨r, p, h2, h1, h3', h4', h5', q⟩
  | GtE =>
    obtain ⟨b, hb, q⟩ := ofO_cmp sr q
    obtain ⟨c, hc, rfl⟩ := map_not hb
    rcases ltD_cases sr vx vy hc with ⟨i, j, h1, h2, rfl⟩ | ⟨p, r, h1, h2, h3, h3', h4, h4', h5, h5', rfl⟩
    · refine op_ge pins s σ H x y v u Q I rx ry ⟨i, j, h1, h2, ?_⟩
      have : (decide (j ≤ i)) = !(decide (i < j)) := by by_cases h : i < j <;> simp [h] <;> omega
      show Q (V.bl (decide (j ≤ i))) H
      rw [this]; exact q
    · exact deepLt hu (f := fun p q => !PySem.W.dataLt p q) (fun a b c d e f => PySem.W.ge_data a b c d e f) pins s σ H x y v u Q I rx ry ⟨p, r, h1, h2, h3, h4, h5, q⟩
  | Is =>
    obtain ⟨b, hb, q⟩ := ofO_cmp sr q
    unfold isD at hb
    split at hb
    · obtain rfl := vy.inv_non
      refine op_isN pins s σ H x _ v u Q I rx ry ⟨rfl, ?_⟩
      cases hb
      cases vx <;> simpa using q
    · rename_i k
      obtain rfl := vy.inv_bl
      split at hb
      · rename_i j
        obtain rfl := vx.inv_bl
        cases hb
        exact op_isBl pins s σ H _ _ v u Q I rx ry ⟨j, k, rfl, rfl, q⟩
      · cases hb
    · cases hb
  | IsNot =>
    obtain ⟨b, hb, q⟩ := ofO_cmp sr q
    obtain ⟨c, hc, rfl⟩ := map_not hb
    unfold isD at hc
    split at hc
    · obtain rfl := vy.inv_non
      refine op_notN pins s σ H x _ v u Q I rx ry ⟨rfl, ?_⟩
      simp only [Option.some.injEq] at hc
      subst hc
      cases vx <;> simpa using q
    · rename_i k
      obtain rfl := vy.inv_bl
      split at hc
      · rename_i j
        obtain rfl := vx.inv_bl
        simp only [Option.some.injEq] at hc
        subst hc
        exact op_notBl pins s σ H _ _ v u Q I rx ry ⟨j, k, rfl, rfl, q⟩
      · cases hc
    · cases hc
  | In =>
    obtain ⟨b, hb, q⟩ := ofO_cmp sr q
    rcases inD_cases sr vx vy hb with ⟨p, qs, h1, h2, h3, h4, rfl⟩
    obtain ⟨as, r1⟩ := Dp.reads I p x v h1 rx
    rcases h2 with h2 | h2
    · obtain ⟨bs, r2⟩ := Dp.reads I _ y u h2 ry
      exact SeqAt.in_list_reads r2 r1 (SeqAt.canLay_of_shaped h4) (SeqAt.canLay_of_shaped h3) (room_in_shaped h3 hu) ⟨.bl _, H, I, rfl, q⟩
    · obtain ⟨bs, r2⟩ := Dp.reads I _ y u h2 ry
      exact SeqAt.in_tuple_reads r2 r1 (SeqAt.canLay_of_shaped h4) (SeqAt.canLay_of_shaped h3) (room_in_shaped h3 hu) ⟨.bl _, H, I, rfl, q⟩
  | NotIn =>
    obtain ⟨b, hb, q⟩ := ofO_cmp sr q
    obtain ⟨c, hc, rfl⟩ := map_not hb
    rcases inD_cases sr vx vy hc with ⟨p, qs, h1, h2, h3, h4, rfl⟩
    obtain ⟨as, r1⟩ := Dp.reads I p x v h1 rx
    rcases h2 with h2 | h2
    · obtain ⟨bs, r2⟩ := Dp.reads I _ y u h2 ry
      exact SeqAt.notIn_list_reads r2 r1 (SeqAt.canLay_of_shaped h4) (SeqAt.canLay_of_shaped h3) (room_in_shaped h3 hu) ⟨.bl _, H, I, rfl, q⟩
    · obtain ⟨bs, r2⟩ := Dp.reads I _ y u h2 ry
      exact SeqAt.notIn_tuple_reads r2 r1 (SeqAt.canLay_of_shaped h4) (SeqAt.canLay_of_shaped h3) (room_in_shaped h3 hu) ⟨.bl _, H, I, rfl, q⟩
theorem cmpD_noexn {op : CmpOp} {d e : D} {S : Store} (x : Xn) (S' : Store) : cmpD op d e S ≠ .exn x S' := by
  have key : ∀ o : Option Bool, R.ofO S o ≠ .exn x S' := fun o => by cases o <;> (intro h; cases h)
  cases op <;> exact key _
theorem cmpV_noexn {op : CmpOp} {d e : D} {S : Store} (x : Xn) (S' : Store) : cmpV op d e S ≠ .exn x S' := by
  unfold cmpV
  cases h : cmpD op d e S with
  | ok a S1 => intro h; cases h
  | exn x' S1 => exact absurd h (cmpD_noexn x' S1)
  | bad => intro h; cases h

/-! ### subscripts, slices -/
theorem VRs.atI {K : PySem.W.Frag} {H : Hp} {α : List Addr} {xs : List V} {ds : List D} {i : Int} {d : D} (r : VRs K H α xs ds) (h : L2.atI ds i = some d) : ∃ v, L2.atI xs i = some v ∧ VR K H α v d := by
  unfold L2.atI at h ⊢
  rw [r.length]
  cases hj : ixN ds.length i with
  | none => rw [hj] at h; cases h
  | some j =>
    rw [hj] at h
    exact r.get (i := j) h
theorem ix_ixD : IxR X (rBin X.K ixD) := by
  intro value slice pins s σ H x y v u Q I rx ry h hsub
  obtain ⟨α, S, d, e, sr, vx, vy, q⟩ := h
  unfold ixD at q
  split at q
  · rename_i i
    obtain rfl := vy.inv_int
    split at q
    · rename_i ds hs
      obtain ⟨a, xs, rfl, hq, rs⟩ := seq_ok sr vx hs
      cases hd : L2.atI ds i with
      | none => unfold ixL at q; rw [hd] at q; exact False.elim q
      | some d1 =>
        unfold ixL at q; rw [hd] at q
        obtain ⟨w, hw, rw'⟩ := rs.atI hd
        have q' : Q w H := q _ _ _ .refl sr rw'
        rcases hq with hq | hq
        · exact ix_list value slice pins s σ H _ _ v u Q I rx ry ⟨a, xs, i, w, rfl, rfl, hq, hw, q'⟩ hsub
        · exact ix_tup value slice pins s σ H _ _ v u Q I rx ry ⟨a, xs, i, w, rfl, rfl, hq, hw, q'⟩ hsub
    · exact False.elim q
  · exact False.elim q
theorem ixD_noexn {d e : D} {S : Store} (x : Xn) (S' : Store) : ixD d e S ≠ .exn x S' := by
  unfold ixD
  split
  · split
    · cases ixL _ _ <;> (intro h; cases h)
    · intro h; cases h
  · intro h; cases h
def rSlD (K : PySem.W.Frag) : V → Option Int → Option Int → Hp → VK → Prop := fun x lo hi H Q => ∃ α S d, SR K S H α ∧ VR K H α x d ∧ AfV K (relV K) (slD d lo hi S) H α Q
theorem cut_ok {K : PySem.W.Frag} {H : Hp} {α : List Addr} {xs : List V} {ds : List D} (r : VRs K H α xs ds) (lo hi : Option Int) : VRs K H α (cutV xs lo hi) (cutD ds lo hi) := by
  unfold cutV cutD
  rw [r.length]
  exact (r.drop _).take _
theorem sl_slD : SlR X (rSlD X.K) := by
  intro pins s σ H x v vl vu lo hi sl Q I rx hs pl pu h
  obtain ⟨α, S, d, sr, vx, q⟩ := h
  unfold slD at q
  split at q
  · obtain ⟨a, xs, rfl, ha, r⟩ := vx.inv_tup
    refine sl_tupA pins s σ H _ v vl vu lo hi sl Q I rx hs pl pu ⟨a, xs, rfl, ha, fun hw => ?_, fun _ p hp => q.tup sr (cut_ok r lo hi) hp⟩
    rename_i ds
    have e : cutD ds lo hi = ds := by
      unfold cutD
      rw [← r.length, hw.1, hw.2, List.drop_zero, Nat.sub_zero]
      exact List.take_of_length_le (by rw [r.length]; exact Nat.le_refl _)
    rw [e] at q
    exact q _ _ _ .refl sr (.tup ha r)
  · obtain ⟨a, xs, rfl, ha, r⟩ := vx.inv_ilst
    exact sl_list pins s σ H _ v vl vu lo hi sl Q I rx hs pl pu ⟨a, xs, rfl, ha.sq, fun p hp => q.lst sr (cut_ok r lo hi) hp⟩
  · split at q
    · rename_i hc
      obtain ⟨a, xs, rfl, ha, la, r⟩ := vx.lst sr hc
      exact sl_list pins s σ H _ v vl vu lo hi sl Q I rx hs pl pu ⟨a, xs, rfl, .inl (.inl la), fun p hp => q.lst sr (cut_ok r lo hi) hp⟩
    · exact False.elim q
  · exact False.elim q
theorem slD_noexn {d : D} {lo hi : Option Int} {S : Store} (x : Xn) (S' : Store) : slD d lo hi S ≠ .exn x S' := by
  unfold slD alloc
  repeat' split
  all_goals (intro h; cases h)
end
/-- a value's truth -/
theorem truD_ok {K : PySem.W.Frag} {H : Hp} {α : List Addr} {S : Store} (sr : SR K S H α) {x : V} {d : D} {k : Bool} (r : VR K H α x d) (h : truD d S = some k) : TruV K x H k := by
  have isE : ∀ {xs : List V} {ds : List D}, VRs K H α xs ds → (!ds.isEmpty) = !xs.isEmpty := fun r => by cases r <;> rfl
  cases r with
  | non => simp only [truD, Option.some.injEq] at h; exact h.symm
  | bl b => simp only [truD, Option.some.injEq] at h; exact h.symm
  | int i => simp only [truD, Option.some.injEq] at h; exact h.symm
  | str x =>
    simp only [truD] at h
    by_cases hl : x.length ≤ SZ
    · rw [if_pos hl] at h
      simp only [Option.some.injEq] at h
      exact ⟨by rw [← SZ_eq]; exact hl, h.symm⟩
    · rw [if_neg hl] at h; cases h
  | tup ha r =>
    simp only [truD, Option.some.injEq] at h
    exact .inr (.inl ⟨_, ha, by rw [← h]; exact isE r⟩)
  | ilst ha r =>
    simp only [truD, Option.some.injEq] at h
    exact .inl ⟨_, ha.sq, by rw [← h]; exact isE r⟩
  | @loc i a ha =>
    simp only [truD] at h
    cases hc : S[i]? with
    | none => simp [hc] at h
    | some c =>
      have cr := sr.cell i c a hc ha
      cases c with
      | lst ds =>
        simp only [hc, Option.some.injEq] at h
        obtain ⟨xs, e, t⟩ := cr
        exact .inl ⟨xs, .inl (.inl e), by rw [← h]; exact isE t⟩
      | dct _ => simp [hc] at h
      | set _ => simp [hc] at h
end Ev
end

section
/-! Built-in functions and methods, by values. -/
namespace Ev
open PySem PySem.Spec PyProof.Rows L2

/-! ### the sort -/
section
variable {β : Type} (k : β → PyData)
def insB (x : β) : List β → List β
  | [] => [x]
  | y :: ys => if PySem.W.dataLt (k y) (k x) then y :: insB x ys else x :: y :: ys
def sortB : List β → List β
  | [] => []
  | x :: xs => insB k x (sortB xs)
abbrev leB : β → β → Bool := PySem.W.dataLe false k
theorem leB_iff (a b : β) : leB k a b = !PySem.W.dataLt (k b) (k a) := rfl
theorem leB_total : PySem.W.TotalLe (leB k) := PySem.W.sortLe_total _ _ _
theorem insB_perm (x : β) : ∀ ys : List β, (insB k x ys).Perm (x :: ys)
  | [] => .refl _
  | y :: ys => by
    unfold insB
    split
    · exact ((insB_perm x ys).cons y).trans (.swap x y ys)
    · exact .refl _
theorem insB_sorted (x : β) : ∀ ys : List β, ys.Pairwise (fun a b => leB k a b = true) → (insB k x ys).Pairwise (fun a b => leB k a b = true)
  | [], _ => by simp [insB]
  | y :: ys, h => by
    unfold insB
    rw [List.pairwise_cons] at h
    split
    · rename_i hlt
      refine List.pairwise_cons.mpr ⟨fun z hz => ?_, insB_sorted x ys h.2⟩
      rcases List.mem_cons.mp ((insB_perm k x ys).mem_iff.mp hz) with rfl | hz
      · rcases (leB_total k).total y z with t | t
        · exact t
        · rw [leB_iff, hlt] at t; cases t
      · exact h.1 z hz
    · rename_i hlt
      have hxy : leB k x y = true := by rw [leB_iff]; simp [hlt]
      refine List.pairwise_cons.mpr ⟨fun z hz => ?_, List.pairwise_cons.mpr h⟩
      rcases List.mem_cons.mp hz with rfl | hz
      · exact hxy
      · exact (leB_total k).trans x y z hxy (h.1 z hz)
theorem insB_filter (x c : β) : ∀ ys : List β, (insB k x ys).filter (PySem.W.sameRank (leB k) c) = (x :: ys).filter (PySem.W.sameRank (leB k) c)
  | [] => rfl
  | y :: ys => by
    unfold insB
    split
    · rename_i hlt
      rw [List.filter_cons, insB_filter x c ys, List.filter_cons, List.filter_cons, List.filter_cons]
      by_cases hx : PySem.W.sameRank (leB k) c x = true
      · have hy : ¬ PySem.W.sameRank (leB k) c y = true := fun hy => by
          unfold PySem.W.sameRank at hx hy
          rw [Bool.and_eq_true] at hx hy
          have := (leB_total k).trans x c y hx.2 hy.1
          rw [leB_iff, hlt] at this
          cases this
        rw [if_neg hy, if_pos hx, if_pos hx, if_neg hy]
      · rw [if_neg hx, if_neg hx]
    · rfl
theorem sortB_eq (l : List β) : sortB k l = l.mergeSort (leB k) := by
  refine PySem.W.sort_unique (leB_total k) ?_ fun c => ?_
  · induction l with
    | nil => exact .nil
    | cons x xs ih => exact insB_sorted k x _ ih
  · induction l with
    | nil => rfl
    | cons x xs ih =>
      show (insB k x (sortB k xs)).filter _ = _
      rw [insB_filter, List.filter_cons, ih, List.filter_cons]
theorem insB_map {γ : Type} (f : γ → β) (x : γ) : ∀ ys : List γ, (insB (fun z => k (f z)) x ys).map f = insB k (f x) (ys.map f)
  | [] => rfl
  | y :: ys => by
    unfold insB
    rw [List.map_cons]
    show List.map f (if _ then _ else _) = if _ then _ else _
    split
    · rw [List.map_cons, insB_map f x ys]
    · rfl
theorem sortB_map {γ : Type} (f : γ → β) : ∀ l : List γ, (sortB (fun z => k (f z)) l).map f = sortB k (l.map f)
  | [] => rfl
  | x :: xs => by
    show (insB (fun z => k (f z)) x (sortB (fun z => k (f z)) xs)).map f = insB k (f x) (sortB k (xs.map f))
    rw [insB_map, sortB_map f xs]
theorem sortB_perm : ∀ l : List β, (sortB k l).Perm l
  | [] => .refl _
  | x :: xs => (insB_perm k x _).trans ((sortB_perm xs).cons x)
end
theorem insP_eq (x : D × PyData) : ∀ ys, insP x ys = insB (fun z : D × PyData => z.2) x ys
  | [] => rfl
  | y :: ys => by
    unfold insP insB
    rw [insP_eq x ys]
theorem sortP_eq : ∀ l, sortP l = sortB (fun z : D × PyData => z.2) l
  | [] => rfl
  | x :: xs => by
    unfold sortP sortB
    rw [sortP_eq xs, insP_eq]

mutual
theorem reads_there {h : Heap} : ∀ (d : PyData) (v : Value) (as : List Addr), Reads h v d as → ∀ a ∈ as, ∃ o, h.get? a = some o
  | .none, _, _, r, a, ha => by cases r; cases ha
  | .bool _, _, _, r, a, ha => by cases r; cases ha
  | .int _, _, _, r, a, ha => by cases r; cases ha
  | .str _, _, _, r, a, ha => by cases r; cases ha
  | .list xs, _, _, r, a, ha => by
    cases r with
    | list h1 h2 h3 h4 =>
      rcases List.mem_cons.mp ha with rfl | ha
      · exact ⟨_, h1⟩
      · exact readsAll_there xs _ _ h4 a ha
  | .tuple xs, _, _, r, a, ha => by
    cases r with
    | tuple h1 h2 h3 h4 => exact readsAll_there xs _ _ h4 a ha
  | .dict kvs, _, _, r, a, ha => by
    cases r with
    | dict h1 h2 h3 h4 h5 =>
      rcases List.mem_cons.mp ha with rfl | ha
      · exact ⟨_, h1⟩
      · rcases List.mem_append.mp ha with ha | ha
        · exact readsKeys_there kvs _ _ h4 a ha
        · exact readsVals_there kvs _ _ h5 a ha
theorem readsAll_there {h : Heap} : ∀ (ds : List PyData) (vs : List Value) (as : List Addr), ReadsAll h vs ds as → ∀ a ∈ as, ∃ o, h.get? a = some o
  | [], _, _, r, a, ha => by cases r; cases ha
  | d :: ds, _, _, r, a, ha => by
    cases r with
    | cons h1 h2 =>
      rcases List.mem_append.mp ha with ha | ha
      · exact reads_there d _ _ h1 a ha
      · exact readsAll_there ds _ _ h2 a ha
theorem readsKeys_there {h : Heap} : ∀ (kvs : List (PyData × PyData)) (vs : List Value) (as : List Addr), ReadsAll h vs (kvs.map (·.1)) as → ∀ a ∈ as, ∃ o, h.get? a = some o
  | [], _, _, r, a, ha => by cases r; cases ha
  | (d, e) :: ds, _, _, r, a, ha => by
    cases r with
    | cons h1 h2 =>
      rcases List.mem_append.mp ha with ha | ha
      · exact reads_there d _ _ h1 a ha
      · exact readsKeys_there ds _ _ h2 a ha
theorem readsVals_there {h : Heap} : ∀ (kvs : List (PyData × PyData)) (vs : List Value) (as : List Addr), ReadsAll h vs (kvs.map (·.2)) as → ∀ a ∈ as, ∃ o, h.get? a = some o
  | [], _, _, r, a, ha => by cases r; cases ha
  | (d, e) :: ds, _, _, r, a, ha => by
    cases r with
    | cons h1 h2 =>
      rcases List.mem_append.mp ha with ha | ha
      · exact reads_there e _ _ h1 a ha
      · exact readsVals_there ds _ _ h2 a ha
end
section
variable {prog : Program} {w : World} {A : Around} {E : Value → Shared → Prop} {s : Shared}
/-- the items of a list or a tuple, laid into a list of their own; the heap only grows -/
theorem collect_any {Q : List Value → Shared → Prop} (it : Addr) {T : String} {o : Obj} {xs : Array Value} {n : Nat} (kind : T = "list" ∨ T = "tuple")
    (e1 : s.heap.get? it = some o) (e2 : o.cls = .type T) (e3 : o.data = .seq xs n) (len : xs.size ≤ sizeLine)
    (goal : ∀ g : Heap, s.heap.objs.size ≤ g.objs.size → (∀ b u, s.heap.get? b = some u → g.get? b = some u) → Q xs.toList { s with heap := g }) :
    wpAny (model prog w) A (collect (.ref it)) Q E s := by
  generalize hL : s.heap.objs.size = L
  generalize hg : (s.heap.push { cls := .type "list", data := .seq ([] : List Value).toArray }) = g0
  have at0 : g0.get? L = some { cls := .type "list", data := .seq #[] 0 } := by
    subst hg hL
    exact Heap.get?_push_size _ rfl
  have old0 : ∀ b u, s.heap.get? b = some u → g0.get? b = some u := fun b u q => by
    subst hg
    exact Heap.get?_push_of_some _ q
  have at1 := Heap.get?_update_self (Obj.mapSeq (· ++ xs)) at0 rfl
  have done : wpAny (model prog w) A (match Value.ref L with
      | Value.ref a => do
        match (← load a).data with
          | Data.seq xs _ => pure xs.toList
          | _ => unsupported "internal:collect"
      | _ => unsupported "internal:collect") Q E { s with heap := g0.update L (Obj.mapSeq (· ++ xs)) } := by
    refine wpAny_bind (m := load L) (wpAny_load at1 (wpAny_pure ?_))
    have flat : ((#[] : Array Value) ++ xs).toList = xs.toList := by simp
    show Q ((#[] : Array Value) ++ xs).toList _
    rw [flat]
    refine goal _ ?_ fun b u q => ?_
    · rw [Heap.size_update]
      subst hg
      rw [Heap.size_push]
      omega
    · have ne : b ≠ L := by
        rw [← hL]
        exact Nat.ne_of_lt (Heap.lt_size q)
      exact (Heap.get?_update_other _ _ ne.symm).trans (old0 b u q)
  unfold collect
  refine wpAny_bind (wpAny_runValue (codeAny_builtin F.entry_proto_collect ?_))
  rw [Around.under_plainId F.plain_proto_collect _]
  show wpAny _ A.in1 (newList [] >>= fun fresh => again (.builtin "list.__iadd__" ⟨[fresh, .ref it], []⟩)) _ _ s
  refine wpAny_bind (wpAny_newObj_type ?_)
  rw [hg, hL]
  refine wpAny_pure ⟨plainId_quiet F.plain_list_iadd _, codeAny_builtin F.entry_list_iadd ?_⟩
  rw [Around.under_plainId F.plain_list_iadd _]
  show wpAny _ A.in1 (Builtin.List.listExtendWith (.ref L) (.ref it) (.ref L)) _ _ _
  refine wpAny_mono (wpAny_extend_seq (hsz := len) (A := A) (R := fun r t => r = .ok (.ret (.ref L)) ∧ t = { s with heap := g0.update L (Obj.mapSeq (· ++ xs)) })
    (s := { s with heap := g0 }) _ it _ 0 kind at0 (old0 _ _ e1) e2 e3 ⟨rfl, rfl⟩) (fun fin t ht => ?_) (fun _ _ ht => absurd ht.1 (by simp))
  cases fin with
  | done f =>
    obtain ⟨q, rfl⟩ := ht
    cases q
    exact done
  | again c =>
    refine ⟨ht.1, codeAny_mono ht.2 fun r t hr => ?_⟩
    obtain ⟨rfl, rfl⟩ := hr
    exact done
/-- sorted of a list or a tuple whose items are data -/
theorem sorted_any {β : Type} {R : Value → β → Prop} {enc : β → PyData} {bs : List β} {it : Addr} {T : String} {o : Obj} {vs : List Value} {n : Nat} {Q : Value → Shared → Prop} (hT : T = "list" ∨ T = "tuple")
    (ho : s.heap.get? it = some o) (hc : o.cls = .type T) (hd : o.data = .seq vs.toArray n) (e : PySem.W.EachIs R vs bs) (er : PySem.W.EachIs (fun v b => ∃ as, Reads s.heap v (enc b) as) vs bs)
    (hal : PySem.W.AllAlike (bs.map enc)) (hk : PySem.W.Sortable (bs.map enc)) (hL : bs.length ≤ sizeLine) (hu : ∀ b, b ∈ bs → A.units + 2 + (enc b).depth < cLine)
    (h : ∀ (h' : Heap) (p : Addr) (out : List Value) (ep : Nat), (∀ b u, s.heap.get? b = some u → h'.get? b = some u) → s.heap.objs.size ≤ p → h'.get? p = some { cls := .type "list", data := .seq out.toArray ep } → PySem.W.EachIs R out (bs.mergeSort (leB enc)) → Q (.ref p) { s with heap := h' }) :
    wpAny (model prog w) A (call (.builtin "sorted") [.ref it]) Q E s := by
  have hl : vs.length ≤ sizeLine := by rw [e.length]; exact hL
  refine call_function_entry_kw kind_sorted plain_sorted entry_sorted (args_sorted1 _) ?_
  unfold Builtin.«sorted»
  refine wpAny_bind (m := checkCount "sorted" 1 1 _) (wpAny_pure ?_)
  refine wpAny_bind (collect_any it hT ho hc hd (by rw [List.size_toArray]; exact hl) fun h1 nk k1 => ?_)
  refine wpAny_bind (wpAny_newList ?_ hl)
  have kk : ∀ b u, s.heap.get? b = some u → (h1.push { cls := .type "list", data := .seq vs.toArray }).get? b = some u := fun b u q => Heap.get?_push_of_some _ (k1 b u q)
  have ho2 : (h1.push { cls := .type "list", data := .seq vs.toArray }).get? h1.objs.size = some (seqObj "list" vs.toArray 0) := Heap.get?_push_size _ rfl
  show wpAny (model prog w) A.in1 (do let _ ← holding [Value.ref h1.objs.size] (call (.builtin "list.sort") [Value.ref h1.objs.size]); ret (.ref h1.objs.size)) _ _ { s with heap := h1.push { cls := .type "list", data := .seq vs.toArray } }
  refine wpAny_bind (wpAny_holding (PySem.W.list_sort_data (s := { s with heap := h1.push { cls := .type "list", data := .seq vs.toArray } }) (R := R) (enc := enc) (bs := bs) ho2 e ?_ hal hk hL ?_ fun out hlen eo => ?_))
  · refine er.mono fun v b ⟨as, r⟩ => ⟨as, PyProof.Rows.Reads.keeps kk r, fun hm => ?_⟩
    obtain ⟨u, hu⟩ := reads_there _ _ _ r _ hm
    exact absurd (Nat.lt_of_lt_of_le (Heap.lt_size hu) nk) (Nat.lt_irrefl _)
  · intro b hb
    have := hu b hb
    show A.units + 1 + 1 + _ < cLine
    omega
  · obtain ⟨ep, he⟩ := sortedHeap_at (out := out.toArray) ho2
    refine wpAny_pure ⟨_, rfl, h _ h1.objs.size out ep (fun b u q => ?_) nk he eo⟩
    have hb : b ≠ h1.objs.size := Nat.ne_of_lt (Nat.lt_of_lt_of_le (Heap.lt_size q) nk)
    rw [sortedHeap_old hb (Heap.lt_size (kk b u q))]
    exact kk b u q
end
end Ev
end

section
/-! Calls of built-ins by data. -/
namespace Ev
open PySem PySem.Spec PyProof.Rows L2

def rCall (K : PySem.W.Frag) (f : List D → Store → R D) : List V → Hp → VK → Prop := fun xs H Q => ∃ α S ds, SR K S H α ∧ VRs K H α xs ds ∧ AfV K (relV K) (f ds S) H α Q
def tyName : Ty → String
  | .int => "int" | .bool => "bool" | .str => "str" | .tuple => "tuple" | .list => "list" | .dict => "dict"
def bltVal : Blt → Value
  | .len => .builtin "len" | .int => .type "int" | .bool => .type "bool" | .all => .builtin "all" | .any => .builtin "any" | .tuple => .type "tuple" | .list => .type "list"
  | .sorted => .builtin "sorted" | .max2 => .builtin "max" | .min2 => .builtin "min" | .sum => .builtin "sum" | .abs => .builtin "abs"

section
variable {K : PySem.W.Frag} {H : Hp} {α : List Addr} {S : Store}
theorem lst_ok (sr : SR K S H α) {v : V} {d : D} {ds : List D} (r : VR K H α v d) (h : lstOf S d = some ds) : ∃ a xs, v = .ref a ∧ SqL K H a xs ∧ VRs K H α xs ds := by
  cases r with
  | ilst ht t => simp only [lstOf, Option.some.injEq] at h; subst h; exact ⟨_, _, rfl, ht.sq, t⟩
  | @loc i a ha =>
    simp only [lstOf] at h
    cases hc : S[i]? with
    | none => simp [hc] at h
    | some c =>
      have cr := sr.cell i c a hc ha
      cases c with
      | lst es =>
        simp only [hc, Option.some.injEq] at h
        subst h
        obtain ⟨xs, e, t⟩ := cr
        exact ⟨a, xs, rfl, .inl (.inl e), t⟩
      | dct _ => simp [hc] at h
      | set _ => simp [hc] at h
  | _ => simp [lstOf] at h
theorem bools_ok : ∀ {xs : List V} {ds : List D} {bs : List Bool}, VRs K H α xs ds → bools ds = some bs → xs = bs.map V.bl
  | _, _, bs, .nil, h => by simp only [bools, Option.some.injEq] at h; subst h; rfl
  | _, _, bs, .cons (d := d) (ds := ds) r t, h => by
    cases d with
    | bl b =>
      simp only [bools] at h
      cases q : bools ds with
      | none => simp [q] at h
      | some cs =>
        simp only [q, Option.some.injEq] at h
        subst h
        rw [r.inv_bl, bools_ok t q]; rfl
    | _ => simp [bools] at h
theorem ints_ok : ∀ {xs : List V} {ds : List D} {bs : List Int}, VRs K H α xs ds → intsOf ds = some bs → xs = bs.map V.int
  | _, _, bs, .nil, h => by simp only [intsOf, Option.some.injEq] at h; subst h; rfl
  | _, _, bs, .cons (d := d) (ds := ds) r t, h => by
    cases d with
    | int b =>
      simp only [intsOf] at h
      cases q : intsOf ds with
      | none => simp [q] at h
      | some cs =>
        simp only [q, Option.some.injEq] at h
        subst h
        rw [r.inv_int, ints_ok t q]; rfl
    | _ => simp [intsOf] at h
theorem seq_len (sr : SR K S H α) {v : V} {d : D} {ds : List D} (r : VR K H α v d) (h : seqOf S d = some ds) : ∃ a xs, v = .ref a ∧ (SqL K H a xs ∨ SqT K H a xs) ∧ xs.length = ds.length := by
  obtain ⟨a, xs, e, q, t⟩ := seq_ok sr r h
  exact ⟨a, xs, e, q, t.length⟩
end

section
variable {X : Cx}
theorem one_arg {K : PySem.W.Frag} {H : Hp} {α : List Addr} {S : Store} {xs : List V} {ds : List D} {f : List D → Store → R D} {Q : VK} (vr : VRs K H α xs ds) (q : AfV K (relV K) (f ds S) H α Q) (h0 : f [] S = .bad) (h2 : ∀ a b r, f (a :: b :: r) S = .bad) :
    ∃ v d, xs = [v] ∧ ds = [d] ∧ VR K H α v d := by
  cases vr with
  | nil => rw [h0] at q; exact False.elim q
  | cons r t =>
    cases t with
    | nil => exact ⟨_, _, rfl, rfl, r⟩
    | cons r2 t2 => rw [h2] at q; exact False.elim q
theorem cr_len : CallR X (.builtin "len") (rCall X.K (bltD .len)) := by
  intro pins s σ H xs us Q I r h
  obtain ⟨α, S, ds, sr, vr, q⟩ := h
  obtain ⟨v, d, rfl, rfl, r1⟩ := one_arg vr q rfl fun _ _ _ => rfl
  simp only [bltD] at q
  split at q
  · rename_i x
    obtain rfl := r1.inv_str
    by_cases hl : x.length ≤ SZ
    · rw [if_pos hl] at q
      exact call_len pins s σ H _ us Q I r ⟨_, x.length, rfl, ⟨by rw [← SZ_eq]; exact hl, rfl⟩, q.int sr⟩
    · rw [if_neg hl] at q; exact False.elim q
  · split at q
    · rename_i es hs
      obtain ⟨a, ys, rfl, hq, hl⟩ := seq_len sr r1 hs
      refine call_len_seq pins s σ H _ us Q I r ⟨a, ys, rfl, hq, ?_⟩
      rw [hl]
      exact q.int sr
    · exact False.elim q
theorem cr_int : CallR X (.type "int") (rCall X.K (bltD .int)) := by
  intro pins s σ H xs us Q I r h
  obtain ⟨α, S, ds, sr, vr, q⟩ := h
  obtain ⟨v, d, rfl, rfl, r1⟩ := one_arg vr q rfl fun a _ _ => by cases a <;> rfl
  cases d with
  | int i =>
    obtain rfl := r1.inv_int
    exact call_int1 pins s σ H _ us Q I r (.inl ⟨i, rfl, AfV.int (i := i) sr q⟩)
  | bl b =>
    obtain rfl := r1.inv_bl
    exact call_int1 pins s σ H _ us Q I r (.inr ⟨b, rfl, AfV.int (i := if b then 1 else 0) sr q⟩)
  | _ => exact False.elim q
theorem cr_bool : CallR X (.type "bool") (rCall X.K (bltD .bool)) := by
  intro pins s σ H xs us Q I r h
  obtain ⟨α, S, ds, sr, vr, q⟩ := h
  obtain ⟨v, d, rfl, rfl, r1⟩ := one_arg vr q rfl fun _ _ _ => rfl
  simp only [bltD] at q
  split at q
  · rename_i i
    obtain rfl := r1.inv_int
    exact call_bool1 pins s σ H _ us Q I r (.inl ⟨i, rfl, q.bl sr⟩)
  · rename_i b
    obtain rfl := r1.inv_bl
    exact call_bool1 pins s σ H _ us Q I r (.inr ⟨b, rfl, q.bl sr⟩)
  · split at q
    · rename_i es hs
      obtain ⟨a, ys, rfl, hq, rs⟩ := lst_ok sr r1 hs
      refine call_boolL pins s σ H _ us Q I r ⟨a, ys, rfl, hq, ?_⟩
      rw [show (!ys.isEmpty) = !es.isEmpty by cases rs <;> rfl]
      exact q.bl sr
    · exact False.elim q
theorem cr_allD (hc : X.calm = true) : CallR X (.builtin "all") (rCall X.K (bltD .all)) := by
  intro pins s σ H xs us Q I r h
  obtain ⟨α, S, ds, sr, vr, q⟩ := h
  obtain ⟨v, d, rfl, rfl, r1⟩ := one_arg vr q rfl fun _ _ _ => rfl
  simp only [bltD] at q
  split at q
  · rename_i es hs
    obtain ⟨a, ys, rfl, hq, rs⟩ := lst_ok sr r1 hs
    cases hb : bools es with
    | none => rw [hb] at q; exact False.elim q
    | some bs =>
      rw [hb] at q
      obtain rfl := bools_ok rs hb
      exact cr_all hc pins s σ H _ us Q I r ⟨a, bs, rfl, hq, AfV.bl (i := bs.all id) sr q⟩
  · exact False.elim q
theorem cr_anyD (hc : X.calm = true) : CallR X (.builtin "any") (rCall X.K (bltD .any)) := by
  intro pins s σ H xs us Q I r h
  obtain ⟨α, S, ds, sr, vr, q⟩ := h
  obtain ⟨v, d, rfl, rfl, r1⟩ := one_arg vr q rfl fun _ _ _ => rfl
  simp only [bltD] at q
  split at q
  · rename_i es hs
    obtain ⟨a, ys, rfl, hq, rs⟩ := lst_ok sr r1 hs
    cases hb : bools es with
    | none => rw [hb] at q; exact False.elim q
    | some bs =>
      rw [hb] at q
      obtain rfl := bools_ok rs hb
      exact cr_any hc pins s σ H _ us Q I r ⟨a, bs, rfl, hq, AfV.bl (i := bs.any id) sr q⟩
  · exact False.elim q
theorem cr_sumD (hc : X.calm = true) : CallR X (.builtin "sum") (rCall X.K (bltD .sum)) := by
  intro pins s σ H xs us Q I r h
  obtain ⟨α, S, ds, sr, vr, q⟩ := h
  obtain ⟨v, d, rfl, rfl, r1⟩ := one_arg vr q rfl fun _ _ _ => rfl
  simp only [bltD] at q
  split at q
  · rename_i es hs
    obtain ⟨a, ys, rfl, hq, rs⟩ := lst_ok sr r1 hs
    cases hb : intsOf es with
    | none => rw [hb] at q; exact False.elim q
    | some bs =>
      rw [hb] at q
      obtain rfl := ints_ok rs hb
      exact cr_sum hc pins s σ H _ us Q I r ⟨a, bs, rfl, hq, AfV.int (i := bs.sum) sr q⟩
  · exact False.elim q
theorem cr_tuple : CallR X (.type "tuple") (rCall X.K (bltD .tuple)) := by
  intro pins s σ H xs us Q I r h
  obtain ⟨α, S, ds, sr, vr, q⟩ := h
  obtain ⟨v, d, rfl, rfl, r1⟩ := one_arg vr q rfl fun _ _ _ => rfl
  simp only [bltD] at q
  split at q
  · rename_i es hs
    obtain ⟨a, ys, rfl, hq, rs⟩ := seq_ok sr r1 hs
    rcases hq with hq | hq
    · exact call_tuple_of pins s σ H _ us Q I r ⟨a, ys, rfl, .inl ⟨hq, fun l hl => q.tup sr rs hl⟩⟩
    · exact call_tuple_of pins s σ H _ us Q I r ⟨a, ys, rfl, .inr ⟨hq, q _ _ _ .refl sr (.tup hq rs)⟩⟩
  · exact False.elim q
theorem cr_list : CallR X (.type "list") (rCall X.K (bltD .list)) := by
  intro pins s σ H xs us Q I r h
  obtain ⟨α, S, ds, sr, vr, q⟩ := h
  obtain ⟨v, d, rfl, rfl, r1⟩ := one_arg vr q rfl fun _ _ _ => rfl
  simp only [bltD] at q
  split at q
  · rename_i es hs
    obtain ⟨a, ys, rfl, hq, rs⟩ := seq_ok sr r1 hs
    exact call_list_of pins s σ H _ us Q I r ⟨a, ys, rfl, hq, fun l hl => q.lst sr rs hl⟩
  · exact False.elim q
theorem cr_abs : CallR X (.builtin "abs") (rCall X.K (bltD .abs)) := by
  intro pins s σ H xs us Q I r h
  obtain ⟨α, S, ds, sr, vr, q⟩ := h
  obtain ⟨v, d, rfl, rfl, r1⟩ := one_arg vr q rfl fun a _ _ => by cases a <;> rfl
  cases d with
  | int i =>
    obtain rfl := r1.inv_int
    exact call_abs pins s σ H _ us Q I r ⟨i, rfl, AfV.int (i := if i < 0 then -i else i) sr q⟩
  | _ => exact False.elim q
theorem two_int {K : PySem.W.Frag} {H : Hp} {α : List Addr} {S : Store} {xs : List V} {ds : List D} {b : Blt} (hb : b = .max2 ∨ b = .min2) {Q : VK} (vr : VRs K H α xs ds) (q : AfV K (relV K) (bltD b ds S) H α Q) :
    ∃ i j, xs = [.int i, .int j] ∧ ds = [.int i, .int j] := by
  cases vr with
  | nil => rcases hb with rfl | rfl <;> exact False.elim q
  | @cons v vs d ds r t =>
    cases t with
    | nil => rcases hb with rfl | rfl <;> cases d <;> exact False.elim q
    | @cons v2 vs2 d2 ds2 r2 t2 =>
      cases t2 with
      | nil =>
        cases d with
        | int i =>
          cases d2 with
          | int j => exact ⟨i, j, by rw [r.inv_int, r2.inv_int], rfl⟩
          | _ => rcases hb with rfl | rfl <;> exact False.elim q
        | _ => rcases hb with rfl | rfl <;> cases d2 <;> exact False.elim q
      | cons r3 t3 => rcases hb with rfl | rfl <;> cases d <;> cases d2 <;> exact False.elim q
theorem cr_max2 (hc : X.calm = true) : CallR X (.builtin "max") (rCall X.K (bltD .max2)) := by
  intro pins s σ H xs us Q I r h
  obtain ⟨α, S, ds, sr, vr, q⟩ := h
  obtain ⟨i, j, rfl, rfl⟩ := two_int (.inl rfl) vr q
  exact call_max2 hc pins s σ H _ us Q I r ⟨i, j, rfl, AfV.int (i := if j > i then j else i) sr q⟩
theorem cr_min2 (hc : X.calm = true) : CallR X (.builtin "min") (rCall X.K (bltD .min2)) := by
  intro pins s σ H xs us Q I r h
  obtain ⟨α, S, ds, sr, vr, q⟩ := h
  obtain ⟨i, j, rfl, rfl⟩ := two_int (.inr rfl) vr q
  exact call_min2 hc pins s σ H _ us Q I r ⟨i, j, rfl, AfV.int (i := if j < i then j else i) sr q⟩

/-! ### isinstance -/
theorem isi_ok {K : PySem.W.Frag} {H : Hp} {α : List Addr} {S : Store} (sr : SR K S H α) {x : V} {d : D} {t : Ty} {b : Bool} (r : VR K H α x d) (h : isiD t d S = some b) :
    ∃ T, TyX K H x (.type T) ∧ PySem.W.kitOne K (.type T) (.type (tyName t)) = some b := by
  cases r with
  | non => refine ⟨_, .base .non, ?_⟩; cases h; cases t <;> rfl
  | bl k => refine ⟨_, .base (.bl k), ?_⟩; cases h; cases t <;> rfl
  | int i => refine ⟨_, .base (.int i), ?_⟩; cases h; cases t <;> rfl
  | str i => refine ⟨_, .base (.str i), ?_⟩; cases h; cases t <;> rfl
  | tup ha _ =>
    refine ⟨"tuple", ?_, ?_⟩
    · rcases ha with (ha | ⟨o, ha⟩) | ⟨o, its, n, hk, hc, _⟩
      · exact .base (.tup ha)
      · exact .fTuple ha
      · exact .kTuple hk hc
    · cases h; cases t <;> rfl
  | ilst ha _ =>
    refine ⟨"list", ?_, ?_⟩
    · rcases ha with ⟨o, ha⟩ | ⟨o, its, n, hk, hc, _⟩
      · exact .base (.frz ha)
      · exact .kList hk hc
    · cases h; cases t <;> rfl
  | @loc i a ha =>
    simp only [isiD] at h
    cases hc : S[i]? with
    | none => simp [hc] at h
    | some c =>
      have cr := sr.cell i c a hc ha
      cases c with
      | lst es =>
        simp only [hc] at h
        obtain ⟨xs, e, _⟩ := cr
        refine ⟨_, .base (.lst e), ?_⟩
        cases h; cases t <;> rfl
      | dct _ => exact False.elim cr
      | set _ => exact False.elim cr

/-! ### sorted -/
theorem each_of_vals {H : Hp} {α : List Addr} {X : Cx} {pins : List (Addr × Obj)} {σ : L2.St} {s : Shared} (I : Inv X pins σ H s) : ∀ {vs : List V} {us : List Value} {ds : List D} {ps : List PyData} {f : Nat → Option PyData},
    (∀ i a p, α[i]? = some a → f i = some p → Dp X.K H (.ref a) p) → Vals vs us → VRs X.K H α vs ds → toPs f ds = some ps →
    ∃ bs : List (V × D × PyData), bs.map (·.2) = ds.zip ps ∧ PySem.W.EachIs (fun u b => RelV b.1 u ∧ VR X.K H α b.1 b.2.1) us bs ∧ PySem.W.EachIs (fun u b => ∃ as, Reads s.heap u b.2.2 as) us bs ∧ ds.length = ps.length
  | _, _, _, ps, f, hf, .nil, .nil, h => by
    simp only [toPs, Option.some.injEq] at h
    subst h
    exact ⟨[], rfl, .nil, .nil, rfl⟩
  | _, _, _, ps, f, hf, .cons r t, .cons (d := d) (ds := ds) vr vt, h => by
    simp only [toPs] at h
    cases q : toP f d with
    | none => simp [q] at h
    | some p =>
      simp only [q] at h
      cases q2 : toPs f ds with
      | none => simp [q2] at h
      | some ps' =>
        simp only [q2, Option.some.injEq] at h
        subst h
        obtain ⟨bs, e1, e2, e3, e4⟩ := each_of_vals I hf t vt q2
        obtain ⟨as, hr⟩ := Dp.reads I p _ _ (vr.dp hf q) r
        exact ⟨(_, d, p) :: bs, by rw [List.map_cons, e1]; rfl, .cons ⟨r, vr⟩ e2, .cons ⟨as, hr⟩ e3, by rw [List.length_cons, List.length_cons, e4]⟩
theorem vals_of_each {K : PySem.W.Frag} {H : Hp} {α : List Addr} : ∀ {us : List Value} {bs : List (V × D × PyData)}, PySem.W.EachIs (fun u b => RelV b.1 u ∧ VR K H α b.1 b.2.1) us bs → Vals (bs.map (·.1)) us ∧ VRs K H α (bs.map (·.1)) (bs.map (·.2.1))
  | _, _, .nil => ⟨.nil, .nil⟩
  | _, _, .cons h t => ⟨.cons h.1 (vals_of_each t).1, .cons h.2 (vals_of_each t).2⟩
theorem cr_sortedD (hu : X.A.units + 70 < cLine) : CallR X (.builtin "sorted") (rCall X.K (bltD .sorted)) := by
  intro pins s σ H xs us Q I r h
  obtain ⟨α, S, ds, sr, vr, q⟩ := h
  obtain ⟨v, d, rfl, rfl, r1⟩ := one_arg vr q rfl fun _ _ _ => rfl
  simp only [bltD] at q
  split at q
  · rename_i es hs
    split at q
    · rename_i fs hsd
      obtain ⟨a, ys, rfl, hq, rs⟩ := seq_ok sr r1 hs
      rw [Vals.ref1 r]
      unfold sortD at hsd
      split at hsd
      · rename_i ps hp
        by_cases hok : (alikes ps && (ps.all isTup || ps.all isPlain) && ps.all SeqAt.shaped && decide (es.length ≤ SZ)) = true
        · rw [if_pos hok] at hsd
          rw [Bool.and_eq_true, Bool.and_eq_true, Bool.and_eq_true] at hok
          obtain ⟨⟨⟨ok1, ok2⟩, ok3⟩, ok4⟩ := hok
          cases hsd
          obtain ⟨T, o, its, n, hT, ho, hc, hd, rv⟩ : ∃ (T : String) (o : Obj) (its : List Value) (n : Nat), (T = "list" ∨ T = "tuple") ∧ s.heap.get? a = some o ∧ o.cls = .type T ∧ o.data = .seq its.toArray n ∧ Vals ys its := by
            rcases hq with hq | hq
            · obtain ⟨its, rv, ⟨o, n, ho, hc, _, hd⟩, _⟩ := I.list hq
              exact ⟨"list", o, its, n, .inl rfl, ho, hc, hd, rv⟩
            · obtain ⟨its, rv, ⟨o, ho, hc, n, hd⟩, _⟩ := I.tuple hq
              exact ⟨"tuple", o, its, n, .inr rfl, ho, hc, hd, rv⟩
          obtain ⟨bs, e1, e2, e3, e4⟩ := each_of_vals (α := α) I (rdP_dp sr 3) rv rs hp
          have ebs : bs.map (fun b => b.2.2) = ps := by
            have := congrArg (List.map Prod.snd) e1
            rw [List.map_map] at this
            rw [show (fun b : V × D × PyData => b.2.2) = Prod.snd ∘ (fun b => b.2) from rfl, this]
            exact List.map_snd_zip (by omega)
          have blen : bs.length = es.length := by
            have := congrArg List.length ebs
            rw [List.length_map] at this
            omega
          have hal : PySem.W.AllAlike (bs.map fun b => b.2.2) := by
            rw [ebs]
            intro p hp1 p2 hp2
            have := List.all_eq_true.mp ok1 p hp1
            exact List.all_eq_true.mp this p2 hp2
          have hk : PySem.W.Sortable (bs.map fun b => b.2.2) := by
            rw [ebs]
            rw [Bool.or_eq_true] at ok2
            rcases ok2 with k | k
            · refine .inl fun p hp1 => ?_
              have := List.all_eq_true.mp k p hp1
              cases p with
              | tuple l =>
                cases l with
                | cons x l => exact ⟨x, l, rfl⟩
                | nil => simp [isTup] at this
              | _ => simp [isTup] at this
            · refine .inr fun p hp1 => ?_
              have := List.all_eq_true.mp k p hp1
              cases p <;> simp [isPlain] at this ⊢
          refine sorted_any (R := fun u (b : V × D × PyData) => RelV b.1 u ∧ VR X.K H α b.1 b.2.1) (enc := fun b => b.2.2) hT ho hc hd e2 e3 hal hk (by rw [blen, ← SZ_eq]; exact of_decide_eq_true ok4) (fun b hb => ?_) fun h' p out ep kk np hp' eo => ?_
          · have hm : b.2.2 ∈ ps := by rw [← ebs]; exact List.mem_map.mpr ⟨b, hb, rfl⟩
            have := SeqAt.depth_of_shaped (List.all_eq_true.mp ok3 _ hm)
            omega
          · obtain ⟨o1, o2⟩ := vals_of_each eo
            have hsort : (bs.mergeSort (leB fun b => b.2.2)).map (·.2.1) = (sortP (es.zip ps)).map (·.1) := by
              rw [← sortB_eq, sortP_eq, ← e1, ← sortB_map (fun z : D × PyData => z.2) (fun b : V × D × PyData => b.2), List.map_map]
              rfl
            rw [hsort] at o2
            have hlen : ((bs.mergeSort (leB fun b => b.2.2)).map (·.1)).length ≤ sizeLine := by
              rw [List.length_map, (List.mergeSort_perm bs _).length_eq, blen, ← SZ_eq]
              exact of_decide_eq_true ok4
            exact ⟨.ref p, upd H p (.lst ((bs.mergeSort (leB fun b => b.2.2)).map (·.1))), I.laid (t' := s.toks) kk np ⟨hlen, out, ep, o1, hp'⟩, rfl, q.lst sr o2 (I.hok.fresh np)⟩
        · rw [if_neg hok] at hsd; cases hsd
      · cases hsd
    · exact False.elim q
  · exact False.elim q
end
end Ev
end

section
/-! Expressions: from the text to terms, and that the terms are right. -/
namespace Ev
open PySem PySem.Spec PyProof.Rows L2

section
variable {X : Cx} {W : WX} {C : CallT} {a b c : Expr} {ta tb tc : Tm} {pos : Pos}

/-! ### one construct, one rule -/
theorem e_var {i : Nat} {x : Str} (hN : X.N[i]? = some x) (hv : Vis X.env.scope x) (hd : (x == ("__debug__" : Str)) = false) (hcd : (x == ("__classdict__" : Str)) = false) : PE X (.Name x pos) (tE X W C (.var i)) := by
  refine PE.imp (pe_var hN hv hd hcd) fun σ H Q ⟨α, S, σd, sr, en, h⟩ => ?_
  unfold evE at h
  split at h
  · rename_i d hd
    obtain ⟨v, e, r⟩ := en.get i d hd
    exact ⟨v, e, h.ok sr r⟩
  · exact False.elim h
theorem e_con {v : V} {d : D} (he : PE X a (tC v)) (hr : ∀ H α, VR X.K H α v d) : PE X a (tE X W C (.con d)) :=
  PE.imp he fun σ H Q ⟨α, S, σd, sr, en, h⟩ => by
    unfold evE at h
    split at h
    · exact Af.ok (b := v) sr (show Af X W σ (relV X.K) (.ok d S) H α Q from h) (hr H α)
    · exact False.elim h
theorem binAf {f : D → D → Store → R D} {t : Tm} (ht : ∀ σd S, evE C t σd S = (evE C ta σd S).bind fun x S1 => (evE C tb σd S1).bind fun y S2 => f x y S2) (nx : ∀ d e S x S', f d e S ≠ .exn x S') (σ : L2.St) (H : Hp) (Q : VK)
    (h : tE X W C t σ H Q) : tOp (rBin X.K f) (tE X W C ta) (tE X W C tb) σ H Q := by
  obtain ⟨α, S, σd, sr, en, h⟩ := h
  rw [ht] at h
  refine ⟨α, S, σd, sr, en, h.bind fun d S1 v H1 α1 e1 sr1 r1 h1 => ?_⟩
  refine ⟨α1, S1, σd, sr1, en.mono e1 sr, h1.bind fun d2 S2 v2 H2 α2 e2 sr2 r2 h2 => ?_⟩
  exact ⟨α2, S2, d, d2, sr2, r1.mono e2 sr1, r2, h2.toV (nx _ _ _)⟩
theorem e_bin {op : Operator} (ha : PE X a (tE X W C ta)) (hb : PE X b (tE X W C tb)) : PE X (.BinOp a op b pos) (tE X W C (.bin op ta tb)) :=
  PE.imp (pe_op op_binD ha hb) (binAf (fun _ _ => rfl) fun _ _ _ => binD_noexn)
theorem e_un {op : UnaryOp} (ha : PE X a (tE X W C ta)) : PE X (.UnaryOp op a pos) (tE X W C (.un op ta)) :=
  PE.imp (pe_un un_unD ha) fun σ H Q ⟨α, S, σd, sr, en, h⟩ => ⟨α, S, σd, sr, en, Af.bind (show Af X W σ (relV X.K) ((evE C ta σd S).bind fun x S1 => unD op x S1) H α Q from h) fun d S1 v H1 α1 e1 sr1 r1 h1 =>
    ⟨α1, S1, d, sr1, r1, h1.toV unD_noexn⟩⟩
theorem e_cmp (hu : X.A.units + 65 < cLine) {op : CmpOp} (ha : PE X a (tE X W C ta)) (hb : PE X b (tE X W C tb)) (hm : behindInMarks op b = false) : PE X (.Compare a [op] [b] pos) (tE X W C (.cmp op ta tb)) :=
  PE.imp (pe_cmpR (op_cmpD hu) ha hb hm) (binAf (fun _ _ => rfl) fun _ _ _ => cmpV_noexn)
theorem e_ix (ha : PE X a (tE X W C ta)) (hb : PE X b (tE X W C tb)) (hs : PlainIx b) : PE X (.Subscript a b pos) (tE X W C (.ix ta tb)) :=
  PE.imp (pe_ix ix_ixD ha hb hs) (binAf (fun _ _ => rfl) fun _ _ _ => ixD_noexn)
theorem cmpV_bl {op : CmpOp} {K : PySem.W.Frag} {d e : D} {S S' : Store} {H : Hp} {α : List Addr} {k : Bool} (sr : SR K S H α) (h : cmpD op d e S = .ok k S') : S' = S := by
  have key : ∀ o : Option Bool, R.ofO S o = .ok k S' → S' = S := fun o h => by cases o <;> cases h; rfl
  cases op <;> exact key _ h
theorem chainAf {o1 o2 : CmpOp} (σ : L2.St) (H : Hp) (Q : VK) (h : tE X W C (.chain o1 o2 ta tb tc) σ H Q) : tChain (rBin X.K (cmpV o1)) (rBin X.K (cmpV o2)) (tE X W C ta) (tE X W C tb) (tE X W C tc) σ H Q := by
  obtain ⟨α, S, σd, sr, en, h⟩ := h
  unfold evE at h
  refine ⟨α, S, σd, sr, en, h.bind fun d S1 v H1 α1 e1 sr1 r1 h1 => ?_⟩
  refine ⟨α1, S1, σd, sr1, en.mono e1 sr, h1.bind fun d2 S2 v2 H2 α2 e2 sr2 r2 h2 => ?_⟩
  refine ⟨α2, S2, d, d2, sr2, r1.mono e2 sr1, r2, ?_⟩
  unfold cmpV
  cases hk : cmpD o1 d d2 S2 with
  | exn x S' => exact absurd hk (cmpD_noexn x S')
  | bad => rw [hk] at h2; exact False.elim h2
  | ok k S3 =>
    obtain rfl := cmpV_bl sr2 hk
    rw [hk] at h2
    intro z H3 α3 e3 sr3 rz
    refine ⟨k, VR.inv_bl rz, ?_⟩
    have h3 := Af.step e3 sr3 h2
    cases k with
    | false =>
      simp only [R.bind_ok] at h3
      exact h3.ok sr3 (.bl false)
    | true =>
      simp only [R.bind_ok, if_true] at h3
      refine ⟨α3, S3, σd, sr3, ((en.mono e1 sr).mono e2 sr1).mono e3 sr2, h3.bind fun d4 S4 v4 H4 α4 e4 sr4 r4 h4 => ?_⟩
      exact ⟨α4, S4, d2, d4, sr4, (r2.mono e3 sr2).mono e4 sr3, r4, h4.toV cmpV_noexn⟩
theorem e_chain (hu : X.A.units + 65 < cLine) {o1 o2 : CmpOp} (ha : PE X a (tE X W C ta)) (hb : PE X b (tE X W C tb)) (hc : PE X c (tE X W C tc)) (hm : lastMarks [o1, o2] [b, c] = false) :
    PE X (.Compare a [o1, o2] [b, c] pos) (tE X W C (.chain o1 o2 ta tb tc)) := PE.imp (pe_chain (op_cmpD hu) (op_cmpD hu) ha hb hc hm) chainAf
theorem e_and {rest : List Expr} (ha : PE X a (tE X W C ta)) (hb : PE X (.BoolOp .And (b :: rest) pos) (tE X W C tb)) : PE X (.BoolOp .And (a :: b :: rest) pos) (tE X W C (.and ta tb)) :=
  PE.imp (pe_andT ha hb) fun σ H Q ⟨α, S, σd, sr, en, h⟩ => by
    unfold evE at h
    refine ⟨α, S, σd, sr, en, h.bind fun d S1 v H1 α1 e1 sr1 r1 h1 => ?_⟩
    cases hk : truD d S1 with
    | none => simp only [hk] at h1; exact False.elim h1
    | some k =>
      refine ⟨k, truD_ok sr1 r1 hk, ?_⟩
      cases k with
      | true => simp only [hk] at h1; exact ⟨α1, S1, σd, sr1, en.mono e1 sr, h1⟩
      | false => simp only [hk] at h1; exact h1.ok sr1 r1
theorem e_or {rest : List Expr} (ha : PE X a (tE X W C ta)) (hb : PE X (.BoolOp .Or (b :: rest) pos) (tE X W C tb)) : PE X (.BoolOp .Or (a :: b :: rest) pos) (tE X W C (.or ta tb)) :=
  PE.imp (pe_orT ha hb) fun σ H Q ⟨α, S, σd, sr, en, h⟩ => by
    unfold evE at h
    refine ⟨α, S, σd, sr, en, h.bind fun d S1 v H1 α1 e1 sr1 r1 h1 => ?_⟩
    cases hk : truD d S1 with
    | none => simp only [hk] at h1; exact False.elim h1
    | some k =>
      refine ⟨k, truD_ok sr1 r1 hk, ?_⟩
      cases k with
      | false => simp only [hk] at h1; exact ⟨α1, S1, σd, sr1, en.mono e1 sr, h1⟩
      | true => simp only [hk] at h1; exact h1.ok sr1 r1
/-- a test: the value's truth -/
theorem truAf {t : Tm} (σ : L2.St) (H : Hp) (Q : Bool → Hp → Prop) (h : tT X W C t σ H Q) : tE X W C t σ H fun x H' => ∃ k, TruV X.K x H' k ∧ Q k H' := by
  obtain ⟨α, S, σd, sr, en, h⟩ := h
  refine ⟨α, S, σd, sr, en, ?_⟩
  cases he : evE C t σd S with
  | bad => rw [he] at h; exact h
  | exn x S' => rw [he] at h; exact h
  | ok d S' =>
    rw [he] at h
    intro v H' α' e' sr' r'
    cases hk : truD d S' with
    | none => simp only [R.tru, R.bind_ok, hk, R.ofO_none] at h; exact False.elim h
    | some k =>
      simp only [R.tru, R.bind_ok, hk, R.ofO_some] at h
      exact ⟨k, truD_ok sr' r' hk, h k H' α' e' sr' rfl⟩
theorem e_notAf (σ : L2.St) (H : Hp) (Q : VK) (h : tE X W C (.not ta) σ H Q) : tNotT X.K (tE X W C ta) σ H Q := by
  obtain ⟨α, S, σd, sr, en, h⟩ := h
  unfold evE at h
  have h' : tT X W C ta σ H fun k H1 => Q (.bl (!k)) H1 := ⟨α, S, σd, sr, en, h.bind fun k S1 b H1 α1 e1 sr1 r1 h1 => by cases r1; exact h1.ok sr1 (.bl _)⟩
  exact truAf σ H _ h'
theorem e_not (ha : PE X a (tE X W C ta)) : PE X (.UnaryOp .Not a pos) (tE X W C (.not ta)) := PE.imp (pe_notT ha) e_notAf
theorem e_ife (hc : PT X c (tT X W C tc)) (ha : PE X a (tE X W C ta)) (hb : PE X b (tE X W C tb)) : PE X (.IfExp c a b pos) (tE X W C (.ife tc ta tb)) :=
  PE.imp (pe_ifExp hc ha hb) fun σ H Q ⟨α, S, σd, sr, en, h⟩ => by
    unfold evE at h
    refine ⟨α, S, σd, sr, en, Af.bind h fun k S1 v H1 α1 e1 sr1 (r1 : v = k) h1 => ?_⟩
    subst r1
    cases v with
    | true => exact ⟨α1, S1, σd, sr1, en.mono e1 sr, by simpa using h1⟩
    | false => exact ⟨α1, S1, σd, sr1, en.mono e1 sr, by simpa using h1⟩

/-! ### argument lists -/
theorem a_nil : PA X [] (tA X W C []) := PA.imp pa_nil fun σ H Q ⟨α, S, σd, sr, en, h⟩ => h.ok sr .nil
theorem a_cons {es : List Expr} {ts : List Tm} (ha : PE X a (tE X W C ta)) (hr : PA X es (tA X W C ts)) (hs : starEach (a :: es) X.env = (false, eval a X.env) :: starEach es X.env) : PA X (a :: es) (tA X W C (ta :: ts)) :=
  PA.imp (pa_cons ha hr hs) fun σ H Q ⟨α, S, σd, sr, en, h⟩ => by
    unfold evEs at h
    refine ⟨α, S, σd, sr, en, h.bind fun d S1 v H1 α1 e1 sr1 r1 h1 => ?_⟩
    refine ⟨α1, S1, σd, sr1, en.mono e1 sr, h1.bind fun ds S2 vs H2 α2 e2 sr2 r2 h2 => ?_⟩
    exact h2.ok sr2 (.cons (r1.mono e2 sr1) r2)
theorem e_tup {es : List Expr} {ts : List Tm} {k : Nat} (ha : PA X es (tA X W C ts)) : PE X (.Tuple es k pos) (tE X W C (.tup ts)) :=
  PE.imp (pe_tup ha) fun σ H Q ⟨α, S, σd, sr, en, h⟩ => by
    unfold evE at h
    refine ⟨α, S, σd, sr, en, h.bind fun ds S1 vs H1 α1 e1 sr1 r1 h1 => ?_⟩
    by_cases hl : ds.length ≤ SZ
    · rw [if_pos hl] at h1
      exact ⟨by rw [r1.length, ← SZ_eq]; exact hl, fun p hp => (h1.toV fun _ _ z => by cases z).tup sr1 r1 hp⟩
    · rw [if_neg hl] at h1; exact False.elim h1
theorem e_lst {es : List Expr} {ts : List Tm} (ha : PA X es (tA X W C ts)) : PE X (.List es pos) (tE X W C (.lst ts)) :=
  PE.imp (pe_lst ha) fun σ H Q ⟨α, S, σd, sr, en, h⟩ => by
    unfold evE at h
    refine ⟨α, S, σd, sr, en, h.bind fun ds S1 vs H1 α1 e1 sr1 r1 h1 => ?_⟩
    by_cases hl : ds.length ≤ SZ
    · rw [if_pos hl] at h1
      exact ⟨by rw [r1.length, ← SZ_eq]; exact hl, fun p hp => (h1.toV fun _ _ z => by cases z).lst sr1 r1 hp⟩
    · rw [if_neg hl] at h1; exact False.elim h1
/-! ### slices -/
theorem o_none : PO X none (tO X W C none) := ⟨fun pins s σ H Q I ⟨α, S, σd, sr, en, h⟩ => po_none.run pins s σ H Q I (h.ok sr rfl)⟩
theorem o_some (ha : PE X a (tE X W C ta)) : PO X (some a) (tO X W C (some ta)) := ⟨fun pins s σ H Q I ⟨α, S, σd, sr, en, h⟩ => (po_some ha).run pins s σ H Q I (by
  unfold evO at h
  refine ⟨α, S, σd, sr, en, h.bind fun d S1 v H1 α1 e1 sr1 r1 h1 => ?_⟩
  cases d with
  | int i => exact ⟨i, VR.inv_int r1, h1.ok sr1 rfl⟩
  | _ => exact False.elim h1)⟩
theorem e_sl {lo hi : Option Expr} {tl th : Option Tm} {p2 : Pos} (ha : PE X a (tE X W C ta)) (hl : PO X lo (tO X W C tl)) (hh : PO X hi (tO X W C th)) : PE X (.Subscript a (.Slice lo hi none p2) pos) (tE X W C (.sl ta tl th)) :=
  PE.imp (pe_slice sl_slD ha hl hh) fun σ H Q ⟨α, S, σd, sr, en, h⟩ => by
    unfold evE at h
    refine ⟨α, S, σd, sr, en, h.bind fun d S1 v H1 α1 e1 sr1 r1 h1 => ?_⟩
    refine ⟨α1, S1, σd, sr1, en.mono e1 sr, h1.bind fun l S2 l' H2 α2 e2 sr2 r2 h2 => ?_⟩
    refine ⟨α2, S2, σd, sr2, (en.mono e1 sr).mono e2 sr1, h2.bind fun u S3 u' H3 α3 e3 sr3 r3 h3 => ?_⟩
    cases r2
    cases r3
    exact ⟨α3, S3, d, sr3, (r1.mono e2 sr1).mono e3 sr2, h3.toV slD_noexn⟩

/-! ### further forms -/
theorem bind_bind {A B D : Type} (r : R A) (f : A → Store → R B) (g : B → Store → R D) : (r.bind f).bind g = r.bind fun a S => (f a S).bind g := by cases r <;> rfl
theorem sp1 {s : Sx} {σd : Env} {S : Store} : evE C (.sp s [ta]) σd S = (evE C ta σd S).bind fun d S1 => spcD s [d] S1 := by
  simp only [evE, evEs, bind_bind, R.bind_ok]
theorem sp2 {s : Sx} {σd : Env} {S : Store} : evE C (.sp s [ta, tb]) σd S = (evE C ta σd S).bind fun d S1 => (evE C tb σd S1).bind fun e S2 => spcD s [d, e] S2 := by
  simp only [evE, evEs, bind_bind, R.bind_ok]
theorem e_rev {k : Nat} {p1 p2 p3 : Pos} (ha : PE X a (tE X W C ta)) : PE X (.Subscript a (.Slice none none (some (.UnaryOp .USub (.Constant (.int 1) k p1) p2)) p3) pos) (tE X W C (.sp .rev [ta])) :=
  PE.imp (pe_revL ha) fun σ H Q ⟨α, S, σd, sr, en, h⟩ => by
    rw [sp1] at h
    refine ⟨α, S, σd, sr, en, h.bind fun d S1 v H1 α1 e1 sr1 r1 h1 => ?_⟩
    simp only [spcD] at h1
    cases q : lstOf S1 d with
    | none => rw [q] at h1; exact False.elim h1
    | some es =>
      rw [q] at h1
      obtain ⟨a, xs, rfl, hq, rs⟩ := lst_ok sr1 r1 q
      exact ⟨a, xs, rfl, hq, fun p hp => (h1.toV fun _ _ z => by cases z).lst sr1 (rs.reverse) hp⟩
theorem rng_vr {K : PySem.W.Frag} {H : Hp} {α : List Addr} (i j : Int) : VRs K H α (rgV i j) (rngL i (j - i).toNat) := by
  unfold rgV rngL
  induction (List.range (j - i).toNat) with
  | nil => exact .nil
  | cons n ns ih => exact .cons (.int _) ih
theorem rngB_ok {i j : Int} (h : rngB i j = true) : RgOk i j := by
  unfold rngB rngOk at h
  simp only [Bool.and_eq_true, decide_eq_true_eq] at h
  exact ⟨h.1.1.1, h.1.1.2, h.1.2.1, h.1.2.2, by have := h.2; unfold SZ at this; omega⟩
theorem rg1Af {t : Tm} {s : Sx} {Q : VK} {K : Int → Int → Hp → Prop} {σ : L2.St} {H : Hp} (ht : t = .sp s [ta]) (hn : ∀ d S, (∀ i, d ≠ .int i) → spcD s [d] S = .bad) (h : tE X W C t σ H Q)
    (k : ∀ j S1 H1 α1, SR X.K S1 H1 α1 → Af X W σ (relV X.K) (spcD s [.int j] S1) H1 α1 Q → K 0 j H1) : tRg1 (tE X W C ta) σ H K := by
  subst ht
  obtain ⟨α, S, σd, sr, en, h⟩ := h
  rw [sp1] at h
  refine ⟨α, S, σd, sr, en, h.bind fun d S1 v H1 α1 e1 sr1 r1 h1 => ?_⟩
  by_cases hi : ∃ i, d = .int i
  · obtain ⟨i, rfl⟩ := hi
    exact ⟨i, VR.inv_int r1, k i S1 H1 α1 sr1 h1⟩
  · rw [hn d S1 fun i z => hi ⟨i, z⟩] at h1
    exact False.elim h1
theorem rg2Af {t : Tm} {s : Sx} {Q : VK} {K : Int → Int → Hp → Prop} {σ : L2.St} {H : Hp} (ht : t = .sp s [ta, tb]) (hn : ∀ d e S, (∀ i j, (d, e) ≠ (.int i, .int j)) → spcD s [d, e] S = .bad) (h : tE X W C t σ H Q)
    (k : ∀ i j S1 H1 α1, SR X.K S1 H1 α1 → Af X W σ (relV X.K) (spcD s [.int i, .int j] S1) H1 α1 Q → K i j H1) : tRg2 (tE X W C ta) (tE X W C tb) σ H K := by
  subst ht
  obtain ⟨α, S, σd, sr, en, h⟩ := h
  rw [sp2] at h
  refine ⟨α, S, σd, sr, en, h.bind fun d S1 v H1 α1 e1 sr1 r1 h1 => ?_⟩
  refine ⟨α1, S1, σd, sr1, en.mono e1 sr, h1.bind fun e S2 w H2 α2 e2 sr2 r2 h2 => ?_⟩
  by_cases hi : ∃ i j, (d, e) = (.int i, .int j)
  · obtain ⟨i, j, z⟩ := hi
    cases z
    exact ⟨i, j, VR.inv_int (r1.mono e2 sr1), VR.inv_int r2, k i j S2 H2 α2 sr2 h2⟩
  · rw [hn d e S2 fun i j z => hi ⟨i, j, z⟩] at h2
    exact False.elim h2
theorem e_lrng1 {p p2 pos2 : Pos} (hc : X.calm = true) (hg : Gl X "list") (hm : X.mg "list" = none) (hg2 : Gl X "range") (hm2 : X.mg "range" = none) (ha : PE X a (tE X W C ta)) (na : starEach [a] X.env = (false, eval a X.env) :: starEach [] X.env) :
    PE X (.Call (.Name "list" p) [.Call (.Name "range" p2) [a] [] pos2] [] pos) (tE X W C (.sp .lrng1 [ta])) :=
  PE.imp (pe_listRg hc hg hm (prg_1 hg2 hm2 ha na)) fun σ H Q h => rg1Af (s := .lrng1) rfl (fun d S hd => by cases d <;> first | rfl | exact absurd rfl (hd _)) h fun j S1 H1 α1 sr1 h1 => by
    simp only [spcD] at h1
    by_cases hb : rngB 0 j = true
    · rw [if_pos hb] at h1
      exact ⟨rngB_ok hb, fun q hq => (h1.toV fun _ _ z => by cases z).lst sr1 (rng_vr 0 j) hq⟩
    · rw [if_neg hb] at h1; exact False.elim h1
theorem e_trng1 {p p2 pos2 : Pos} (hc : X.calm = true) (hg : Gl X "tuple") (hm : X.mg "tuple" = none) (hg2 : Gl X "range") (hm2 : X.mg "range" = none) (ha : PE X a (tE X W C ta)) (na : starEach [a] X.env = (false, eval a X.env) :: starEach [] X.env) :
    PE X (.Call (.Name "tuple" p) [.Call (.Name "range" p2) [a] [] pos2] [] pos) (tE X W C (.sp .trng1 [ta])) :=
  PE.imp (pe_tupRg hc hg hm (prg_1 hg2 hm2 ha na)) fun σ H Q h => rg1Af (s := .trng1) rfl (fun d S hd => by cases d <;> first | rfl | exact absurd rfl (hd _)) h fun j S1 H1 α1 sr1 h1 => by
    simp only [spcD] at h1
    by_cases hb : rngB 0 j = true
    · rw [if_pos hb] at h1
      exact ⟨rngB_ok hb, fun q hq => (h1.toV fun _ _ z => by cases z).tup sr1 (rng_vr 0 j) hq⟩
    · rw [if_neg hb] at h1; exact False.elim h1
theorem e_lrng2 {p p2 pos2 : Pos} (hc : X.calm = true) (hg : Gl X "list") (hm : X.mg "list" = none) (hg2 : Gl X "range") (hm2 : X.mg "range" = none) (ha : PE X a (tE X W C ta)) (hb : PE X b (tE X W C tb))
    (na : starEach [a, b] X.env = (false, eval a X.env) :: starEach [b] X.env) (nb : starEach [b] X.env = (false, eval b X.env) :: starEach [] X.env) :
    PE X (.Call (.Name "list" p) [.Call (.Name "range" p2) [a, b] [] pos2] [] pos) (tE X W C (.sp .lrng2 [ta, tb])) :=
  PE.imp (pe_listRg hc hg hm (prg_2 hg2 hm2 ha hb na nb (by rw [nb]; rfl))) fun σ H Q h => rg2Af (s := .lrng2) rfl (fun d e S hd => by cases d <;> cases e <;> first | rfl | exact absurd rfl (hd _ _)) h fun i j S1 H1 α1 sr1 h1 => by
    simp only [spcD] at h1
    by_cases hb : rngB i j = true
    · rw [if_pos hb] at h1
      exact ⟨rngB_ok hb, fun q hq => (h1.toV fun _ _ z => by cases z).lst sr1 (rng_vr i j) hq⟩
    · rw [if_neg hb] at h1; exact False.elim h1
theorem e_trng2 {p p2 pos2 : Pos} (hc : X.calm = true) (hg : Gl X "tuple") (hm : X.mg "tuple" = none) (hg2 : Gl X "range") (hm2 : X.mg "range" = none) (ha : PE X a (tE X W C ta)) (hb : PE X b (tE X W C tb))
    (na : starEach [a, b] X.env = (false, eval a X.env) :: starEach [b] X.env) (nb : starEach [b] X.env = (false, eval b X.env) :: starEach [] X.env) :
    PE X (.Call (.Name "tuple" p) [.Call (.Name "range" p2) [a, b] [] pos2] [] pos) (tE X W C (.sp .trng2 [ta, tb])) :=
  PE.imp (pe_tupRg hc hg hm (prg_2 hg2 hm2 ha hb na nb (by rw [nb]; rfl))) fun σ H Q h => rg2Af (s := .trng2) rfl (fun d e S hd => by cases d <;> cases e <;> first | rfl | exact absurd rfl (hd _ _)) h fun i j S1 H1 α1 sr1 h1 => by
    simp only [spcD] at h1
    by_cases hb : rngB i j = true
    · rw [if_pos hb] at h1
      exact ⟨rngB_ok hb, fun q hq => (h1.toV fun _ _ z => by cases z).tup sr1 (rng_vr i j) hq⟩
    · rw [if_neg hb] at h1; exact False.elim h1
/-! ### what a computation leaves is let go -/
theorem e_gc {t : Tm} (ha : PE X a (tE X W C t)) : PE X a (tE X W C (.gc t)) :=
  PE.imp ha fun σ H Q ⟨α, S, σd, sr, en, h⟩ => by
    refine ⟨α, S, σd, sr, en, ?_⟩
    unfold evE at h
    cases he : evE C t σd S with
    | bad => rw [he] at h; exact h
    | exn x S' => rw [he] at h; exact h
    | ok d S1 =>
      rw [he] at h
      intro v H' α' e' sr' r'
      obtain ⟨d', S', hg⟩ := gc_noexn (S := S) (S1 := S1) (d := d) rfl
      obtain ⟨α2, e2, sr2, r2⟩ := gc_ok sr e' sr' r' hg
      simp only [R.bind_ok, hg] at h
      exact h v H' α2 e2 sr2 r2
theorem gc_tru {S S1 S' : Store} {d d' : D} (hg : gcAfter S d S1 = .ok d' S') : truD d' S' = truD d S1 := by
  unfold gcAfter at hg
  by_cases hs : stable S.length S S1 = true
  · rw [if_pos hs] at hg
    have hl := stable_len hs
    by_cases hb : d.blw S.length = true
    · rw [if_pos hb] at hg
      cases hg
      cases d with
      | loc i =>
        rw [D.blw, decide_eq_true_iff] at hb
        simp only [truD]
        rw [List.getElem?_take_of_lt hb]
      | _ => rfl
    · rw [if_neg hb] at hg
      cases d with
      | loc i =>
        cases hc : S1[i]? with
        | none => simp only [hc] at hg; cases hg; rfl
        | some c =>
          simp only [hc] at hg
          by_cases hq : S.length ≤ i ∧ c.blw S.length = true
          · rw [if_pos hq] at hg
            cases hg
            have tl : (S1.take S.length).length = S.length := by rw [List.length_take]; omega
            simp only [truD, hc]
            rw [List.getElem?_append_right (by omega), tl, Nat.sub_self]
            rfl
          · rw [if_neg hq] at hg; cases hg; rfl
      | _ => cases hg; rfl
  · rw [if_neg hs] at hg; cases hg; rfl
theorem gc_sr {K : PySem.W.Frag} {H H1 : Hp} {α α1 : List Addr} {S S1 S' : Store} {d d' : D} (sr : SR K S H α) (e : Ext α H H1 α1) (sr1 : SR K S1 H1 α1) (g : gcAfter S d S1 = .ok d' S') : ∃ α', Ext α H H1 α' ∧ SR K S' H1 α' := by
  have base : ∀ {v : V} {d : D} {d' : D} {S' : Store}, VR K H1 α1 v d → gcAfter S d S1 = .ok d' S' → ∃ α', Ext α H H1 α' ∧ SR K S' H1 α' := fun r g => let ⟨α', a, b, _⟩ := gc_ok sr e sr1 r g; ⟨α', a, b⟩
  cases d with
  | loc i =>
    by_cases hi : i < α1.length
    · exact base (.loc (List.getElem?_eq_getElem hi)) g
    · have hn : S1[i]? = none := List.getElem?_eq_none (by rw [← sr1.len]; omega)
      unfold gcAfter at g
      by_cases hs : stable S.length S S1 = true
      · rw [if_pos hs] at g
        have hl := stable_len hs
        rw [if_neg (by rw [D.blw, decide_eq_true_iff]; rw [sr1.len] at hi; omega)] at g
        simp only [hn] at g
        cases g
        exact ⟨α1, e, sr1⟩
      · rw [if_neg hs] at g
        cases g
        exact ⟨α1, e, sr1⟩
  | non => exact base .non g
  | bl b => exact base (.bl b) g
  | int b => exact base (.int b) g
  | str b => exact base (.str b) g
  | tup ds =>
    unfold gcAfter at g
    by_cases hs : stable S.length S S1 = true
    · rw [if_pos hs] at g
      by_cases hb : (D.tup ds).blw S.length = true
      · rw [if_pos hb] at g
        cases g
        exact base (d := .non) (d' := .non) .non (by unfold gcAfter; rw [if_pos hs, if_pos (by simp [D.blw])])
      · rw [if_neg hb] at g
        cases g
        exact ⟨α1, e, sr1⟩
    · rw [if_neg hs] at g; cases g; exact ⟨α1, e, sr1⟩
  | ilst ds =>
    unfold gcAfter at g
    by_cases hs : stable S.length S S1 = true
    · rw [if_pos hs] at g
      by_cases hb : (D.ilst ds).blw S.length = true
      · rw [if_pos hb] at g
        cases g
        exact base (d := .non) (d' := .non) .non (by unfold gcAfter; rw [if_pos hs, if_pos (by simp [D.blw])])
      · rw [if_neg hb] at g
        cases g
        exact ⟨α1, e, sr1⟩
    · rw [if_neg hs] at g; cases g; exact ⟨α1, e, sr1⟩
theorem t_gc {t : Tm} (ha : PT X a (tT X W C t)) : PT X a (tT X W C (.gc t)) :=
  PT.imp ha fun σ H Q ⟨α, S, σd, sr, en, h⟩ => by
    refine ⟨α, S, σd, sr, en, ?_⟩
    unfold evE at h
    cases he : evE C t σd S with
    | bad => rw [he] at h; exact h
    | exn x S' => rw [he] at h; exact h
    | ok d S1 =>
      rw [he] at h
      obtain ⟨d', S', hg⟩ := gc_noexn (S := S) (S1 := S1) (d := d) rfl
      have ht := gc_tru hg
      simp only [R.bind_ok, hg, R.tru] at h ⊢
      rw [ht] at h
      cases hk : truD d S1 with
      | none => rw [hk] at h; exact False.elim h
      | some k =>
        rw [hk] at h
        intro b H' α' e' sr' r'
        obtain ⟨α2, e2, sr2⟩ := gc_sr sr e' sr' hg
        exact h b H' α2 e2 sr2 r'

/-! ### tests -/
theorem t_truth {t : Tm} (ha : PE X a (tE X W C t)) (he : ∀ whole, isTrue a X.env whole = (do let v ← whole; standAt a.pos; holding [v] (truthy v))) : PT X a (tT X W C t) := PT.imp (pt_truth ha he) truAf
/-- a test whose value is a bool -/
theorem blAf {t : Tm} (hb : ∀ σd S d S', evE C t σd S = .ok d S' → ∃ k, d = .bl k) (σ : L2.St) (H : Hp) (Q : Bool → Hp → Prop) (h : tT X W C t σ H Q) : tE X W C t σ H fun x H' => ∃ k, x = .bl k ∧ Q k H' := by
  obtain ⟨α, S, σd, sr, en, h⟩ := h
  refine ⟨α, S, σd, sr, en, ?_⟩
  cases he : evE C t σd S with
  | bad => rw [he] at h; exact h
  | exn x S' => rw [he] at h; exact h
  | ok d S' =>
    rw [he] at h
    obtain ⟨k, rfl⟩ := hb _ _ _ _ he
    intro v H' α' e' sr' r'
    exact ⟨k, VR.inv_bl r', h k H' α' e' sr' rfl⟩
theorem bind_ok_inv {A B : Type} {r : R A} {f : A → Store → R B} {b : B} {S' : Store} (h : r.bind f = .ok b S') : ∃ a S1, r = .ok a S1 ∧ f a S1 = .ok b S' := by
  cases r with
  | ok a S1 => exact ⟨a, S1, rfl, h⟩
  | exn x S1 => cases h
  | bad => cases h
theorem cmp_bl (op : CmpOp) (σd : Env) (S : Store) (d : D) (S' : Store) (h : evE C (.cmp op ta tb) σd S = .ok d S') : ∃ k, d = .bl k := by
  unfold evE at h
  obtain ⟨x, S1, _, h⟩ := bind_ok_inv h
  obtain ⟨y, S2, _, h⟩ := bind_ok_inv h
  obtain ⟨k, S3, _, h⟩ := bind_ok_inv h
  cases h
  exact ⟨k, rfl⟩
theorem chain_bl (o1 o2 : CmpOp) (σd : Env) (S : Store) (d : D) (S' : Store) (h : evE C (.chain o1 o2 ta tb tc) σd S = .ok d S') : ∃ k, d = .bl k := by
  unfold evE at h
  obtain ⟨x, S1, _, h⟩ := bind_ok_inv h
  obtain ⟨y, S2, _, h⟩ := bind_ok_inv h
  obtain ⟨k, S3, _, h⟩ := bind_ok_inv h
  split at h
  · obtain ⟨z, S4, _, h⟩ := bind_ok_inv h
    obtain ⟨k, S5, _, h⟩ := bind_ok_inv h
    cases h
    exact ⟨k, rfl⟩
  · cases h
    exact ⟨_, rfl⟩
theorem t_cmp (hu : X.A.units + 65 < cLine) {op : CmpOp} (ha : PE X a (tE X W C ta)) (hb : PE X b (tE X W C tb)) (hm : behindInMarks op b = false) : PT X (.Compare a [op] [b] pos) (tT X W C (.cmp op ta tb)) :=
  PT.imp (pt_cmpR (op_cmpD hu) ha hb hm) fun σ H Q h => binAf (t := .cmp op ta tb) (fun _ _ => rfl) (fun _ _ _ => cmpV_noexn) σ H _ (blAf (cmp_bl op) σ H Q h)
theorem t_chain (hu : X.A.units + 65 < cLine) {o1 o2 : CmpOp} (ha : PE X a (tE X W C ta)) (hb : PE X b (tE X W C tb)) (hc : PE X c (tE X W C tc)) (hm : lastMarks [o1, o2] [b, c] = false) : PT X (.Compare a [o1, o2] [b, c] pos) (tT X W C (.chain o1 o2 ta tb tc)) :=
  PT.imp (pt_chain (op_cmpD hu) (op_cmpD hu) ha hb hc hm) fun σ H Q h => chainAf σ H _ (blAf (chain_bl o1 o2) σ H Q h)
theorem PW.imp {e : Expr} {t t' : TT} (h : PW X e t') (i : ∀ σ H Q, t σ H Q → t' σ H Q) : PW X e t := ⟨fun wh pins s σ H Q I q => h.run wh pins s σ H Q I (i σ H Q q)⟩
theorem t_and {rest : List Expr} (ha : PT X a (tT X W C ta)) (hb : PW X (.BoolOp .And (b :: rest) pos) (tT X W C tb)) : PW X (.BoolOp .And (a :: b :: rest) pos) (tT X W C (.and ta tb)) :=
  PW.imp (pw_and ha hb) fun σ H Q ⟨α, S, σd, sr, en, h⟩ => by
    refine ⟨α, S, σd, sr, en, ?_⟩
    unfold evE at h
    cases he : evE C ta σd S with
    | bad => rw [he] at h; exact h
    | exn x S' => rw [he] at h; exact h
    | ok d S1 =>
      rw [he] at h
      simp only [R.bind_ok, R.tru] at h ⊢
      cases hk : truD d S1 with
      | none => rw [hk] at h; exact False.elim h
      | some k =>
        rw [hk] at h
        intro b H' α' e' sr' (r' : b = k)
        subst r'
        cases b with
        | true => exact ⟨α', S1, σd, sr', en.mono e' sr, Af.step e' sr' h⟩
        | false =>
          simp only [R.bind_ok, hk, R.ofO_some] at h
          exact h false H' α' e' sr' rfl
theorem t_or {rest : List Expr} (ha : PT X a (tT X W C ta)) (hb : PW X (.BoolOp .Or (b :: rest) pos) (tT X W C tb)) : PW X (.BoolOp .Or (a :: b :: rest) pos) (tT X W C (.or ta tb)) :=
  PW.imp (pw_or ha hb) fun σ H Q ⟨α, S, σd, sr, en, h⟩ => by
    refine ⟨α, S, σd, sr, en, ?_⟩
    unfold evE at h
    cases he : evE C ta σd S with
    | bad => rw [he] at h; exact h
    | exn x S' => rw [he] at h; exact h
    | ok d S1 =>
      rw [he] at h
      simp only [R.bind_ok, R.tru] at h ⊢
      cases hk : truD d S1 with
      | none => rw [hk] at h; exact False.elim h
      | some k =>
        rw [hk] at h
        intro b H' α' e' sr' (r' : b = k)
        subst r'
        cases b with
        | false => exact ⟨α', S1, σd, sr', en.mono e' sr, Af.step e' sr' h⟩
        | true =>
          simp only [R.bind_ok, hk, R.ofO_some] at h
          exact h true H' α' e' sr' rfl
theorem t_not (ha : PT X a (tT X W C ta)) : PT X (.UnaryOp .Not a pos) (tT X W C (.not ta)) :=
  PT.imp (pt_not ha) fun σ H Q ⟨α, S, σd, sr, en, h⟩ => by
    refine ⟨α, S, σd, sr, en, ?_⟩
    unfold evE at h
    cases he : (evE C ta σd S).tru with
    | bad => rw [he] at h; exact h
    | exn x S' => rw [he] at h; exact h
    | ok k S1 =>
      rw [he] at h
      intro b H' α' e' sr' (r' : b = k)
      subst r'
      exact h (!b) H' α' e' sr' rfl

/-! ### calls of built-ins -/
theorem ofO_noexn {A : Type} {S : Store} {o : Option A} (x : Xn) (S' : Store) : R.ofO S o ≠ .exn x S' := by cases o <;> (intro h; cases h)
theorem bltD_noexn {bl : Blt} {ds : List D} {S : Store} (x : Xn) (S' : Store) : bltD bl ds S ≠ .exn x S' := by
  unfold bltD alloc
  repeat' split
  all_goals first
    | exact ofO_noexn x S'
    | (intro h; cases h)
theorem mtD_noexn {m : Mt} {o : D} {ds : List D} {S : Store} (x : Xn) (S' : Store) : mtD m o ds S ≠ .exn x S' := by
  unfold mtD
  repeat' split
  all_goals (intro h; cases h)
theorem bltAf {bl : Blt} {ts : List Tm} (σ : L2.St) (H : Hp) (Q : VK) (h : tE X W C (.blt bl ts) σ H Q) : tCB (rCall X.K (bltD bl)) (tA X W C ts) σ H Q := by
  obtain ⟨α, S, σd, sr, en, h⟩ := h
  unfold evE at h
  exact ⟨α, S, σd, sr, en, h.bind fun ds S1 vs H1 α1 e1 sr1 r1 h1 => ⟨α1, S1, ds, sr1, r1, h1.toV bltD_noexn⟩⟩
theorem e_bltB {bl : Blt} {id : String} {x : Str} {p : Pos} {e : Expr} {es : List Expr} {ts : List Tm} (hc : CallR X (.builtin id) (rCall X.K (bltD bl))) (hg : Gl X x) (hm : X.mg x = none) (hv : bootBuiltins x = some (.builtin id)) (ha : PA X (e :: es) (tA X W C ts))
    (hn : x ≠ "__name__") (hdb : (x == ("__debug__" : Str)) = false) (he : starEach (e :: es) X.env = (false, eval e X.env) :: starEach es X.env) (hpl : (backTo pos (starEach es X.env)).any (·.1) = false) :
    PE X (.Call (.Name x p) (e :: es) [] pos) (tE X W C (.blt bl ts)) := PE.imp (pe_callB hc hg hm hv ha hn hdb he hpl) bltAf
theorem e_bltT {bl : Blt} {id : String} {x : Str} {p : Pos} {e : Expr} {es : List Expr} {ts : List Tm} (hc : CallR X (.type id) (rCall X.K (bltD bl))) (hg : Gl X x) (hm : X.mg x = none) (hv : bootBuiltins x = some (.type id)) (ha : PA X (e :: es) (tA X W C ts))
    (hn : x ≠ "__name__") (hdb : (x == ("__debug__" : Str)) = false) (he : starEach (e :: es) X.env = (false, eval e X.env) :: starEach es X.env) (hpl : (backTo pos (starEach es X.env)).any (·.1) = false) :
    PE X (.Call (.Name x p) (e :: es) [] pos) (tE X W C (.blt bl ts)) := PE.imp (pe_callTy hc hg hm hv ha hn hdb he hpl) bltAf
theorem e_isi {t : Ty} {y : Str} {p p2 : Pos} (ha : PE X a (tE X W C ta)) (hg : Gl X "isinstance") (hm : X.mg "isinstance" = none) (hgT : Gl X y) (hmT : X.mg y = none) (hv : bootBuiltins y = some (.type (tyName t)))
    (hn : y ≠ "__name__") (hdb : (y == ("__debug__" : Str)) = false) (hs : starEach [a, .Name y p2] X.env = (false, eval a X.env) :: starEach [.Name y p2] X.env) :
    PE X (.Call (.Name "isinstance" p) [a, .Name y p2] [] pos) (tE X W C (.isi ta t)) := by
  refine PE.imp (pe_callB call_isi hg hm (by decide +kernel) (pa_cons ha (pa_cons (pe_bltn (v := .ty (tyName t)) hgT hmT hv rfl hn hdb) pa_nil) hs) (by decide) (by decide) hs rfl) fun σ H Q ⟨α, S, σd, sr, en, h⟩ => ?_
  unfold evE at h
  refine ⟨α, S, σd, sr, en, h.bind fun d S1 v H1 α1 e1 sr1 r1 h1 => ?_⟩
  cases hk : isiD t d S1 with
  | none => rw [hk] at h1; exact False.elim h1
  | some k =>
    rw [hk] at h1
    obtain ⟨T, h2, h3⟩ := isi_ok sr1 r1 hk
    exact ⟨v, .ty (tyName t), .type T, .type (tyName t), k, rfl, .ty _, h2, h3, h1.ok sr1 (.bl k)⟩

/-! ### methods of lists -/
def rMt (K : PySem.W.Frag) (m : Mt) : V → List V → Hp → VK → Prop := fun x xs H Q => ∃ α S d ds, SR K S H α ∧ VR K H α x d ∧ VRs K H α xs ds ∧ AfV K (relV K) (mtD m d ds S) H α Q
def mtId : Mt → String
  | .append => "list.append" | .pop => "list.pop" | .popAt => "list.pop" | .extend => "list.extend" | .reverse => "list.reverse"
theorem ixN_seq' {n : Nat} {i : Int} {j : Nat} (h : ixN n i = some j) : seqIndex? i n = some j := (ixN_seq h).1
theorem set_cell {K : PySem.W.Frag} {H : Hp} {α : List Addr} {S : Store} {i : Nat} {p : Addr} {xs : List V} {es : List D} {v : V} {d : D} {Q : VK} (sr : SR K S H α) (hp : α[i]? = some p) (r : VRs K H α xs es) (rv : VR K H α v d)
    (q : AfV K (relV K) (.ok d (S.set i (.lst es))) H α Q) : Q v (upd H p (.lst xs)) :=
  let ⟨e, s⟩ := set_lst sr hp r
  q _ _ _ e s (rv.mono e sr)
theorem mt_mtD {m : Mt} : MtR X (mtId m) (rMt X.K m) := by
  intro pins s σ H x xs v us Q I rx rs h
  obtain ⟨α, S, d, ds, sr, vx, vs, q⟩ := h
  unfold mtD at q
  split at q
  · rename_i i
    split at q
    · rename_i es hc
      obtain ⟨a, ys, rfl, ha, la, ra⟩ := vx.lst sr hc
      split at q
      · rename_i d
        obtain ⟨w, ws, rfl, r1, r2⟩ := vs.inv_cons
        cases r2
        by_cases hl : es.length < SZ
        · rw [if_pos hl] at q
          exact mt_append pins s σ H _ _ v us Q I rx rs ⟨a, ys, w, rfl, rfl, la, by rw [ra.length, ← SZ_eq]; exact hl, set_cell sr ha (ra.append (.one r1)) .non q⟩
        · rw [if_neg hl] at q; exact False.elim q
      · obtain rfl := vs.inv_nil
        split at q
        · rename_i y hy
          obtain ⟨w, hw, rw'⟩ := ra.get hy
          exact mt_pop pins s σ H _ _ v us Q I rx rs ⟨a, ys, w, rfl, rfl, la, by rw [ra.length]; exact hw, set_cell sr ha ra.dropLast rw' q⟩
        · exact False.elim q
      · rename_i k
        obtain ⟨w, ws, rfl, r1, r2⟩ := vs.inv_cons
        cases r2
        obtain rfl := r1.inv_int
        by_cases hk : -(2 ^ 63) ≤ k ∧ k < 2 ^ 63
        · rw [if_pos hk] at q
          split at q
          · rename_i j hj
            split at q
            · rename_i y hy
              obtain ⟨w, hw, rw'⟩ := ra.get hy
              exact mt_popAt pins s σ H _ _ v us Q I rx rs ⟨a, ys, k, j, w, rfl, rfl, la, hk.1, hk.2, by rw [ra.length]; exact ixN_seq' hj, hw, set_cell sr ha (ra.eraseIdx j) rw' q⟩
            · exact False.elim q
          · exact False.elim q
        · rw [if_neg hk] at q; exact False.elim q
      · rename_i j
        obtain ⟨w, ws, rfl, r1, r2⟩ := vs.inv_cons
        cases r2
        split at q
        · rename_i fs hf
          obtain ⟨b, zs, rfl, hb, lb, rb⟩ := r1.lst sr hf
          by_cases hl : es.length + fs.length ≤ SZ
          · rw [if_pos hl] at q
            exact mt_extend pins s σ H _ _ v us Q I rx rs ⟨a, b, ys, zs, rfl, rfl, la, lb, by rw [ra.length, rb.length, ← SZ_eq]; exact hl, set_cell sr ha (ra.append rb) .non q⟩
          · rw [if_neg hl] at q; exact False.elim q
        · exact False.elim q
      · obtain rfl := vs.inv_nil
        exact mt_reverse pins s σ H _ _ v us Q I rx rs ⟨a, ys, rfl, rfl, la, set_cell sr ha ra.reverse .non q⟩
      · exact False.elim q
    · exact False.elim q
  · exact False.elim q
theorem tyL {K : PySem.W.Frag} {H : Hp} {α : List Addr} {S : Store} (sr : SR K S H α) {v : V} {d : D} (r : VR K H α v d) (h : (lstOf S d).isSome = true) : tyV K "list" v H := by
  obtain ⟨ds, hd⟩ := Option.isSome_iff_exists.mp h
  obtain ⟨a, xs, rfl, hq, _⟩ := lst_ok sr r hd
  exact .inl ⟨rfl, xs, hq⟩
theorem e_mt {m : Mt} {o e : Expr} {es : List Expr} {name : Str} {apos cpos : Pos} {to : Tm} {ts : List Tm} (slot : Slot "list" name (mtId m)) (hty : typeOf (.builtin (mtId m)) = pure (.type "method_descriptor")) (ho : PE X o (tE X W C to)) (ha : PA X (e :: es) (tA X W C ts))
    (hbase : attributeBase o name X.env (eval o X.env) = eval o X.env)
    (hfew : ((backTo cpos (starEach (e :: es) X.env)).all (fun x => !x.1) && (backToKw cpos (keywordEach [] X.env)).all (fun x => x.1.isSome)
      && decide ((e :: es).length + ([] : List Keyword).length + (if ([] : List Keyword).isEmpty then 0 else 1) < 30)) = true)
    (hline : (apos.endLine == cpos.line) = true) (hs : starEach (e :: es) X.env = (false, eval e X.env) :: starEach es X.env) (hplain : (backTo cpos (starEach es X.env)).any (·.1) = false) :
    PE X (.Call (.Attribute o name apos) (e :: es) [] cpos) (tE X W C (.mt m to ts)) :=
  PE.imp (pe_bm PySem.F.plainAttrs_list slot hty mt_mtD ho ha hbase hfew hline hs hplain) fun σ H Q ⟨α, S, σd, sr, en, h⟩ => by
    unfold evE at h
    refine ⟨α, S, σd, sr, en, h.bind fun d S1 v H1 α1 e1 sr1 r1 h1 => ?_⟩
    by_cases hl : (lstOf S1 d).isSome = true
    · rw [if_pos hl] at h1
      refine ⟨tyL sr1 r1 hl, α1, S1, σd, sr1, en.mono e1 sr, h1.bind fun ds S2 vs H2 α2 e2 sr2 r2 h2 => ?_⟩
      exact ⟨α2, S2, d, ds, sr2, r1.mono e2 sr1, r2, h2.toV mtD_noexn⟩
    · rw [if_neg hl] at h1; exact False.elim h1
theorem e_mt0 {m : Mt} {o : Expr} {name : Str} {apos cpos : Pos} {to : Tm} (slot : Slot "list" name (mtId m)) (hty : typeOf (.builtin (mtId m)) = pure (.type "method_descriptor")) (ho : PE X o (tE X W C to))
    (hbase : attributeBase o name X.env (eval o X.env) = eval o X.env) (hline : (apos.endLine == cpos.line) = true) : PE X (.Call (.Attribute o name apos) [] [] cpos) (tE X W C (.mt m to [])) :=
  PE.imp (pe_bm0 PySem.F.plainAttrs_list slot hty mt_mtD ho hbase hline) fun σ H Q ⟨α, S, σd, sr, en, h⟩ => by
    unfold evE at h
    refine ⟨α, S, σd, sr, en, h.bind fun d S1 v H1 α1 e1 sr1 r1 h1 => ?_⟩
    by_cases hl : (lstOf S1 d).isSome = true
    · rw [if_pos hl] at h1
      unfold evEs at h1
      exact ⟨tyL sr1 r1 hl, α1, S1, d, [], sr1, r1, .nil, h1.toV mtD_noexn⟩
    · rw [if_neg hl] at h1; exact False.elim h1

/-! ### calls of defs -/
/-- what a def promises: what the evaluator tells -/
def spD (K : PySem.W.Frag) (mg : Str → Option Value) (f : List D → Store → R D) : Sp := fun vs H Q E => ∃ α S ds, SR K S H α ∧ VRs K H α vs ds ∧
  match f ds S with
  | .ok d S' => ∀ v H' α', Ext α H H' α' → SR K S' H' α' → VR K H' α' v d → Q v H'
  | .exn x S' => ∀ c o H' α', Ext α H H' α' → SR K S' H' α' → XR K mg x c o H' α' → E c o H'
  | .bad => False
theorem e_call {f : Addr} {fd : FuncData} {ps : List Str} {k i : Nat} {x : Str} {p : Pos} {e : Expr} {es : List Expr} {ts : List Tm} (F : FnOk X.prog X.w X.K X.mg X.base (L2.CX X.prog X.w) k f fd ps (spD X.K X.mg (C i))) (hr : Room k X.A) (hg : Gl X x)
    (hm : X.mg x = some (.ref f)) (hk : PySem.W.keepIn X.K (.ref f) = true) (hb : Binds X.K fd ps []) (tk : Takes X W) (ha : PA X (e :: es) (tA X W C ts)) (hdb : (x == ("__debug__" : Str)) = false)
    (he : starEach (e :: es) X.env = (false, eval e X.env) :: starEach es X.env) (hpl : (backTo pos (starEach es X.env)).any (·.1) = false) : PE X (.Call (.Name x p) (e :: es) [] pos) (tE X W C (.call i ts)) :=
  PE.imp (pe_callS (E := WE W) F hr hg hm hk hb (fun σ => passAt tk σ) ha hdb he hpl) fun σ H Q ⟨α, S, σd, sr, en, h⟩ => by
    unfold evE at h
    refine ⟨α, S, σd, sr, en, h.bind fun ds S1 vs H1 α1 e1 sr1 r1 h1 => ?_⟩
    refine ⟨α1, S1, ds, sr1, r1, ?_⟩
    cases hq : C i ds S1 with
    | ok d S2 => rw [hq] at h1; exact h1
    | exn x S2 => rw [hq] at h1; exact h1
    | bad => rw [hq] at h1; exact h1
end
end Ev
end

section
/-! Targets, what is walked, comprehensions. -/
namespace Ev
open PySem PySem.Spec PyProof.Rows L2

mutual
def Tg.ix : Tg → List Nat
  | .name i => [i]
  | .tup gs => Tg.ixs gs
def Tg.ixs : List Tg → List Nat
  | [] => []
  | g :: gs => g.ix ++ Tg.ixs gs
end
def tG (X : Cx) (g : Tg) : TG := fun v σ H Q => ∃ α S d σd σd', SR X.K S H α ∧ EnvR X.K H α σ σd ∧ VR X.K H α v d ∧ asg g d σd = some σd' ∧
  ∀ σ', EnvR X.K H α σ' σd' → σ'.length = σ.length → (∀ j, j ∉ g.ix → σ'[j]? = σ[j]?) → Q σ' H
def tGs (X : Cx) (gs : List Tg) : TGs := fun vs σ H Q => ∃ α S ds σd σd', SR X.K S H α ∧ EnvR X.K H α σ σd ∧ VRs X.K H α vs ds ∧ asgs gs ds σd = some σd' ∧
  ∀ σ', EnvR X.K H α σ' σd' → σ'.length = σ.length → (∀ j, j ∉ Tg.ixs gs → σ'[j]? = σ[j]?) → Q σ' H
theorem PG.imp {X : Cx} {e : Expr} {t t' : TG} (h : PG X e t') (i : ∀ v σ H Q, t v σ H Q → t' v σ H Q) : PG X e t := ⟨fun pins s σ H v u Q I r q => h.run pins s σ H v u Q I r (i v σ H Q q)⟩
theorem PGs.imp {X : Cx} {e : List Expr} {t t' : TGs} (h : PGs X e t') (i : ∀ v σ H Q, t v σ H Q → t' v σ H Q) : PGs X e t := ⟨fun pins s σ H v u Q I r q => h.run pins s σ H v u Q I r (i v σ H Q q)⟩
section
variable {X : Cx} {W : WX} {C : CallT} {pos : Pos}
theorem g_name {i : Nat} {x : Str} (hN : X.N.Nodup) (hi : X.N[i]? = some x) (hx : Loc X.env.scope x) (hf : X.fn x = true ∨ X.env.scope.names.lookup x = some .local) : PG X (.Name x pos) (tG X (.name i)) :=
  PG.imp (pg_name hN hi hx hf) fun v σ H Q ⟨α, S, d, σd, σd', sr, en, r, ha, h⟩ => by
    simp only [asg, Option.some.injEq] at ha
    subst ha
    exact h _ (en.set r) (by rw [List.length_set]) fun j hj => List.getElem?_set_ne (fun z => hj (by simp [Tg.ix, z]))
theorem g_nil : PGs X [] (tGs X []) := PGs.imp pgs_nil fun vs σ H Q ⟨α, S, ds, σd, σd', sr, en, r, ha, h⟩ => by
  cases r with
  | nil =>
    simp only [asgs, Option.some.injEq] at ha
    subst ha
    exact ⟨rfl, h σ en rfl fun _ _ => rfl⟩
  | cons _ _ => simp [asgs] at ha
theorem g_cons {e : Expr} {es : List Expr} {g : Tg} {gs : List Tg} (h1 : PG X e (tG X g)) (h2 : PGs X es (tGs X gs)) (hs : (assignEach (e :: es) X.env).map (·.2) = assign e X.env :: (assignEach es X.env).map (·.2)) : PGs X (e :: es) (tGs X (g :: gs)) :=
  PGs.imp (pgs_cons h1 h2 hs) fun vs σ H Q ⟨α, S, ds, σd, σd', sr, en, r, ha, h⟩ => by
    cases r with
    | nil => simp [asgs] at ha
    | @cons v vs d ds rv rt =>
      simp only [asgs] at ha
      cases q : asg g d σd with
      | none => simp [q] at ha
      | some σ1 =>
        simp only [q] at ha
        refine ⟨v, vs, rfl, α, S, d, σd, σ1, sr, en, rv, q, fun σ' en' hl hj => ?_⟩
        refine ⟨α, S, ds, σ1, σd', sr, en', rt, ha, fun σ2 en2 hl2 hj2 => h σ2 en2 (hl2.trans hl) fun j hm => ?_⟩
        simp only [Tg.ixs, List.mem_append, not_or] at hm
        exact (hj2 j hm.2).trans (hj j hm.1)
theorem asgs_len : ∀ {gs : List Tg} {ds : List D} {σ σ' : Env}, asgs gs ds σ = some σ' → ds.length = gs.length
  | [], [], _, _, _ => rfl
  | g :: gs, d :: ds, σ, σ', h => by
    simp only [asgs] at h
    cases q : asg g d σ with
    | none => simp [q] at h
    | some σ1 => simp only [q] at h; rw [List.length_cons, List.length_cons, asgs_len h]
  | [], _ :: _, _, _, h => by simp [asgs] at h
  | _ :: _, [], _, _, h => by simp [asgs] at h
theorem g_tup {es : List Expr} {k : Nat} {gs : List Tg} (hc : X.calm = true) (h : PGs X es (tGs X gs)) (hn : (assignEach es X.env).length = gs.length) (hst : (assignEach es X.env).findIdx? (·.1) = none) : PG X (.Tuple es k pos) (tG X (.tup gs)) :=
  PG.imp (pg_tup hc h hn hst) fun v σ H Q ⟨α, S, d, σd, σd', sr, en, r, ha, h⟩ => by
    simp only [asg] at ha
    cases d with
    | tup ds =>
      obtain ⟨a, xs, rfl, hq, rs⟩ := r.inv_tup
      exact ⟨a, xs, rfl, hq, by rw [rs.length]; exact asgs_len ha, α, S, ds, σd, σd', sr, en, rs, ha, fun σ' a b c => h σ' a b (by simpa [Tg.ix] using c)⟩
    | _ => simp at ha
end
theorem wipe_get {σ : L2.St} {j : Nat} : ∀ {vs : List Nat}, j ∉ vs → (wipe σ vs)[j]? = σ[j]?
  | [], _ => rfl
  | v :: vs, h => by
    rw [List.mem_cons, not_or] at h
    unfold wipe
    rw [List.getElem?_set_ne (fun z => h.1 z.symm), wipe_get h.2]
theorem wipe_in {σ : L2.St} {j : Nat} : ∀ {vs : List Nat}, j ∈ vs → j < σ.length → (wipe σ vs)[j]? = some none
  | v :: vs, h, hl => by
    unfold wipe
    by_cases hj : v = j
    · subst hj
      rw [List.getElem?_set_self (by rw [wipe_length]; exact hl)]
    · rw [List.getElem?_set_ne hj]
      exact wipe_in ((List.mem_cons.mp h).resolve_left fun z => hj z.symm) hl
/-- slots that differ among the wiped ones alone -/
theorem wipe_eq {σ σ' : L2.St} {vs : List Nat} (hl : σ'.length = σ.length) (h : ∀ j, j ∉ vs → σ'[j]? = σ[j]?) : wipe σ' vs = wipe σ vs := by
  apply List.ext_getElem?
  intro j
  by_cases hj : j ∈ vs
  · by_cases hlt : j < σ.length
    · rw [wipe_in hj hlt, wipe_in hj (by rw [hl]; exact hlt)]
    · rw [List.getElem?_eq_none (by rw [wipe_length]; omega), List.getElem?_eq_none (by rw [wipe_length]; omega)]
  · rw [wipe_get hj, wipe_get hj, h j hj]

/-! ### walks -/
structure Wk (K : PySem.W.Frag) (J : L2.It) (r : Src) (H0 : Hp) (α0 : List Addr) : Prop where
  go : ∀ i H α S, Ext α0 H0 H α → SR K S H α → r.chk S = true → i < r.items.length → J.go i H
  stop : ∀ H α S, Ext α0 H0 H α → SR K S H α → r.chk S = true → J.stop r.items.length H
  yld : ∀ i H α S x H' d, Ext α0 H0 H α → SR K S H α → r.chk S = true → r.items[i]? = some d → J.yld i H x H' → Ext α H H' α ∧ SR K S H' α ∧ VR K H' α x d
def relW (K : PySem.W.Frag) : Hp → List Addr → L2.It → Src → Prop := fun H α J r => Wk K J r H α
def tI (X : Cx) (W : WX) (C : CallT) (t : It) : TI := fun σ H R => ∃ α S σd, SR X.K S H α ∧ EnvR X.K H α σ σd ∧ Af X W σ (relW X.K) (evI C t σd S) H α R
theorem wk_tup {K : PySem.W.Frag} {H : Hp} {α : List Addr} {S0 : Store} {a : Addr} {xs : List V} {ds : List D} (sr : SR K S0 H α) (hq : SqT K H a xs) (r : VRs K H α xs ds) : Wk K (Itt K a) ⟨ds, []⟩ H α where
  go := fun i H' α' S e _ _ hi => ⟨xs, xs[i]'(by rw [r.length]; exact hi), sqT_keep e sr hq, List.getElem?_eq_getElem _⟩
  stop := fun H' α' S e _ _ => ⟨xs, sqT_keep e sr hq, by rw [r.length]; exact Nat.le_refl _⟩
  yld := fun i H1 α1 S x H2 d e sr1 _ hd ⟨e2, hx⟩ => by
    subst e2
    obtain ⟨v, hv, rv⟩ := r.get hd
    have := hx xs (sqT_keep e sr hq)
    rw [hv] at this
    cases this
    exact ⟨.refl, sr1, rv.mono e sr⟩
theorem wk_frz {K : PySem.W.Frag} {H : Hp} {α : List Addr} {S0 : Store} {a : Addr} {xs : List V} {ds : List D} (sr : SR K S0 H α) (hq : FzL K H a xs) (r : VRs K H α xs ds) : Wk K (Itl K a) ⟨ds, []⟩ H α where
  go := fun i H' α' S e _ _ hi => ⟨xs, xs[i]'(by rw [r.length]; exact hi), (fzL_keep e sr hq).sq, List.getElem?_eq_getElem _⟩
  stop := fun H' α' S e _ _ => ⟨xs, (fzL_keep e sr hq).sq, by rw [r.length]; exact Nat.le_refl _⟩
  yld := fun i H1 α1 S x H2 d e sr1 _ hd ⟨e2, hx⟩ => by
    subst e2
    obtain ⟨v, hv, rv⟩ := r.get hd
    have := hx xs (fzL_keep e sr hq).sq
    rw [hv] at this
    cases this
    exact ⟨.refl, sr1, rv.mono e sr⟩
theorem wk_loc {K : PySem.W.Frag} {H : Hp} {α : List Addr} {a : Addr} {i0 : Nat} {ds : List D} (ha : α[i0]? = some a) : Wk K (Itl K a) ⟨ds, [(i0, ds)]⟩ H α := by
  have at_ : ∀ {H' : Hp} {α' : List Addr} {S : Store}, Ext α H H' α' → SR K S H' α' → (Src.chk ⟨ds, [(i0, ds)]⟩ S) = true → ∃ xs, H' a = some (.lst xs) ∧ VRs K H' α' xs ds := fun e sr h => by
    simp only [Src.chk, List.all_cons, List.all_nil, Bool.and_true, decide_eq_true_eq] at h
    exact sr.cell i0 _ a h (e.get ha)
  refine ⟨fun i H' α' S e sr h hi => ?_, fun H' α' S e sr h => ?_, fun i H1 α1 S x H2 d e sr1 h hd hy => ?_⟩
  · obtain ⟨xs, h1, r⟩ := at_ e sr h
    exact ⟨xs, xs[i]'(by rw [r.length]; exact hi), .inl (.inl h1), List.getElem?_eq_getElem _⟩
  · obtain ⟨xs, h1, r⟩ := at_ e sr h
    exact ⟨xs, .inl (.inl h1), by rw [r.length]; exact Nat.le_refl _⟩
  · obtain ⟨e2, hx⟩ := hy
    subst e2
    obtain ⟨xs, h1, r⟩ := at_ e sr1 h
    obtain ⟨v, hv, rv⟩ := r.get hd
    have := hx xs (.inl (.inl h1))
    rw [hv] at this
    cases this
    exact ⟨.refl, sr1, rv⟩
theorem wk_rng {K : PySem.W.Frag} {H : Hp} {α : List Addr} (lo : Int) (n : Nat) : Wk K (Itr lo n) ⟨rngL lo n, []⟩ H α := by
  have hl : (rngL lo n).length = n := by unfold rngL; rw [List.length_map, List.length_range]
  refine ⟨fun i H' α' S e sr h hi => ?_, fun H' α' S e sr h => ?_, fun i H1 α1 S x H2 d e sr1 h hd hy => ?_⟩
  · show i < n
    rw [← hl]; exact hi
  · show n ≤ _
    exact Nat.le_of_eq hl.symm
  · obtain ⟨e2, hx⟩ := hy
    subst e2
    have hi : i < n := by rw [← hl]; exact (List.getElem?_eq_some_iff.mp hd).1
    have : (rngL lo n)[i]? = some (.int (lo + (i : Int))) := by
      unfold rngL
      rw [List.getElem?_map, List.getElem?_range hi]
      rfl
    rw [this] at hd
    cases hd
    subst hx
    exact ⟨.refl, sr1, .int _⟩
section
variable {X : Cx} {W : WX} {C : CallT} {tg a b : Expr} {ta tb : Tm} {pos p : Pos}
theorem i_val (ha : PE X a (tE X W C ta)) : PI X tg a (tI X W C (.val ta)) := by
  refine ⟨fun pins s σ H Rj I ⟨α, S, σd, sr, en, h⟩ => ?_⟩
  unfold evI at h
  cases he : evE C ta σd S with
  | bad => rw [he] at h; exact False.elim h
  | exn x S' =>
    rw [he] at h
    refine (pi_tup ha).run pins s σ H Rj I ⟨α, S, σd, sr, en, ?_⟩
    rw [he]
    exact h
  | ok d S1 =>
    rw [he] at h
    simp only [R.bind_ok] at h
    cases hs : seqOf S1 d with
    | none => rw [hs] at h; exact False.elim h
    | some ds =>
      rw [hs] at h
      cases d with
      | tup es =>
        simp only [seqOf, Option.some.injEq] at hs
        subst hs
        refine (pi_tup ha).run pins s σ H Rj I ⟨α, S, σd, sr, en, ?_⟩
        rw [he]
        intro v H1 α1 e1 sr1 r1
        obtain ⟨q, xs, rfl, hq, rs⟩ := VR.inv_tup r1
        exact ⟨q, rfl, ⟨xs, hq⟩, h _ H1 α1 e1 sr1 (wk_tup sr1 hq rs)⟩
      | ilst es =>
        simp only [seqOf, Option.some.injEq] at hs
        subst hs
        refine (pi_list ha).run pins s σ H Rj I ⟨α, S, σd, sr, en, ?_⟩
        rw [he]
        intro v H1 α1 e1 sr1 r1
        obtain ⟨q, xs, rfl, hq, rs⟩ := VR.inv_ilst r1
        exact ⟨q, rfl, ⟨xs, hq.sq⟩, h _ H1 α1 e1 sr1 (wk_frz sr1 hq rs)⟩
      | loc i =>
        refine (pi_list ha).run pins s σ H Rj I ⟨α, S, σd, sr, en, ?_⟩
        rw [he]
        intro v H1 α1 e1 sr1 r1
        obtain ⟨q, rfl, hq⟩ := VR.inv_loc r1
        obtain ⟨q', xs, e2, hq', rs⟩ := lst_ok sr1 r1 (ds := ds) (by
          simp only [seqOf] at hs
          simp only [lstOf]
          exact hs)
        cases e2
        exact ⟨q, rfl, ⟨xs, hq'⟩, h _ H1 α1 e1 sr1 (wk_loc hq)⟩
      | _ => simp [seqOf] at hs
theorem rngOk_iff {i : Int} (h : rngOk i = true) : -(2 ^ 62) ≤ i ∧ i < 2 ^ 62 := by
  unfold rngOk at h
  rw [Bool.and_eq_true, decide_eq_true_iff, decide_eq_true_iff] at h
  exact h
theorem i_rng1 (hg : Gl X "range") (hm : X.mg "range" = none) (ha : PE X a (tE X W C ta)) (hs : starEach [a] X.env = [(false, eval a X.env)]) : PI X tg (.Call (.Name "range" p) [a] [] pos) (tI X W C (.rng1 ta)) := by
  refine ⟨fun pins s σ H R I ⟨α, S, σd, sr, en, h⟩ => (pi_range1 hg hm (pa_cons ha pa_nil hs) hs).run pins s σ H R I ?_⟩
  unfold evI at h
  refine ⟨α, S, σd, sr, en, h.bind fun d S1 v H1 α1 e1 sr1 r1 h1 => ?_⟩
  cases d with
  | int j =>
    by_cases hj : rngOk j = true
    · simp only [if_pos hj] at h1
      obtain rfl := VR.inv_int r1
      obtain ⟨j1, j2⟩ := rngOk_iff hj
      exact ⟨j, rfl, j1, j2, h1.ok sr1 (wk_rng 0 _)⟩
    · simp only [if_neg hj] at h1; exact False.elim h1
  | _ => exact False.elim h1
theorem i_rng2 (hg : Gl X "range") (hm : X.mg "range" = none) (ha : PE X a (tE X W C ta)) (hb : PE X b (tE X W C tb)) (hs : starEach [a, b] X.env = [(false, eval a X.env), (false, eval b X.env)]) (hs2 : starEach [b] X.env = [(false, eval b X.env)]) :
    PI X tg (.Call (.Name "range" p) [a, b] [] pos) (tI X W C (.rng2 ta tb)) := by
  refine ⟨fun pins s σ H R I ⟨α, S, σd, sr, en, h⟩ => (pi_range2 hg hm (pa_cons ha (pa_cons hb pa_nil hs2) (by rw [hs, hs2])) hs hs2).run pins s σ H R I ?_⟩
  unfold evI at h
  refine ⟨α, S, σd, sr, en, h.bind fun d S1 v H1 α1 e1 sr1 r1 h1 => ?_⟩
  refine ⟨α1, S1, σd, sr1, en.mono e1 sr, h1.bind fun d2 S2 v2 H2 α2 e2 sr2 r2 h2 => ?_⟩
  cases d with
  | int i =>
    cases d2 with
    | int j =>
      by_cases hj : (rngOk i && rngOk j) = true
      · simp only [if_pos hj] at h2
        rw [Bool.and_eq_true] at hj
        obtain rfl := VR.inv_int r1
        obtain rfl := VR.inv_int r2
        obtain ⟨i1, i2⟩ := rngOk_iff hj.1
        obtain ⟨j1, j2⟩ := rngOk_iff hj.2
        exact ⟨i, j, rfl, ⟨i1, i2, j1, j2⟩, h2.ok sr2 (wk_rng i _)⟩
      · simp only [if_neg hj] at h2; exact False.elim h2
    | _ => exact False.elim h2
  | _ => exact False.elim h2
end

/-! ### comprehensions -/
theorem PTs.imp {X : Cx} {e : List Expr} {t t' : TT} (h : PTs X e t') (i : ∀ σ H Q, t σ H Q → t' σ H Q) : PTs X e t := ⟨fun pins s σ H Q I q => h.run pins s σ H Q I (i σ H Q q)⟩
theorem ts_nil {X : Cx} {W : WX} {C : CallT} : PTs X [] (tTs X W C []) := PTs.imp pts_nil fun σ H Q ⟨α, S, σd, sr, en, h⟩ => h.ok sr rfl
theorem ts_one {X : Cx} {W : WX} {C : CallT} {a : Expr} {ta : Tm} (ha : PT X a (tT X W C ta)) : PTs X [a] (tTs X W C [ta]) := PTs.imp (pts_one ha) fun σ H Q ⟨α, S, σd, sr, en, h⟩ => ⟨α, S, σd, sr, en, by
  unfold evT at h
  exact h.bind fun k S1 b H1 α1 e1 sr1 (r1 : b = k) h1 => by
    subst r1
    cases b with
    | true => exact h1.ok sr1 rfl
    | false => exact h1.ok sr1 rfl⟩
/-- nothing is wished of exceptions -/
abbrev W0 : WX := fun _ _ _ _ => False
theorem lc_inv {chk : Store → Bool} {g : Tg} {t : Env → Store → R Bool} {e : Env → Store → R D} {σ : Env} {d : D} {ds : List D} {S S' : Store} {xs : List D} (h : lcD chk g t e σ (d :: ds) S = .ok xs S') :
    chk S = true ∧ ∃ σ1 k S1, asg g d σ = some σ1 ∧ t σ1 S = .ok k S1 ∧ if k = true then ∃ x S2 ys, e σ1 S1 = .ok x S2 ∧ lcD chk g t e σ ds S2 = .ok ys S' ∧ xs = x :: ys else lcD chk g t e σ ds S1 = .ok xs S' := by
  unfold lcD at h
  by_cases hc : chk S = true
  · rw [if_pos hc] at h
    refine ⟨hc, ?_⟩
    cases ha : asg g d σ with
    | none => simp [ha] at h
    | some σ1 =>
      simp only [ha] at h
      cases ht : t σ1 S with
      | bad => simp [ht] at h
      | exn x S1 => simp [ht] at h
      | ok k S1 =>
        simp only [ht] at h
        refine ⟨σ1, k, S1, rfl, ht, ?_⟩
        cases k with
        | false => simpa using h
        | true =>
          simp only [if_true]
          simp only at h
          cases he : e σ1 S1 with
          | bad => simp [he] at h
          | exn x S2 => simp [he] at h
          | ok x S2 =>
            simp only [he] at h
            cases hl : lcD chk g t e σ ds S2 with
            | bad => simp [hl] at h
            | exn y S3 => simp [hl] at h
            | ok ys S3 =>
              simp only [hl] at h
              cases h
              exact ⟨x, S2, ys, rfl, hl, rfl⟩
  · rw [if_neg hc] at h; cases h
theorem add_cell {K : PySem.W.Frag} {H : Hp} {α : List Addr} {S : Store} {p : Addr} {xs : List V} {ds : List D} (sr : SR K S H α) (hp : H p = some (.lst xs)) (hn : p ∉ α) (r : VRs K H α xs ds) : SR K (S ++ [.lst ds]) H (α ++ [p]) := by
  have e : ∀ i a, i < α.length → α[i]? = some a → (α ++ [p])[i]? = some a := fun i a hi h => by rw [List.getElem?_append_left hi]; exact h
  refine ⟨by rw [List.length_append, List.length_append, sr.len]; rfl, ?_, fun i c a h1 h2 => ?_⟩
  · exact List.nodup_append.mpr ⟨sr.nd, by simp, fun a ha b hb => by rw [List.mem_singleton.mp hb]; rintro rfl; exact hn ha⟩
  · by_cases hi : i < S.length
    · rw [List.getElem?_append_left hi] at h1
      rw [List.getElem?_append_left (by rw [sr.len]; exact hi)] at h2
      have hc := sr.cell i c a h1 h2
      exact hc.cut e hc.blw
    · rw [List.getElem?_append_right (by omega)] at h1
      rw [List.getElem?_append_right (by rw [sr.len]; omega)] at h2
      have h3 := (List.getElem?_eq_some_iff.mp h1).1
      have h5 : i - S.length = 0 := by simp at h3; omega
      rw [sr.len] at h2
      rw [h5] at h1 h2
      simp at h1 h2
      subst h1 h2
      exact ⟨xs, hp, r.cut e r.blw⟩
mutual
theorem VR.own {K : PySem.W.Frag} {H : Hp} {α : List Addr} {p : Addr} {ys zs : List V} (hp : H p = some (.lst ys)) : ∀ {v : V} {d : D}, VR K H α v d → VR K (upd H p (.lst zs)) α v d
  | _, _, .non => .non
  | _, _, .bl b => .bl b
  | _, _, .int i => .int i
  | _, _, .str x => .str x
  | _, _, .tup h t => .tup (by
      rcases h with (h | ⟨o, h⟩) | h
      · exact .inl (.inl (by rw [upd_ne (ne_of h hp (by intro z; cases z))]; exact h))
      · exact .inl (.inr ⟨o, by rw [upd_ne (ne_of h hp (by intro z; cases z))]; exact h⟩)
      · exact .inr h) (VRs.own hp t)
  | _, _, .ilst h t => .ilst (by
      rcases h with ⟨o, h⟩ | h
      · exact .inl ⟨o, by rw [upd_ne (ne_of h hp (by intro z; cases z))]; exact h⟩
      · exact .inr h) (VRs.own hp t)
  | _, _, .loc h => .loc h
theorem VRs.own {K : PySem.W.Frag} {H : Hp} {α : List Addr} {p : Addr} {ys zs : List V} (hp : H p = some (.lst ys)) : ∀ {xs : List V} {ds : List D}, VRs K H α xs ds → VRs K (upd H p (.lst zs)) α xs ds
  | _, _, .nil => .nil
  | _, _, .cons h t => .cons (VR.own hp h) (VRs.own hp t)
end
theorem SR.own {K : PySem.W.Frag} {H : Hp} {α : List Addr} {S : Store} {p : Addr} {ys zs : List V} (sr : SR K S H α) (hp : H p = some (.lst ys)) (hn : p ∉ α) : SR K S (upd H p (.lst zs)) α := by
  refine ⟨sr.len, sr.nd, fun i c a h1 h2 => ?_⟩
  have hc := sr.cell i c a h1 h2
  have ne : a ≠ p := fun z => hn (by rw [← z]; exact List.mem_of_getElem? h2)
  cases c with
  | lst ds =>
    obtain ⟨xs, e, t⟩ := hc
    exact ⟨xs, by rw [upd_ne ne]; exact e, t.own hp⟩
  | dct _ => exact False.elim hc
  | set _ => exact False.elim hc
section
variable {X : Cx} {W : WX} {C : CallT}
theorem lcAf {g : Tg} {it : It} {cs : List Tm} {te : Tm} {own : List Nat} (hg : ∀ j ∈ g.ix, j ∈ own) (σ : L2.St) (H : Hp) (Q : VK) (h : tE X W C (.lc g it cs te own) σ H Q) :
    tLc (tI X W C it) (tG X g) (tTs X W0 C cs) (tE X W0 C te) own σ H Q := by
  obtain ⟨α, S, σd, sr, en, h⟩ := h
  unfold evE at h
  refine ⟨α, S, σd, sr, en, h.bind fun r S1 J H1 α1 e1 sr1 (wk : Wk X.K J r H1 α1) h1 => ?_⟩
  intro D hD
  cases hl : lcD r.chk g (evT C cs) (evE C te) (wipeD σd own) r.items S1 with
  | bad => rw [hl] at h1; exact False.elim h1
  | exn x S' => exact absurd hl (by
      have : ∀ (ds : List Ev.D) (S : Store), lcD r.chk g (evT C cs) (evE C te) (wipeD σd own) ds S ≠ .exn x S' := by
        intro ds
        induction ds with
        | nil => intro S h; unfold lcD at h; split at h <;> cases h
        | cons d ds ih =>
          intro S h
          unfold lcD at h
          repeat' split at h
          all_goals first
            | cases h
            | exact ih _ h
      exact this _ _)
  | ok total SF =>
    rw [hl] at h1
    simp only [R.bind_ok] at h1
    by_cases hlen : total.length < SZ
    · rw [if_pos hlen] at h1
      have hDα : D ∉ α1 := sr1.fresh hD
      have enw : EnvR X.K H1 α1 (wipe σ own) (wipeD σd own) := (en.mono e1 sr).wipe own
      have eU : Ext α1 H1 (upd H1 D (.lst [])) α1 := upd_ext hD
      have sU : SR X.K S1 (upd H1 D (.lst [])) α1 := sr1.tupd hD
      refine ⟨fun i m H2 => ∃ α2 S2 accV accD rest, i ≤ r.items.length ∧ m = r.items.length - i ∧ SR X.K S2 H2 α2 ∧ Ext α1 H1 H2 α2 ∧ H2 D = some (.lst accV) ∧ D ∉ α2 ∧ VRs X.K H2 α2 accV accD ∧
        lcD r.chk g (evT C cs) (evE C te) (wipeD σd own) (r.items.drop i) S2 = .ok rest SF ∧ accD ++ rest = total, ⟨r.items.length, α1, S1, [], [], total, Nat.zero_le _, by simp, sU, eU, upd_same, hDα, .nil, by simpa using hl, rfl⟩, ?_⟩
      rintro i m H2 ⟨α2, S2, accV, accD, rest, hi, hm, sr2, e2', hD2, hDn, rA, hrun, htot⟩
      by_cases hlt : i < r.items.length
      · -- a turn
        have hdrop : r.items.drop i = r.items[i] :: r.items.drop (i + 1) := List.drop_eq_getElem_cons hlt
        rw [hdrop] at hrun
        obtain ⟨hchk, σ1, k, S3, hasg, hts, hk⟩ := lc_inv hrun
        refine .inr ⟨wk.go i H2 α2 S2 e2' sr2 hchk hlt, fun H' => ∃ α2 S2 accV accD rest, i + 1 ≤ r.items.length ∧ SR X.K S2 H' α2 ∧ Ext α1 H1 H' α2 ∧ H' D = some (.lst accV) ∧ D ∉ α2 ∧ VRs X.K H' α2 accV accD ∧
          lcD r.chk g (evT C cs) (evE C te) (wipeD σd own) (r.items.drop (i + 1)) S2 = .ok rest SF ∧ accD ++ rest = total, fun H' ⟨α', S', aV, aD, rs, q1, q2, q3, q4, q5, q6, q7, q8⟩ => ⟨m - 1, by omega, α', S', aV, aD, rs, q1, by omega, q2, q3, q4, q5, q6, q7, q8⟩, fun x H3 hy => ?_⟩
        obtain ⟨e3, sr3, rx⟩ := wk.yld i H2 α2 S2 x H3 _ e2' sr2 hchk (List.getElem?_eq_getElem hlt) hy
        have hD3 : H3 D = some (.lst accV) := e3.keep D _ hD2 hDn
        have en3 : EnvR X.K H3 α2 (wipe σ own) (wipeD σd own) := (enw.mono e2' sr1).mono e3 sr2
        refine ⟨α2, S2, _, wipeD σd own, σ1, sr3, en3, rx, hasg, fun σ' en' hl' hj' => ⟨?_, ?_⟩⟩
        · have : wipe σ' own = wipe (wipe σ own) own := wipe_eq hl' fun j hj => hj' j fun z => hj (hg j z)
          rw [this]
          exact wipe_eq (by rw [wipe_length]) fun j hj => wipe_get hj
        refine ⟨α2, S2, σ1, sr3, en', ?_⟩
        rw [hts]
        intro b H4 α4 e4 sr4 (hb : b = k)
        subst hb
        have hD4 : H4 D = some (.lst accV) := e4.keep D _ hD3 hDn
        have e24 : Ext α1 H1 H4 α4 := (e2'.trans e3 sr2).trans e4 sr3
        have nin4 : D ∉ α4 := fun z => by
          obtain ⟨β, eβ, nβ⟩ := e4.pre
          rw [eβ] at z
          rcases List.mem_append.mp z with z | z
          · exact hDn z
          · have := nβ D z
            rw [hD3] at this; cases this
        cases b with
        | false =>
          simp only [Bool.false_eq_true, if_false] at hk ⊢
          exact ⟨α4, S3, accV, accD, rest, hlt, sr4, e24, hD4, nin4, (rA.mono e3 sr2).mono e4 sr3, hk, htot⟩
        | true =>
          simp only [if_true] at hk ⊢
          obtain ⟨xd, S5, ys, hx, hrest, rfl⟩ := hk
          refine ⟨α4, S3, σ1, sr4, en'.mono e4 sr3, ?_⟩
          rw [hx]
          intro y H5 α5 e5 sr5 ry
          have hD5 : H5 D = some (.lst accV) := e5.keep D _ hD4 nin4
          have nin5 : D ∉ α5 := fun z => by
            obtain ⟨β, eβ, nβ⟩ := e5.pre
            rw [eβ] at z
            rcases List.mem_append.mp z with z | z
            · exact nin4 z
            · have := nβ D z
              rw [hD4] at this; cases this
          have rA5 : VRs X.K H5 α5 accV accD := ((rA.mono e3 sr2).mono e4 sr3).mono e5 sr4
          have e25 : Ext α1 H1 H5 α5 := e24.trans e5 sr4
          have eF : Ext α1 H1 (upd H5 D (.lst (accV ++ [y]))) α5 := ⟨e25.pre, fun q o h hq => by rw [upd_ne (ne_of_none h hD)]; exact e25.keep q o h hq⟩
          refine ⟨accV, hD5, ?_, α5, S5, accV ++ [y], accD ++ [xd], ys, hlt, sr5.own hD5 nin5, eF, upd_same, nin5, (rA5.append (.one ry)).own hD5, hrest, by rw [List.append_assoc]; exact htot⟩
          rw [rA5.length, ← SZ_eq]
          have := congrArg List.length htot
          simp only [List.length_append, List.length_cons] at this
          omega
      · have hi' : i = r.items.length := by omega
        subst hi'
        rw [List.drop_length] at hrun
        unfold lcD at hrun
        by_cases hchk : r.chk S2 = true
        · rw [if_pos hchk] at hrun
          cases hrun
          rw [List.append_nil] at htot
          subst htot
          refine .inl ⟨wk.stop H2 α2 _ e2' sr2 hchk, ?_⟩
          have hD1 : ∀ b ∈ [D], H1 b = none := fun b hb => by rw [List.mem_singleton.mp hb]; exact hD
          obtain ⟨β, eβ, nβ⟩ := e2'.pre
          have eF : Ext α1 H1 H2 (α2 ++ [D]) := ⟨⟨β ++ [D], by rw [eβ, List.append_assoc], fun b hb => (List.mem_append.mp hb).elim (nβ b) (hD1 b)⟩, e2'.keep⟩
          have srF := add_cell sr2 hD2 hDn rA
          exact h1 _ H2 (α2 ++ [D]) eF srF (.loc (by rw [← sr2.len, List.getElem?_append_right (Nat.le_refl _)]; simp))
        · rw [if_neg hchk] at hrun; cases hrun
    · rw [if_neg hlen] at h1; exact False.elim h1
end
end Ev
end

section
/-! Statements. -/
namespace Ev
open PySem PySem.Spec PyProof.Rows L2

def AfS (X : Cx) (W : WX) (r : RS) (D : Ends) (H : Hp) (α : List Addr) : Prop :=
  match r with
  | none => False
  | some (.nx σd, S) => ∀ σ H' α', Ext α H H' α' → SR X.K S H' α' → EnvR X.K H' α' σ σd → D.nx σ H'
  | some (.brk σd, S) => ∀ σ H' α', Ext α H H' α' → SR X.K S H' α' → EnvR X.K H' α' σ σd → D.bk σ H'
  | some (.cont σd, S) => ∀ σ H' α', Ext α H H' α' → SR X.K S H' α' → EnvR X.K H' α' σ σd → D.ct σ H'
  | some (.ret d, S) => ∀ v H' α', Ext α H H' α' → SR X.K S H' α' → VR X.K H' α' v d → D.rt v H'
  | some (.exn x σd, S) => ∀ c o σ H' α', Ext α H H' α' → SR X.K S H' α' → EnvR X.K H' α' σ σd → XR X.K X.mg x c o H' α' → W c o σ H'
def tS (X : Cx) (W : WX) (C : CallT) (n : Nat) (s : Sm) : TS := fun D σ H => ∃ α S σd, SR X.K S H α ∧ EnvR X.K H α σ σd ∧ AfS X W (evS C n s σd S) D H α
def tSs (X : Cx) (W : WX) (C : CallT) (n : Nat) (ss : List Sm) : TS := fun D σ H => ∃ α S σd, SR X.K S H α ∧ EnvR X.K H α σ σd ∧ AfS X W (evSs C n ss σd S) D H α
section
variable {X : Cx} {W : WX} {C : CallT} {n : Nat} {D : Ends} {H H1 : Hp} {α α1 : List Addr} {S S1 : Store} {σ : L2.St} {σd : Env}
theorem AfS.step {r : RS} (e : Ext α H H1 α1) (sr1 : SR X.K S1 H1 α1) (h : AfS X W r D H α) : AfS X W r D H1 α1 := by
  cases r with
  | none => exact h
  | some p =>
    obtain ⟨o, S'⟩ := p
    cases o with
    | nx σd => exact fun σ H' α' e' => h σ H' α' (e.trans e' sr1)
    | brk σd => exact fun σ H' α' e' => h σ H' α' (e.trans e' sr1)
    | cont σd => exact fun σ H' α' e' => h σ H' α' (e.trans e' sr1)
    | ret d => exact fun v H' α' e' => h v H' α' (e.trans e' sr1)
    | exn x σd => exact fun c o σ H' α' e' => h c o σ H' α' (e.trans e' sr1)
theorem AfS.bindE {A B : Type} {rel : Hp → List Addr → B → A → Prop} {r : R A} {f : A → Store → RS} {Q1 : B → Hp → Prop} (sr : SR X.K S H α) (en : EnvR X.K H α σ σd) (h : AfS X W (r.thenS σd f) D H α)
    (k : ∀ a S1 b H1 α1, Ext α H H1 α1 → SR X.K S1 H1 α1 → rel H1 α1 b a → AfS X W (f a S1) D H1 α1 → Q1 b H1) : Af X W σ rel r H α Q1 := by
  cases r with
  | ok a S1 => exact fun b H1 α1 e1 sr1 rl => k a S1 b H1 α1 e1 sr1 rl (AfS.step e1 sr1 h)
  | exn x S' => exact fun c o H' α' e' sr' xr => h c o σ H' α' e' sr' (en.mono e' sr) xr
  | bad => exact h
variable {a b o i v : Expr} {ta tb to ti tv : Tm} {pos pos' : Pos}
theorem s_expr (ha : PE X a (tE X W C ta)) (hs : swapsWith a none pos.line X.env = pure false) : PS X (.Expr a pos) (tS X W C n (.expr ta)) :=
  PS.imp (ps_expr ha hs) fun D σ H ⟨α, S, σd, sr, en, h⟩ => by
    unfold evS at h
    exact ⟨α, S, σd, sr, en, AfS.bindE sr en h fun d S1 v H1 α1 e1 sr1 r1 h1 => h1 _ _ _ .refl sr1 (en.mono e1 sr)⟩
theorem s_set {j : Nat} {x : Str} (hN : X.N.Nodup) (hi : X.N[j]? = some x) (hx : Loc X.env.scope x) (ha : PE X a (tE X W C ta)) (hs : swapsWith a (some (.Name x pos')) pos.line X.env = pure false) (hf : X.fn x = true ∨ X.env.scope.names.lookup x = some .local) :
    PS X (.Assign [.Name x pos'] a pos) (tS X W C n (.set j ta)) :=
  PS.imp (ps_set hN hi hx ha hs hf) fun D σ H ⟨α, S, σd, sr, en, h⟩ => by
    unfold evS at h
    exact ⟨α, S, σd, sr, en, AfS.bindE sr en h fun d S1 v H1 α1 e1 sr1 r1 h1 => h1 _ _ _ .refl sr1 ((en.mono e1 sr).set r1)⟩
theorem s_asg {tg : Expr} {g : Tg} (ha : PE X a (tE X W C ta)) (hg : PG X tg (tG X g)) (hs : swapsWithSole [tg] a pos.line X.env = pure false) (hw : swappedStores [tg] a X.env = pure none)
    (h1 : (assignEach [tg] X.env).map (·.2) = [assign tg X.env]) : PS X (.Assign [tg] a pos) (tS X W C n (.asg g ta)) :=
  PS.imp (ps_asg ha hg hs hw h1) fun D σ H ⟨α, S, σd, sr, en, h⟩ => by
    unfold evS at h
    refine ⟨α, S, σd, sr, en, AfS.bindE sr en h fun d S1 v H1 α1 e1 sr1 r1 h1 => ?_⟩
    cases q : asg g d σd with
    | none => rw [q] at h1; exact False.elim h1
    | some σ1 =>
      rw [q] at h1
      exact ⟨α1, S1, d, σd, σ1, sr1, en.mono e1 sr, r1, q, fun σ' en' _ _ => h1 _ _ _ .refl sr1 en'⟩
theorem s_ret (ha : PE X a (tE X W C ta)) : PS X (.Return (some a) pos) (tS X W C n (.ret ta)) :=
  PS.imp (ps_ret ha) fun D σ H ⟨α, S, σd, sr, en, h⟩ => by
    unfold evS at h
    exact ⟨α, S, σd, sr, en, AfS.bindE sr en h fun d S1 v H1 α1 e1 sr1 r1 h1 => h1 _ _ _ .refl sr1 r1⟩
theorem s_retN : PS X (.Return none pos) (tS X W C n .retN) := PS.imp ps_retN fun D σ H ⟨α, S, σd, sr, en, h⟩ => h .non H α .refl sr .non
theorem s_pass : PS X (.Pass pos) (tS X W C n .pass) := PS.imp ps_pass fun D σ H ⟨α, S, σd, sr, en, h⟩ => h σ H α .refl sr en
theorem s_brk : PS X (.Break pos) (tS X W C n .brk) := PS.imp ps_break fun D σ H ⟨α, S, σd, sr, en, h⟩ => h σ H α .refl sr en
theorem s_cont : PS X (.Continue pos) (tS X W C n .cont) := PS.imp ps_continue fun D σ H ⟨α, S, σd, sr, en, h⟩ => h σ H α .refl sr en
theorem s_never {st : Stmt} : PS X st (tS X W C n .never) := PS.imp ps_never fun D σ H ⟨α, S, σd, sr, en, h⟩ => h
theorem s_doc {x : Str} {j : Nat} : PS X (.Expr (.Constant (.str x) j pos) pos') (tS X W C n .pass) := PS.imp ps_doc fun D σ H ⟨α, S, σd, sr, en, h⟩ => h σ H α .refl sr en
theorem s_ite {p q : List Stmt} {sp sq : List Sm} (hc : PT X a (tT X W C ta)) (hp : PSs X p (tSs X W C n sp)) (hq : PSs X q (tSs X W C n sq)) : PS X (.If a p q pos) (tS X W C n (.ite ta sp sq)) :=
  PS.imp (ps_if hc hp hq) fun D σ H ⟨α, S, σd, sr, en, h⟩ => by
    unfold evS at h
    refine ⟨α, S, σd, sr, en, AfS.bindE sr en h fun k S1 b H1 α1 e1 sr1 (r1 : b = k) h1 => ?_⟩
    subst r1
    cases b with
    | true => exact ⟨α1, S1, σd, sr1, en.mono e1 sr, by simpa using h1⟩
    | false => exact ⟨α1, S1, σd, sr1, en.mono e1 sr, by simpa using h1⟩
theorem ss_nil : PSs X [] (tSs X W C n []) := PSs.imp pss_nil fun D σ H ⟨α, S, σd, sr, en, h⟩ => h σ H α .refl sr en
theorem ss_cons {st : Stmt} {rest : List Stmt} {s : Sm} {ss : List Sm} (h1 : PS X st (tS X W C n s)) (h2 : PSs X rest (tSs X W C n ss)) : PSs X (st :: rest) (tSs X W C n (s :: ss)) :=
  PSs.imp (pss_cons h1 h2) fun D σ H ⟨α, S, σd, sr, en, h⟩ => by
    unfold evSs at h
    refine ⟨α, S, σd, sr, en, ?_⟩
    cases he : evS C n s σd S with
    | none => rw [he] at h; exact h
    | some p =>
      obtain ⟨o, S'⟩ := p
      rw [he] at h
      cases o with
      | nx σ1 => exact fun σ' H' α' e' sr' en' => ⟨α', S', σ1, sr', en', AfS.step e' sr' h⟩
      | brk σ1 => exact h
      | cont σ1 => exact h
      | ret d => exact h
      | exn x σ1 => exact h
/-! ### loops -/
theorem s_for {tg iter : Expr} {body : List Stmt} {g : Tg} {it : It} {sb : List Sm} (hp : PassesOwn (model X.prog X.w) X.A X.env X.xe) (hc : X.calm = true) (hi : PI X tg iter (tI X W C it)) (hg : PG X tg (tG X g)) (hb : PSs X body (tSs X W C n sb))
    (hs : ∀ x, foldedSetIterable iter X.env x = pure x) : PS X (.For tg iter body [] pos) (tS X W C n (.for_ g it sb)) :=
  PS.imp (ps_for hp hc hi hg hb hs) fun D σ H ⟨α, S, σd, sr, en, h⟩ => by
    unfold evS at h
    refine ⟨α, S, σd, sr, en, AfS.bindE sr en h fun r S1 J H1 α1 e1 sr1 (wk : Wk X.K J r H1 α1) h1 => ?_⟩
    refine ⟨fun i m σ H => ∃ α S σd, i ≤ r.items.length ∧ m = r.items.length - i ∧ SR X.K S H α ∧ EnvR X.K H α σ σd ∧ Ext α1 H1 H α ∧ AfS X W (forD r.chk g (evSs C n sb) (r.items.drop i) σd S) D H α,
      ⟨r.items.length, α1, S1, σd, Nat.zero_le _, by simp, sr1, en.mono e1 sr, .refl, by simpa using h1⟩, ?_⟩
    rintro i m σ2 H2 ⟨α2, S2, σd2, hi, hm, sr2, en2, e2, h2⟩
    by_cases hlt : i < r.items.length
    · have hdrop : r.items.drop i = r.items[i] :: r.items.drop (i + 1) := List.drop_eq_getElem_cons hlt
      rw [hdrop] at h2
      unfold forD at h2
      by_cases hchk : r.chk S2 = true
      · rw [if_pos hchk] at h2
        refine .inr ⟨wk.go i H2 α2 S2 e2 sr2 hchk hlt, fun σ' H' => ∃ α S σd, i + 1 ≤ r.items.length ∧ SR X.K S H' α ∧ EnvR X.K H' α σ' σd ∧ Ext α1 H1 H' α ∧ AfS X W (forD r.chk g (evSs C n sb) (r.items.drop (i + 1)) σd S) D H' α,
          fun σ' H' ⟨α', S', σd', q1, q2, q3, q4, q5⟩ => ⟨m - 1, by omega, α', S', σd', q1, by omega, q2, q3, q4, q5⟩, fun x H3 hy => ?_⟩
        obtain ⟨e3, sr3, rx⟩ := wk.yld i H2 α2 S2 x H3 _ e2 sr2 hchk (List.getElem?_eq_getElem hlt) hy
        cases ha : asg g r.items[i] σd2 with
        | none => simp only [ha] at h2; exact False.elim h2
        | some σ1 =>
          simp only [ha] at h2
          refine ⟨α2, S2, _, σd2, σ1, sr3, en2.mono e3 sr2, rx, ha, fun σ' en' _ _ => ⟨α2, S2, σ1, sr3, en', ?_⟩⟩
          have h3 := AfS.step e3 sr3 h2
          cases hb' : evSs C n sb σ1 S2 with
          | none => rw [hb'] at h3; exact h3
          | some p =>
            obtain ⟨o, S'⟩ := p
            rw [hb'] at h3
            cases o with
            | nx σ3 => exact fun σ' H' α' e' sr' en' => ⟨α', S', σ3, hlt, sr', en', (e2.trans e3 sr2).trans e' sr3, AfS.step e' sr' h3⟩
            | cont σ3 => exact fun σ' H' α' e' sr' en' => ⟨α', S', σ3, hlt, sr', en', (e2.trans e3 sr2).trans e' sr3, AfS.step e' sr' h3⟩
            | brk σ3 => exact h3
            | ret d => exact h3
            | exn x σ3 => exact h3
      · rw [if_neg hchk] at h2; exact False.elim h2
    · have hi' : i = r.items.length := by omega
      subst hi'
      rw [List.drop_length] at h2
      unfold forD at h2
      by_cases hchk : r.chk S2 = true
      · rw [if_pos hchk] at h2
        exact .inl ⟨wk.stop H2 α2 S2 e2 sr2 hchk, h2 σ2 H2 α2 .refl sr2 en2⟩
      · rw [if_neg hchk] at h2; exact False.elim h2
theorem s_while {c : Expr} {body : List Stmt} {tc : Tm} {sb : List Sm} (hp : PassesOwn (model X.prog X.w) X.A X.env X.xe) (hc : PT X c (tT X W C tc)) (hb : PSs X body (tSs X W C n sb)) : PS X (.While c body [] pos) (tS X W C n (.while_ tc sb)) :=
  PS.imp (ps_while hp hc hb) fun D σ H ⟨α, S, σd, sr, en, h⟩ => by
    unfold evS at h
    refine ⟨fun m σ H => ∃ α S σd, SR X.K S H α ∧ EnvR X.K H α σ σd ∧ AfS X W (whileD (fun σ S => (evE C tc σ S).tru) (evSs C n sb) m σd S) D H α, ⟨n, α, S, σd, sr, en, h⟩, ?_⟩
    rintro m σ2 H2 ⟨α2, S2, σd2, sr2, en2, h2⟩
    cases m with
    | zero => exact False.elim h2
    | succ m =>
      unfold whileD at h2
      refine ⟨α2, S2, σd2, sr2, en2, AfS.bindE sr2 en2 h2 fun k S1 b H1 α1 e1 sr1 (r1 : b = k) h1 => ?_⟩
      subst r1
      cases b with
      | false => exact h1 σ2 H1 α1 .refl sr1 (en2.mono e1 sr2)
      | true =>
        simp only [if_true] at h1 ⊢
        refine ⟨fun σ H => ∃ α S σd, SR X.K S H α ∧ EnvR X.K H α σ σd ∧ AfS X W (whileD (fun σ S => (evE C tc σ S).tru) (evSs C n sb) m σd S) D H α, fun σ' H' q => ⟨m, Nat.lt_succ_self _, q⟩, α1, S1, σd2, sr1, en2.mono e1 sr2, ?_⟩
        cases hb' : evSs C n sb σd2 S1 with
        | none => rw [hb'] at h1; exact h1
        | some p =>
          obtain ⟨o, S'⟩ := p
          rw [hb'] at h1
          cases o with
          | nx σ3 => exact fun σ' H' α' e' sr' en' => ⟨α', S', σ3, sr', en', AfS.step e' sr' h1⟩
          | cont σ3 => exact fun σ' H' α' e' sr' en' => ⟨α', S', σ3, sr', en', AfS.step e' sr' h1⟩
          | brk σ3 => exact h1
          | ret d => exact h1
          | exn x σ3 => exact h1
/-! ### name op= e -/
theorem ip_augD {op : Operator} : PIp X op (rBin X.K (augD op)) := by
  intro pins s σ H x y v u Q I rx ry h
  obtain ⟨α, S, d, e, sr, vx, vy, q⟩ := h
  unfold augD at q
  split at q
  · obtain rfl := vx.inv_int; obtain rfl := vy.inv_int
    exact ip_add pins s σ H _ _ v u Q I rx ry ⟨_, _, rfl, rfl, q.int sr⟩
  · obtain rfl := vx.inv_int; obtain rfl := vy.inv_int
    exact ip_sub pins s σ H _ _ v u Q I rx ry ⟨_, _, rfl, rfl, q.int sr⟩
  · exact False.elim q
theorem s_aug {j : Nat} {x : Str} {op : Operator} (hN : X.N.Nodup) (hi : X.N[j]? = some x) (hx : Loc X.env.scope x) (ha : PE X a (tE X W C ta)) (hf : X.fn x = true ∨ X.env.scope.names.lookup x = some .local) :
    PS X (.AugAssign (.Name x pos') op a pos) (tS X W C n (.aug j op ta)) :=
  PS.imp (ps_aug hN hi hx ha ip_augD hf) fun D σ H ⟨α, S, σd, sr, en, h⟩ => by
    unfold evS at h
    split at h
    · rename_i d hd
      obtain ⟨v, hv, rv⟩ := en.get j d hd
      refine ⟨v, hv, α, S, σd, sr, en, AfS.bindE sr en h fun d2 S1 v2 H1 α1 e1 sr1 r1 h1 => ?_⟩
      refine ⟨α1, S1, d, d2, sr1, rv.mono e1 sr, r1, ?_⟩
      have h2 := AfS.bindE (rel := relV X.K) (Q1 := fun z H2 => D.nx (σ.set j (some z)) H2) sr1 (en.mono e1 sr) h1 fun d3 S3 v3 H3 α3 e3 sr3 r3 h3 => h3 _ _ _ .refl sr3 (((en.mono e1 sr).mono e3 sr1).set r3)
      exact h2.toV fun x S' => by
        unfold augD
        split <;> (intro h; cases h)
    · exact False.elim h
/-! ### o[i] = v -/
def rSet (K : PySem.W.Frag) : V → V → V → Hp → (Hp → Prop) → Prop := fun o i v H Q => ∃ α S a k x S', SR K S H α ∧ VR K H α o a ∧ VR K H α i k ∧ VR K H α v x ∧ setIxD a k x S = some S' ∧ ∀ H', Ext α H H' α → SR K S' H' α → Q H'
theorem set_setIx : PSet X (rSet X.K) := by
  intro pins s σ H o i v ov iv u Q I ro ri rv h
  obtain ⟨α, S, a, k, x, S', sr, va, vk, vx, hs, q⟩ := h
  unfold setIxD at hs
  split at hs
  · rename_i p j
    split at hs
    · rename_i xs hc
      obtain ⟨ad, ys, rfl, ha, la, ra⟩ := va.lst sr hc
      obtain rfl := vk.inv_int
      split at hs
      · rename_i j' hj
        cases hs
        obtain ⟨e, s2⟩ := set_lst sr ha (VRs.set vx j' ra)
        exact set_list pins s σ H _ _ v ov iv u Q I ro ri rv ⟨ad, ys, j, j', rfl, rfl, la, by rw [ra.length]; exact hj, q _ e s2⟩
      · cases hs
    · cases hs
  · cases hs
theorem s_setIx {spos : Pos} (ho : PE X o (tE X W C to)) (hi : PE X i (tE X W C ti)) (hv : PE X v (tE X W C tv))
    (ha : ∀ w, assign (.Subscript o i spos) X.env w = (do
      let ov ← holding [w] (eval o X.env)
      let iv ← holding [w, ov] (eval i X.env)
      standAt spos
      holding [w, ov, iv] (setItem ov iv w)
      release [w, ov, iv] []))
    (hs : swapsWithSole [.Subscript o i spos] v pos.line X.env = pure false) (hw : swappedStores [.Subscript o i spos] v X.env = pure none)
    (h1 : (assignEach [.Subscript o i spos] X.env).map (·.2) = [assign (.Subscript o i spos) X.env]) : PS X (.Assign [.Subscript o i spos] v pos) (tS X W C n (.setIx to ti tv)) :=
  PS.imp (ps_asg hv (pg_sub ho hi set_setIx ha) hs hw h1) fun D σ H ⟨α, S, σd, sr, en, h⟩ => by
    unfold evS at h
    refine ⟨α, S, σd, sr, en, AfS.bindE sr en h fun x S1 xv H1 α1 e1 sr1 r1 h1 => ?_⟩
    refine ⟨α1, S1, σd, sr1, en.mono e1 sr, AfS.bindE sr1 (en.mono e1 sr) h1 fun a S2 av H2 α2 e2 sr2 r2 h2 => ?_⟩
    have en2 := (en.mono e1 sr).mono e2 sr1
    refine ⟨α2, S2, σd, sr2, en2, AfS.bindE sr2 en2 h2 fun k S3 kv H3 α3 e3 sr3 r3 h3 => ?_⟩
    cases hq : setIxD a k x S3 with
    | none => rw [hq] at h3; exact False.elim h3
    | some S4 =>
      rw [hq] at h3
      exact ⟨α3, S3, a, k, x, S4, sr3, r2.mono e3 sr2, r3, (r1.mono e2 sr1).mono e3 sr2, hq, fun H' e' sr' => h3 _ _ _ e' sr' ((en2.mono e3 sr2).mono e' sr3)⟩
end
end Ev
end

section
/-! From the text to terms. -/
namespace Ev
open PySem PySem.Spec PyProof.Rows L2

structure CC where
  N : List Str
  sc : Scope
  blk : Option (List (Str × NameKind))
  fns : List Str
  cons : List (Str × D)

def notStar : Expr → Bool
  | .Starred _ _ => false
  | _ => true
def notSlice : Expr → Bool
  | .Slice _ _ _ _ => false
  | _ => true
def notSet : Expr → Bool
  | .Set _ _ _ => false
  | _ => true
def notComp : Expr → Bool
  | .ListComp _ _ _ _ => false
  | .SetComp _ _ _ _ => false
  | .DictComp _ _ _ _ _ => false
  | _ => true
def notTuple : Expr → Bool
  | .Tuple _ _ _ => false
  | _ => true
def intBlt : List Str := ["len", "int", "isinstance", "bool", "abs", "sum", "max", "min", "all", "any"]
def listish0 : Expr → Bool
  | .List _ _ => true
  | .ListComp _ _ _ _ => true
  | .Call (.Name f _) _ _ _ => !intBlt.contains f
  | .Subscript _ (.Slice _ _ _ _) _ => true
  | _ => false
def listish : Expr → Bool
  | .BinOp a _ b _ => listish0 a || listish0 b
  | e => listish0 e
def wrap (g : Bool) (t : Tm) : Tm := if g then .gc t else t

def bltNames : List Str := ["len", "int", "bool", "all", "any", "tuple", "list", "sorted", "max", "min", "sum", "abs", "isinstance", "range", "str", "dict"]
def bltName : Blt → Str
  | .len => "len" | .int => "int" | .bool => "bool" | .all => "all" | .any => "any" | .tuple => "tuple" | .list => "list" | .sorted => "sorted" | .max2 => "max" | .min2 => "min" | .sum => "sum" | .abs => "abs"
def allBlt : List (Blt × Nat) := [(.len, 1), (.int, 1), (.bool, 1), (.all, 1), (.any, 1), (.tuple, 1), (.list, 1), (.sorted, 1), (.max2, 2), (.min2, 2), (.sum, 1), (.abs, 1)]
def cBlt (x : Str) (k : Nat) : Option Blt := (allBlt.find? fun p => decide (bltName p.1 = x) && decide (p.2 = k)).map (·.1)
def tyStr : Ty → Str
  | .int => "int" | .bool => "bool" | .str => "str" | .tuple => "tuple" | .list => "list" | .dict => "dict"
def cTy (x : Str) : Option Ty := [Ty.int, .bool, .str, .tuple, .list, .dict].find? fun t => decide (tyStr t = x)
def mtName : Mt → Str
  | .append => "append" | .pop => "pop" | .popAt => "pop" | .extend => "extend" | .reverse => "reverse"
def cMt (x : Str) (k : Nat) : Option Mt := ([(Mt.append, 1), (.pop, 0), (.popAt, 1), (.extend, 1), (.reverse, 0)].find? fun p => decide (mtName p.1 = x) && decide (p.2 = k)).map (·.1)
def isGl (cc : CC) (x : Str) : Bool := decide (cc.sc.names.lookup x = some .globalImplicit)
def isVis (cc : CC) (x : Str) : Bool := decide (cc.sc.names.lookup x = some .local) || decide (cc.sc.names.lookup x = some .cell) || decide (cc.sc.names.lookup x = some .free)
def isLoc (cc : CC) (x : Str) : Bool := decide (cc.sc.names.lookup x = some .local) || decide (cc.sc.names.lookup x = some .cell)
def isSt (cc : CC) (x : Str) : Bool := isLoc cc x && (decide (cc.sc.names.lookup x = some .local) || match cc.blk with | none => true | some l => decide (l.lookup x = some .cell))
def plainName (x : Str) : Bool := !(x == ("__debug__" : Str)) && !(x == ("__classdict__" : Str)) && decide (x ≠ "__name__")
def cConst : Const → Option D
  | .none => some .non
  | .bool b => some (.bl b)
  | .int i => some (.int i)
  | .str x => some (.str x)
  | _ => none
def cName (cc : CC) (x : Str) : Option Tm :=
  if plainName x then
    if isVis cc x then (cc.N.idxOf? x).map .var
    else if isGl cc x then (cc.cons.lookup x).map .con
    else none
  else none
def ownOf (N : List Str) (names : List (Str × NameKind)) : List (Str × Nat) :=
  names.filterMap fun (x, k) => if k == .local || k == .cell then (N.idxOf? x).map fun i => (x, i) else none
mutual
def cTg (cc : CC) : Expr → Option Tg
  | .Name x _ => if isSt cc x then (cc.N.idxOf? x).map .name else none
  | .Tuple es _ _ => (cTgs cc es).map .tup
  | _ => none
def cTgs (cc : CC) : List Expr → Option (List Tg)
  | [] => some []
  | e :: es => match cTg cc e, cTgs cc es with
    | some g, some gs => some (g :: gs)
    | _, _ => none
end
/-- the context of a comprehension's block -/
def blkCC (cc : CC) (scope : Scope) : CC := { cc with sc := relS scope cc.sc, blk := some scope.names }
mutual
def cE : Nat → CC → Expr → Option Tm
  | 0, _, _ => none
  | n + 1, cc, e => match e with
    | .Name x _ => cName cc x
    | .Constant c _ _ => (cConst c).map .con
    | .BinOp a op b _ => match cE n cc a, cE n cc b with
      | some ta, some tb => some (wrap (listish a || listish b) (.bin op ta tb))
      | _, _ => none
    | .UnaryOp .Not a _ => (cE n cc a).map .not
    | .UnaryOp .USub a _ => (cE n cc a).map (.un .USub)
    | .Compare a [op] [b] _ => if behindInMarks op b then none else match cE n cc a, cE n cc b with
      | some ta, some tb => some (wrap (listish a || listish b) (.cmp op ta tb))
      | _, _ => none
    | .Compare a [o1, o2] [b, c] _ => if lastMarks [o1, o2] [b, c] then none else match cE n cc a, cE n cc b, cE n cc c with
      | some ta, some tb, some tc => some (.chain o1 o2 ta tb tc)
      | _, _, _ => none
    | .BoolOp _ [a] _ => cE n cc a
    | .BoolOp .And (a :: b :: r) pos => match cE n cc a, cE n cc (.BoolOp .And (b :: r) pos) with
      | some ta, some tb => some (.and ta tb)
      | _, _ => none
    | .BoolOp .Or (a :: b :: r) pos => match cE n cc a, cE n cc (.BoolOp .Or (b :: r) pos) with
      | some ta, some tb => some (.or ta tb)
      | _, _ => none
    | .IfExp c a b _ => match cE n cc c, cE n cc a, cE n cc b with
      | some tc, some ta, some tb => some (.ife tc ta tb)
      | _, _, _ => none
    | .Tuple es _ _ => (cEs n cc es).map .tup
    | .List es _ => (cEs n cc es).map .lst
    | .Subscript a (.Slice none none (some (.UnaryOp .USub (.Constant (.int 1) _ _) _)) _) _ => (cE n cc a).map fun t => .sp .rev [t]
    | .Subscript a (.Slice lo hi none _) _ => match cE n cc a, cO n cc lo, cO n cc hi with
      | some ta, some tl, some th => some (.sl ta tl th)
      | _, _, _ => none
    | .Subscript a b _ => if notSlice b then match cE n cc a, cE n cc b with
      | some ta, some tb => some (wrap (listish a) (.ix ta tb))
      | _, _ => none
      else none
    | .Call (.Name f _) [.Call (.Name g _) [a] [] _] [] _ =>
      if decide (f = "list" ∨ f = "tuple") && decide (g = "range") then
        if isGl cc f && isGl cc "range" && notStar a then (cE n cc a).map fun t => .sp (if f = "list" then .lrng1 else .trng1) [t] else none
      else cCall n cc e
    | .Call (.Name f _) [.Call (.Name g _) [a, b] [] _] [] _ =>
      if decide (f = "list" ∨ f = "tuple") && decide (g = "range") then
        if isGl cc f && isGl cc "range" && notStar a && notStar b then match cE n cc a, cE n cc b with
          | some ta, some tb => some (.sp (if f = "list" then .lrng2 else .trng2) [ta, tb])
          | _, _ => none
        else none
      else cCall n cc e
    | .Call (.Name _ _) _ _ _ => cCall n cc e
    | .Call (.Attribute (.Name o p) m apos) es [] pos => if apos.endLine == pos.line then match cE n cc (.Name o p), cEs n cc es, cMt m es.length with
      | some to, some ts, some mm => some (.mt mm to ts)
      | _, _, _ => none
      else none
    | .ListComp elt [⟨tg, iter, ifs, 0⟩] scope _ =>
      let own := ownOf cc.N scope.names
      if blkC cc.N cc.sc scope own && notSet iter then match cI n cc iter, cTg (blkCC cc scope) tg, cTs n (blkCC cc scope) ifs, cE n (blkCC cc scope) elt with
      | some it, some g, some cs, some te => if g.ix.all fun j => (own.map (·.2)).contains j then some (.lc g it cs te (own.map (·.2))) else none
      | _, _, _, _ => none
      else none
    | _ => none
def cCall : Nat → CC → Expr → Option Tm
  | 0, _, _ => none
  | n + 1, cc, e => match e with
    | .Call (.Name f _) (e :: es) [] _ =>
      if isGl cc f && plainName f && notStar e then
        if f = "isinstance" then match es with
          | [.Name y _] => if isGl cc y && plainName y then match cE n cc e, cTy y with
            | some ta, some t => some (.isi ta t)
            | _, _ => none
            else none
          | _ => none
        else match cEs n cc (e :: es) with
          | some ts => match cBlt f (es.length + 1) with
            | some b => some (wrap ((e :: es).any listish) (.blt b ts))
            | none => (cc.fns.idxOf? f).map fun i => .call i ts
          | none => none
      else none
    | _ => none
def cEs : Nat → CC → List Expr → Option (List Tm)
  | 0, _, _ => none
  | n + 1, cc, es => match es with
    | [] => some []
    | e :: es => if notStar e then match cE n cc e, cEs n cc es with
      | some t, some ts => some (t :: ts)
      | _, _ => none
      else none
def cTs : Nat → CC → List Expr → Option (List Tm)
  | 0, _, _ => none
  | n + 1, cc, es => match es with
    | [] => some []
    | [e] => (cE n cc e).map fun t => [t]
    | _ => none
def cO : Nat → CC → Option Expr → Option (Option Tm)
  | 0, _, _ => none
  | n + 1, cc, e => match e with
    | none => some none
    | some e => (cE n cc e).map some
def cI : Nat → CC → Expr → Option It
  | 0, _, _ => none
  | n + 1, cc, e => match e with
    | .Call (.Name f _) [a] [] _ => if f = "range" then
        if isGl cc "range" && notStar a then (cE n cc a).map .rng1 else none
      else (cE n cc e).map .val
    | .Call (.Name f _) [a, b] [] _ => if f = "range" then
        if isGl cc "range" && notStar a && notStar b then match cE n cc a, cE n cc b with
          | some ta, some tb => some (.rng2 ta tb)
          | _, _ => none
        else none
      else (cE n cc e).map .val
    | e => (cE n cc e).map .val
end
/-- a comprehension stored at a name on its line -/
def stores (cc : CC) (x : Str) (p : Pos) (scope : Scope) (vp : Pos) : Bool :=
  decide (cc.sc.kind = .function) && decide (cc.sc.names.lookup x = some .local) && (p.line == vp.line) && !(scope.names.any fun (n, k) => n == x && (k == .local || k == .cell))
mutual
def cS : Nat → CC → Stmt → Option Sm
  | 0, _, _ => none
  | n + 1, cc, s => match s with
    | .Expr (.Constant (.str _) _ _) _ => some .pass
    | .Expr e _ => if notComp e then (cE n cc e).map .expr else none
    | .Assign [.Name x p] e _ => if isSt cc x then match cc.N.idxOf? x, cE n cc e with
      | some i, some t => match e with
        | .ListComp _ [⟨_, _, _, 0⟩] scope vp => if stores cc x p scope vp then (if decide (cc.sc.names.lookup x = some .local) then some (.set i t) else none) else some (.set i t)
        | e => if notComp e then some (.set i t) else none
      | _, _ => none
      else none
    | .Assign [.Tuple es k p] e _ => if notComp e && notTuple e then match cTg cc (.Tuple es k p), cE n cc e with
      | some g, some t => some (.asg g t)
      | _, _ => none
      else none
    | .Assign [.Subscript o i _] e _ => if notComp e && notTuple e && notSlice i then match cE n cc o, cE n cc i, cE n cc e with
      | some to, some ti, some tv => some (.setIx to ti tv)
      | _, _, _ => none
      else none
    | .AugAssign (.Name x _) op e _ => if isSt cc x then match cc.N.idxOf? x, cE n cc e with
      | some i, some t => some (.aug i op t)
      | _, _ => none
      else none
    | .Return (some e) _ => (cE n cc e).map .ret
    | .Return none _ => some .retN
    | .If c a b _ => match cE n cc c, cSs n cc a, cSs n cc b with
      | some tc, some sa, some sb => some (.ite tc sa sb)
      | _, _, _ => none
    | .For tg iter body [] _ => if notSet iter then match cTg cc tg, cI n cc iter, cSs n cc body with
      | some g, some it, some sb => some (.for_ g it sb)
      | _, _, _ => none
      else none
    | .While c body [] _ => match cE n cc c, cSs n cc body with
      | some tc, some sb => some (.while_ tc sb)
      | _, _ => none
    | .Break _ => some .brk
    | .Continue _ => some .cont
    | .Pass _ => some .pass
    | .Raise _ _ _ => some .never
    | _ => none
def cSs : Nat → CC → List Stmt → Option (List Sm)
  | 0, _, _ => none
  | n + 1, cc, ss => match ss with
    | [] => some []
    | s :: ss => match cS n cc s, cSs n cc ss with
      | some t, some ts => some (t :: ts)
      | _, _ => none
end

/-! ### the context -/
structure CtxOk (cc : CC) (X : Cx) (W : WX) (C : CallT) : Prop where
  N : X.N = cc.N
  nd : X.N.Nodup
  sc : X.env.scope = cc.sc
  fn : ∀ x, isSt cc x = true → X.fn x = true ∨ X.env.scope.names.lookup x = some .local
  calm : X.calm = true
  hu : X.A.units + 70 < cLine
  tk : Takes X W
  po : PassesOwn (model X.prog X.w) X.A X.env X.xe
  blt : ∀ x ∈ bltNames, X.mg x = none
  con : ∀ x d, cc.cons.lookup x = some d → ∃ v u, X.mg x = some u ∧ RelV v u ∧ ∀ H α, VR X.K H α v d
  fnc : ∀ i x, cc.fns[i]? = some x → ∃ f fd ps k, FnOk X.prog X.w X.K X.mg X.base (L2.CX X.prog X.w) k f fd ps (spD X.K X.mg (C i)) ∧ Room k X.A ∧ X.mg x = some (.ref f) ∧ PySem.W.keepIn X.K (.ref f) = true ∧ Binds X.K fd ps []

section
variable {cc : CC} {X : Cx} {W : WX} {C : CallT}
theorem idxOf_get {N : List Str} {x : Str} {i : Nat} (h : N.idxOf? x = some i) : N[i]? = some x := by
  unfold List.idxOf? at h
  rw [List.findIdx?_eq_some_iff_getElem] at h
  obtain ⟨hi, h1, _⟩ := h
  rw [List.getElem?_eq_getElem hi]
  exact congrArg some (eq_of_beq h1)
theorem CtxOk.vis (ok : CtxOk cc X W C) {x : Str} (h : isVis cc x = true) : Vis X.env.scope x := by
  unfold isVis at h
  rw [Bool.or_eq_true, Bool.or_eq_true, decide_eq_true_iff, decide_eq_true_iff, decide_eq_true_iff] at h
  unfold Vis
  rw [ok.sc]
  rcases h with (h | h) | h
  · exact .inl h
  · exact .inr (.inl h)
  · exact .inr (.inr h)
theorem CtxOk.loc (ok : CtxOk cc X W C) {x : Str} (h : isSt cc x = true) : Loc X.env.scope x := by
  unfold isSt isLoc at h
  rw [Bool.and_eq_true, Bool.or_eq_true, decide_eq_true_iff, decide_eq_true_iff] at h
  unfold L2.Loc
  rw [ok.sc]
  exact h.1
theorem CtxOk.gl (ok : CtxOk cc X W C) {x : Str} (h : isGl cc x = true) : Gl X x := by
  unfold isGl at h
  unfold Gl Env.kindOf
  rw [ok.sc]
  exact of_decide_eq_true h
theorem plain1 {x : Str} (h : plainName x = true) : (x == ("__debug__" : Str)) = false ∧ (x == ("__classdict__" : Str)) = false ∧ x ≠ "__name__" := by
  unfold plainName at h
  rw [Bool.and_eq_true, Bool.and_eq_true, Bool.not_eq_true', Bool.not_eq_true', decide_eq_true_iff] at h
  exact ⟨h.1.1, h.1.2, h.2⟩
theorem star_cons {e : Expr} {es : List Expr} {env : PySem.Env} (h : notStar e = true) : starEach (e :: es) env = (false, eval e env) :: starEach es env := by
  cases e <;> first | rfl | (simp [notStar] at h)
theorem star_any {n : Nat} {cc : CC} : ∀ {es : List Expr} {ts : List Tm} {env : PySem.Env} {pos : Pos}, cEs n cc es = some ts → (backTo pos (starEach es env)).any (·.1) = false := by
  induction n with
  | zero => intro es ts env pos h; simp [cEs] at h
  | succ n ih =>
    intro es ts env pos h
    cases es with
    | nil => rfl
    | cons e es =>
      simp only [cEs] at h
      by_cases hs : notStar e = true
      · rw [if_pos hs] at h
        cases h1 : cE n cc e with
        | none => simp [h1] at h
        | some t =>
          cases h2 : cEs n cc es with
          | none => simp [h1, h2] at h
          | some ts' =>
            rw [star_cons hs]
            have := ih (env := env) (pos := pos) h2
            unfold backTo at this ⊢
            rw [List.map_cons, List.any_cons, this]
            rfl
      · rw [if_neg hs] at h; cases h
theorem plainIx {b : Expr} (h : notSlice b = true) : PlainIx b := by
  intro o i
  cases b <;> first | rfl | (simp [notSlice] at h)
theorem folded {e : Expr} (h : notSet e = true) (env : PySem.Env) (x : Value) : foldedSetIterable e env x = pure x := by
  cases e <;> first | rfl | (simp [notSet] at h)
theorem swaps0 {e : Expr} (h : notComp e = true) (tg : Option Expr) (l : Nat) (env : PySem.Env) : swapsWith e tg l env = pure false := by
  cases e <;> first | rfl | (simp [notComp] at h)
end
end Ev
end

section
/-! The terms are right. -/
namespace Ev
open PySem PySem.Spec PyProof.Rows L2
section
variable {cc : CC} {X : Cx} {W : WX} {C : CallT}
theorem pt_ife {c a b : Expr} {pos : Pos} {tc ta tb : Tm} (hc : PT X c (tT X W C tc)) (ha : PT X a (tT X W C ta)) (hb : PT X b (tT X W C tb)) : PT X (.IfExp c a b pos) (tT X W C (.ife tc ta tb)) := by
  refine ⟨fun pins s σ H Q I ⟨α, S, σd, sr, en, h⟩ => ?_⟩
  show wpAny _ _ (do if ← isTrue c X.env (eval c X.env) then isTrue a X.env (eval a X.env) else isTrue b X.env (eval b X.env)) _ _ _
  refine wpAny_bind (thn (hc.run pins s σ H (fun k H1 => if k = true then tT X W C ta σ H1 Q else tT X W C tb σ H1 Q) I ⟨α, S, σd, sr, en, ?_⟩) fun k s1 ⟨H1, I1, q⟩ => ?_)
  · unfold evE at h
    cases he : (evE C tc σd S).tru with
    | bad => rw [he] at h; exact h
    | exn x S' => rw [he] at h; exact h
    | ok k S1 =>
      rw [he] at h
      intro b' H' α' e' sr' (r' : b' = k)
      subst r'
      cases b' with
      | true => exact ⟨α', S1, σd, sr', en.mono e' sr, Af.step e' sr' (by simpa using h)⟩
      | false => exact ⟨α', S1, σd, sr', en.mono e' sr, Af.step e' sr' (by simpa using h)⟩
  · cases k with
    | true => exact ha.run pins s1 σ H1 Q I1 q
    | false => exact hb.run pins s1 σ H1 Q I1 q
theorem cBlt_name {x : Str} {k : Nat} {b : Blt} (h : cBlt x k = some b) : bltName b = x := by
  unfold cBlt at h
  rw [Option.map_eq_some_iff] at h
  obtain ⟨p, hp, rfl⟩ := h
  have := List.find?_some hp
  rw [Bool.and_eq_true, decide_eq_true_iff, decide_eq_true_iff] at this
  exact this.1
theorem cTy_name {x : Str} {t : Ty} (h : cTy x = some t) : tyStr t = x := by
  unfold cTy at h
  have := List.find?_some h
  exact of_decide_eq_true this
theorem cMt_name {x : Str} {k : Nat} {m : Mt} (h : cMt x k = some m) : mtName m = x := by
  unfold cMt at h
  rw [Option.map_eq_some_iff] at h
  obtain ⟨p, hp, rfl⟩ := h
  have := List.find?_some hp
  rw [Bool.and_eq_true, decide_eq_true_iff, decide_eq_true_iff] at this
  exact this.1
theorem blt_call (ok : CtxOk cc X W C) {b : Blt} {p pos : Pos} {e : Expr} {es : List Expr} {ts : List Tm} (hg : Gl X (bltName b)) (ha : PA X (e :: es) (tA X W C ts)) (he : starEach (e :: es) X.env = (false, eval e X.env) :: starEach es X.env)
    (hpl : (backTo pos (starEach es X.env)).any (·.1) = false) : PE X (.Call (.Name (bltName b) p) (e :: es) [] pos) (tE X W C (.blt b ts)) := by
  have hm : X.mg (bltName b) = none := ok.blt _ (by cases b <;> decide)
  cases b with
  | len => exact e_bltB cr_len hg hm (by decide +kernel) ha (by decide) (by decide) he hpl
  | int => exact e_bltT cr_int hg hm (by decide +kernel) ha (by decide) (by decide) he hpl
  | bool => exact e_bltT cr_bool hg hm (by decide +kernel) ha (by decide) (by decide) he hpl
  | all => exact e_bltB (cr_allD ok.calm) hg hm (by decide +kernel) ha (by decide) (by decide) he hpl
  | any => exact e_bltB (cr_anyD ok.calm) hg hm (by decide +kernel) ha (by decide) (by decide) he hpl
  | tuple => exact e_bltT cr_tuple hg hm (by decide +kernel) ha (by decide) (by decide) he hpl
  | list => exact e_bltT cr_list hg hm (by decide +kernel) ha (by decide) (by decide) he hpl
  | sorted => exact e_bltB (cr_sortedD ok.hu) hg hm (by decide +kernel) ha (by decide) (by decide) he hpl
  | max2 => exact e_bltB (cr_max2 ok.calm) hg hm (by decide +kernel) ha (by decide) (by decide) he hpl
  | min2 => exact e_bltB (cr_min2 ok.calm) hg hm (by decide +kernel) ha (by decide) (by decide) he hpl
  | sum => exact e_bltB (cr_sumD ok.calm) hg hm (by decide +kernel) ha (by decide) (by decide) he hpl
  | abs => exact e_bltB cr_abs hg hm (by decide +kernel) ha (by decide) (by decide) he hpl
theorem CtxOk.block (ok : CtxOk cc X W C) (s : Shared) (H : Hp) (scope : Scope) (c : Addr) (cl : List (Str × Addr)) (fp : List Addr) : CtxOk (blkCC cc scope) (X.blk s H scope (compEnvC scope cl c X.env) fp) W0 C where
  N := ok.N
  nd := ok.nd
  sc := by
    show relS scope X.env.scope = relS scope cc.sc
    rw [ok.sc]
  fn := fun x h => by
    unfold isSt at h
    rw [Bool.and_eq_true, Bool.or_eq_true, decide_eq_true_iff] at h
    rcases h.2 with h | h
    · refine .inr ?_
      show (relS scope X.env.scope).names.lookup x = _
      rw [ok.sc]
      exact h
    · refine .inl ?_
      have h : decide (scope.names.lookup x = some .cell) = true := h
      show (scope.names.lookup x == some .cell) = true
      rw [of_decide_eq_true h]
      rfl
  calm := ok.calm
  hu := ok.hu
  tk := takes_none5
  po := PassesOwn.never
  blt := ok.blt
  con := ok.con
  fnc := ok.fnc
theorem e_lc (ok : CtxOk cc X W C) {elt tg iter : Expr} {ifs : List Expr} {scope : Scope} {own : List (Str × Nat)} {pos : Pos} {it : It} {g : Tg} {cs : List Tm} {te : Tm} (hi : PI X tg iter (tI X W C it)) (hB : blkC cc.N cc.sc scope own = true)
    (hg : ∀ (s : Shared) (H : Hp) (c : Addr) (cl : List (Str × Addr)) (fp : List Addr), PG (X.blk s H scope (compEnvC scope cl c X.env) fp) tg (tG (X.blk s H scope (compEnvC scope cl c X.env) fp) g))
    (ht : ∀ (s : Shared) (H : Hp) (c : Addr) (cl : List (Str × Addr)) (fp : List Addr), PTs (X.blk s H scope (compEnvC scope cl c X.env) fp) ifs (tTs (X.blk s H scope (compEnvC scope cl c X.env) fp) W0 C cs))
    (he : ∀ (s : Shared) (H : Hp) (c : Addr) (cl : List (Str × Addr)) (fp : List Addr), PE (X.blk s H scope (compEnvC scope cl c X.env) fp) elt (tE (X.blk s H scope (compEnvC scope cl c X.env) fp) W0 C te)) (hs : notSet iter = true) (hj : ∀ j ∈ g.ix, j ∈ own.map (·.2)) :
    PE X (.ListComp elt [⟨tg, iter, ifs, 0⟩] scope pos) (tE X W C (.lc g it cs te (own.map (·.2)))) := by
  have hb : BlkOk X.N X.env.scope scope own := by
    rw [ok.N, ok.sc]
    exact blkOk_by hB
  exact PE.imp (pe_lc (g := tG X g) (tt := tTs X W0 C cs) (te := tE X W0 C te) ok.calm ok.nd hi hb hg ht he (folded hs _)) (lcAf hj)
theorem s_setLc (ok : CtxOk cc X W C) {n i : Nat} {y : Str} {py spos : Pos} {elt tg iter : Expr} {ifs : List Expr} {scope : Scope} {own : List (Str × Nat)} {pos : Pos} {it : It} {g : Tg} {cs : List Tm} {te : Tm} (hy : X.N[i]? = some y) (hyl : X.env.scope.names.lookup y = some .local)
    (hsw : swapsWith (.ListComp elt [⟨tg, iter, ifs, 0⟩] scope pos) (some (.Name y py)) spos.line X.env = pure true) (hi : PI X tg iter (tI X W C it)) (hB : blkC cc.N cc.sc scope own = true)
    (hg : ∀ (s : Shared) (H : Hp) (c : Addr) (cl : List (Str × Addr)) (fp : List Addr), PG (X.blk s H scope (compEnvC scope cl c X.env) fp) tg (tG (X.blk s H scope (compEnvC scope cl c X.env) fp) g))
    (ht : ∀ (s : Shared) (H : Hp) (c : Addr) (cl : List (Str × Addr)) (fp : List Addr), PTs (X.blk s H scope (compEnvC scope cl c X.env) fp) ifs (tTs (X.blk s H scope (compEnvC scope cl c X.env) fp) W0 C cs))
    (he : ∀ (s : Shared) (H : Hp) (c : Addr) (cl : List (Str × Addr)) (fp : List Addr), PE (X.blk s H scope (compEnvC scope cl c X.env) fp) elt (tE (X.blk s H scope (compEnvC scope cl c X.env) fp) W0 C te)) (hs : notSet iter = true) (hj : ∀ j ∈ g.ix, j ∈ own.map (·.2)) :
    PS X (.Assign [.Name y py] (.ListComp elt [⟨tg, iter, ifs, 0⟩] scope pos) spos) (tS X W C n (.set i (.lc g it cs te (own.map (·.2))))) := by
  have hb : BlkOk X.N X.env.scope scope own := by
    rw [ok.N, ok.sc]
    exact blkOk_by hB
  refine PS.imp (ps_setLc (g := tG X g) (tt := tTs X W0 C cs) (te := tE X W0 C te) ok.calm ok.nd hy hyl hsw hi hb hg ht he (folded hs _)) fun D σ H ⟨α, S, σd, sr, en, h⟩ => ?_
  unfold evS at h
  exact lcAf hj σ H _ ⟨α, S, σd, sr, en, AfS.bindE sr en h fun d S1 v H1 α1 e1 sr1 r1 h1 => h1 _ _ _ .refl sr1 ((en.mono e1 sr).set r1)⟩
end

mutual
theorem cTg_ok {cc : CC} {X : Cx} {W : WX} {C : CallT} (ok : CtxOk cc X W C) : ∀ (e : Expr) (g : Tg), cTg cc e = some g → PG X e (tG X g)
  | .Name x pos, g, h => by
    simp only [cTg] at h
    by_cases hs : isSt cc x = true
    · rw [if_pos hs, Option.map_eq_some_iff] at h
      obtain ⟨i, hi, rfl⟩ := h
      exact g_name ok.nd (by rw [ok.N]; exact idxOf_get hi) (ok.loc hs) (ok.fn x hs)
    · rw [if_neg hs] at h; cases h
  | .Tuple es k pos, g, h => by
    simp only [cTg, Option.map_eq_some_iff] at h
    obtain ⟨gs, hgs, rfl⟩ := h
    obtain ⟨h1, h2, h3⟩ := cTgs_ok ok es gs hgs
    exact g_tup ok.calm h1 h2 h3
  | .BoolOp .., _, h => by simp [cTg] at h
  | .NamedExpr .., _, h => by simp [cTg] at h
  | .BinOp .., _, h => by simp [cTg] at h
  | .UnaryOp .., _, h => by simp [cTg] at h
  | .Lambda .., _, h => by simp [cTg] at h
  | .IfExp .., _, h => by simp [cTg] at h
  | .Dict .., _, h => by simp [cTg] at h
  | .Set .., _, h => by simp [cTg] at h
  | .ListComp .., _, h => by simp [cTg] at h
  | .SetComp .., _, h => by simp [cTg] at h
  | .DictComp .., _, h => by simp [cTg] at h
  | .GeneratorExp .., _, h => by simp [cTg] at h
  | .Await .., _, h => by simp [cTg] at h
  | .Yield .., _, h => by simp [cTg] at h
  | .YieldFrom .., _, h => by simp [cTg] at h
  | .Compare .., _, h => by simp [cTg] at h
  | .Call .., _, h => by simp [cTg] at h
  | .FormattedValue .., _, h => by simp [cTg] at h
  | .JoinedStr .., _, h => by simp [cTg] at h
  | .Constant .., _, h => by simp [cTg] at h
  | .Attribute .., _, h => by simp [cTg] at h
  | .Subscript .., _, h => by simp [cTg] at h
  | .Starred .., _, h => by simp [cTg] at h
  | .List .., _, h => by simp [cTg] at h
  | .Slice .., _, h => by simp [cTg] at h
theorem cTgs_ok {cc : CC} {X : Cx} {W : WX} {C : CallT} (ok : CtxOk cc X W C) : ∀ (es : List Expr) (gs : List Tg), cTgs cc es = some gs → PGs X es (tGs X gs) ∧ (assignEach es X.env).length = gs.length ∧ (assignEach es X.env).findIdx? (·.1) = none
  | [], gs, h => by
    simp only [cTgs, Option.some.injEq] at h
    subst h
    exact ⟨g_nil, rfl, rfl⟩
  | e :: es, gs, h => by
    simp only [cTgs] at h
    cases h1 : cTg cc e with
    | none => simp [h1] at h
    | some g =>
      cases h2 : cTgs cc es with
      | none => simp [h1, h2] at h
      | some gs' =>
        simp only [h1, h2, Option.some.injEq] at h
        subst h
        obtain ⟨q1, q2, q3⟩ := cTgs_ok ok es gs' h2
        have hst : assignEach (e :: es) X.env = (false, assign e X.env) :: assignEach es X.env := by
          cases e <;> first | rfl | (simp [cTg] at h1)
        refine ⟨g_cons (cTg_ok ok e g h1) q1 (by rw [hst]; rfl), by rw [hst, List.length_cons, List.length_cons, q2], ?_⟩
        rw [hst, List.findIdx?_cons, q3]
        rfl
end
end Ev
end

section
/-! The terms are right: the induction. -/
namespace Ev
open PySem PySem.Spec PyProof.Rows L2
section
variable {C : CallT}
structure POk (C : CallT) (n : Nat) : Prop where
  e : ∀ {cc : CC} {X : Cx} {W : WX} {a : Expr} {t : Tm}, CtxOk cc X W C → cE n cc a = some t → PE X a (tE X W C t) ∧ PT X a (tT X W C t)
  es : ∀ {cc : CC} {X : Cx} {W : WX} {a : List Expr} {t : List Tm}, CtxOk cc X W C → cEs n cc a = some t → PA X a (tA X W C t)
  ts : ∀ {cc : CC} {X : Cx} {W : WX} {a : List Expr} {t : List Tm}, CtxOk cc X W C → cTs n cc a = some t → PTs X a (tTs X W C t)
  o : ∀ {cc : CC} {X : Cx} {W : WX} {a : Option Expr} {t : Option Tm}, CtxOk cc X W C → cO n cc a = some t → PO X a (tO X W C t)
  c : ∀ {cc : CC} {X : Cx} {W : WX} {a : Expr} {t : Tm}, CtxOk cc X W C → cCall n cc a = some t → PE X a (tE X W C t) ∧ PT X a (tT X W C t)
  i : ∀ {cc : CC} {X : Cx} {W : WX} {a : Expr} {t : It} {tg : Expr}, CtxOk cc X W C → cI n cc a = some t → PI X tg a (tI X W C t)
theorem wrap_e {X : Cx} {W : WX} {a : Expr} {t : Tm} {g : Bool} (h : PE X a (tE X W C t)) : PE X a (tE X W C (wrap g t)) := by
  cases g
  · exact h
  · exact e_gc h
theorem wrap_t {X : Cx} {W : WX} {a : Expr} {t : Tm} {g : Bool} (h : PT X a (tT X W C t)) : PT X a (tT X W C (wrap g t)) := by
  cases g
  · exact h
  · exact t_gc h
theorem both {X : Cx} {W : WX} {a : Expr} {t : Tm} (h : PE X a (tE X W C t)) (he : ∀ whole, isTrue a X.env whole = (do let v ← whole; standAt a.pos; holding [v] (truthy v))) : PE X a (tE X W C t) ∧ PT X a (tT X W C t) := ⟨h, t_truth h he⟩
theorem pw_of_one {X : Cx} {W : WX} {a : Expr} {t : Tm} {op : BoolOp} {pos : Pos} (h : PT X a (tT X W C t)) : PW X (.BoolOp op [a] pos) (tT X W C t) := by
  cases op
  · exact pw_and1 h
  · exact pw_or1 h
/-- a BoolOp's test, whatever its whole -/
theorem pw_of {n : Nat} (ih : POk C n) : ∀ (l : Nat) {cc : CC} {X : Cx} {W : WX} {op : BoolOp} {vs : List Expr} {pos : Pos} {t : Tm}, vs.length ≤ l → ∀ m, m ≤ n + 1 → (∀ k, k ≤ n → POk C k) → CtxOk cc X W C → cE m cc (.BoolOp op vs pos) = some t → PW X (.BoolOp op vs pos) (tT X W C t)
  | 0, cc, X, W, op, vs, pos, t, hl, m, hm, all, ok, h => by
    cases vs with
    | nil => cases m <;> simp [cE] at h <;> (cases op <;> simp at h)
    | cons _ _ => simp at hl
  | l + 1, cc, X, W, op, vs, pos, t, hl, m, hm, all, ok, h => by
    cases m with
    | zero => simp [cE] at h
    | succ m =>
      have hmn : m ≤ n := by omega
      cases vs with
      | nil => simp [cE] at h <;> (cases op <;> simp at h)
      | cons a r =>
        cases r with
        | nil =>
          have h : cE m cc a = some t := by cases op <;> simpa [cE] using h
          exact pw_of_one ((all m hmn).e ok h).2
        | cons b r =>
          cases op with
          | And =>
            simp only [cE] at h
            cases h1 : cE m cc a with
            | none => simp [h1] at h
            | some ta =>
              cases h2 : cE m cc (.BoolOp .And (b :: r) pos) with
              | none => simp [h1, h2] at h
              | some tb =>
                simp only [h1, h2, Option.some.injEq] at h
                subst h
                exact t_and ((all m hmn).e ok h1).2 (pw_of ih l (by simpa using hl) m (by omega) all ok h2)
          | Or =>
            simp only [cE] at h
            cases h1 : cE m cc a with
            | none => simp [h1] at h
            | some ta =>
              cases h2 : cE m cc (.BoolOp .Or (b :: r) pos) with
              | none => simp [h1, h2] at h
              | some tb =>
                simp only [h1, h2, Option.some.injEq] at h
                subst h
                exact t_or ((all m hmn).e ok h1).2 (pw_of ih l (by simpa using hl) m (by omega) all ok h2)
theorem cCall_step {n : Nat} (ih : POk C n) {cc : CC} {X : Cx} {W : WX} {a : Expr} {t : Tm} (ok : CtxOk cc X W C) (h : cCall (n + 1) cc a = some t) : PE X a (tE X W C t) ∧ PT X a (tT X W C t) := by
  unfold cCall at h
  split at h
  · -- a call by name
    rename_i f p e es pos
    split at h
    · rename_i hc
      rw [Bool.and_eq_true, Bool.and_eq_true] at hc
      obtain ⟨⟨c1, c2⟩, c3⟩ := hc
      obtain ⟨p1, p2, p3⟩ := plain1 c2
      split at h
      · rename_i hf
        subst hf
        split at h
        · rename_i y py
          split at h
          · rename_i hy
            rw [Bool.and_eq_true] at hy
            obtain ⟨y1, y2, y3⟩ := plain1 hy.2
            split at h
            · rename_i ta ty h1 h2
              cases h
              have hty := cTy_name h2
              subst hty
              refine both (e_isi (ih.e ok h1).1 (ok.gl c1) (ok.blt _ (by decide)) (ok.gl hy.1) (ok.blt _ (by cases ty <;> decide)) (by cases ty <;> decide +kernel) y3 y1 (star_cons c3)) fun _ => rfl
            · cases h
          · cases h
        · cases h
      · split at h
        · rename_i ts h1
          have hpl : (backTo pos (starEach es X.env)).any (·.1) = false := by
            cases n with
            | zero => simp [cEs] at h1
            | succ m =>
              simp only [cEs] at h1
              rw [if_pos c3] at h1
              cases q : cE m cc e with
              | none => simp [q] at h1
              | some t' =>
                cases q2 : cEs m cc es with
                | none => simp [q, q2] at h1
                | some ts' => exact star_any q2
          split at h
          · rename_i b hb
            cases h
            have := cBlt_name hb
            subst this
            exact both (wrap_e (blt_call ok (ok.gl c1) (ih.es ok h1) (star_cons c3) hpl)) fun _ => rfl
          · rw [Option.map_eq_some_iff] at h
            obtain ⟨i, hi, rfl⟩ := h
            obtain ⟨fa, fd, ps, k, F, hr, hm, hk, hbd⟩ := ok.fnc i f (idxOf_get hi)
            exact both (e_call F hr (ok.gl c1) hm hk hbd ok.tk (ih.es ok h1) p1 (star_cons c3) hpl) fun _ => rfl
        · cases h
    · cases h
  · cases h
theorem cE_step {n : Nat} (all : ∀ k, k ≤ n → POk C k) {cc : CC} {X : Cx} {W : WX} {a : Expr} {t : Tm} (ok : CtxOk cc X W C) (h : cE (n + 1) cc a = some t) : PE X a (tE X W C t) ∧ PT X a (tT X W C t) := by
  have ih := all n (Nat.le_refl _)
  have hu : X.A.units + 65 < cLine := by have := ok.hu; omega
  unfold cE at h
  split at h
  · -- a name
    rename_i x pos
    unfold cName at h
    by_cases hp : plainName x = true
    · rw [if_pos hp] at h
      obtain ⟨p1, p2, p3⟩ := plain1 hp
      by_cases hv : isVis cc x = true
      · rw [if_pos hv, Option.map_eq_some_iff] at h
        obtain ⟨i, hi, rfl⟩ := h
        exact both (e_var (by rw [ok.N]; exact idxOf_get hi) (ok.vis hv) p1 p2) fun _ => rfl
      · rw [if_neg hv] at h
        by_cases hg : isGl cc x = true
        · rw [if_pos hg, Option.map_eq_some_iff] at h
          obtain ⟨d, hd, rfl⟩ := h
          obtain ⟨v, u, hm, rv, vr⟩ := ok.con x d hd
          exact both (e_con (pe_glob (ok.gl hg) hm rv p1) vr) fun _ => rfl
        · rw [if_neg hg] at h; cases h
    · rw [if_neg hp] at h; cases h
  · -- a constant
    rename_i c j pos
    rw [Option.map_eq_some_iff] at h
    obtain ⟨d, hd, rfl⟩ := h
    cases c with
    | none => cases hd; exact both (e_con pe_non fun _ _ => .non) fun _ => rfl
    | bool b => cases hd; exact both (e_con pe_bl fun _ _ => .bl b) fun _ => rfl
    | int i => cases hd; exact both (e_con pe_int fun _ _ => .int i) fun _ => rfl
    | str x => cases hd; exact both (e_con pe_str fun _ _ => .str x) fun _ => rfl
    | _ => cases hd
  · split at h
    · rename_i ta tb h1 h2
      cases h
      exact both (wrap_e (e_bin (ih.e ok h1).1 (ih.e ok h2).1)) fun _ => rfl
    · cases h
  · rw [Option.map_eq_some_iff] at h
    obtain ⟨ta, h1, rfl⟩ := h
    exact ⟨e_not (ih.e ok h1).1, t_not (ih.e ok h1).2⟩
  · rw [Option.map_eq_some_iff] at h
    obtain ⟨ta, h1, rfl⟩ := h
    exact both (e_un (ih.e ok h1).1) fun _ => rfl
  · split at h
    · cases h
    · rename_i hm
      split at h
      · rename_i ta tb h1 h2
        cases h
        exact ⟨wrap_e (e_cmp hu (ih.e ok h1).1 (ih.e ok h2).1 (by simpa using hm)), wrap_t (t_cmp hu (ih.e ok h1).1 (ih.e ok h2).1 (by simpa using hm))⟩
      · cases h
  · split at h
    · cases h
    · rename_i hm
      split at h
      · rename_i ta tb tc h1 h2 h3
        cases h
        exact ⟨e_chain hu (ih.e ok h1).1 (ih.e ok h2).1 (ih.e ok h3).1 (by simpa using hm), t_chain hu (ih.e ok h1).1 (ih.e ok h2).1 (ih.e ok h3).1 (by simpa using hm)⟩
      · cases h
  · exact ⟨pe_one (ih.e ok h).1, (pw_of_one (ih.e ok h).2).pt⟩
  · rename_i x y z pos
    have h0 := h
    split at h
    · rename_i ta tb h1 h2
      cases h
      exact ⟨e_and (ih.e ok h1).1 (ih.e ok h2).1, (t_and (ih.e ok h1).2 (pw_of ih _ (Nat.le_refl _) n (by omega) all ok h2)).pt⟩
    · cases h
  · rename_i x y z pos
    split at h
    · rename_i ta tb h1 h2
      cases h
      exact ⟨e_or (ih.e ok h1).1 (ih.e ok h2).1, (t_or (ih.e ok h1).2 (pw_of ih _ (Nat.le_refl _) n (by omega) all ok h2)).pt⟩
    · cases h
  · split at h
    · rename_i tc ta tb h1 h2 h3
      cases h
      exact ⟨e_ife (ih.e ok h1).2 (ih.e ok h2).1 (ih.e ok h3).1, pt_ife (ih.e ok h1).2 (ih.e ok h2).2 (ih.e ok h3).2⟩
    · cases h
  · rw [Option.map_eq_some_iff] at h
    obtain ⟨ts, h1, rfl⟩ := h
    exact both (e_tup (ih.es ok h1)) fun _ => rfl
  · rw [Option.map_eq_some_iff] at h
    obtain ⟨ts, h1, rfl⟩ := h
    exact both (e_lst (ih.es ok h1)) fun _ => rfl
  · rw [Option.map_eq_some_iff] at h
    obtain ⟨ta, h1, rfl⟩ := h
    exact both (e_rev (ih.e ok h1).1) fun _ => rfl
  · split at h
    · rename_i ta tl th h1 h2 h3
      cases h
      exact both (e_sl (ih.e ok h1).1 (ih.o ok h2) (ih.o ok h3)) fun _ => rfl
    · cases h
  · split at h
    · rename_i hs
      split at h
      · rename_i ta tb h1 h2
        cases h
        exact both (wrap_e (e_ix (ih.e ok h1).1 (ih.e ok h2).1 (plainIx hs))) fun _ => rfl
      · cases h
    · cases h
  · -- list(range(n))
    rename_i f p g p2 e pos2 pos
    split at h
    · rename_i hfg
      rw [Bool.and_eq_true, decide_eq_true_iff, decide_eq_true_iff] at hfg
      obtain ⟨hf, rfl⟩ := hfg
      split at h
      · rename_i hc
        rw [Bool.and_eq_true, Bool.and_eq_true] at hc
        rw [Option.map_eq_some_iff] at h
        obtain ⟨ta, h1, rfl⟩ := h
        rcases hf with rfl | rfl
        · exact both (e_lrng1 ok.calm (ok.gl hc.1.1) (ok.blt _ (by decide)) (ok.gl hc.1.2) (ok.blt _ (by decide)) (ih.e ok h1).1 (star_cons hc.2)) fun _ => rfl
        · exact both (e_trng1 ok.calm (ok.gl hc.1.1) (ok.blt _ (by decide)) (ok.gl hc.1.2) (ok.blt _ (by decide)) (ih.e ok h1).1 (star_cons hc.2)) fun _ => rfl
      · cases h
    · exact ih.c ok h
  · -- list(range(a, b))
    rename_i f p g p2 e e2 pos2 pos
    split at h
    · rename_i hfg
      rw [Bool.and_eq_true, decide_eq_true_iff, decide_eq_true_iff] at hfg
      obtain ⟨hf, rfl⟩ := hfg
      split at h
      · rename_i hc
        rw [Bool.and_eq_true, Bool.and_eq_true, Bool.and_eq_true] at hc
        split at h
        · rename_i ta tb h1 h2
          cases h
          rcases hf with rfl | rfl
          · exact both (e_lrng2 ok.calm (ok.gl hc.1.1.1) (ok.blt _ (by decide)) (ok.gl hc.1.1.2) (ok.blt _ (by decide)) (ih.e ok h1).1 (ih.e ok h2).1 (star_cons hc.1.2) (star_cons hc.2)) fun _ => rfl
          · exact both (e_trng2 ok.calm (ok.gl hc.1.1.1) (ok.blt _ (by decide)) (ok.gl hc.1.1.2) (ok.blt _ (by decide)) (ih.e ok h1).1 (ih.e ok h2).1 (star_cons hc.1.2) (star_cons hc.2)) fun _ => rfl
        · cases h
      · cases h
    · exact ih.c ok h
  · exact ih.c ok h
  · -- a method
    rename_i o p m apos es pos
    split at h
    · rename_i hl
      split at h
      · rename_i to ts mm h1 h2 h3
        cases h
        have hmn := cMt_name h3
        subst hmn
        have ho := (ih.e ok h1).1
        cases es with
        | nil =>
          have ets : ts = [] := by
            cases n with
            | zero => simp [cEs] at h2
            | succ m' => simpa [cEs] using h2.symm
          subst ets
          refine both ?_ fun _ => rfl
          cases mm with
          | pop => exact e_mt0 (m := .pop) PySem.F.slot_list_pop PySem.F.type_list_pop ho rfl hl
          | reverse => exact e_mt0 (m := .reverse) PySem.F.slot_list_reverse PySem.F.type_list_reverse ho rfl hl
          | append => exact absurd h3 (by decide)
          | popAt => exact absurd h3 (by decide)
          | extend => exact absurd h3 (by decide)
        | cons e es =>
          have c3 : notStar e = true := by
            cases n with
            | zero => simp [cEs] at h2
            | succ m' =>
              simp only [cEs] at h2
              by_cases hs : notStar e = true
              · exact hs
              · rw [if_neg hs] at h2; cases h2
          have hes : es = [] := by
            unfold cMt at h3
            rw [Option.map_eq_some_iff] at h3
            obtain ⟨q, hq, _⟩ := h3
            have := List.find?_some hq
            rw [Bool.and_eq_true, decide_eq_true_iff, decide_eq_true_iff] at this
            have hm := List.mem_of_find?_eq_some hq
            have hle : q.2 ≤ 1 := by
              simp only [List.mem_cons, List.not_mem_nil, or_false] at hm
              rcases hm with rfl | rfl | rfl | rfl | rfl <;> decide
            rw [this.2, List.length_cons] at hle
            exact List.eq_nil_of_length_eq_zero (by omega)
          subst hes
          have hpa := ih.es ok h2
          have hst : starEach [e] X.env = (false, eval e X.env) :: starEach [] X.env := star_cons c3
          have hfew : ((backTo pos (starEach [e] X.env)).all (fun x => !x.1) && (backToKw pos (keywordEach [] X.env)).all (fun x => x.1.isSome)
              && decide (([e] : List Expr).length + ([] : List Keyword).length + (if ([] : List Keyword).isEmpty then 0 else 1) < 30)) = true := by
            rw [hst]
            rfl
          refine both ?_ fun _ => rfl
          cases mm with
          | append => exact e_mt (m := .append) PySem.F.slot_list_append PySem.F.type_list_append ho hpa rfl hfew hl hst rfl
          | popAt => exact e_mt (m := .popAt) PySem.F.slot_list_pop PySem.F.type_list_pop ho hpa rfl hfew hl hst rfl
          | extend => exact e_mt (m := .extend) PySem.F.slot_list_extend PySem.F.type_list_extend ho hpa rfl hfew hl hst rfl
          | pop => exact absurd (show cMt (mtName .pop) 1 = some .pop from h3) (by decide)
          | reverse => exact absurd (show cMt (mtName .reverse) 1 = some .reverse from h3) (by decide)
      · cases h
    · cases h
  · -- a comprehension
    rename_i elt tg iter ifs scope pos
    split at h
    · rename_i it g cs te h1 h2 h3 h4
      dsimp only at h
      split at h
      · rename_i hb
        rw [Bool.and_eq_true] at hb
        split at h
        · rename_i hj
          cases h
          refine both (e_lc ok (ih.i ok h1) hb.1 (fun s H c cl fp => cTg_ok (ok.block s H scope c cl fp) _ _ h2) (fun s H c cl fp => ih.ts (ok.block s H scope c cl fp) h3) (fun s H c cl fp => (ih.e (ok.block s H scope c cl fp) h4).1) hb.2 fun j hm => ?_) fun _ => rfl
          have := List.all_eq_true.mp hj j hm
          simpa using this
        · cases h
      · cases h
    · dsimp only at h
      split at h <;> cases h
  · cases h
theorem pok : ∀ n, POk C n := by
  intro n
  induction n using Nat.strongRecOn with
  | ind n ihn =>
    cases n with
    | zero =>
      refine ⟨fun _ h => ?_, fun _ h => ?_, fun _ h => ?_, fun _ h => ?_, fun _ h => ?_, fun _ h => ?_⟩
      · simp [cE] at h
      · simp [cEs] at h
      · simp [cTs] at h
      · simp [cO] at h
      · simp [cCall] at h
      · simp [cI] at h
    | succ n =>
      have all : ∀ k, k ≤ n → POk C k := fun k hk => ihn k (by omega)
      have ih := all n (Nat.le_refl _)
      refine ⟨fun ok h => cE_step all ok h, @fun cc X W a t ok h => ?_, @fun cc X W a t ok h => ?_, @fun cc X W a t ok h => ?_, fun ok h => cCall_step ih ok h, @fun cc X W a t tg ok h => ?_⟩
      · cases a with
        | nil => simp only [cEs, Option.some.injEq] at h; subst h; exact a_nil
        | cons e es =>
          simp only [cEs] at h
          by_cases hs : notStar e = true
          · rw [if_pos hs] at h
            cases h1 : cE n cc e with
            | none => simp [h1] at h
            | some t' =>
              cases h2 : cEs n cc es with
              | none => simp [h1, h2] at h
              | some ts' =>
                simp only [h1, h2, Option.some.injEq] at h
                subst h
                exact a_cons (ih.e ok h1).1 (ih.es ok h2) (star_cons hs)
          · rw [if_neg hs] at h; cases h
      · cases a with
        | nil => simp only [cTs, Option.some.injEq] at h; subst h; exact ts_nil
        | cons e es =>
          cases es with
          | nil =>
            simp only [cTs, Option.map_eq_some_iff] at h
            obtain ⟨t', h1, rfl⟩ := h
            exact ts_one (ih.e ok h1).2
          | cons _ _ => simp [cTs] at h
      · cases a with
        | none => simp only [cO, Option.some.injEq] at h; subst h; exact o_none
        | some e =>
          simp only [cO, Option.map_eq_some_iff] at h
          obtain ⟨t', h1, rfl⟩ := h
          exact o_some (ih.e ok h1).1
      · unfold cI at h
        split at h
        · rename_i f p e pos
          split at h
          · rename_i hf
            subst hf
            split at h
            · rename_i hc
              rw [Bool.and_eq_true] at hc
              rw [Option.map_eq_some_iff] at h
              obtain ⟨t', h1, rfl⟩ := h
              exact i_rng1 (ok.gl hc.1) (ok.blt _ (by decide)) (ih.e ok h1).1 (star_cons hc.2)
            · cases h
          · rw [Option.map_eq_some_iff] at h
            obtain ⟨t', h1, rfl⟩ := h
            exact i_val (ih.e ok h1).1
        · rename_i f p e e2 pos
          split at h
          · rename_i hf
            subst hf
            split at h
            · rename_i hc
              rw [Bool.and_eq_true, Bool.and_eq_true] at hc
              split at h
              · rename_i ta tb h1 h2
                cases h
                refine i_rng2 (ok.gl hc.1.1) (ok.blt _ (by decide)) (ih.e ok h1).1 (ih.e ok h2).1 ?_ (star_cons hc.2)
                rw [star_cons hc.1.2, star_cons hc.2]
                rfl
              · cases h
            · cases h
          · rw [Option.map_eq_some_iff] at h
            obtain ⟨t', h1, rfl⟩ := h
            exact i_val (ih.e ok h1).1
        · rw [Option.map_eq_some_iff] at h
          obtain ⟨t', h1, rfl⟩ := h
          exact i_val (ih.e ok h1).1
end
end Ev
end

section
/-! Statements and defs: the terms are right. -/
namespace Ev
open PySem PySem.Spec PyProof.Rows L2
section
variable {C : CallT} {cc : CC} {X : Cx} {W : WX}
theorem swaps_lc (ok : CtxOk cc X W C) (hk : cc.sc.kind = .function) {elt : Expr} {gens : List Comprehension} {scope : Scope} {vp p : Pos} {x : Str} {l : Nat} : swapsWith (.ListComp elt gens scope vp) (some (.Name x p)) l X.env = pure (stores cc x p scope vp) := by
  have h1 : X.env.blockKind = .function := by
    unfold Env.blockKind
    rw [ok.sc, hk]
    rfl
  have h2 : X.env.kindOf x = cc.sc.names.lookup x := by unfold Env.kindOf; rw [ok.sc]
  show (pure (X.env.blockKind == .function && X.env.kindOf x == some .local && p.line == vp.line && !(scope.names.any fun (n, k) => n == x && (k == .local || k == .cell))) : Sem Bool) = _
  rw [h1, h2]
  unfold stores
  rw [hk]
  have e1 : (ScopeKind.function == ScopeKind.function) = true := rfl
  have e2 : decide (ScopeKind.function = ScopeKind.function) = true := rfl
  rw [e1, e2]
  have e3 : (cc.sc.names.lookup x == some NameKind.local) = decide (cc.sc.names.lookup x = some NameKind.local) := by
    rw [Bool.eq_iff_iff]; simp
  rw [e3]
structure POkS (C : CallT) (w n : Nat) : Prop where
  s : ∀ {cc : CC} {X : Cx} {W : WX} {a : Stmt} {t : Sm}, CtxOk cc X W C → cc.sc.kind = .function → cS n cc a = some t → PS X a (tS X W C w t)
  ss : ∀ {cc : CC} {X : Cx} {W : WX} {a : List Stmt} {t : List Sm}, CtxOk cc X W C → cc.sc.kind = .function → cSs n cc a = some t → PSs X a (tSs X W C w t)
theorem sole {v : Expr} {t : Expr} (h : notComp v = true) (l : Nat) (env : PySem.Env) : swapsWithSole [t] v l env = pure false := swaps0 h (some t) l env
theorem swapped0 {v t : Expr} (h : notTuple v = true) (env : PySem.Env) : swappedStores [t] v env = pure none := by
  cases v <;> first
    | (simp [notTuple] at h; done)
    | (cases t <;> rfl)
theorem cS_lc (ok : CtxOk cc X W C) (hk : cc.sc.kind = .function) {w n i : Nat} {x : Str} {p vp spos : Pos} {elt tg iter : Expr} {ifs : List Expr} {scope : Scope} {t : Tm} (hst : isSt cc x = true) (hi : cc.N.idxOf? x = some i)
    (hs : stores cc x p scope vp = true) (hl : cc.sc.names.lookup x = some .local) (h : cE n cc (.ListComp elt [⟨tg, iter, ifs, 0⟩] scope vp) = some t) : PS X (.Assign [.Name x p] (.ListComp elt [⟨tg, iter, ifs, 0⟩] scope vp) spos) (tS X W C w (.set i t)) := by
  cases n with
  | zero => simp [cE] at h
  | succ n =>
    have ih := pok (C := C) n
    simp only [cE] at h
    split at h
    · rename_i hb0
      split at h
      · rename_i it g cs te h1 h2 h3 h4
        have hb := hb0
        rw [Bool.and_eq_true] at hb
        split at h
        · rename_i hj
          cases h
          refine s_setLc ok (by rw [ok.N]; exact idxOf_get hi) (by rw [ok.sc]; exact hl) (by rw [swaps_lc ok hk, hs]) (ih.i ok h1) hb.1 (fun s H c cl fp => cTg_ok (ok.block s H scope c cl fp) _ _ h2) (fun s H c cl fp => ih.ts (ok.block s H scope c cl fp) h3) (fun s H c cl fp => (ih.e (ok.block s H scope c cl fp) h4).1) hb.2 fun j hm => ?_
          have := List.all_eq_true.mp hj j hm
          simpa using this
        · cases h
      · cases h
    · cases h
theorem poks (w : Nat) : ∀ n, POkS C w n := by
  intro n
  induction n with
  | zero =>
    refine ⟨fun _ _ h => ?_, fun _ _ h => ?_⟩
    · simp [cS] at h
    · simp [cSs] at h
  | succ n ih =>
    have ie := pok (C := C) n
    refine ⟨@fun cc X W a t ok hk h => ?_, @fun cc X W a t ok hk h => ?_⟩
    · unfold cS at h
      split at h
      · cases h; exact s_doc
      · split at h
        · rename_i hc
          rw [Option.map_eq_some_iff] at h
          obtain ⟨te, h1, rfl⟩ := h
          exact s_expr (ie.e ok h1).1 (swaps0 hc _ _ _)
        · cases h
      · rename_i x p e pos
        split at h
        · rename_i hst
          split at h
          · rename_i i te h1 h2
            split at h
            · rename_i elt tg iter ifs scope vp
              split at h
              · rename_i hs
                split at h
                · rename_i hl
                  cases h
                  exact cS_lc ok hk hst h1 hs (of_decide_eq_true hl) h2
                · cases h
              · rename_i hs
                cases h
                exact s_set ok.nd (by rw [ok.N]; exact idxOf_get h1) (ok.loc hst) (ie.e ok h2).1 (by rw [swaps_lc ok hk]; simp [hs]) (ok.fn x hst)
            · split at h
              · rename_i hc
                cases h
                exact s_set ok.nd (by rw [ok.N]; exact idxOf_get h1) (ok.loc hst) (ie.e ok h2).1 (swaps0 hc _ _ _) (ok.fn x hst)
              · cases h
          · cases h
        · cases h
      · rename_i es k p e pos
        split at h
        · rename_i hc
          rw [Bool.and_eq_true] at hc
          split at h
          · rename_i g te h1 h2
            cases h
            exact s_asg (ie.e ok h2).1 (cTg_ok ok _ _ h1) (sole hc.1 _ _) (swapped0 hc.2 _) rfl
          · cases h
        · cases h
      · rename_i o i p e pos
        split at h
        · rename_i hc
          rw [Bool.and_eq_true, Bool.and_eq_true] at hc
          split at h
          · rename_i to ti tv h1 h2 h3
            cases h
            refine s_setIx (ie.e ok h1).1 (ie.e ok h2).1 (ie.e ok h3).1 (fun w => ?_) (sole hc.1.1 _ _) (swapped0 hc.1.2 _) rfl
            have := hc.2
            cases i <;> first | rfl | (simp [notSlice] at this)
          · cases h
        · cases h
      · rename_i x p op e pos
        split at h
        · rename_i hst
          split at h
          · rename_i i te h1 h2
            cases h
            exact s_aug ok.nd (by rw [ok.N]; exact idxOf_get h1) (ok.loc hst) (ie.e ok h2).1 (ok.fn x hst)
          · cases h
        · cases h
      · rw [Option.map_eq_some_iff] at h
        obtain ⟨te, h1, rfl⟩ := h
        exact s_ret (ie.e ok h1).1
      · cases h; exact s_retN
      · split at h
        · rename_i tc sa sb h1 h2 h3
          cases h
          exact s_ite (ie.e ok h1).2 (ih.ss ok hk h2) (ih.ss ok hk h3)
        · cases h
      · split at h
        · rename_i hs
          split at h
          · rename_i g it sb h1 h2 h3
            cases h
            exact s_for ok.po ok.calm (ie.i ok h2) (cTg_ok ok _ _ h1) (ih.ss ok hk h3) (folded hs _)
          · cases h
        · cases h
      · split at h
        · rename_i tc sb h1 h2
          cases h
          exact s_while ok.po (ie.e ok h1).2 (ih.ss ok hk h2)
        · cases h
      · cases h; exact s_brk
      · cases h; exact s_cont
      · cases h; exact s_pass
      · cases h; exact s_never
      · cases h
    · cases a with
      | nil => simp only [cSs, Option.some.injEq] at h; subst h; exact ss_nil
      | cons s ss =>
        simp only [cSs] at h
        cases h1 : cS n cc s with
        | none => simp [h1] at h
        | some t' =>
          cases h2 : cSs n cc ss with
          | none => simp [h1, h2] at h
          | some ts' =>
            simp only [h1, h2, Option.some.injEq] at h
            subst h
            exact ss_cons (ih.s ok hk h1) (ih.ss ok hk h2)
end

/-! ### defs -/
/-- a def of the text: its name, its statement, its names by slot, its parameters -/
structure DefT where
  name : Str
  st : Stmt
  N : List Str
  ps : List Str
def ccOf (fns : List Str) (cons : List (Str × D)) (d : DefT) : CC := ⟨d.N, defScope d.st, none, fns, cons⟩
def cDef (fns : List Str) (cons : List (Str × D)) (d : DefT) : Option Fn := (cSs 60 (ccOf fns cons d) (defBody d.st)).map fun b => ⟨d.ps.length, d.N.length, b⟩
/-- what holds behind the top of a def -/
structure DefOk (K : PySem.W.Frag) (mg : Str → Option Value) (d : DefT) (f : Addr) (fd : FuncData) : Prop where
  fn : Fun K d.name d.name d.st f fd
  sc : FnScope d.N d.ps (defScope d.st)
  bd : Binds K fd d.ps []
  at_ : mg d.name = some (.ref f)
structure Prog where
  defs : List DefT
  cons : List (Str × D)
  fns : List Fn
/-- the terms are those of the text -/
def Prog.ok (p : Prog) : Prop := ∀ (i : Nat) (d : DefT), p.defs[i]? = some d → ∃ fn, p.fns[i]? = some fn ∧ cDef (p.defs.map (·.name)) p.cons d = some fn
structure TopOk (p : Prog) (K : PySem.W.Frag) (mg : Str → Option Value) : Prop where
  defs : ∀ (i : Nat) (d : DefT), p.defs[i]? = some d → ∃ f fd, DefOk K mg d f fd
  blt : ∀ x ∈ bltNames, mg x = none
  con : ∀ x d, p.cons.lookup x = some d → ∃ v u, mg x = some u ∧ RelV v u ∧ ∀ H α, VR K H α v d
section
variable {P : Program} {w : World} {K : PySem.W.Frag} {mg : Str → Option Value} {base : Heap} {p : Prog}
theorem env_start {H : Hp} {α : List Addr} {vs : List V} {ds : List D} {N : List Str} (r : VRs K H α vs ds) (hl : ds.length ≤ N.length) : EnvR K H α (L2.start N vs) (ds.map some ++ List.replicate (N.length - ds.length) none) := by
  unfold L2.start
  refine ⟨by rw [List.length_append, List.length_append, List.length_map, List.length_map, List.length_replicate, List.length_replicate, r.length], fun i d h => ?_⟩
  by_cases hi : i < ds.length
  · rw [List.getElem?_append_left (by rw [List.length_map]; exact hi), List.getElem?_map] at h
    cases hd : ds[i]? with
    | none => rw [hd] at h; cases h
    | some d' =>
      rw [hd] at h
      cases h
      obtain ⟨v, hv, rv⟩ := r.get hd
      exact ⟨v, by rw [List.getElem?_append_left (by rw [List.length_map, r.length]; exact hi), List.getElem?_map, hv]; rfl, rv⟩
  · rw [List.getElem?_append_right (by rw [List.length_map]; omega), List.getElem?_replicate] at h
    split at h <;> cases h
theorem fn_ok (hp : p.ok) (top : TopOk p K mg) : ∀ (n i : Nat) (d : DefT) (f : Addr) (fd : FuncData), p.defs[i]? = some d → DefOk K mg d f fd → FnOk P w K mg base (L2.CX P w) n f fd d.ps (spD K mg (callD p.fns n i))
  | 0, i, d, f, fd, hd, ok => ⟨fun vs H Q E h => by obtain ⟨α, S, ds, _, _, h⟩ := h; exact False.elim h, fun A outer s H args us vs Q E hr e0 hb r h => by obtain ⟨α, S, ds, _, _, h⟩ := h; exact False.elim h⟩
  | n + 1, i, d, f, fd, hd, ok => by
    obtain ⟨fn, hfn, hc⟩ := hp i d hd
    unfold cDef at hc
    rw [Option.map_eq_some_iff] at hc
    obtain ⟨body, hbody, rfl⟩ := hc
    have inv : ∀ {vs : List V} {H : Hp} {Q : VK} {E : XK}, spD K mg (callD p.fns (n + 1) i) vs H Q E → ∃ α S ds, SR K S H α ∧ VRs K H α vs ds ∧ ds.length = d.ps.length ∧
        match bodyD (callD p.fns n) WF body (ds.map some ++ List.replicate (d.N.length - d.ps.length) none) S with
        | .ok d S' => ∀ v H' α', Ext α H H' α' → SR K S' H' α' → VR K H' α' v d → Q v H'
        | .exn x S' => ∀ c o H' α', Ext α H H' α' → SR K S' H' α' → XR K mg x c o H' α' → E c o H'
        | .bad => False := by
      intro vs H Q E ⟨α, S, ds, sr, r, h⟩
      refine ⟨α, S, ds, sr, r, ?_⟩
      simp only [callD, hfn] at h
      by_cases hl : ds.length = d.ps.length
      · rw [if_pos hl] at h
        exact ⟨hl, h⟩
      · rw [if_neg hl] at h
        exact False.elim h
    refine ok.fn.okX ok.sc (fun vs H Q E h => ?_) fun cdv A outer s H vs Q E hr h => ?_
    · obtain ⟨α, S, ds, _, r, hl, _⟩ := inv h
      rw [r.length, hl]
    · obtain ⟨α, S, ds, sr, r, hl, h⟩ := inv h
      generalize hX : cxOf (L2.CX P w) P w K mg base d.N d.name (defScope d.st) f cdv A outer s H E = X
      have hpl : d.ps.length ≤ d.N.length := by
        have := congrArg List.length ok.sc.pre
        rw [List.length_take] at this
        omega
      have ctx : CtxOk (ccOf (p.defs.map (·.name)) p.cons d) X (fun c o _ H => E c o H) (callD p.fns n) := by
        subst hX
        refine ⟨rfl, ok.sc.nd, rfl, fun x _ => .inl rfl, rfl, ?_, takes_of rfl rfl rfl rfl, passes_of rfl, top.blt, top.con, fun j x hj => ?_⟩
        · have := hr.un
          show (A.deeper _).units + 70 < cLine
          omega
        · have hj : (p.defs.map (·.name))[j]? = some x := hj
          rw [List.getElem?_map, Option.map_eq_some_iff] at hj
          obtain ⟨d', hd', rfl⟩ := hj
          obtain ⟨f', fd', ok'⟩ := top.defs j d' hd'
          exact ⟨f', fd', d'.ps, n, fn_ok hp top n j d' f' fd' hd' ok', hr, ok'.at_, ok'.fn.kp, ok'.bd⟩
      have hss := (poks (C := callD p.fns n) WF 60).ss ctx ok.sc.kind hbody
      have eK : X.K = K := by subst hX; rfl
      have eM : X.mg = mg := by subst hX; rfl
      refine ⟨_, hss, α, S, ds.map some ++ List.replicate (d.N.length - d.ps.length) none, by rw [eK]; exact sr, by rw [eK, ← hl]; exact env_start r (by rw [hl]; exact hpl), ?_⟩
      unfold bodyD at h
      cases hb : evSs (callD p.fns n) WF body (ds.map some ++ List.replicate (d.N.length - d.ps.length) none) S with
      | none => rw [hb] at h; exact h
      | some q =>
        obtain ⟨o, S1⟩ := q
        rw [hb] at h
        cases o with
        | nx σ1 =>
          intro σ' H' α' e' sr' en'
          rw [eK] at sr' en'
          obtain ⟨d', S', hg⟩ := gc_noexn (S := S) (S1 := S1) (d := .non) rfl
          obtain ⟨α2, e2, sr2, r2⟩ := gc_ok sr e' sr' .non hg
          simp only [hg] at h
          exact h _ _ _ e2 sr2 r2
        | ret d1 =>
          intro v H' α' e' sr' rv
          rw [eK] at sr' rv
          obtain ⟨d', S', hg⟩ := gc_noexn (S := S) (S1 := S1) (d := d1) rfl
          obtain ⟨α2, e2, sr2, r2⟩ := gc_ok sr e' sr' rv hg
          simp only [hg] at h
          exact h _ _ _ e2 sr2 r2
        | brk σ1 => exact False.elim h
        | cont σ1 => exact False.elim h
        | exn x σ1 =>
          intro c o σ' H' α' e' sr' en' xr
          rw [eK] at sr'
          rw [eK, eM] at xr
          exact h c o H' α' e' sr' xr
end
end Ev
end

section
/-! The end: from a run of the evaluator to the law's row. -/
namespace Ev
open PySem PySem.Spec PyProof.Rows L2
section
variable {P : Program} {w : World} {K : PySem.W.Frag} {mg : Str → Option Value} {h : Heap}
theorem def_mk (X : K.In h) (G : h.Ns mainGlobals mg) {d : DefT} {f : Addr} {oc : Value} {od an : Option Addr} {osl : Array (Option Value)} {kV doc pm cdv ct : Value} (a : PySem.W.nsIn K mainGlobals d.name = some (some (.ref f)))
    (l : K.lookup f = some ⟨oc, od, .func (PySem.W.fnOf d.name d.name (defArgs d.st) (defBody d.st) (defScope d.st) .none kV doc pm an cdv ct), osl⟩) (c : PySem.W.codeIn K cdv d.name = true) (k : PySem.W.keepIn K (.ref f) = true) (S : FnScope d.N d.ps (defScope d.st))
    (b : ∀ (kV doc pm : Value) (an : Option Addr) (cdv ct : Value) (us : List Value), us.length = d.ps.length → bindArgs (PySem.W.fnOf d.name d.name (defArgs d.st) (defBody d.st) (defScope d.st) .none kV doc pm an cdv ct) ⟨us, []⟩ = pure (d.ps.zip us)) :
    ∃ f fd, DefOk K mg d f fd := by
  have F := fun_mk (st := d.st) (x := d.name) (qual := d.name) l c k
  exact ⟨f, _, F, S, F.binds b, PySem.W.mg_of X G a⟩
theorem top_mk {p : Prog} (defs : ∀ d ∈ p.defs, ∃ f fd, DefOk K mg d f fd) (blt : ∀ x ∈ bltNames, mg x = none) (con : ∀ x d, p.cons.lookup x = some d → ∃ v u, mg x = some u ∧ RelV v u ∧ ∀ H α, VR K H α v d) : TopOk p K mg :=
  ⟨fun i d hd => defs d (List.mem_of_getElem? hd), blt, con⟩
theorem int_con {x : Str} {i : Int} {t : Tok} (hm : mg x = some (.int i t)) : ∃ v u, mg x = some u ∧ RelV v u ∧ ∀ H α, VR K H α v (.int i) := ⟨.int i, _, hm, ⟨t, rfl⟩, fun _ _ => .int i⟩
theorem int_of (X : K.In h) (G : h.Ns mainGlobals mg) {x : Str} {i : Int} {v : Value} (a : PySem.W.nsIn K mainGlobals x = some (some v)) (b : (match v with | .int j _ => decide (j = i) | _ => false) = true) : ∃ t, mg x = some (.int i t) := by
  cases v with
  | int j t =>
    have ej : j = i := of_decide_eq_true b
    subst ej
    exact ⟨t, PySem.W.mg_of X G a⟩
  | _ => cases b
theorem con_nil : ∀ (x : Str) (d : D), ([] : List (Str × D)).lookup x = some d → ∃ v u, mg x = some u ∧ RelV v u ∧ ∀ H α, VR K H α v d := fun x d h => by cases h
theorem con_cons {y : Str} {i : Int} {l : List (Str × D)} (h : ∃ t, mg y = some (.int i t)) (r : ∀ (x : Str) (d : D), l.lookup x = some d → ∃ v u, mg x = some u ∧ RelV v u ∧ ∀ H α, VR K H α v d) :
    ∀ (x : Str) (d : D), ((y, .int i) :: l).lookup x = some d → ∃ v u, mg x = some u ∧ RelV v u ∧ ∀ H α, VR K H α v d := fun x d e => by
  rw [List.lookup_cons] at e
  by_cases q : (x == y) = true
  · rw [q] at e
    cases e
    rw [eq_of_beq q]
    obtain ⟨t, ht⟩ := h
    exact int_con ht
  · rw [Bool.not_eq_true] at q
    rw [q] at e
    exact r x d e
theorem no_exc {P : Program} (w : World) (H : Hp) (s : Shared) (e : Value) (s' : Shared) (h : L2.CX P w [] H s (fun _ _ _ => False) e s') : False := by
  obtain ⟨_, _, _, _, _, _, _, _, _, _, _, _, f⟩ := h
  exact f
def spLaw (K : PySem.W.Frag) : Sp := fun vs H Q _ => ∃ (a : Addr) (ns : List Int), vs = [.ref a] ∧ SqL K H a (ns.map V.int) ∧ ns.length ≤ 63 ∧ Only H ∧ ∀ H', Q (.bl true) H'
theorem ints_vr {H : Hp} {α : List Addr} : ∀ ns : List Int, VRs K H α (ns.map V.int) (ns.map D.int)
  | [] => .nil
  | n :: ns => .cons (.int n) (ints_vr ns)
/-- the law holds by the evaluator -/
def LawOk (fns : List Fn) (n i : Nat) : Prop := ∀ ns : List Int, ns.length ≤ 63 → ∃ S', callD fns n i [.ilst (ns.map D.int)] [] = .ok (.bl true) S'
theorem law_ok {p : Prog} (hp : p.ok) (top : TopOk p K mg) {base : Heap} {n i : Nat} {d : DefT} {f : Addr} {fd : FuncData} (hd : p.defs[i]? = some d) (ok : DefOk K mg d f fd) (law : LawOk p.fns n i) : FnOk P w K mg base (L2.CX P w) n f fd d.ps (spLaw K) := by
  refine (fn_ok hp top n i d f fd hd ok).imp fun vs H Q E ⟨a, ns, hv, hS, hl, hO, q⟩ => ?_
  obtain ⟨S', e⟩ := law ns hl
  have hf : FzL K H a (ns.map V.int) := by
    rcases hS with (hS | hS) | hS
    · rcases hO a with z | ⟨o, xs, z⟩
      · rw [hS] at z; cases z
      · rw [hS] at z; cases z
    · exact .inl hS
    · exact .inr hS
  refine ⟨[], [], [.ilst (ns.map D.int)], ⟨rfl, .nil, fun i c a h => by simp at h⟩, ?_, ?_⟩
  · rw [hv]
    exact .cons (.ilst hf (ints_vr ns)) .nil
  · rw [e]
    intro v H' α' _ _ rv
    rw [rv.inv_bl]
    exact q H'
end
/-- the promise of the row's call -/
theorem law_fd {l : PySem.W.OpenLaw} {w : World} {K : PySem.W.Frag} {mg : Str → Option Value} {p : Prog} {n i : Nat} {d : DefT} {fa : Addr} (hp : p.ok) (top : TopOk p K mg) (hd : p.defs[i]? = some d) (hps : d.ps = [("_law_script" : Str)]) (hnm : d.name = "law") (hfa : mg "law" = some (.ref fa))
    (law : LawOk p.fns n i) (hb : ∀ (fd : FuncData) (f : Addr), Fun K "law" "law" d.st f fd → ∀ (s : Shared) (u : Value), BindsTo s fd ⟨[u], []⟩ [(("_law_script" : Str), u)]) :
    ∃ fd : FuncData, (∀ (s : Shared) (u : Value), BindsTo s fd ⟨[u], []⟩ [(("_law_script" : Str), u)]) ∧ ∀ base : Heap, K.In base → base.Ns mainGlobals mg → FnOk l.prog w K mg base (L2.CX l.prog w) n fa fd [("_law_script" : Str)] (spLaw K) := by
  obtain ⟨f, fd, ok⟩ := top.defs i d hd
  have e := ok.at_
  rw [hnm, hfa] at e
  cases e
  refine ⟨fd, hb fd fa (by have := ok.fn; rw [hnm] at this; exact this), fun base _ _ => ?_⟩
  rw [← hps]
  exact law_ok hp top hd ok law
theorem bind1 {K : PySem.W.Frag} {st : Stmt} {f : Addr} {fd : FuncData} {x : Str} (F : Fun K "law" "law" st f fd)
    (h : ∀ (kV doc pm : Value) (an : Option Addr) (cdv ct : Value) (us : Value), bindArgs (PySem.W.fnOf "law" "law" (defArgs st) (defBody st) (defScope st) .none kV doc pm an cdv ct) ⟨[us], []⟩ = pure [(x, us)]) (s : Shared) (u : Value) : BindsTo s fd ⟨[u], []⟩ [(x, u)] := by
  obtain ⟨oc, od, kV, doc, pm, an, cdv, ct, osl, rfl, lk, hcd⟩ := F.ex
  exact .of_eq (h kV doc pm an cdv ct u)
end Ev
end

section
/-! A computation goes on the same over a larger store: its places moved by k, behind k other cells. -/
namespace Ev
open PySem

mutual
def sh (k : Nat) : D → D
  | .tup ds => .tup (shs k ds)
  | .ilst ds => .ilst (shs k ds)
  | .loc i => .loc (i + k)
  | .non => .non
  | .bl b => .bl b
  | .int i => .int i
  | .str x => .str x
def shs (k : Nat) : List D → List D
  | [] => []
  | d :: ds => sh k d :: shs k ds
end
theorem shs_map (k : Nat) : ∀ ds : List D, shs k ds = ds.map (sh k)
  | [] => rfl
  | d :: ds => by rw [shs, shs_map k ds]; rfl
mutual
theorem sh_closed (k : Nat) : ∀ d : D, d.blw 0 = true → sh k d = d
  | .tup ds, h => by rw [sh, shs_closed k ds (by rwa [D.blw] at h)]
  | .ilst ds, h => by rw [sh, shs_closed k ds (by rwa [D.blw] at h)]
  | .loc i, h => by simp [D.blw] at h
  | .non, _ => rfl
  | .bl _, _ => rfl
  | .int _, _ => rfl
  | .str _, _ => rfl
theorem shs_closed (k : Nat) : ∀ ds : List D, D.blws 0 ds = true → shs k ds = ds
  | [], _ => rfl
  | d :: ds, h => by
    rw [D.blws, Bool.and_eq_true] at h
    rw [shs, sh_closed k d h.1, shs_closed k ds h.2]
end
mutual
theorem sh_blw (k n : Nat) : ∀ d : D, (sh k d).blw (k + n) = d.blw n
  | .tup ds => by rw [sh, D.blw, D.blw, shs_blw k n ds]
  | .ilst ds => by rw [sh, D.blw, D.blw, shs_blw k n ds]
  | .loc i => by
    rw [sh, D.blw, D.blw]
    by_cases h : i < n
    · rw [decide_eq_true h, decide_eq_true (by omega)]
    · rw [decide_eq_false h, decide_eq_false (by omega)]
  | .non => by simp [sh, D.blw]
  | .bl _ => by simp [sh, D.blw]
  | .int _ => by simp [sh, D.blw]
  | .str _ => by simp [sh, D.blw]
theorem shs_blw (k n : Nat) : ∀ ds : List D, D.blws (k + n) (shs k ds) = D.blws n ds
  | [] => by simp [shs, D.blws]
  | d :: ds => by rw [shs, D.blws, D.blws, sh_blw k n d, shs_blw k n ds]
end
mutual
theorem sh_inj (k : Nat) : ∀ d e : D, sh k d = sh k e → d = e
  | .tup ds, e, h => by
    cases e <;> simp only [sh] at h <;> try (cases h; done)
    rename_i es
    rw [shs_inj k ds es (by injection h)]
  | .ilst ds, e, h => by
    cases e <;> simp only [sh] at h <;> try (cases h; done)
    rename_i es
    rw [shs_inj k ds es (by injection h)]
  | .loc i, e, h => by
    cases e <;> simp only [sh] at h <;> try (cases h; done)
    injection h with h
    congr 1
    omega
  | .non, e, h => by cases e <;> simp only [sh] at h <;> first | rfl | cases h
  | .bl _, e, h => by cases e <;> simp only [sh] at h <;> first | exact h | cases h
  | .int _, e, h => by cases e <;> simp only [sh] at h <;> first | exact h | cases h
  | .str _, e, h => by cases e <;> simp only [sh] at h <;> first | exact h | cases h
theorem shs_inj (k : Nat) : ∀ ds es : List D, shs k ds = shs k es → ds = es
  | [], es, h => by cases es <;> simp [shs] at h ⊢
  | d :: ds, es, h => by
    cases es with
    | nil => simp [shs] at h
    | cons e es =>
      simp only [shs, List.cons.injEq] at h
      rw [sh_inj k d e h.1, shs_inj k ds es h.2]
end
def Cell.sh (k : Nat) : Cell → Cell
  | .lst ds => .lst (shs k ds)
  | .dct kvs => .dct (kvs.map fun p => (Ev.sh k p.1, Ev.sh k p.2))
  | .set ds => .set (shs k ds)
def shE (k : Nat) (σ : Env) : Env := σ.map fun o => o.map (sh k)
/-- the larger store -/
def shS (P S : Store) : Store := P ++ S.map (Cell.sh P.length)
def shR {A : Type} (f : A → A) (P : Store) : R A → R A
  | .ok a S => .ok (f a) (shS P S)
  | .exn x S => .exn ⟨x.cls, x.fs.map fun p => (p.1, sh P.length p.2)⟩ (shS P S)
  | .bad => .bad
section
variable {P S : Store}
theorem shS_get (P S : Store) (i : Nat) : (shS P S)[i + P.length]? = (S[i]?).map (Cell.sh P.length) := by
  unfold shS
  rw [List.getElem?_append_right (by omega), Nat.add_sub_cancel, List.getElem?_map]
theorem shS_len (P S : Store) : (shS P S).length = P.length + S.length := by
  unfold shS
  rw [List.length_append, List.length_map]
theorem shS_app (P S : Store) (c : Cell) : shS P (S ++ [c]) = shS P S ++ [c.sh P.length] := by
  unfold shS
  rw [List.map_append, List.append_assoc]
  rfl
theorem shS_set (P S : Store) (i : Nat) (c : Cell) : shS P (S.set i c) = (shS P S).set (i + P.length) (c.sh P.length) := by
  unfold shS
  rw [List.set_append_right _ _ (by omega), Nat.add_sub_cancel, List.map_set]
theorem shs_len (k : Nat) (ds : List D) : (shs k ds).length = ds.length := by rw [shs_map, List.length_map]
theorem shs_get (k : Nat) (ds : List D) (i : Nat) : (shs k ds)[i]? = (ds[i]?).map (sh k) := by rw [shs_map, List.getElem?_map]
theorem shs_app (k : Nat) (ds es : List D) : shs k (ds ++ es) = shs k ds ++ shs k es := by rw [shs_map, shs_map, shs_map, List.map_append]
theorem seqOf_sh (d : D) : seqOf (shS P S) (sh P.length d) = (seqOf S d).map (shs P.length) := by
  cases d <;> simp only [sh, seqOf, Option.map_some, Option.map_none]
  rename_i i
  rw [shS_get]
  cases S[i]? with
  | none => rfl
  | some c => cases c <;> rfl
theorem lstOf_sh (d : D) : lstOf (shS P S) (sh P.length d) = (lstOf S d).map (shs P.length) := by
  cases d <;> simp only [sh, lstOf, Option.map_some, Option.map_none]
  rename_i i
  rw [shS_get]
  cases S[i]? with
  | none => rfl
  | some c => cases c <;> rfl
mutual
theorem toP_sh {f g : Nat → Option PyData} (k : Nat) (hf : ∀ i, g (i + k) = f i) : ∀ d : D, toP g (sh k d) = toP f d
  | .tup ds => by rw [sh, toP, toP, toPs_sh k hf ds]
  | .ilst ds => by rw [sh, toP, toP, toPs_sh k hf ds]
  | .loc i => by rw [sh, toP, toP]; exact hf i
  | .non => rfl
  | .bl _ => rfl
  | .int _ => rfl
  | .str _ => rfl
theorem toPs_sh {f g : Nat → Option PyData} (k : Nat) (hf : ∀ i, g (i + k) = f i) : ∀ ds : List D, toPs g (shs k ds) = toPs f ds
  | [] => rfl
  | d :: ds => by rw [shs, toPs, toPs, toP_sh k hf d, toPs_sh k hf ds]
end
theorem rdP_sh : ∀ (n i : Nat), rdP (shS P S) n (i + P.length) = rdP S n i
  | 0, _ => rfl
  | n + 1, i => by
    simp only [rdP, shS_get]
    cases S[i]? with
    | none => rfl
    | some c =>
      cases c with
      | lst ds =>
        simp only [Option.map_some, Cell.sh]
        rw [toPs_sh P.length (fun i => rdP_sh n i) ds]
      | _ => rfl
theorem asP_sh (d : D) : asP (shS P S) (sh P.length d) = asP S d := toP_sh P.length (rdP_sh 3) d
theorem asPs_sh (ds : List D) : toPs (rdP (shS P S) 3) (shs P.length ds) = toPs (rdP S 3) ds := toPs_sh P.length (rdP_sh 3) ds
theorem truD_sh (d : D) : truD (sh P.length d) (shS P S) = truD d S := by
  have e : ∀ ds : List D, (!(shs P.length ds).isEmpty) = !ds.isEmpty := fun ds => by cases ds <;> rfl
  cases d <;> simp only [sh, truD, e]
  rename_i i
  rw [shS_get]
  cases S[i]? with
  | none => rfl
  | some c => cases c <;> simp only [Option.map_some, Cell.sh, e]
theorem eqD_sh (a b : D) : eqD (sh P.length a) (sh P.length b) (shS P S) = eqD a b S := by
  unfold eqD
  cases a <;> cases b <;> simp only [sh] <;> first
    | rfl
    | (simp only [← sh.eq_1, ← sh.eq_2, ← sh.eq_3]
       have := asP_sh (P := P) (S := S)
       simp only [asP, toP, sh] at this ⊢
       first | rfl | simp only [asPs_sh, rdP_sh])
theorem ltD_sh (a b : D) : ltD (sh P.length a) (sh P.length b) (shS P S) = ltD a b S := by
  unfold ltD
  cases a <;> cases b <;> simp only [sh] <;> first
    | rfl
    | (simp only [asP, toP]
       first | rfl | simp only [asPs_sh, rdP_sh])
theorem inD_sh (a b : D) : inD (sh P.length a) (sh P.length b) (shS P S) = inD a b S := by
  unfold inD
  rw [seqOf_sh]
  cases seqOf S b with
  | none => rfl
  | some ds =>
    simp only [Option.map_some]
    rw [asP_sh, asPs_sh]
theorem isD_sh (a b : D) : isD (sh P.length a) (sh P.length b) = isD a b := by
  cases b <;> cases a <;> rfl
theorem ofO_sh {A : Type} (f : A → A) (o : Option A) (o' : Option A) (h : o' = o.map f) : R.ofO (shS P S) o' = shR f P (R.ofO S o) := by
  subst h
  cases o <;> rfl
theorem cmpD_sh (op : CmpOp) (a b : D) : cmpD op (sh P.length a) (sh P.length b) (shS P S) = shR id P (cmpD op a b S) := by
  cases op <;> simp only [cmpD, eqD_sh, ltD_sh, inD_sh, isD_sh] <;> exact ofO_sh id _ _ (by simp)
theorem alloc_sh (c : Cell) : alloc (shS P S) (c.sh P.length) = shR (sh P.length) P (alloc S c) := by
  unfold alloc
  simp only [shR, shS_app, sh, shS_len, Nat.add_comm]
theorem flat_sh (k n : Nat) (ds : List D) : shs k (List.replicate n ds).flatten = (List.replicate n (shs k ds)).flatten := by
  induction n with
  | zero => rfl
  | succ n ih => rw [List.replicate_succ, List.replicate_succ, List.flatten_cons, List.flatten_cons, shs_app, ih]
theorem ite_sh {A : Type} {f : A → A} {c : Prop} [Decidable c] {x y : R A} {x' y' : R A} (hx : x' = shR f P x) (hy : y' = shR f P y) : (if c then x' else y') = shR f P (if c then x else y) := by
  split
  · exact hx
  · exact hy
theorem binD_sh (op : Operator) (a b : D) : binD op (sh P.length a) (sh P.length b) (shS P S) = shR (sh P.length) P (binD op a b S) := by
  cases a <;> cases b <;> cases op <;> simp only [sh, binD] <;> first
    | rfl
    | exact ite_sh rfl rfl
    | skip
  · rw [shs_len, shs_len]
    exact ite_sh (by simp only [shR, sh, shs_app]) rfl
  · rename_i i k
    rw [shS_get]
    cases hc : S[i]? with
    | none => rfl
    | some c =>
      cases c with
      | lst ds =>
        simp only [Option.map_some, Cell.sh]
        rw [shs_len]
        refine ite_sh ?_ rfl
        rw [← flat_sh]
        exact alloc_sh (.lst _)
      | _ => rfl
  · rename_i i j
    rw [shS_get, shS_get]
    cases hc : S[i]? with
    | none => rfl
    | some c =>
      cases hd : S[j]? with
      | none => cases c <;> rfl
      | some c2 =>
        cases c <;> cases c2 <;> simp only [Option.map_some, Cell.sh] <;> try rfl
        rw [shs_len, shs_len]
        refine ite_sh ?_ rfl
        rw [← shs_app]
        exact alloc_sh (.lst _)
theorem unD_sh (op : UnaryOp) (a : D) : unD op (sh P.length a) (shS P S) = shR (sh P.length) P (unD op a S) := by
  cases op <;> cases a <;> rfl
theorem atI_sh (k : Nat) (ds : List D) (i : Int) : L2.atI (shs k ds) i = (L2.atI ds i).map (sh k) := by
  unfold L2.atI
  rw [shs_len]
  cases L2.ixN ds.length i with
  | none => rfl
  | some j => exact shs_get k ds j
theorem ixD_sh (a b : D) : ixD (sh P.length a) (sh P.length b) (shS P S) = shR (sh P.length) P (ixD a b S) := by
  cases b <;> simp only [sh, ixD] <;> try rfl
  rw [seqOf_sh]
  cases seqOf S a with
  | none => rfl
  | some ds => exact ofO_sh (sh P.length) _ _ (atI_sh _ _ _)
theorem cut_sh (k : Nat) (ds : List D) (lo hi : Option Int) : cutD (shs k ds) lo hi = shs k (cutD ds lo hi) := by
  unfold cutD
  rw [shs_len, shs_map, shs_map, List.map_take, List.map_drop]
theorem slD_sh (a : D) (lo hi : Option Int) : slD (sh P.length a) lo hi (shS P S) = shR (sh P.length) P (slD a lo hi S) := by
  cases a <;> simp only [sh, slD, cut_sh] <;> first
    | rfl
    | exact alloc_sh (.lst _)
    | skip
  rename_i i
  rw [shS_get]
  cases S[i]? with
  | none => rfl
  | some c =>
    cases c with
    | lst ds =>
      simp only [Option.map_some, Cell.sh, cut_sh]
      exact alloc_sh (.lst _)
    | _ => rfl
theorem isiD_sh (t : Ty) (d : D) : isiD t (sh P.length d) (shS P S) = isiD t d S := by
  cases d <;> simp only [sh, isiD]
  rename_i i
  rw [shS_get]
  cases S[i]? with
  | none => rfl
  | some c => cases c <;> rfl
theorem bools_sh (k : Nat) : ∀ ds : List D, bools (shs k ds) = bools ds
  | [] => rfl
  | d :: ds => by cases d <;> simp only [shs, sh, bools, bools_sh k ds]
theorem ints_sh (k : Nat) : ∀ ds : List D, intsOf (shs k ds) = intsOf ds
  | [] => rfl
  | d :: ds => by cases d <;> simp only [shs, sh, intsOf, ints_sh k ds]
theorem insP_sh (k : Nat) (x : D × PyData) : ∀ ys : List (D × PyData), insP (sh k x.1, x.2) (ys.map fun p => (sh k p.1, p.2)) = (insP x ys).map fun p => (sh k p.1, p.2)
  | [] => rfl
  | y :: ys => by
    simp only [List.map_cons, insP]
    split
    · rw [List.map_cons, insP_sh k x ys]
    · rfl
theorem sortP_sh (k : Nat) : ∀ l : List (D × PyData), sortP (l.map fun p => (sh k p.1, p.2)) = (sortP l).map fun p => (sh k p.1, p.2)
  | [] => rfl
  | x :: xs => by
    rw [List.map_cons, sortP, sortP, sortP_sh k xs]
    exact insP_sh k x _
theorem sortD_sh (ds : List D) : sortD (shs P.length ds) (shS P S) = (sortD ds S).map (shs P.length) := by
  unfold sortD
  rw [asPs_sh]
  cases toPs (rdP S 3) ds with
  | none => rfl
  | some ps =>
    simp only [shs_len]
    split
    · have : (shs P.length ds).zip ps = (ds.zip ps).map fun p => (sh P.length p.1, p.2) := by
        rw [shs_map, List.zip_map_left]
        rfl
      rw [this, sortP_sh, Option.map_some, shs_map, List.map_map, List.map_map]
      rfl
    · rfl
theorem shs_isEmpty (k : Nat) (ds : List D) : (shs k ds).isEmpty = ds.isEmpty := by cases ds <;> rfl
theorem bltD_sh (b : Blt) (ds : List D) : bltD b (shs P.length ds) (shS P S) = shR (sh P.length) P (bltD b ds S) := by
  cases ds with
  | nil => cases b <;> rfl
  | cons d ds =>
    cases ds with
    | nil =>
      have h1 := seqOf_sh (P := P) (S := S) d
      have h2 := lstOf_sh (P := P) (S := S) d
      cases b with
      | len =>
        simp only [shs, bltD]
        cases d <;> simp only [sh] at h1 ⊢ <;> first
          | exact ite_sh rfl rfl
          | (rw [h1]
             generalize seqOf S _ = o
             cases o with
             | none => rfl
             | some es => simp only [Option.map_some, shR, sh, shs_len])
      | int => simp only [shs]; cases d <;> rfl
      | bool =>
        simp only [shs, bltD]
        cases d <;> simp only [sh] at h2 ⊢ <;> first
          | rfl
          | (rw [h2]
             generalize lstOf S _ = o
             cases o with
             | none => rfl
             | some es => simp only [Option.map_some, shR, sh, shs_isEmpty])
      | all =>
        simp only [shs, bltD]
        rw [h2]
        cases lstOf S d with
        | none => rfl
        | some es => simp only [Option.map_some, bools_sh]; exact ofO_sh _ _ _ (by cases bools es <;> rfl)
      | any =>
        simp only [shs, bltD]
        rw [h2]
        cases lstOf S d with
        | none => rfl
        | some es => simp only [Option.map_some, bools_sh]; exact ofO_sh _ _ _ (by cases bools es <;> rfl)
      | sum =>
        simp only [shs, bltD]
        rw [h2]
        cases lstOf S d with
        | none => rfl
        | some es => simp only [Option.map_some, ints_sh]; exact ofO_sh _ _ _ (by cases intsOf es <;> rfl)
      | tuple =>
        simp only [shs, bltD]
        rw [h1]
        cases seqOf S d with
        | none => rfl
        | some es => rfl
      | list =>
        simp only [shs, bltD]
        rw [h1]
        cases seqOf S d with
        | none => rfl
        | some es => exact alloc_sh (.lst _)
      | sorted =>
        simp only [shs, bltD]
        rw [h1]
        cases seqOf S d with
        | none => rfl
        | some es =>
          simp only [Option.map_some]
          rw [sortD_sh]
          cases sortD es S with
          | none => rfl
          | some fs => exact alloc_sh (.lst _)
      | max2 => simp only [shs]; cases d <;> rfl
      | min2 => simp only [shs]; cases d <;> rfl
      | abs => simp only [shs]; cases d <;> rfl
    | cons d2 ds =>
      cases ds with
      | nil => cases b <;> cases d <;> cases d2 <;> rfl
      | cons d3 ds => cases b <;> cases d <;> cases d2 <;> rfl
theorem eraseIdx_map' {A B : Type} (f : A → B) : ∀ (xs : List A) (j : Nat), (xs.map f).eraseIdx j = (xs.eraseIdx j).map f
  | [], _ => rfl
  | _ :: _, 0 => rfl
  | x :: xs, j + 1 => by rw [List.map_cons, List.eraseIdx_cons_succ, List.eraseIdx_cons_succ, List.map_cons, eraseIdx_map' f xs j]
theorem mtD_sh (m : Mt) (o : D) (ds : List D) : mtD m (sh P.length o) (shs P.length ds) (shS P S) = shR (sh P.length) P (mtD m o ds S) := by
  cases o <;> simp only [sh, mtD] <;> try rfl
  rename_i i
  rw [shS_get]
  cases hc : S[i]? with
  | none => rfl
  | some c =>
    cases c with
    | lst xs =>
      simp only [Option.map_some, Cell.sh]
      cases m with
      | append =>
        cases ds with
        | nil => rfl
        | cons d ds =>
          cases ds with
          | nil =>
            simp only [shs]
            rw [shs_len]
            refine ite_sh ?_ rfl
            simp only [shR, shS_set, sh, Cell.sh, shs_app, shs]
          | cons _ _ => rfl
      | pop =>
        cases ds with
        | nil =>
          simp only [shs]
          rw [shs_len, shs_get]
          cases xs[xs.length - 1]? with
          | none => rfl
          | some y =>
            simp only [Option.map_some, shR, shS_set, Cell.sh]
            rw [shs_map, shs_map, List.map_dropLast]
        | cons _ _ => rfl
      | popAt =>
        cases ds with
        | nil => rfl
        | cons d ds =>
          cases ds with
          | nil =>
            cases d <;> simp only [shs, sh] <;> try rfl
            rw [shs_len]
            refine ite_sh ?_ rfl
            cases L2.ixN xs.length _ with
            | none => rfl
            | some j =>
              simp only
              rw [shs_get]
              cases xs[j]? with
              | none => rfl
              | some y =>
                simp only [Option.map_some, shR, shS_set, Cell.sh]
                rw [shs_map, shs_map, eraseIdx_map']
          | cons _ _ => cases d <;> rfl
      | extend =>
        cases ds with
        | nil => rfl
        | cons d ds =>
          cases ds with
          | nil =>
            cases d <;> simp only [shs, sh] <;> try rfl
            rename_i j
            rw [shS_get]
            cases S[j]? with
            | none => rfl
            | some c2 =>
              cases c2 with
              | lst ys =>
                simp only [Option.map_some, Cell.sh]
                rw [shs_len, shs_len]
                refine ite_sh ?_ rfl
                simp only [shR, shS_set, sh, Cell.sh, shs_app]
              | _ => rfl
          | cons _ _ => cases d <;> rfl
      | reverse =>
        cases ds with
        | nil =>
          simp only [shs, shR, shS_set, sh, Cell.sh]
          rw [shs_map, shs_map, List.map_reverse]
        | cons _ _ => rfl
    | _ => rfl
theorem setIxD_sh (o i v : D) : setIxD (sh P.length o) (sh P.length i) (sh P.length v) (shS P S) = (setIxD o i v S).map (shS P) := by
  cases o <;> cases i <;> simp only [sh, setIxD] <;> try rfl
  rename_i p k
  rw [shS_get]
  cases S[p]? with
  | none => rfl
  | some c =>
    cases c with
    | lst xs =>
      simp only [Option.map_some, Cell.sh]
      rw [shs_len]
      cases L2.ixN xs.length _ with
      | none => rfl
      | some j =>
        simp only [Option.map_some, shS_set, Cell.sh]
        rw [shs_map, shs_map, List.map_set]
    | _ => rfl
theorem augD_sh (op : Operator) (a b : D) : augD op (sh P.length a) (sh P.length b) (shS P S) = shR (sh P.length) P (augD op a b S) := by
  cases op <;> cases a <;> cases b <;> rfl
end
/-! ### what is let go -/
section
variable {P : Store}
theorem Cell.sh_inj (k : Nat) (c d : Cell) (h : c.sh k = d.sh k) : c = d := by
  cases c <;> cases d <;> simp only [Cell.sh] at h <;> try (cases h; done)
  · injection h with h
    exact congrArg Cell.lst (shs_inj k _ _ h)
  · injection h with h
    congr 1
    refine List.map_inj_right (fun p q e => ?_) |>.mp h
    obtain ⟨p1, p2⟩ := p
    obtain ⟨q1, q2⟩ := q
    simp only [Prod.mk.injEq] at e
    rw [Ev.sh_inj k _ _ e.1, Ev.sh_inj k _ _ e.2]
  · injection h with h
    exact congrArg Cell.set (shs_inj k _ _ h)
theorem Cell.sh_blw (k n : Nat) (c : Cell) : (c.sh k).blw (k + n) = c.blw n := by
  cases c with
  | lst ds => exact shs_blw k n ds
  | dct kvs =>
    simp only [Cell.sh, Cell.blw]
    have e1 : (kvs.map fun p => (Ev.sh k p.1, Ev.sh k p.2)).map (·.1) = shs k (kvs.map (·.1)) := by rw [shs_map, List.map_map, List.map_map]; rfl
    have e2 : (kvs.map fun p => (Ev.sh k p.1, Ev.sh k p.2)).map (·.2) = shs k (kvs.map (·.2)) := by rw [shs_map, List.map_map, List.map_map]; rfl
    rw [e1, e2, shs_blw, shs_blw]
  | set ds => exact shs_blw k n ds
theorem stable_map (k n : Nat) : ∀ S S1 : Store, stable (k + n) (S.map (Cell.sh k)) (S1.map (Cell.sh k)) = stable n S S1
  | [], _ => rfl
  | _ :: _, [] => rfl
  | c :: S, c1 :: S1 => by
    rw [List.map_cons, List.map_cons, stable, stable, Cell.sh_blw, stable_map k n S S1]
    have : decide (c1.sh k = c.sh k) = decide (c1 = c) := by
      by_cases h : c1 = c
      · rw [decide_eq_true h, decide_eq_true (by rw [h])]
      · rw [decide_eq_false h, decide_eq_false fun e => h (Cell.sh_inj k _ _ e)]
    rw [this]
theorem stable_pre (n : Nat) : ∀ (P S S1 : Store), stable n (P ++ S) (P ++ S1) = stable n S S1
  | [], _, _ => rfl
  | c :: P, S, S1 => by
    rw [List.cons_append, List.cons_append, stable, stable_pre n P S S1, decide_eq_true rfl]
    rfl
theorem stable_sh (S S1 : Store) : stable (shS P S).length (shS P S) (shS P S1) = stable S.length S S1 := by
  rw [shS_len]
  unfold shS
  rw [stable_pre, stable_map]
theorem take_sh (S S1 : Store) : (shS P S1).take (shS P S).length = shS P (S1.take S.length) := by
  rw [shS_len]
  unfold shS
  rw [List.take_length_add_append, List.map_take]
theorem gc_sh (S S1 : Store) (d : D) : gcAfter (shS P S) (sh P.length d) (shS P S1) = shR (sh P.length) P (gcAfter S d S1) := by
  unfold gcAfter
  rw [stable_sh, take_sh]
  have hb : (sh P.length d).blw (shS P S).length = d.blw S.length := by rw [shS_len, sh_blw]
  rw [hb]
  refine ite_sh (ite_sh rfl ?_) rfl
  cases d <;> simp only [sh] <;> try rfl
  rename_i i
  rw [shS_get]
  cases hc : S1[i]? with
  | none => rfl
  | some c =>
    simp only [Option.map_some]
    have hc1 : ((shS P S).length ≤ i + P.length ∧ (c.sh P.length).blw (shS P S).length = true) ↔ (S.length ≤ i ∧ c.blw S.length = true) := by
      rw [shS_len, Cell.sh_blw]
      constructor
      · intro ⟨a, b⟩; exact ⟨by omega, b⟩
      · intro ⟨a, b⟩; exact ⟨by omega, b⟩
    by_cases h : S.length ≤ i ∧ c.blw S.length = true
    · rw [if_pos h, if_pos (hc1.mpr h)]
      simp only [shR, shS_app, sh, shS_len, Nat.add_comm]
    · rw [if_neg h, if_neg fun q => h (hc1.mp q)]
      rfl
end
end Ev
end

section
/-! The evaluator over a larger store. -/
namespace Ev
open PySem

section
variable {P S : Store} {σ : Env}
theorem bind_sh {A B : Type} {f : A → A} {g : B → B} {x x' : R A} {k k' : A → Store → R B} (hx : x' = shR f P x) (hk : ∀ a S, k' (f a) (shS P S) = shR g P (k a S)) : x'.bind k' = shR g P (x.bind k) := by
  subst hx
  cases x with
  | ok a S => exact hk a S
  | exn _ _ => rfl
  | bad => rfl
theorem ofO_id {A : Type} (o : Option A) : R.ofO (shS P S) o = shR id P (R.ofO S o) := ofO_sh id _ _ (by simp)
theorem tru_sh {x x' : R D} (hx : x' = shR (sh P.length) P x) : x'.tru = shR id P x.tru :=
  bind_sh hx fun d S => by rw [truD_sh]; exact ofO_id _
theorem shE_get (i : Nat) : (shE P.length σ)[i]? = (σ[i]?).map fun o => o.map (sh P.length) := by unfold shE; rw [List.getElem?_map]
theorem shE_set (i : Nat) (d : Option D) : shE P.length (σ.set i d) = (shE P.length σ).set i (d.map (sh P.length)) := by unfold shE; rw [List.map_set]
mutual
theorem asg_sh : ∀ (g : Tg) (d : D) (σ : Env), asg g (sh P.length d) (shE P.length σ) = (asg g d σ).map (shE P.length)
  | .name i, d, σ => by rw [asg, asg, Option.map_some, shE_set]; rfl
  | .tup gs, d, σ => by cases d <;> simp only [sh, asg] <;> first | exact asgs_sh gs _ σ | rfl
theorem asgs_sh : ∀ (gs : List Tg) (ds : List D) (σ : Env), asgs gs (shs P.length ds) (shE P.length σ) = (asgs gs ds σ).map (shE P.length)
  | [], [], σ => rfl
  | [], _ :: _, σ => rfl
  | _ :: _, [], σ => rfl
  | g :: gs, d :: ds, σ => by
    rw [shs, asgs, asgs, asg_sh g d σ]
    cases asg g d σ with
    | none => rfl
    | some σ1 => exact asgs_sh gs ds σ1
end
theorem wipe_sh : ∀ own : List Nat, wipeD (shE P.length σ) own = shE P.length (wipeD σ own)
  | [] => rfl
  | v :: vs => by rw [wipeD, wipeD, wipe_sh vs, shE_set]; rfl
def shSrc (k : Nat) (r : Src) : Src := ⟨shs k r.items, r.keep.map fun p => (p.1 + k, shs k p.2)⟩
theorem chk_sh (r : Src) (S : Store) : (shSrc P.length r).chk (shS P S) = r.chk S := by
  obtain ⟨its, kp⟩ := r
  unfold Src.chk shSrc
  simp only
  induction kp with
  | nil => rfl
  | cons p kp ih =>
    simp only [List.map_cons, List.all_cons, ih]
    congr 1
    rw [shS_get]
    by_cases h : S[p.1]? = some (.lst p.2)
    · rw [decide_eq_true h, decide_eq_true (by rw [h]; rfl)]
    · rw [decide_eq_false h, decide_eq_false fun e => h ?_]
      cases hc : S[p.1]? with
      | none => rw [hc] at e; cases e
      | some c =>
        rw [hc, Option.map_some] at e
        rw [Cell.sh_inj P.length c (.lst p.2) (by injection e)]
theorem keep_sh (d : D) (ds : List D) : keepOf (sh P.length d) (shs P.length ds) = (keepOf d ds).map fun p => (p.1 + P.length, shs P.length p.2) := by
  cases d <;> rfl
theorem spcD_sh (s : Sx) (ds : List D) : spcD s (shs P.length ds) (shS P S) = shR (sh P.length) P (spcD s ds S) := by
  have hl : ∀ (lo : Int) (n : Nat), shs P.length (rngL lo n) = rngL lo n := fun lo n => by rw [shs_map]; unfold rngL; rw [List.map_map]; rfl
  cases s with
  | rev =>
    cases ds with
    | nil => rfl
    | cons d ds =>
      cases ds with
      | nil =>
        simp only [shs, spcD]
        rw [lstOf_sh]
        cases lstOf S d with
        | none => rfl
        | some es =>
          simp only [Option.map_some]
          rw [show (shs P.length es).reverse = shs P.length es.reverse by rw [shs_map, shs_map, List.map_reverse]]
          exact alloc_sh (.lst _)
      | cons _ _ => rfl
  | lrng1 =>
    cases ds with
    | nil => rfl
    | cons d ds =>
      cases ds with
      | nil =>
        cases d <;> simp only [shs, sh, spcD] <;> try rfl
        refine ite_sh ?_ rfl
        rw [← alloc_sh]
        simp only [Cell.sh, hl]
      | cons _ _ => cases d <;> rfl
  | trng1 =>
    cases ds with
    | nil => rfl
    | cons d ds =>
      cases ds with
      | nil =>
        cases d <;> simp only [shs, sh, spcD] <;> try rfl
        refine ite_sh ?_ rfl
        simp only [shR, sh, hl]
      | cons _ _ => cases d <;> rfl
  | lrng2 =>
    cases ds with
    | nil => rfl
    | cons d ds =>
      cases ds with
      | nil => cases d <;> rfl
      | cons e ds =>
        cases ds with
        | nil =>
          cases d <;> cases e <;> simp only [shs, sh, spcD] <;> try rfl
          refine ite_sh ?_ rfl
          rw [← alloc_sh]
          simp only [Cell.sh, hl]
        | cons _ _ => cases d <;> cases e <;> rfl
  | trng2 =>
    cases ds with
    | nil => rfl
    | cons d ds =>
      cases ds with
      | nil => cases d <;> rfl
      | cons e ds =>
        cases ds with
        | nil =>
          cases d <;> cases e <;> simp only [shs, sh, spcD] <;> try rfl
          refine ite_sh ?_ rfl
          simp only [shR, sh, hl]
        | cons _ _ => cases d <;> cases e <;> rfl
theorem rngL_sh (lo : Int) (n : Nat) : shs P.length (rngL lo n) = rngL lo n := by
  rw [shs_map]
  unfold rngL
  rw [List.map_map]
  rfl
theorem lc_sh {chk chk' : Store → Bool} {g : Tg} {t t' : Env → Store → R Bool} {e e' : Env → Store → R D} {σ : Env} (hc : ∀ S, chk' (shS P S) = chk S)
    (ht : ∀ σ S, t' (shE P.length σ) (shS P S) = shR id P (t σ S)) (he : ∀ σ S, e' (shE P.length σ) (shS P S) = shR (sh P.length) P (e σ S)) :
    ∀ (ds : List D) (S : Store), lcD chk' g t' e' (shE P.length σ) (shs P.length ds) (shS P S) = shR (shs P.length) P (lcD chk g t e σ ds S)
  | [], S => by rw [shs, lcD, lcD, hc]; exact ite_sh rfl rfl
  | d :: ds, S => by
    rw [shs, lcD, lcD, hc, asg_sh]
    refine ite_sh ?_ rfl
    cases asg g d σ with
    | none => rfl
    | some σ1 =>
      simp only [Option.map_some]
      rw [ht]
      cases t σ1 S with
      | bad => rfl
      | exn _ _ => rfl
      | ok k S1 =>
        cases k with
        | false => exact lc_sh hc ht he ds S1
        | true =>
          simp only [shR, id]
          rw [he]
          cases e σ1 S1 with
          | bad => rfl
          | exn _ _ => rfl
          | ok x S2 =>
            simp only [shR]
            rw [lc_sh hc ht he ds S2]
            cases lcD chk g t e σ ds S2 <;> rfl
variable {C : CallT}
abbrev CallSh (P : Store) (C : CallT) : Prop := ∀ (f : Nat) (ds : List D) (S : Store), C f (shs P.length ds) (shS P S) = shR (sh P.length) P (C f ds S)
mutual
theorem evE_sh (hC : CallSh P C) : ∀ (t : Tm) (σ : Env) (S : Store), evE C t (shE P.length σ) (shS P S) = shR (sh P.length) P (evE C t σ S)
  | .var i, σ, S => by
    rw [evE, evE, shE_get]
    cases σ[i]? with
    | none => rfl
    | some o => cases o <;> rfl
  | .con d, σ, S => by
    rw [evE, evE]
    by_cases h : d.blw 0 = true
    · rw [if_pos h, if_pos h, shR, sh_closed _ d h]
    · rw [if_neg h, if_neg h]; rfl
  | .bin op a b, σ, S => by
    rw [evE, evE]
    exact bind_sh (evE_sh hC a σ S) fun x S1 => bind_sh (evE_sh hC b σ S1) fun y S2 => binD_sh op x y
  | .un op a, σ, S => by
    rw [evE, evE]
    exact bind_sh (evE_sh hC a σ S) fun x S1 => unD_sh op x
  | .cmp op a b, σ, S => by
    rw [evE, evE]
    exact bind_sh (evE_sh hC a σ S) fun x S1 => bind_sh (evE_sh hC b σ S1) fun y S2 => bind_sh (cmpD_sh op x y) fun k S3 => rfl
  | .chain o1 o2 a b c, σ, S => by
    rw [evE, evE]
    refine bind_sh (evE_sh hC a σ S) fun x S1 => bind_sh (evE_sh hC b σ S1) fun y S2 => bind_sh (cmpD_sh o1 x y) fun k S3 => ?_
    refine ite_sh ?_ rfl
    exact bind_sh (evE_sh hC c σ S3) fun z S4 => bind_sh (cmpD_sh o2 y z) fun k S5 => rfl
  | .and a b, σ, S => by
    rw [evE, evE]
    refine bind_sh (evE_sh hC a σ S) fun x S1 => ?_
    rw [truD_sh]
    cases truD x S1 with
    | none => rfl
    | some k =>
      cases k
      · rfl
      · exact evE_sh hC b σ S1
  | .or a b, σ, S => by
    rw [evE, evE]
    refine bind_sh (evE_sh hC a σ S) fun x S1 => ?_
    rw [truD_sh]
    cases truD x S1 with
    | none => rfl
    | some k =>
      cases k
      · exact evE_sh hC b σ S1
      · rfl
  | .not a, σ, S => by
    rw [evE, evE]
    exact bind_sh (tru_sh (evE_sh hC a σ S)) fun k S1 => rfl
  | .ife c a b, σ, S => by
    rw [evE, evE]
    exact bind_sh (tru_sh (evE_sh hC c σ S)) fun k S1 => ite_sh (evE_sh hC a σ S1) (evE_sh hC b σ S1)
  | .tup ts, σ, S => by
    rw [evE, evE]
    refine bind_sh (evEs_sh hC ts σ S) fun ds S1 => ?_
    rw [shs_len]
    exact ite_sh rfl rfl
  | .lst ts, σ, S => by
    rw [evE, evE]
    refine bind_sh (evEs_sh hC ts σ S) fun ds S1 => ?_
    rw [shs_len]
    exact ite_sh (alloc_sh (.lst _)) rfl
  | .ix a b, σ, S => by
    rw [evE, evE]
    exact bind_sh (evE_sh hC a σ S) fun x S1 => bind_sh (evE_sh hC b σ S1) fun y S2 => ixD_sh x y
  | .sl a lo hi, σ, S => by
    rw [evE, evE]
    exact bind_sh (evE_sh hC a σ S) fun x S1 => bind_sh (evO_sh hC lo σ S1) fun l S2 => bind_sh (evO_sh hC hi σ S2) fun h S3 => slD_sh x l h
  | .isi a t, σ, S => by
    rw [evE, evE]
    refine bind_sh (evE_sh hC a σ S) fun x S1 => ?_
    rw [isiD_sh]
    exact ofO_sh _ _ _ (by cases isiD t x S1 <;> rfl)
  | .call f ts, σ, S => by
    rw [evE, evE]
    exact bind_sh (evEs_sh hC ts σ S) fun ds S1 => hC f ds S1
  | .blt b ts, σ, S => by
    rw [evE, evE]
    exact bind_sh (evEs_sh hC ts σ S) fun ds S1 => bltD_sh b ds
  | .mt m o ts, σ, S => by
    rw [evE, evE]
    refine bind_sh (evE_sh hC o σ S) fun x S1 => ?_
    rw [lstOf_sh, Option.isSome_map]
    exact ite_sh (bind_sh (evEs_sh hC ts σ S1) fun ds S2 => mtD_sh m x ds) rfl
  | .lc g it cs e own, σ, S => by
    rw [evE, evE]
    refine bind_sh (evI_sh hC it σ S) fun r S1 => ?_
    rw [wipe_sh]
    refine bind_sh (lc_sh (fun S => chk_sh r S) (fun σ S => evT_sh hC cs σ S) (fun σ S => evE_sh hC e σ S) r.items S1) fun xs S2 => ?_
    rw [shs_len]
    exact ite_sh (alloc_sh (.lst _)) rfl
  | .lc2 .., σ, S => by rw [evE, evE]; rfl
  | .gc t, σ, S => by
    rw [evE, evE]
    exact bind_sh (evE_sh hC t σ S) fun d S1 => gc_sh S S1 d
  | .sp s ts, σ, S => by
    rw [evE, evE]
    exact bind_sh (evEs_sh hC ts σ S) fun ds S1 => spcD_sh s ds
theorem evEs_sh (hC : CallSh P C) : ∀ (ts : List Tm) (σ : Env) (S : Store), evEs C ts (shE P.length σ) (shS P S) = shR (shs P.length) P (evEs C ts σ S)
  | [], σ, S => rfl
  | t :: ts, σ, S => by
    rw [evEs, evEs]
    exact bind_sh (evE_sh hC t σ S) fun d S1 => bind_sh (evEs_sh hC ts σ S1) fun ds S2 => rfl
theorem evT_sh (hC : CallSh P C) : ∀ (ts : List Tm) (σ : Env) (S : Store), evT C ts (shE P.length σ) (shS P S) = shR id P (evT C ts σ S)
  | [], σ, S => rfl
  | t :: ts, σ, S => by
    rw [evT, evT]
    exact bind_sh (tru_sh (evE_sh hC t σ S)) fun k S1 => ite_sh (evT_sh hC ts σ S1) rfl
theorem evO_sh (hC : CallSh P C) : ∀ (o : Option Tm) (σ : Env) (S : Store), evO C o (shE P.length σ) (shS P S) = shR id P (evO C o σ S)
  | none, σ, S => rfl
  | some t, σ, S => by
    rw [evO, evO]
    refine bind_sh (evE_sh hC t σ S) fun d S1 => ?_
    cases d <;> rfl
theorem evI_sh (hC : CallSh P C) : ∀ (it : It) (σ : Env) (S : Store), evI C it (shE P.length σ) (shS P S) = shR (shSrc P.length) P (evI C it σ S)
  | .val t, σ, S => by
    rw [evI, evI]
    refine bind_sh (evE_sh hC t σ S) fun d S1 => ?_
    rw [seqOf_sh]
    cases seqOf S1 d with
    | none => rfl
    | some ds =>
      simp only [Option.map_some, shR, shSrc]
      rw [keep_sh]
  | .rng1 t, σ, S => by
    rw [evI, evI]
    refine bind_sh (evE_sh hC t σ S) fun d S1 => ?_
    cases d <;> try rfl
    simp only [sh]
    refine ite_sh ?_ rfl
    simp only [shR, shSrc, rngL_sh, List.map_nil]
  | .rng2 a b, σ, S => by
    rw [evI, evI]
    refine bind_sh (evE_sh hC a σ S) fun x S1 => bind_sh (evE_sh hC b σ S1) fun y S2 => ?_
    cases x <;> cases y <;> try rfl
    simp only [sh]
    refine ite_sh ?_ rfl
    simp only [shR, shSrc, rngL_sh, List.map_nil]
  | .enum _, σ, S => by rw [evI, evI]; rfl
  | .zip _ _, σ, S => by rw [evI, evI]; rfl
  | .rev _, σ, S => by rw [evI, evI]; rfl
end
/-! ### statements -/
def shXn (k : Nat) (x : Xn) : Xn := ⟨x.cls, x.fs.map fun p => (p.1, sh k p.2)⟩
def shOut (k : Nat) : Out → Out
  | .nx σ => .nx (shE k σ)
  | .brk σ => .brk (shE k σ)
  | .cont σ => .cont (shE k σ)
  | .ret d => .ret (sh k d)
  | .exn x σ => .exn (shXn k x) (shE k σ)
def shRS (P : Store) : RS → RS
  | some (o, S) => some (shOut P.length o, shS P S)
  | none => none
theorem then_sh {A : Type} {f : A → A} {x x' : R A} {k k' : A → Store → RS} {σ : Env} (hx : x' = shR f P x) (hk : ∀ a S, k' (f a) (shS P S) = shRS P (k a S)) : x'.thenS (shE P.length σ) k' = shRS P (x.thenS σ k) := by
  subst hx
  cases x with
  | ok a S => exact hk a S
  | exn _ _ => rfl
  | bad => rfl
theorem iteS_sh {c : Prop} [Decidable c] {x y x' y' : RS} (hx : x' = shRS P x) (hy : y' = shRS P y) : (if c then x' else y') = shRS P (if c then x else y) := by
  split
  · exact hx
  · exact hy
theorem for_sh {chk chk' : Store → Bool} {g : Tg} {b b' : Env → Store → RS} (hc : ∀ S, chk' (shS P S) = chk S) (hb : ∀ σ S, b' (shE P.length σ) (shS P S) = shRS P (b σ S)) :
    ∀ (ds : List D) (σ : Env) (S : Store), forD chk' g b' (shs P.length ds) (shE P.length σ) (shS P S) = shRS P (forD chk g b ds σ S)
  | [], σ, S => by rw [shs, forD, forD, hc]; exact iteS_sh rfl rfl
  | d :: ds, σ, S => by
    rw [shs, forD, forD, hc, asg_sh]
    refine iteS_sh ?_ rfl
    cases asg g d σ with
    | none => rfl
    | some σ1 =>
      simp only [Option.map_some]
      rw [hb]
      cases hr : b σ1 S with
      | none => rfl
      | some r =>
        obtain ⟨o, S2⟩ := r
        cases o <;> simp only [shRS, shOut] <;> first | exact for_sh hc hb ds _ S2 | rfl
theorem while_sh {c c' : Env → Store → R Bool} {b b' : Env → Store → RS} (hc : ∀ σ S, c' (shE P.length σ) (shS P S) = shR id P (c σ S)) (hb : ∀ σ S, b' (shE P.length σ) (shS P S) = shRS P (b σ S)) :
    ∀ (n : Nat) (σ : Env) (S : Store), whileD c' b' n (shE P.length σ) (shS P S) = shRS P (whileD c b n σ S)
  | 0, σ, S => rfl
  | n + 1, σ, S => by
    rw [whileD, whileD]
    refine then_sh (hc σ S) fun k S1 => ?_
    simp only [id]
    refine iteS_sh ?_ rfl
    rw [hb]
    cases hr : b σ S1 with
    | none => rfl
    | some r =>
      obtain ⟨o, S2⟩ := r
      cases o <;> simp only [shRS, shOut] <;> first | exact while_sh hc hb n _ S2 | rfl
mutual
theorem evS_sh (hC : CallSh P C) (W : Nat) : ∀ (s : Sm) (σ : Env) (S : Store), evS C W s (shE P.length σ) (shS P S) = shRS P (evS C W s σ S)
  | .expr t, σ, S => by
    rw [evS, evS]
    exact then_sh (evE_sh hC t σ S) fun d S1 => rfl
  | .set i t, σ, S => by
    rw [evS, evS]
    exact then_sh (evE_sh hC t σ S) fun d S1 => by simp only [shRS, shOut, shE_set, Option.map_some]
  | .asg g t, σ, S => by
    rw [evS, evS]
    refine then_sh (evE_sh hC t σ S) fun d S1 => ?_
    rw [asg_sh]
    cases asg g d σ <;> rfl
  | .aug i op t, σ, S => by
    rw [evS, evS, shE_get]
    cases σ[i]? with
    | none => rfl
    | some o =>
      cases o with
      | none => rfl
      | some x => exact then_sh (evE_sh hC t σ S) fun y S1 => then_sh (augD_sh op x y) fun z S2 => by simp only [shRS, shOut, shE_set, Option.map_some]
  | .setIx o i v, σ, S => by
    rw [evS, evS]
    refine then_sh (evE_sh hC v σ S) fun x S1 => then_sh (evE_sh hC o σ S1) fun a S2 => then_sh (evE_sh hC i σ S2) fun k S3 => ?_
    rw [setIxD_sh]
    cases setIxD a k x S3 <;> rfl
  | .ret t, σ, S => by
    rw [evS, evS]
    exact then_sh (evE_sh hC t σ S) fun d S1 => rfl
  | .retN, σ, S => by rw [evS, evS]; rfl
  | .ite c a b, σ, S => by
    rw [evS, evS]
    exact then_sh (tru_sh (evE_sh hC c σ S)) fun k S1 => iteS_sh (evSs_sh hC W a σ S1) (evSs_sh hC W b σ S1)
  | .for_ g it b, σ, S => by
    rw [evS, evS]
    exact then_sh (evI_sh hC it σ S) fun r S1 => for_sh (fun S => chk_sh r S) (fun σ S => evSs_sh hC W b σ S) r.items σ S1
  | .while_ c b, σ, S => by
    rw [evS, evS]
    exact while_sh (fun σ S => tru_sh (evE_sh hC c σ S)) (fun σ S => evSs_sh hC W b σ S) W σ S
  | .brk, σ, S => by rw [evS, evS]; rfl
  | .cont, σ, S => by rw [evS, evS]; rfl
  | .pass, σ, S => by rw [evS, evS]; rfl
  | .never, σ, S => by rw [evS, evS]; rfl
theorem evSs_sh (hC : CallSh P C) (W : Nat) : ∀ (ss : List Sm) (σ : Env) (S : Store), evSs C W ss (shE P.length σ) (shS P S) = shRS P (evSs C W ss σ S)
  | [], σ, S => by rw [evSs, evSs]; rfl
  | s :: ss, σ, S => by
    rw [evSs, evSs, evS_sh hC W s σ S]
    cases hr : evS C W s σ S with
    | none => rfl
    | some r =>
      obtain ⟨o, S1⟩ := r
      cases o <;> simp only [shRS, shOut] <;> first | exact evSs_sh hC W ss _ S1 | rfl
end
theorem body_sh (hC : CallSh P C) (W : Nat) (b : List Sm) (σ : Env) (S : Store) : bodyD C W b (shE P.length σ) (shS P S) = shR (sh P.length) P (bodyD C W b σ S) := by
  unfold bodyD
  rw [evSs_sh hC W b σ S]
  cases evSs C W b σ S with
  | none => rfl
  | some r =>
    obtain ⟨o, S1⟩ := r
    cases o <;> simp only [shRS, shOut] <;> first | rfl | exact gc_sh S S1 .non | exact gc_sh S S1 _
theorem call_sh (fns : List Fn) : ∀ (n : Nat), CallSh P (callD fns n)
  | 0, f, ds, S => rfl
  | n + 1, f, ds, S => by
    rw [callD, callD, shs_len]
    cases fns[f]? with
    | none => rfl
    | some fn =>
      refine ite_sh ?_ rfl
      have e : (shs P.length ds).map some ++ List.replicate (fn.nloc - fn.npar) none = shE P.length (ds.map some ++ List.replicate (fn.nloc - fn.npar) none) := by
        unfold shE
        rw [List.map_append, List.map_map, shs_map, List.map_map, List.map_replicate]
        rfl
      rw [e]
      exact body_sh (call_sh fns n) WF fn.body _ S
/-- a call of data without places that gives such data does the same whatever stands in the store -/
theorem call_fr {fns : List Fn} {n f : Nat} {ds : List D} {d : D} (h : callD fns n f ds [] = .ok d []) (P : Store) (hd : D.blws 0 ds = true) (he : d.blw 0 = true) : callD fns n f ds P = .ok d P := by
  have q := call_sh (P := P) fns n f ds []
  have e : shS P [] = P := by simp [shS]
  rw [shs_closed _ ds hd, h] at q
  simp only [shR, e, sh_closed _ d he] at q
  exact q
end
end Ev
end

section
/-! The numbers that the laws draw from: what the law's own helper makes of a script. -/
namespace Ev
open PySem

/-! ### steps -/
theorem evSs_nx {C : CallT} {W : Nat} {s : Sm} {ss : List Sm} {σ σ1 : Env} {S S1 : Store} (h : evS C W s σ S = some (.nx σ1, S1)) : evSs C W (s :: ss) σ S = evSs C W ss σ1 S1 := by rw [evSs, h]
theorem evS_for {C : CallT} {W : Nat} {g : Tg} {it : It} {b : List Sm} {σ : Env} {S S1 : Store} {r : Src} (h : evI C it σ S = .ok r S1) : evS C W (.for_ g it b) σ S = forD r.chk g (evSs C W b) r.items σ S1 := by
  rw [evS, h, R.thenS_ok]
theorem if_pos' {A : Type} {b : Bool} {x y : A} (h : b = true) : (if b then x else y) = x := if_pos h
theorem evI_rng2 {C : CallT} {a b : Tm} {σ : Env} {S S1 S2 : Store} {i j : Int} (ha : evE C a σ S = .ok (.int i) S1) (hb : evE C b σ S1 = .ok (.int j) S2) (hi : rngOk i = true) (hj : rngOk j = true) :
    evI C (.rng2 a b) σ S = .ok ⟨rngL i (j - i).toNat, []⟩ S2 := by
  rw [evI, ha, R.bind_ok, hb, R.bind_ok]
  exact if_pos' (by rw [hi, hj]; rfl)
theorem evI_rng1 {C : CallT} {a : Tm} {σ : Env} {S S1 : Store} {j : Int} (ha : evE C a σ S = .ok (.int j) S1) (hj : rngOk j = true) :
    evI C (.rng1 a) σ S = .ok ⟨rngL 0 j.toNat, []⟩ S1 := by
  rw [evI, ha, R.bind_ok]
  exact if_pos' hj
theorem evI_val {C : CallT} {t : Tm} {σ : Env} {S S1 : Store} {d : D} {ds : List D} (ha : evE C t σ S = .ok d S1) (h : seqOf S1 d = some ds) :
    evI C (.val t) σ S = .ok ⟨ds, keepOf d ds⟩ S1 := by
  rw [evI, ha, R.bind_ok, h]
/-! ### loops -/
theorem for_inv {chk : Store → Bool} {g : Tg} {b : Env → Store → RS} (I : List D → Env → Store → Prop)
    (hc : ∀ l σ S, I l σ S → chk S = true)
    (step : ∀ d l σ S, I (d :: l) σ S → ∃ σ1, asg g d σ = some σ1 ∧ ((∃ σ2 S2, (b σ1 S = some (.nx σ2, S2) ∨ b σ1 S = some (.cont σ2, S2)) ∧ I l σ2 S2) ∨ (∃ σ2 S2, b σ1 S = some (.brk σ2, S2) ∧ I [] σ2 S2))) :
    ∀ l σ S, I l σ S → ∃ σ' S', forD chk g b l σ S = some (.nx σ', S') ∧ I [] σ' S'
  | [], σ, S, h => ⟨σ, S, by rw [forD, if_pos (hc _ _ _ h)], h⟩
  | d :: l, σ, S, h => by
    rw [forD, if_pos (hc _ _ _ h)]
    obtain ⟨σ1, ha, hb⟩ := step d l σ S h
    rw [ha]
    rcases hb with ⟨σ2, S2, hb, hI⟩ | ⟨σ2, S2, hb, hI⟩
    · rcases hb with hb | hb
      · simp only [hb]
        exact for_inv I hc step l σ2 S2 hI
      · simp only [hb]
        exact for_inv I hc step l σ2 S2 hI
    · simp only [hb]
      exact ⟨σ2, S2, rfl, hI⟩
theorem mulOk_r {i j : Int} (h : j.natAbs < 2 ^ 64) : mulOk i j = true := by unfold mulOk; rw [decide_eq_true h, Bool.or_true]
theorem mulOk_l {i j : Int} (h : i.natAbs < 2 ^ 64) : mulOk i j = true := by unfold mulOk; rw [decide_eq_true h, Bool.true_or]
@[simp] theorem gc_int {S : Store} {i : Int} : gcAfter S (.int i) S = .ok (.int i) S := gcAfter_self (by simp [D.blw])
@[simp] theorem gc_bl {S : Store} {i : Bool} : gcAfter S (.bl i) S = .ok (.bl i) S := gcAfter_self (by simp [D.blw])

def mixFn : Fn := ⟨2, 4, [.set 2 (.bin .Mod (.blt .int [(.bin .Add (.bin .Add (.bin .Mult (.var 0) (.con (.int (48271)))) (.bin .Mult (.bin .Mult (.bin .Add (.var 1) (.con (.int (1)))) (.bin .Add (.var 1) (.con (.int (2))))) (.con (.int (69621))))) (.con (.int (11))))]) (.con (.int (2147483647)))), .set 3 (.bin .Mod (.blt .int [(.bin .Add (.bin .Add (.bin .Mult (.var 2) (.var 2)) (.bin .Mult (.con (.int (40692))) (.var 1))) (.con (.int (5))))]) (.con (.int (2147483399)))), .ret (.bin .Mod (.blt .int [(.bin .Add (.bin .Mult (.var 3) (.con (.int (40014)))) (.var 2))]) (.con (.int (2147483563))))]⟩
def nB2 : List Sm := [.ite (.cmp .Eq (.var 5) (.con (.int (0)))) [.brk] [], .expr (.mt .append (.var 1) [(.bin .Mod (.blt .int [(.var 5)]) (.con (.int (720720))))]), .set 5 (.bin .FloorDiv (.var 5) (.con (.int (720720))))]
def nB1 (iM : Nat) : List Sm := [.set 5 (.blt .abs [(.blt .int [(.var 3)])]), .set 2 (.call iM [(.bin .Add (.var 2) (.bin .Mod (.blt .int [(.var 5)]) (.con (.int (2147483629))))), (.blt .len [(.var 1)])]), .ite (.cmp .Lt (.var 5) (.bin .Pow (.con (.int (10))) (.con (.int (18))))) [.expr (.mt .append (.var 1) [(.bin .Mod (.blt .int [(.var 2)]) (.con (.int (720720))))]), .set 5 (.con (.int (0)))] [], .for_ (.name 4) (.rng1 (.con (.int (240)))) nB2]
def nB3 (iM : Nat) : List Sm := [.set 2 (.call iM [(.var 2), (.var 4)]), .expr (.mt .append (.var 1) [(.bin .Mod (.blt .int [(.var 2)]) (.con (.int (720720))))])]
def numFn (iM : Nat) : Fn := ⟨1, 6, [.set 1 (.lst []), .set 2 (.con (.int (1))), .for_ (.name 3) (.val (.sl (.var 0) none (some (.con (.int (63)))))) (nB1 iM), .set 1 (.sl (.var 1) none (some (.con (.int (240))))), .for_ (.name 4) (.rng2 (.blt .len [(.var 1)]) (.con (.int (240)))) (nB3 iM), .ret (.sp .rev [(.var 1)])]⟩
def takeFn : Fn := ⟨2, 2, [.ite (.cmp .Eq (.blt .len [(.var 0)]) (.con (.int (0)))) [.ret (.con (.int (0)))] [], .ret (.bin .Mod (.blt .int [(.mt .pop (.var 0) [])]) (.var 1))]⟩

theorem mod_lt_abs {x m : Int} (h : 0 < m) (hm : m < 2 ^ 63) : (x % m).natAbs < 2 ^ 64 := by
  have h1 := Int.emod_nonneg x (show m ≠ 0 by omega)
  have h2 := Int.emod_lt_of_pos x h
  omega
theorem mix_body (C : CallT) (s k : Int) (h0 : 0 ≤ k) (h1 : k < 2 ^ 40) (S : Store) : ∃ r : Int, bodyD C WF mixFn.body [some (.int s), some (.int k), none, none] S = .ok (.int r) S := by
  refine ⟨((((s * 48271 + (k + 1) * (k + 2) * 69621 + 11) % 2147483647 * ((s * 48271 + (k + 1) * (k + 2) * 69621 + 11) % 2147483647) + 40692 * k + 5) % 2147483399 * 40014 + (s * 48271 + (k + 1) * (k + 2) * 69621 + 11) % 2147483647) % 2147483563), ?_⟩
  have e1 : mulOk s 48271 = true := mulOk_r (by decide)
  have e2 : mulOk (k + 1) (k + 2) = true := mulOk_l (by omega)
  have e3 : mulOk ((k + 1) * (k + 2)) 69621 = true := mulOk_r (by decide)
  have e4 : ∀ x : Int, mulOk (x % 2147483647) (x % 2147483647) = true := fun x => mulOk_l (mod_lt_abs (by decide) (by decide))
  have e5 : mulOk 40692 k = true := mulOk_l (by decide)
  have e6 : ∀ x : Int, mulOk x 40014 = true := fun x => mulOk_r (by decide)
  simp only [bodyD, mixFn, evSs, evS, evE, evEs, R.bind_ok, R.thenS_ok, binD, bltD, List.getElem?_cons_zero, List.getElem?_cons_succ, List.set_cons_zero, List.set_cons_succ, D.blw, if_true, e1, e2, e3, e4, e5, e6, Int.reduceLT, gc_int]

abbrev MixOk (C : CallT) (iM : Nat) : Prop := ∀ (s k : Int) (S : Store), 0 ≤ k → k < 2 ^ 40 → ∃ r : Int, C iM [.int s, .int k] S = .ok (.int r) S
theorem mix_call {fns : List Fn} {iM n : Nat} (h : fns[iM]? = some mixFn) : MixOk (callD fns (n + 1)) iM := fun s k S h0 h1 => by
  obtain ⟨r, e⟩ := mix_body (callD fns n) s k h0 h1 S
  refine ⟨r, ?_⟩
  rw [callD, h]
  exact e
def Small (xs : List Int) : Prop := ∀ x ∈ xs, 0 ≤ x ∧ x < 720720
theorem Small.app {xs : List Int} (h : Small xs) (x : Int) : Small (xs ++ [x % 720720]) := fun y hy => by
  rw [List.mem_append, List.mem_singleton] at hy
  rcases hy with hy | rfl
  · exact h y hy
  · exact ⟨Int.emod_nonneg _ (by decide), Int.emod_lt_of_pos _ (by decide)⟩
theorem map_app (xs : List Int) (x : Int) : xs.map D.int ++ [.int x] = (xs ++ [x]).map D.int := by rw [List.map_append]; rfl
theorem chk_nil (its : List D) : Src.chk ⟨its, []⟩ = fun _ => true := rfl
theorem rngL_len (lo : Int) (n : Nat) : (rngL lo n).length = n := by unfold rngL; rw [List.length_map, List.length_range]
theorem cut_ints (ns : List Int) (lo hi : Option Int) : ∃ ms : List Int, cutD (ns.map D.int) lo hi = ms.map D.int ∧ ms.length ≤ ns.length ∧ ∀ m ∈ ms, m ∈ ns := by
  unfold cutD
  refine ⟨(ns.drop (HT.sIx (ns.map D.int).length 0 lo)).take (HT.sIx (ns.map D.int).length (ns.map D.int).length hi - HT.sIx (ns.map D.int).length 0 lo), by rw [List.map_take, List.map_drop], ?_, fun m hm => List.mem_of_mem_drop (List.mem_of_mem_take hm)⟩
  rw [List.length_take, List.length_drop]
  omega
section
variable {C : CallT} (o0 : Option D) (cells : List D)
theorem num_loop2 (b : Nat) (hb : b < 16777216) : ∀ (l : List D) (σ : Env) (S : Store), (∃ xs rest seed a3 a4, σ = [o0, some (.loc 0), some (.int seed), a3, a4, some (.int rest)] ∧ S = [.lst (xs.map .int), .lst cells] ∧ xs.length + l.length ≤ b ∧ Small xs) →
    ∃ σ' S', forD (fun _ => true) (.name 4) (evSs C WF nB2) l σ S = some (.nx σ', S') ∧
      (∃ xs rest seed a3 a4, σ' = [o0, some (.loc 0), some (.int seed), a3, a4, some (.int rest)] ∧ S' = [.lst (xs.map .int), .lst cells] ∧ xs.length + ([] : List D).length ≤ b ∧ Small xs) := by
  refine for_inv (fun l σ S => ∃ xs rest seed a3 a4, σ = [o0, some (.loc 0), some (.int seed), a3, a4, some (.int rest)] ∧ S = [.lst (xs.map .int), .lst cells] ∧ xs.length + l.length ≤ b ∧ Small xs) (fun _ _ _ _ => rfl) ?_
  rintro d l σ S ⟨xs, rest, seed, a3, a4, rfl, rfl, hl, hs⟩
  rw [List.length_cons] at hl
  refine ⟨_, rfl, ?_⟩
  unfold nB2
  by_cases hr : rest = 0
  · refine .inr ⟨_, _, ?_, ⟨xs, rest, seed, a3, some d, rfl, rfl, by simp only [List.length_nil]; omega, hs⟩⟩
    simp only [evSs, evS, evE, evEs, R.bind_ok, R.thenS_ok, R.tru, R.ofO_some, cmpD, eqD, truD, List.getElem?_cons_zero, List.getElem?_cons_succ, List.set_cons_zero, List.set_cons_succ, D.blw, if_true, hr, decide_true]
  · have hlt : xs.length < 16777216 := by omega
    refine .inl ⟨_, [.lst ((xs ++ [rest % 720720]).map .int), .lst cells], .inl ?_, ⟨xs ++ [rest % 720720], rest / 720720, seed, a3, some d, rfl, rfl, by rw [List.length_append, List.length_singleton]; omega, hs.app rest⟩⟩
    simp only [evSs, evS, evE, evEs, R.bind_ok, R.thenS_ok, R.tru, R.ofO_some, cmpD, eqD, truD, binD, bltD, mtD, lstOf, List.getElem?_cons_zero, List.getElem?_cons_succ, List.set_cons_zero, List.set_cons_succ, D.blw, if_true, hr, decide_false, Bool.false_eq_true, if_false, Option.isSome_some, Int.reduceLT, and_self, List.length_map, SZ, if_pos hlt, map_app]
end
section
variable {C : CallT} {iM : Nat} (hC : MixOk C iM) (o0 : Option D) (cells : List D)
include hC
theorem num_loop3 : ∀ (l : List D) (σ : Env) (S : Store), (∃ xs seed a3 a4 a5, σ = [o0, some (.loc 2), some (.int seed), a3, a4, a5] ∧ (∃ c0 c1, S = [c0, c1, .lst (xs.map .int)]) ∧ (∃ k0, l = rngL k0 (240 - xs.length) ∧ 0 ≤ k0 ∧ k0 + ((240 - xs.length : Nat) : Int) < 2 ^ 40) ∧ xs.length ≤ 240 ∧ Small xs) →
    ∃ σ' S', forD (fun _ => true) (.name 4) (evSs C WF (nB3 iM)) l σ S = some (.nx σ', S') ∧ (∃ xs seed a3 a4 a5, σ' = [o0, some (.loc 2), some (.int seed), a3, a4, a5] ∧ (∃ c0 c1, S' = [c0, c1, .lst (xs.map .int)]) ∧ (∃ k0, [] = rngL k0 (240 - xs.length) ∧ 0 ≤ k0 ∧ k0 + ((240 - xs.length : Nat) : Int) < 2 ^ 40) ∧ xs.length ≤ 240 ∧ Small xs) := by
  refine for_inv (fun l σ S => ∃ xs seed a3 a4 a5, σ = [o0, some (.loc 2), some (.int seed), a3, a4, a5] ∧ (∃ c0 c1, S = [c0, c1, .lst (xs.map .int)]) ∧ (∃ k0, l = rngL k0 (240 - xs.length) ∧ 0 ≤ k0 ∧ k0 + ((240 - xs.length : Nat) : Int) < 2 ^ 40) ∧ xs.length ≤ 240 ∧ Small xs) (fun _ _ _ _ => rfl) ?_
  rintro d l σ S ⟨xs, seed, a3, a4, a5, rfl, ⟨c0, c1, rfl⟩, ⟨k0, hl, h0, h1⟩, hx, hs⟩
  obtain ⟨n, hn⟩ : ∃ n, 240 - xs.length = n + 1 := by
    cases q : 240 - xs.length with
    | zero => rw [q] at hl; simp [rngL] at hl
    | succ n => exact ⟨n, rfl⟩
  rw [hn] at hl h1
  unfold rngL at hl
  rw [List.range_succ_eq_map, List.map_cons, List.map_map] at hl
  injection hl with hd hl
  subst hd
  obtain ⟨r, hr⟩ := hC seed (k0 + (0 : Nat)) [c0, c1, .lst (xs.map .int)] (by omega) (by omega)
  have hlt : xs.length < 16777216 := by omega
  unfold nB3
  refine ⟨_, rfl, .inl ⟨[o0, some (.loc 2), some (.int r), a3, some (.int (k0 + (0 : Nat))), a5], [c0, c1, .lst ((xs ++ [r % 720720]).map .int)], .inl ?_, ?_⟩⟩
  · simp only [evSs, evS, evE, evEs, R.bind_ok, R.thenS_ok, binD, bltD, mtD, lstOf, List.getElem?_cons_zero, List.getElem?_cons_succ, List.set_cons_zero, List.set_cons_succ, D.blw, if_true, Option.isSome_some, Int.reduceLT, hr, List.length_map, SZ, if_pos hlt, map_app]
  · refine ⟨xs ++ [r % 720720], r, a3, _, a5, rfl, ⟨c0, c1, rfl⟩, ⟨k0 + 1, ?_, by omega, ?_⟩, ?_, hs.app r⟩
    · rw [List.length_append, List.length_singleton, show 240 - (xs.length + 1) = n by omega, hl]
      unfold rngL
      apply List.map_congr_left
      intro a _
      simp only [Function.comp]
      congr 1
      push_cast
      omega
    · rw [List.length_append, List.length_singleton]; omega
    · rw [List.length_append, List.length_singleton]; omega

theorem num_step (d : D) (l : List D) (xs : List Int) (seed i : Int) (a3 a4 a5 : Option D) (hd : d = .int i) (hx : xs.length + 241 * (l.length + 1) ≤ 20000) (hs : Small xs) :
    ∃ σ' S', evSs C WF (nB1 iM)
      [o0, some (.loc 0), some (.int seed), some d, a4, a5] [.lst (xs.map .int), .lst cells] = some (.nx σ', S') ∧
      ∃ ys sd b3 b4 b5, σ' = [o0, some (.loc 0), some (.int sd), b3, b4, b5] ∧ S' = [.lst (ys.map .int), .lst cells] ∧ ys.length + 241 * l.length ≤ 20000 ∧ Small ys := by
  subst hd
  obtain ⟨a, ha⟩ : ∃ a, a = (if i < 0 then -i else i) := ⟨_, rfl⟩
  obtain ⟨r, hr⟩ := hC (seed + a % 2147483629) xs.length [.lst (xs.map .int), .lst cells] (by omega) (by omega)
  have hlt : xs.length < 16777216 := by omega
  have hp : ((0 : Int) ≤ 18 ∧ (18 : Int) ≤ 1000000 ∧ (10 : Int).natAbs < 2 ^ 64) := by decide
  have hrg : rngOk 240 = true := by decide
  by_cases hc : a < 10 ^ (18 : Int).toNat
  · obtain ⟨σ', S', hf, ys, rest, sd, b3, b4, e1, e2, e3, e4⟩ := num_loop2 (C := C) (o0 := o0) (cells := cells) (xs.length + 241) (by omega) (rngL 0 (240 : Int).toNat) [o0, some (.loc 0), some (.int r), some (.int i), a4, some (.int 0)] [.lst ((xs ++ [r % 720720]).map .int), .lst cells]
      ⟨xs ++ [r % 720720], 0, r, _, _, rfl, rfl, by rw [List.length_append, List.length_singleton, rngL_len]; simp only [Int.reduceToNat]; omega, hs.app r⟩
    refine ⟨σ', S', ?_, ys, sd, b3, b4, some (.int rest), e1, e2, by simp only [List.length_nil] at e3; omega, e4⟩
    simp only [nB1, evSs, evS, evE, evEs, evI, R.bind_ok, R.thenS_ok, R.tru, R.ofO_some, cmpD, ltD, eqD, truD, binD, bltD, mtD, seqOf, lstOf, List.getElem?_cons_zero, List.getElem?_cons_succ, List.set_cons_zero, List.set_cons_succ, D.blw, if_true, ← ha, if_pos hp, decide_eq_true hc, decide_false, Bool.false_eq_true, if_false, Option.isSome_some, Int.reduceLT, and_self, List.length_map, SZ, if_pos hlt, map_app, hr, hrg, chk_nil, hf]
  · obtain ⟨σ', S', hf, ys, rest, sd, b3, b4, e1, e2, e3, e4⟩ := num_loop2 (C := C) (o0 := o0) (cells := cells) (xs.length + 241) (by omega) (rngL 0 (240 : Int).toNat) [o0, some (.loc 0), some (.int r), some (.int i), a4, some (.int a)] [.lst (xs.map .int), .lst cells]
      ⟨xs, a, r, _, _, rfl, rfl, by rw [rngL_len]; simp only [Int.reduceToNat]; omega, hs⟩
    refine ⟨σ', S', ?_, ys, sd, b3, b4, some (.int rest), e1, e2, by simp only [List.length_nil] at e3; omega, e4⟩
    simp only [nB1, evSs, evS, evE, evEs, evI, R.bind_ok, R.thenS_ok, R.tru, R.ofO_some, cmpD, ltD, eqD, truD, binD, bltD, mtD, seqOf, lstOf, List.getElem?_cons_zero, List.getElem?_cons_succ, List.set_cons_zero, List.set_cons_succ, D.blw, if_true, ← ha, if_pos hp, decide_eq_false hc, decide_false, Bool.false_eq_true, if_false, Option.isSome_some, Int.reduceLT, and_self, List.length_map, SZ, if_pos hlt, map_app, hr, hrg, chk_nil, hf]
theorem num_loop1 (l : List D) (σ : Env) (S : Store) (h : ∃ xs seed a3 a4 a5, σ = [o0, some (.loc 0), some (.int seed), a3, a4, a5] ∧ S = [.lst (xs.map .int), .lst cells] ∧ (∀ d ∈ l, ∃ i, d = .int i) ∧ xs.length + 241 * l.length ≤ 20000 ∧ Small xs) :
    ∃ σ' S', forD (Src.chk ⟨cells, [(1, cells)]⟩) (.name 3) (evSs C WF (nB1 iM)) l σ S = some (.nx σ', S') ∧
      ∃ xs seed a3 a4 a5, σ' = [o0, some (.loc 0), some (.int seed), a3, a4, a5] ∧ S' = [.lst (xs.map .int), .lst cells] ∧ (∀ d ∈ ([] : List D), ∃ i, d = .int i) ∧ xs.length + 241 * ([] : List D).length ≤ 20000 ∧ Small xs := by
  refine for_inv (fun l σ S => ∃ xs seed a3 a4 a5, σ = [o0, some (.loc 0), some (.int seed), a3, a4, a5] ∧ S = [.lst (xs.map .int), .lst cells] ∧ (∀ d ∈ l, ∃ i, d = .int i) ∧ xs.length + 241 * l.length ≤ 20000 ∧ Small xs) ?_ ?_ l σ S h
  · rintro l σ S ⟨xs, seed, a3, a4, a5, rfl, rfl, _⟩
    simp [Src.chk]
  · rintro d l σ S ⟨xs, seed, a3, a4, a5, rfl, rfl, hd, hl, hs⟩
    refine ⟨_, rfl, .inl ?_⟩
    obtain ⟨i, hi⟩ := hd d (List.mem_cons_self ..)
    obtain ⟨σ', S', hf, ys, sd, b3, b4, b5, e1, e2, e3, e4⟩ := num_step hC o0 cells d l xs seed i a3 a4 a5 hi hl hs
    exact ⟨σ', S', .inl hf, ys, sd, b3, b4, b5, e1, e2, fun d hd' => hd d (List.mem_cons_of_mem _ hd'), e3, e4⟩
end
theorem cut_to (xs : List D) (k : Nat) (lo : Option Int) : (cutD xs lo (some (k : Int))).length ≤ k := by
  have h : HT.sIx xs.length xs.length (some (k : Int)) ≤ k := by
    unfold HT.sIx
    simp only
    split <;> omega
  unfold cutD
  rw [List.length_take]
  omega
theorem num_body {C : CallT} {iM : Nat} (hC : MixOk C iM) (ns : List Int) (hn : ns.length ≤ 63) :
    ∃ ms : List Int, ms.length = 240 ∧ Small ms ∧ bodyD C WF (numFn iM).body [some (.ilst (ns.map .int)), none, none, none, none, none] [] = .ok (.loc 0) [.lst (ms.map .int)] := by
  obtain ⟨cs, hcs, hcl, _⟩ := cut_ints ns none (some 63)
  obtain ⟨σ1, S1, h1, xs, seed, a3, a4, a5, rfl, rfl, _, hxl, hxs⟩ := num_loop1 hC (some (.ilst (ns.map .int))) (cs.map .int) (cs.map .int) [some (.ilst (ns.map .int)), some (.loc 0), some (.int 1), none, none, none] [.lst [], .lst (cs.map .int)]
    ⟨[], 1, none, none, none, rfl, rfl, fun d hd => by rw [List.mem_map] at hd; obtain ⟨i, _, e⟩ := hd; exact ⟨i, e.symm⟩, by simp only [List.length_nil, List.length_map]; omega, fun x hx => absurd hx List.not_mem_nil⟩
  obtain ⟨ys, hys, hyl, hym⟩ := cut_ints xs none (some 240)
  have hy : ys.length ≤ 240 := by
    have h : (cutD (xs.map D.int) none (some 240)).length ≤ 240 := cut_to (xs.map D.int) 240 none
    rw [hys, List.length_map] at h
    exact h
  have hr1 : rngOk (ys.length : Int) = true := by unfold rngOk; simp only [Bool.and_eq_true, decide_eq_true_eq]; omega
  have hr2 : rngOk 240 = true := by decide
  have hz : (240 - (ys.length : Int)).toNat = 240 - ys.length := by omega
  obtain ⟨σ2, S2, h2, zs, sd, b3, b4, b5, rfl, ⟨c0, c1, rfl⟩, ⟨k0, hk, _⟩, hzl, hzs⟩ := num_loop3 hC (some (.ilst (ns.map .int))) (rngL ys.length (240 - (ys.length : Int)).toNat) [some (.ilst (ns.map .int)), some (.loc 2), some (.int seed), a3, a4, a5] [.lst (xs.map .int), .lst (cs.map .int), .lst (ys.map .int)]
    ⟨ys, seed, a3, a4, a5, rfl, ⟨_, _, rfl⟩, ⟨ys.length, by rw [hz], by omega, by omega⟩, hy, fun x hx => hxs x (hym x hx)⟩
  have hz2 : zs.length = 240 := by
    have := congrArg List.length hk
    rw [rngL_len, List.length_nil] at this
    omega
  refine ⟨zs.reverse, by rw [List.length_reverse, hz2], fun x hx => hzs x (List.mem_reverse.mp hx), ?_⟩
  have hb : ∀ l : List Int, D.blws 0 (l.map D.int) = true := fun l => by
    induction l with
    | nil => rfl
    | cons x l ih => rw [List.map_cons, D.blws, ih]; rfl
  have q1 : evS C WF (.set 1 (.lst [])) [some (.ilst (ns.map .int)), none, none, none, none, none] [] = some (.nx [some (.ilst (ns.map .int)), some (.loc 0), none, none, none, none], [.lst []]) := by
    simp only [evS, evE, evEs, R.bind_ok, List.length_nil, Nat.zero_le, if_true, alloc, R.thenS_ok, List.nil_append, List.set_cons_zero, List.set_cons_succ]
  have q2 : evS C WF (.set 2 (.con (.int 1))) [some (.ilst (ns.map .int)), some (.loc 0), none, none, none, none] [.lst []] = some (.nx [some (.ilst (ns.map .int)), some (.loc 0), some (.int 1), none, none, none], [.lst []]) := by
    simp only [evS, evE, R.bind_ok, D.blw, if_true, R.thenS_ok, List.set_cons_zero, List.set_cons_succ]
  have q3 : evS C WF (.for_ (.name 3) (.val (.sl (.var 0) none (some (.con (.int (63)))))) (nB1 iM)) [some (.ilst (ns.map .int)), some (.loc 0), some (.int 1), none, none, none] [.lst []] = some (.nx [some (.ilst (ns.map .int)), some (.loc 0), some (.int seed), a3, a4, a5], [.lst (xs.map .int), .lst (cs.map .int)]) := by
    have e0 : slD (.ilst (ns.map .int)) none (some 63) [.lst []] = .ok (.loc 1) [.lst [], .lst (cs.map .int)] := by
      simp only [slD, hcs, alloc, List.length_cons, List.length_nil, Nat.zero_add, List.cons_append, List.nil_append]
    have e1 : evE C (.sl (.var 0) none (some (.con (.int (63))))) [some (.ilst (ns.map .int)), some (.loc 0), some (.int 1), none, none, none] [.lst []] = slD (.ilst (ns.map .int)) none (some 63) [.lst []] := by
      simp only [evE, evO, R.bind_ok, D.blw, if_true, List.getElem?_cons_zero]
    have e : evI C (.val (.sl (.var 0) none (some (.con (.int (63)))))) [some (.ilst (ns.map .int)), some (.loc 0), some (.int 1), none, none, none] [.lst []] = .ok ⟨cs.map .int, [(1, cs.map .int)]⟩ [.lst [], .lst (cs.map .int)] := by
      rw [evI, e1, e0]
      rfl
    exact (evS_for e).trans h1
  have q4 : evS C WF (.set 1 (.sl (.var 1) none (some (.con (.int (240)))))) [some (.ilst (ns.map .int)), some (.loc 0), some (.int seed), a3, a4, a5] [.lst (xs.map .int), .lst (cs.map .int)] = some (.nx [some (.ilst (ns.map .int)), some (.loc 2), some (.int seed), a3, a4, a5], [.lst (xs.map .int), .lst (cs.map .int), .lst (ys.map .int)]) := by
    simp only [evS, evE, evO, R.bind_ok, D.blw, if_true, R.thenS_ok, slD, hys, alloc, List.length_cons, List.length_nil, Nat.zero_add, Nat.reduceAdd, List.cons_append, List.nil_append, List.getElem?_cons_zero, List.getElem?_cons_succ, List.set_cons_zero, List.set_cons_succ]
  have q5 : evS C WF (.for_ (.name 4) (.rng2 (.blt .len [(.var 1)]) (.con (.int (240)))) (nB3 iM)) [some (.ilst (ns.map .int)), some (.loc 2), some (.int seed), a3, a4, a5] [.lst (xs.map .int), .lst (cs.map .int), .lst (ys.map .int)] = some (.nx [some (.ilst (ns.map .int)), some (.loc 2), some (.int sd), b3, b4, b5], [c0, c1, .lst (zs.map .int)]) := by
    have ea : evE C (.blt .len [(.var 1)]) [some (.ilst (ns.map .int)), some (.loc 2), some (.int seed), a3, a4, a5] [.lst (xs.map .int), .lst (cs.map .int), .lst (ys.map .int)] = .ok (.int ys.length) [.lst (xs.map .int), .lst (cs.map .int), .lst (ys.map .int)] := by
      simp only [evE, evEs, R.bind_ok, bltD, seqOf, List.length_map, List.getElem?_cons_zero, List.getElem?_cons_succ]
    have e := evI_rng2 (C := C) (b := .con (.int 240)) ea rfl hr1 hr2
    exact (evS_for e).trans h2
  have q6 : evS C WF (.ret (.sp .rev [(.var 1)])) [some (.ilst (ns.map .int)), some (.loc 2), some (.int sd), b3, b4, b5] [c0, c1, .lst (zs.map .int)] = some (.ret (.loc 3), [c0, c1, .lst (zs.map .int), .lst (zs.reverse.map .int)]) := by
    simp only [evS, evE, evEs, R.bind_ok, R.thenS_ok, spcD, lstOf, alloc, List.length_cons, List.length_nil, Nat.zero_add, Nat.reduceAdd, List.cons_append, List.nil_append, List.getElem?_cons_zero, List.getElem?_cons_succ, List.map_reverse]
  have q : evSs C WF (numFn iM).body [some (.ilst (ns.map .int)), none, none, none, none, none] [] = some (.ret (.loc 3), [c0, c1, .lst (zs.map .int), .lst (zs.reverse.map .int)]) := by
    unfold numFn
    rw [evSs_nx q1, evSs_nx q2, evSs_nx q3, evSs_nx q4, evSs_nx q5, evSs, q6]
  unfold bodyD
  rw [q]
  have hw : D.blw 0 (.loc 3) = false := by decide
  have hw2 : (Cell.lst (zs.reverse.map .int)).blw 0 = true := hb _
  simp only [gcAfter, stable, if_true, List.length_nil, hw, Bool.false_eq_true, if_false, List.getElem?_cons_zero, List.getElem?_cons_succ, hw2, Nat.zero_le, and_self, List.take_zero, List.nil_append]
end Ev
end

section
namespace K79
open PySem Ev
def fn_is_number : Fn := ⟨3, 3, [.ret (.and (.isi (.var 0) .int) (.and (.not (.isi (.var 0) .bool)) (.chain .LtE .LtE (.var 1) (.var 0) (.var 2))))]⟩
def fn_is_who : Fn := ⟨2, 2, [.ite (.or (.not (.isi (.var 0) .tuple)) (.or (.cmp .NotEq (.blt .len [(.var 0)]) (.con (.int (2)))) (.not (.isi (.ix (.var 0) (.con (.int (0)))) .str)))) [.ret (.con (.bl false))] [], .ite (.cmp .Eq (.ix (.var 0) (.con (.int (0)))) (.con (.str "p"))) [.ret (.call 0 [(.ix (.var 0) (.con (.int (1)))), (.con (.int (0))), (.bin .Sub (.var 1) (.con (.int (1))))])] [], .ret (.and (.cmp .Eq (.ix (.var 0) (.con (.int (0)))) (.con (.str "g"))) (.call 0 [(.ix (.var 0) (.con (.int (1)))), (.con (.int (0))), (.bin .Sub (.con (.int (3))) (.con (.int (1))))]))]⟩
def fn_is_tree : Fn := ⟨1, 4, [.ite (.or (.not (.isi (.var 0) .tuple)) (.cmp .Gt (.blt .len [(.var 0)]) (.con (.int (5))))) [.ret (.con (.bl false))] [], .for_ (.name 1) (.val (.var 0)) [.ite (.not (.call 0 [(.var 1), (.con (.int (0))), (.blt .len [(.var 0)])])) [.ret (.con (.bl false))] []], .for_ (.name 2) (.rng1 (.bin .Add (.blt .len [(.var 0)]) (.con (.int (1))))) [.for_ (.name 3) (.val (.var 0)) [.set 2 (.ife (.cmp .Gt (.var 2) (.con (.int (0)))) (.ix (.var 0) (.bin .Sub (.var 2) (.con (.int (1))))) (.con (.int (0))))], .ite (.cmp .Gt (.var 2) (.con (.int (0)))) [.ret (.con (.bl false))] []], .ret (.con (.bl true))]⟩
def fn_are_marks : Fn := ⟨2, 3, [.ite (.or (.not (.isi (.var 0) .tuple)) (.cmp .NotEq (.blt .len [(.var 0)]) (.var 1))) [.ret (.con (.bl false))] [], .ret (.gc (.blt .all [(.lc (.name 2) (.val (.var 0)) [] (.isi (.var 2) .bool) [2])]))]⟩
def fn_is_entry : Fn := ⟨3, 3, [.ite (.or (.not (.isi (.var 0) .tuple)) (.or (.cmp .NotEq (.blt .len [(.var 0)]) (.con (.int (3)))) (.not (.isi (.ix (.var 0) (.con (.int (2)))) .str)))) [.ret (.con (.bl false))] [], .ite (.or (.not (.call 0 [(.ix (.var 0) (.con (.int (0)))), (.con (.int (0))), (.bin .Sub (.var 2) (.con (.int (1))))])) (.not (.call 1 [(.ix (.var 0) (.con (.int (1)))), (.var 1)]))) [.ret (.con (.bl false))] [], .ret (.cmp .In (.ix (.var 0) (.con (.int (2)))) (.tup [(.con (.str "allow")), (.con (.str "bar"))]))]⟩
def fn_are_entries : Fn := ⟨3, 5, [.ite (.or (.not (.isi (.var 0) .tuple)) (.cmp .Gt (.blt .len [(.var 0)]) (.con (.int (12))))) [.ret (.con (.bl false))] [], .for_ (.name 3) (.val (.var 0)) [.ite (.not (.call 4 [(.var 3), (.var 1), (.var 2)])) [.ret (.con (.bl false))] []], .ret (.gc (.blt .all [(.lc (.name 4) (.rng1 (.bin .Sub (.blt .len [(.var 0)]) (.con (.int (1))))) [] (.gc (.cmp .Lt (.sl (.ix (.var 0) (.var 4)) none (some (.con (.int (2))))) (.sl (.ix (.var 0) (.bin .Add (.var 4) (.con (.int (1))))) none (some (.con (.int (2))))))) [4])]))]⟩
def fn_groups_of : Fn := ⟨3, 7, [.set 3 (.lst []), .set 4 (.lst [(.var 1)]), .while_ (.var 4) [.set 5 (.mt .pop (.var 4) []), .for_ (.name 6) (.rng1 (.con (.int (3)))) [.ite (.and (.cmp .In (.tup [(.var 6), (.var 5)]) (.var 0)) (.cmp .NotIn (.var 6) (.var 3))) [.expr (.mt .append (.var 3) [(.var 6)]), .ite (.var 2) [.expr (.mt .append (.var 4) [(.tup [(.con (.str "g")), (.var 6)])])] []] []]], .ret (.gc (.blt .tuple [(.blt .sorted [(.var 3)])]))]⟩
def fn_is_ring : Fn := ⟨1, 2, [.ret (.gc (.blt .any [(.lc (.name 1) (.rng1 (.con (.int (3)))) [] (.gc (.cmp .In (.var 1) (.call 6 [(.var 0), (.tup [(.con (.str "g")), (.var 1)]), (.con (.bl true))]))) [1])]))]⟩
def fn_are_members : Fn := ⟨2, 4, [.ite (.not (.isi (.var 0) .tuple)) [.ret (.con (.bl false))] [], .for_ (.name 2) (.val (.var 0)) [.ite (.or (.not (.isi (.var 2) .tuple)) (.cmp .NotEq (.blt .len [(.var 2)]) (.con (.int (2))))) [.ret (.con (.bl false))] [], .ite (.or (.not (.call 0 [(.ix (.var 2) (.con (.int (0)))), (.con (.int (0))), (.bin .Sub (.con (.int (3))) (.con (.int (1))))])) (.not (.call 1 [(.ix (.var 2) (.con (.int (1)))), (.var 1)]))) [.ret (.con (.bl false))] []], .ite (.not (.gc (.blt .all [(.lc (.name 3) (.rng1 (.bin .Sub (.blt .len [(.var 0)]) (.con (.int (1))))) [] (.cmp .Lt (.ix (.var 0) (.var 3)) (.ix (.var 0) (.bin .Add (.var 3) (.con (.int (1)))))) [3])]))) [.ret (.con (.bl false))] [], .ret (.not (.call 7 [(.var 0)]))]⟩
def fn_is_house : Fn := ⟨1, 7, [.ite (.or (.not (.isi (.var 0) .tuple)) (.cmp .NotEq (.blt .len [(.var 0)]) (.con (.int (5))))) [.ret (.con (.bl false))] [], .asg (.tup [(.name 2), (.name 3), (.name 4), (.name 5), (.name 6)]) (.var 0), .ite (.or (.not (.call 0 [(.var 2), (.con (.int (1))), (.con (.int (4)))])) (.not (.call 2 [(.var 3)]))) [.ret (.con (.bl false))] [], .set 1 (.bin .Add (.blt .len [(.var 3)]) (.con (.int (1)))), .ret (.and (.call 3 [(.var 4), (.var 1)]) (.and (.call 5 [(.var 5), (.var 2), (.var 1)]) (.call 8 [(.var 6), (.var 2)])))]⟩
def fn_is_rule : Fn := ⟨1, 5, [.ite (.or (.not (.isi (.var 0) .tuple)) (.cmp .NotEq (.blt .len [(.var 0)]) (.con (.int (4))))) [.ret (.con (.bl false))] [], .asg (.tup [(.name 1), (.name 2), (.name 3), (.name 4)]) (.var 0), .ite (.or (.not (.isi (.var 1) .str)) (.or (.not (.isi (.var 2) .str)) (.not (.isi (.var 3) .str)))) [.ret (.con (.bl false))] [], .ite (.or (.cmp .NotIn (.var 1) (.tup [(.con (.str "bar")), (.con (.str "near"))])) (.cmp .NotIn (.var 2) (.tup [(.con (.str "keeps")), (.con (.str "drops"))]))) [.ret (.con (.bl false))] [], .ret (.and (.cmp .In (.var 3) (.tup [(.con (.str "now")), (.con (.str "login"))])) (.isi (.var 4) .bool))]⟩
def fn_are_logins : Fn := ⟨2, 5, [.ite (.or (.not (.isi (.var 0) .tuple)) (.cmp .NotEq (.blt .len [(.var 0)]) (.var 1))) [.ret (.con (.bl false))] [], .for_ (.name 2) (.val (.var 0)) [.ite (.not (.isi (.var 2) .tuple)) [.ret (.con (.bl false))] [], .for_ (.name 3) (.val (.var 2)) [.ite (.not (.call 0 [(.var 3), (.con (.int (0))), (.bin .Sub (.con (.int (3))) (.con (.int (1))))])) [.ret (.con (.bl false))] []], .ite (.not (.gc (.blt .all [(.lc (.name 4) (.rng1 (.bin .Sub (.blt .len [(.var 2)]) (.con (.int (1))))) [] (.cmp .Lt (.ix (.var 2) (.var 4)) (.ix (.var 2) (.bin .Add (.var 4) (.con (.int (1)))))) [4])]))) [.ret (.con (.bl false))] []], .ret (.con (.bl true))]⟩
def fn_is_state : Fn := ⟨2, 2, [.ite (.or (.not (.isi (.var 1) .tuple)) (.or (.cmp .NotEq (.blt .len [(.var 1)]) (.con (.int (5)))) (.not (.call 2 [(.ix (.var 1) (.con (.int (0))))])))) [.ret (.con (.bl false))] [], .ite (.cmp .NotEq (.blt .len [(.ix (.var 1) (.con (.int (0))))]) (.blt .len [(.ix (.var 0) (.con (.int (1))))])) [.ret (.con (.bl false))] [], .ret (.and (.call 9 [(.gc (.bin .Add (.tup [(.ix (.var 0) (.con (.int (0))))]) (.sl (.var 1) none (some (.con (.int (4)))))))]) (.call 11 [(.ix (.var 1) (.con (.int (4)))), (.ix (.var 0) (.con (.int (0))))]))]⟩
def fn_need_house : Fn := ⟨1, 1, [.ite (.not (.call 9 [(.var 0)])) [.never] []]⟩
def fn_need_rule : Fn := ⟨1, 1, [.ite (.not (.call 10 [(.var 0)])) [.never] []]⟩
def fn_need_state : Fn := ⟨3, 3, [.expr (.call 13 [(.var 0)]), .expr (.call 14 [(.var 1)]), .ite (.not (.call 12 [(.var 0), (.var 2)])) [.never] []]⟩
def fn_need_person : Fn := ⟨2, 2, [.ite (.not (.call 0 [(.var 1), (.con (.int (0))), (.bin .Sub (.ix (.var 0) (.con (.int (0)))) (.con (.int (1))))])) [.never] []]⟩
def fn_need_folder : Fn := ⟨2, 2, [.ite (.not (.call 0 [(.var 1), (.con (.int (0))), (.blt .len [(.ix (.var 0) (.con (.int (1))))])])) [.never] []]⟩
def fn_start_of : Fn := ⟨2, 9, [.asg (.tup [(.name 3), (.name 4), (.name 5), (.name 6), (.name 7)]) (.var 0), .set 2 (.lc (.name 8) (.rng1 (.var 3)) [] (.call 6 [(.var 7), (.tup [(.con (.str "p")), (.var 8)]), (.ix (.var 1) (.con (.int (3))))]) [8]), .ret (.tup [(.var 4), (.var 5), (.var 6), (.var 7), (.blt .tuple [(.var 2)])])]⟩
def fn_first_state : Fn := ⟨2, 2, [.expr (.call 13 [(.var 0)]), .expr (.call 14 [(.var 1)]), .ret (.call 18 [(.var 0), (.var 1)])]⟩
def fn_way_of : Fn := ⟨2, 3, [.set 2 (.lst [(.var 1)]), .while_ (.and (.cmp .Gt (.ix (.var 2) (.un .USub (.con (.int (1))))) (.con (.int (0)))) (.not (.ix (.ix (.var 0) (.con (.int (1)))) (.ix (.var 2) (.un .USub (.con (.int (1)))))))) [.expr (.mt .append (.var 2) [(.ix (.ix (.var 0) (.con (.int (0)))) (.bin .Sub (.ix (.var 2) (.un .USub (.con (.int (1))))) (.con (.int (1)))))])], .ret (.var 2)]⟩
def fn_counted_groups : Fn := ⟨3, 3, [.ite (.cmp .Eq (.ix (.var 0) (.con (.int (2)))) (.con (.str "now"))) [.ret (.call 6 [(.ix (.var 1) (.con (.int (3)))), (.tup [(.con (.str "p")), (.var 2)]), (.ix (.var 0) (.con (.int (3))))])] [], .ret (.ix (.ix (.var 1) (.con (.int (4)))) (.var 2))]⟩
def fn_deciding : Fn := ⟨4, 11, [.set 4 (.call 21 [(.var 0), (.var 1), (.var 2)]), .set 5 (.gc (.bin .Add (.lst [(.tup [(.con (.str "p")), (.var 2)])]) (.lc (.name 10) (.val (.var 4)) [] (.tup [(.con (.str "g")), (.var 10)]) [10]))), .set 6 (.lst []), .for_ (.name 7) (.val (.call 20 [(.var 1), (.var 3)])) [.expr (.mt .extend (.var 6) [(.lc (.name 9) (.val (.ix (.var 1) (.con (.int (2))))) [(.and (.cmp .Eq (.ix (.var 9) (.con (.int (0)))) (.var 7)) (.cmp .In (.ix (.var 9) (.con (.int (1)))) (.var 5)))] (.var 9) [9])]), .ite (.and (.var 6) (.cmp .Eq (.ix (.var 0) (.con (.int (0)))) (.con (.str "near")))) [.brk] []], .set 8 (.lc (.name 9) (.val (.var 6)) [(.cmp .Eq (.ix (.var 9) (.con (.int (2)))) (.con (.str "bar")))] (.var 9) [9]), .ret (.or (.var 8) (.var 6))]⟩
def fn_sight : Fn := ⟨4, 5, [.set 4 (.call 22 [(.var 0), (.var 1), (.var 2), (.var 3)]), .ret (.and (.blt .bool [(.var 4)]) (.cmp .Eq (.ix (.ix (.var 4) (.con (.int (0)))) (.con (.int (2)))) (.con (.str "allow"))))]⟩
def fn_sees : Fn := ⟨5, 5, [.expr (.call 15 [(.var 0), (.var 1), (.var 2)]), .expr (.call 16 [(.var 0), (.var 3)]), .expr (.call 17 [(.var 0), (.var 4)]), .ret (.call 23 [(.var 1), (.var 2), (.var 3), (.var 4)])]⟩
def fn_is_deed : Fn := ⟨2, 4, [.ite (.or (.not (.isi (.var 1) .tuple)) (.or (.cmp .Lt (.blt .len [(.var 1)]) (.con (.int (2)))) (.not (.isi (.ix (.var 1) (.con (.int (0)))) .str)))) [.ret (.con (.bl false))] [], .set 2 (.ix (.var 1) (.con (.int (0)))), .set 3 (.blt .len [(.ix (.var 0) (.con (.int (1))))]), .ite (.cmp .In (.var 2) (.tup [(.con (.str "allow")), (.con (.str "bar")), (.con (.str "clear"))])) [.ret (.and (.cmp .Eq (.blt .len [(.var 1)]) (.con (.int (3)))) (.and (.call 0 [(.ix (.var 1) (.con (.int (1)))), (.con (.int (0))), (.var 3)]) (.call 1 [(.ix (.var 1) (.con (.int (2)))), (.ix (.var 0) (.con (.int (0))))])))] [], .ite (.cmp .In (.var 2) (.tup [(.con (.str "join")), (.con (.str "leave"))])) [.ret (.and (.cmp .Eq (.blt .len [(.var 1)]) (.con (.int (3)))) (.and (.call 0 [(.ix (.var 1) (.con (.int (1)))), (.con (.int (0))), (.bin .Sub (.con (.int (3))) (.con (.int (1))))]) (.call 1 [(.ix (.var 1) (.con (.int (2)))), (.ix (.var 0) (.con (.int (0))))])))] [], .ite (.cmp .Eq (.var 2) (.con (.str "move"))) [.ret (.and (.cmp .Eq (.blt .len [(.var 1)]) (.con (.int (3)))) (.and (.call 0 [(.ix (.var 1) (.con (.int (1)))), (.con (.int (0))), (.var 3)]) (.call 0 [(.ix (.var 1) (.con (.int (2)))), (.con (.int (0))), (.var 3)])))] [], .ite (.cmp .NotEq (.blt .len [(.var 1)]) (.con (.int (2)))) [.ret (.con (.bl false))] [], .ite (.cmp .In (.var 2) (.tup [(.con (.str "shut")), (.con (.str "open"))])) [.ret (.call 0 [(.ix (.var 1) (.con (.int (1)))), (.con (.int (0))), (.var 3)])] [], .ret (.and (.cmp .Eq (.var 2) (.con (.str "login"))) (.call 0 [(.ix (.var 1) (.con (.int (1)))), (.con (.int (0))), (.bin .Sub (.ix (.var 0) (.con (.int (0)))) (.con (.int (1))))]))]⟩
def fn_is_look : Fn := ⟨2, 2, [.ite (.or (.not (.isi (.var 1) .tuple)) (.or (.cmp .NotEq (.blt .len [(.var 1)]) (.con (.int (3)))) (.not (.isi (.ix (.var 1) (.con (.int (0)))) .str)))) [.ret (.con (.bl false))] [], .ret (.and (.cmp .Eq (.ix (.var 1) (.con (.int (0)))) (.con (.str "look"))) (.and (.call 0 [(.ix (.var 1) (.con (.int (1)))), (.con (.int (0))), (.bin .Sub (.ix (.var 0) (.con (.int (0)))) (.con (.int (1))))]) (.call 0 [(.ix (.var 1) (.con (.int (2)))), (.con (.int (0))), (.blt .len [(.ix (.var 0) (.con (.int (1))))])])))]⟩
def fn_put_entry : Fn := ⟨2, 7, [.asg (.tup [(.name 3), (.name 4), (.name 5)]) (.var 1), .set 2 (.lc (.name 6) (.val (.var 0)) [(.gc (.cmp .NotEq (.sl (.var 6) none (some (.con (.int (2))))) (.tup [(.var 4), (.var 5)])))] (.var 6) [6]), .ite (.cmp .Eq (.var 3) (.con (.str "clear"))) [.ret (.blt .tuple [(.var 2)])] [], .ite (.cmp .Eq (.blt .len [(.var 2)]) (.con (.int (12)))) [.ret (.var 0)] [], .ret (.gc (.blt .tuple [(.gc (.blt .sorted [(.gc (.bin .Add (.var 2) (.lst [(.tup [(.var 4), (.var 5), (.var 3)])])))]))]))]⟩
def fn_put_member : Fn := ⟨2, 8, [.asg (.tup [(.name 4), (.name 5), (.name 6)]) (.var 1), .set 2 (.lc (.name 7) (.val (.var 0)) [(.cmp .NotEq (.var 7) (.tup [(.var 5), (.var 6)]))] (.var 7) [7]), .ite (.cmp .Eq (.var 4) (.con (.str "leave"))) [.ret (.blt .tuple [(.var 2)])] [], .set 3 (.gc (.blt .tuple [(.gc (.blt .sorted [(.gc (.bin .Add (.var 2) (.lst [(.tup [(.var 5), (.var 6)])])))]))])), .ite (.call 7 [(.var 3)]) [.ret (.var 0)] [], .ret (.var 3)]⟩
def fn_lies_in : Fn := ⟨3, 3, [.while_ (.and (.cmp .NotEq (.var 1) (.var 2)) (.cmp .Gt (.var 1) (.con (.int (0))))) [.set 1 (.ix (.var 0) (.bin .Sub (.var 1) (.con (.int (1)))))], .ret (.cmp .Eq (.var 1) (.var 2))]⟩
def fn_put_folder : Fn := ⟨3, 11, [.asg (.tup [(.name 4), (.name 5)]) (.sl (.var 2) (some (.con (.int (1)))) none), .asg (.tup [(.name 3), (.name 6), (.name 7), (.name 8), (.name 9)]) (.var 1), .ite (.or (.cmp .Eq (.var 4) (.con (.int (0)))) (.call 29 [(.var 3), (.var 5), (.var 4)])) [.ret (.var 1)] [], .set 3 (.gc (.bin .Add (.gc (.bin .Add (.sl (.var 3) none (some (.bin .Sub (.var 4) (.con (.int (1)))))) (.tup [(.var 5)]))) (.sl (.var 3) (some (.var 4)) none))), .ite (.cmp .Eq (.ix (.var 0) (.con (.int (1)))) (.con (.str "drops"))) [.set 7 (.gc (.blt .tuple [(.lc (.name 10) (.val (.var 7)) [(.cmp .NotEq (.ix (.var 10) (.con (.int (0)))) (.var 4))] (.var 10) [10])]))] [], .ret (.tup [(.var 3), (.var 6), (.var 7), (.var 8), (.var 9)])]⟩
def fn_state_after : Fn := ⟨3, 10, [.asg (.tup [(.name 5), (.name 6), (.name 7), (.name 8), (.name 9)]) (.var 1), .set 3 (.ix (.var 2) (.con (.int (0)))), .set 4 (.ix (.var 2) (.con (.int (1)))), .ite (.cmp .Eq (.var 3) (.con (.str "move"))) [.ret (.call 30 [(.var 0), (.var 1), (.var 2)])] [], .ite (.cmp .In (.var 3) (.tup [(.con (.str "allow")), (.con (.str "bar")), (.con (.str "clear"))])) [.set 7 (.call 27 [(.var 7), (.var 2)])] [.ite (.cmp .In (.var 3) (.tup [(.con (.str "join")), (.con (.str "leave"))])) [.set 8 (.call 28 [(.var 8), (.var 2)])] [.ite (.cmp .Eq (.var 3) (.con (.str "login"))) [.set 9 (.gc (.bin .Add (.gc (.bin .Add (.sl (.var 9) none (some (.var 4))) (.tup [(.call 6 [(.var 8), (.tup [(.con (.str "p")), (.var 4)]), (.ix (.var 0) (.con (.int (3))))])]))) (.sl (.var 9) (some (.bin .Add (.var 4) (.con (.int (1))))) none)))] [.set 6 (.gc (.bin .Add (.gc (.bin .Add (.sl (.var 6) none (some (.var 4))) (.tup [(.cmp .Eq (.var 3) (.con (.str "shut")))]))) (.sl (.var 6) (some (.bin .Add (.var 4) (.con (.int (1))))) none)))]]], .ret (.tup [(.var 5), (.var 6), (.var 7), (.var 8), (.var 9)])]⟩
def fn_after_deed : Fn := ⟨4, 4, [.expr (.call 15 [(.var 0), (.var 1), (.var 2)]), .ite (.not (.call 25 [(.var 0), (.var 3)])) [.never] [], .ret (.call 31 [(.var 1), (.var 2), (.var 3)])]⟩
def fn_is_event : Fn := ⟨2, 5, [.ite (.or (.not (.isi (.var 1) .tuple)) (.cmp .NotEq (.blt .len [(.var 1)]) (.con (.int (3))))) [.ret (.con (.bl false))] [], .asg (.tup [(.name 2), (.name 3), (.name 4)]) (.var 1), .ite (.and (.not (.call 25 [(.var 0), (.var 2)])) (.not (.call 26 [(.var 0), (.var 2)]))) [.ret (.con (.bl false))] [], .ret (.and (.call 0 [(.var 3), (.con (.int (0))), (.con (.int (99)))]) (.call 0 [(.var 4), (.var 3), (.con (.int (99)))]))]⟩
def fn_is_case : Fn := ⟨1, 5, [.ite (.or (.not (.isi (.var 0) .tuple)) (.cmp .NotEq (.blt .len [(.var 0)]) (.con (.int (3))))) [.ret (.con (.bl false))] [], .asg (.tup [(.name 1), (.name 2), (.name 3)]) (.var 0), .ite (.or (.not (.call 9 [(.var 1)])) (.or (.not (.call 10 [(.var 2)])) (.not (.isi (.var 3) .tuple)))) [.ret (.con (.bl false))] [], .ret (.and (.cmp .LtE (.blt .len [(.var 3)]) (.con (.int (8)))) (.gc (.blt .all [(.lc (.name 4) (.val (.var 3)) [] (.call 33 [(.var 1), (.var 4)]) [4])])))]⟩
def fn_is_within : Fn := ⟨2, 2, [.ret (.or (.cmp .Eq (.var 0) (.var 1)) (.and (.gc (.cmp .Eq (.sl (.var 0) (some (.con (.int (1)))) none) (.sl (.var 1) (some (.con (.int (1)))) none))) (.cmp .Eq (.ix (.var 0) (.con (.int (0)))) (.con (.str "bar")))))]⟩
def fn_rule_within : Fn := ⟨2, 2, [.expr (.call 14 [(.var 0)]), .expr (.call 14 [(.var 1)]), .ret (.call 35 [(.var 0), (.var 1)])]⟩
def fn_parted_by_moves : Fn := ⟨1, 3, [.set 1 (.tup [(.tup [(.con (.int (1))), (.tup [(.con (.str "p")), (.con (.int (0)))]), (.con (.str "allow"))])]), .ite (.cmp .Eq (.ix (.var 0) (.con (.int (1)))) (.con (.str "drops"))) [.set 1 (.tup [(.tup [(.con (.int (0))), (.tup [(.con (.str "p")), (.con (.int (0)))]), (.con (.str "allow"))]), (.tup [(.con (.int (1))), (.tup [(.con (.str "p")), (.con (.int (0)))]), (.con (.str "bar"))])])] [], .set 2 (.tup [(.con (.int (1))), (.tup [(.con (.int (0)))]), (.tup [(.con (.bl false)), (.con (.bl false))]), (.var 1), (.tup [])]), .ret (.tup [(.var 2), (.var 0), (.tup [(.tup [(.tup [(.con (.str "move")), (.con (.int (1))), (.con (.int (0)))]), (.con (.int (0))), (.con (.int (0)))]), (.tup [(.tup [(.con (.str "look")), (.con (.int (0))), (.con (.int (1)))]), (.con (.int (1))), (.con (.int (1)))])])])]⟩
def fn_parted_by_logins : Fn := ⟨1, 4, [.set 1 (.tup []), .set 2 (.con (.str "join")), .ite (.cmp .Eq (.ix (.var 0) (.con (.int (2)))) (.con (.str "login"))) [.set 1 (.tup [(.tup [(.con (.int (0))), (.tup [(.con (.str "p")), (.con (.int (0)))])])]), .set 2 (.con (.str "leave"))] [], .set 3 (.tup [(.con (.int (1))), (.tup []), (.tup [(.con (.bl false))]), (.tup [(.tup [(.con (.int (0))), (.tup [(.con (.str "g")), (.con (.int (0)))]), (.con (.str "allow"))])]), (.var 1)]), .ret (.tup [(.var 3), (.var 0), (.tup [(.tup [(.tup [(.var 2), (.con (.int (0))), (.tup [(.con (.str "p")), (.con (.int (0)))])]), (.con (.int (0))), (.con (.int (0)))]), (.tup [(.tup [(.con (.str "look")), (.con (.int (0))), (.con (.int (0)))]), (.con (.int (1))), (.con (.int (1)))])])])]⟩
def fn_parted_by_depth : Fn := ⟨1, 3, [.set 1 (.tup [(.tup [(.con (.int (0))), (.tup [(.con (.str "g")), (.con (.int (1)))]), (.con (.str "allow"))])]), .ite (.not (.ix (.var 0) (.con (.int (3))))) [.set 1 (.tup [(.tup [(.con (.int (0))), (.tup [(.con (.str "g")), (.con (.int (1)))]), (.con (.str "bar"))]), (.tup [(.con (.int (0))), (.tup [(.con (.str "p")), (.con (.int (0)))]), (.con (.str "allow"))])])] [], .set 2 (.tup [(.con (.int (1))), (.tup []), (.tup [(.con (.bl false))]), (.var 1), (.tup [(.tup [(.con (.int (0))), (.tup [(.con (.str "p")), (.con (.int (0)))])]), (.tup [(.con (.int (1))), (.tup [(.con (.str "g")), (.con (.int (0)))])])])]), .ret (.tup [(.var 2), (.var 0), (.tup [(.tup [(.tup [(.con (.str "look")), (.con (.int (0))), (.con (.int (0)))]), (.con (.int (0))), (.con (.int (0)))])])])]⟩
def fn_parted_by_nearness : Fn := ⟨1, 2, [.set 1 (.tup [(.tup [(.con (.int (0))), (.tup [(.con (.str "p")), (.con (.int (0)))]), (.con (.str "bar"))]), (.tup [(.con (.int (1))), (.tup [(.con (.str "p")), (.con (.int (0)))]), (.con (.str "allow"))])]), .ret (.tup [(.tup [(.con (.int (1))), (.tup [(.con (.int (0)))]), (.tup [(.con (.bl false)), (.con (.bl false))]), (.var 1), (.tup [])]), (.var 0), (.tup [(.tup [(.tup [(.con (.str "look")), (.con (.int (0))), (.con (.int (1)))]), (.con (.int (0))), (.con (.int (0)))])])])]⟩
def fn_parting_case : Fn := ⟨2, 2, [.expr (.call 14 [(.var 0)]), .expr (.call 14 [(.var 1)]), .ite (.call 35 [(.var 0), (.var 1)]) [.ret (.con .non)] [], .ite (.cmp .NotEq (.ix (.var 0) (.con (.int (1)))) (.ix (.var 1) (.con (.int (1))))) [.ret (.tup [(.call 37 [(.var 0)]), (.tup [(.con (.int (0))), (.con (.int (1)))]), (.con (.int (1)))])] [], .ite (.cmp .NotEq (.ix (.var 0) (.con (.int (2)))) (.ix (.var 1) (.con (.int (2))))) [.ret (.tup [(.call 38 [(.var 0)]), (.tup [(.con (.int (0))), (.con (.int (1)))]), (.con (.int (1)))])] [], .ite (.cmp .NotEq (.ix (.var 0) (.con (.int (3)))) (.ix (.var 1) (.con (.int (3))))) [.ret (.tup [(.call 39 [(.var 0)]), (.tup [(.con (.int (0)))]), (.con (.int (0)))])] [], .ret (.tup [(.call 40 [(.var 0)]), (.tup [(.con (.int (0)))]), (.con (.int (0)))])]⟩
def fn_law_mix : Fn := mixFn
def fn_law_numbers : Fn := numFn 42
def fn_law_take : Fn := takeFn
def fn_law_rule : Fn := ⟨1, 4, [.set 1 (.gc (.ix (.lst [(.con (.str "bar")), (.con (.str "near"))]) (.call 44 [(.var 0), (.con (.int (2)))]))), .set 2 (.gc (.ix (.lst [(.con (.str "keeps")), (.con (.str "drops"))]) (.call 44 [(.var 0), (.con (.int (2)))]))), .set 3 (.gc (.ix (.lst [(.con (.str "now")), (.con (.str "login"))]) (.call 44 [(.var 0), (.con (.int (2)))]))), .ret (.tup [(.var 1), (.var 2), (.var 3), (.gc (.cmp .Eq (.call 44 [(.var 0), (.con (.int (2)))]) (.con (.int (1)))))])]⟩
def fn_law_is_order : Fn := ⟨2, 6, [.set 2 (.ix (.var 0) (.con (.int (2)))), .ite (.or (.not (.isi (.var 1) .tuple)) (.cmp .NotEq (.blt .len [(.var 1)]) (.blt .len [(.var 2)]))) [.ret (.con (.bl false))] [], .for_ (.name 3) (.val (.var 1)) [.ite (.or (.not (.isi (.var 3) .int)) (.isi (.var 3) .bool)) [.ret (.con (.bl false))] []], .ite (.gc (.cmp .NotEq (.blt .sorted [(.var 1)]) (.sp .lrng1 [(.blt .len [(.var 2)])]))) [.ret (.con (.bl false))] [], .for_ (.name 4) (.rng1 (.blt .len [(.var 1)])) [.ite (.not (.gc (.blt .all [(.lc (.name 5) (.val (.sl (.var 1) (some (.var 4)) none)) [] (.cmp .GtE (.ix (.ix (.var 2) (.var 5)) (.con (.int (2)))) (.ix (.ix (.var 2) (.ix (.var 1) (.var 4))) (.con (.int (1))))) [5])]))) [.ret (.con (.bl false))] []], .ret (.con (.bl true))]⟩
def fn_law_is : Fn := ⟨2, 2, [.ret (.and (.isi (.var 0) .bool) (.cmp .Eq (.var 0) (.var 1)))]⟩
def fn_law_saw : Fn := ⟨4, 8, [.set 4 (.ix (.var 0) (.con (.int (0)))), .set 5 (.call 19 [(.var 4), (.var 1)]), .for_ (.name 6) (.val (.var 2)) [.set 7 (.ix (.ix (.ix (.var 0) (.con (.int (2)))) (.var 6)) (.con (.int (0)))), .ite (.cmp .Eq (.var 6) (.var 3)) [.ret (.call 24 [(.var 4), (.var 1), (.var 5), (.ix (.var 7) (.con (.int (1)))), (.ix (.var 7) (.con (.int (2))))])] [], .ite (.cmp .NotEq (.ix (.var 7) (.con (.int (0)))) (.con (.str "look"))) [.set 5 (.call 32 [(.var 4), (.var 1), (.var 5), (.var 7)])] []], .ret (.con .non)]⟩
def fn_law : Fn := ⟨1, 9, [.set 1 (.call 43 [(.var 0)]), .set 2 (.call 45 [(.var 1)]), .set 3 (.call 45 [(.var 1)]), .set 4 (.call 41 [(.var 2), (.var 3)]), .set 5 (.call 36 [(.var 2), (.var 3)]), .ite (.cmp .Is (.var 4) (.con .non)) [.ret (.cmp .Is (.var 5) (.con (.bl true)))] [], .ite (.or (.cmp .IsNot (.var 5) (.con (.bl false))) (.or (.not (.isi (.var 4) .tuple)) (.cmp .NotEq (.blt .len [(.var 4)]) (.con (.int (3)))))) [.ret (.con (.bl false))] [], .asg (.tup [(.name 6), (.name 7), (.name 8)]) (.var 4), .ite (.or (.gc (.cmp .IsNot (.call 34 [(.var 6)]) (.con (.bl true)))) (.or (.cmp .NotEq (.ix (.var 6) (.con (.int (1)))) (.var 2)) (.gc (.cmp .IsNot (.call 34 [(.tup [(.ix (.var 6) (.con (.int (0)))), (.var 3), (.ix (.var 6) (.con (.int (2))))])]) (.con (.bl true)))))) [.ret (.con (.bl false))] [], .ite (.or (.not (.call 46 [(.var 6), (.var 7)])) (.or (.not (.isi (.var 8) .int)) (.isi (.var 8) .bool))) [.ret (.con (.bl false))] [], .ite (.or (.cmp .NotIn (.var 8) (.var 7)) (.cmp .NotEq (.ix (.ix (.ix (.ix (.var 6) (.con (.int (2)))) (.var 8)) (.con (.int (0)))) (.con (.int (0)))) (.con (.str "look")))) [.ret (.con (.bl false))] [], .ite (.not (.call 47 [(.call 48 [(.var 6), (.var 2), (.var 7), (.var 8)]), (.con (.bl true))])) [.ret (.con (.bl false))] [], .ret (.call 47 [(.call 48 [(.var 6), (.var 3), (.var 7), (.var 8)]), (.con (.bl false))])]⟩
def fns : List Fn := [fn_is_number, fn_is_who, fn_is_tree, fn_are_marks, fn_is_entry, fn_are_entries, fn_groups_of, fn_is_ring, fn_are_members, fn_is_house, fn_is_rule, fn_are_logins, fn_is_state, fn_need_house, fn_need_rule, fn_need_state, fn_need_person, fn_need_folder, fn_start_of, fn_first_state, fn_way_of, fn_counted_groups, fn_deciding, fn_sight, fn_sees, fn_is_deed, fn_is_look, fn_put_entry, fn_put_member, fn_lies_in, fn_put_folder, fn_state_after, fn_after_deed, fn_is_event, fn_is_case, fn_is_within, fn_rule_within, fn_parted_by_moves, fn_parted_by_logins, fn_parted_by_depth, fn_parted_by_nearness, fn_parting_case, fn_law_mix, fn_law_numbers, fn_law_take, fn_law_rule, fn_law_is_order, fn_law_is, fn_law_saw, fn_law]
end K79
end

section
namespace K79
open PySem Ev
def rl (a b c d : Bool) : D := .tup [.str (if a then "near" else "bar"), .str (if b then "drops" else "keeps"), .str (if c then "login" else "now"), .bl d]
def runB (f : Nat) (ds : List D) : Option D := match callD fns 29 f ds [] with
  | .ok d [] => if D.blws 0 ds && d.blw 0 then some d else none
  | _ => none
def lookAt (es : List D) (k : Int) : Bool := match ixL es k with
  | some (.tup (.tup (.str w :: _) :: _)) => decide (w = "look")
  | _ => false
def good2 (x y h r : D) (es : List D) (o : D) (k : Int) : Bool :=
  decide (runB 34 [.tup [h, r, .tup es]] = some (.bl true)) && decide (eqD r x [] = some true) && decide (runB 34 [.tup [h, y, .tup es]] = some (.bl true))
  && decide (runB 46 [.tup [h, r, .tup es], o] = some (.bl true)) && decide (inD (.int k) o [] = some true) && lookAt es k
  && decide (runB 48 [.tup [h, r, .tup es], x, o, .int k] = some (.bl true)) && decide (runB 48 [.tup [h, r, .tup es], y, o, .int k] = some (.bl false))
def good (x y : D) : Bool := match runB 41 [x, y], runB 36 [x, y] with
  | some .non, some (.bl true) => true
  | some (.tup [.tup [h, r, .tup es], o, .int k]), some (.bl false) => good2 x y h r es o k
  | _, _ => false
theorem good_all : ∀ a b c d e f g h : Bool, good (rl a b c d) (rl e f g h) = true := by decide +kernel
end K79
end

section
namespace K79
open PySem Ev
theorem run_fr {f : Nat} {ds : List D} {d : D} (h : runB f ds = some d) (P : Store) : callD fns 29 f ds P = .ok d P := by
  unfold runB at h
  split at h
  · rename_i d' e
    split at h
    · rename_i hb
      rw [Bool.and_eq_true] at hb
      cases h
      exact call_fr e P hb.1 hb.2
    · cases h
  · cases h
theorem blws_ints (n : Nat) (l : List Int) : D.blws n (l.map D.int) = true := by
  induction l with
  | nil => rfl
  | cons x l ih => rw [List.map_cons, D.blws, ih]; rfl
theorem stable_one {n : Nat} {c d : Cell} {T : Store} (h : d.blw n = true) : stable n (c :: T) (d :: T) = true := by
  have e := stable_app n T []
  rw [List.append_nil] at e
  rw [stable, e, h, Bool.or_true, Bool.and_true]
theorem gc_one {c d : Cell} {T : Store} {v : D} (h : d.blw (c :: T).length = true) (hv : v.blw (c :: T).length = true) : gcAfter (c :: T) v (d :: T) = .ok v (d :: T) := by
  unfold gcAfter
  rw [if_pos (stable_one h), if_pos hv]
  rw [List.take_of_length_le (by simp)]
theorem call_ret {fns : List Fn} {n f : Nat} {fn : Fn} {ds : List D} {S S1 : Store} {d : D} (hf : fns[f]? = some fn) (hl : ds.length = fn.npar) (h : evSs (callD fns n) WF fn.body (ds.map some ++ List.replicate (fn.nloc - fn.npar) none) S = some (.ret d, S1)) :
    callD fns (n + 1) f ds S = gcAfter S d S1 := by
  rw [callD, hf]
  refine (if_pos hl).trans ?_
  unfold bodyD
  rw [h]
theorem evS_set {C : CallT} {W i : Nat} {t : Tm} {σ : Ev.Env} {S S1 : Store} {d : D} (h : evE C t σ S = .ok d S1) : evS C W (.set i t) σ S = some (.nx (σ.set i (some d)), S1) := by rw [evS, h, R.thenS_ok]
theorem evSs_ret {C : CallT} {W : Nat} {t : Tm} {ss : List Sm} {σ : Ev.Env} {S S1 : Store} {d : D} (h : evE C t σ S = .ok d S1) : evSs C W (.ret t :: ss) σ S = some (.ret d, S1) := by rw [evSs, evS, h, R.thenS_ok]
theorem ev_var {C : CallT} {i : Nat} {σ : Ev.Env} {S : Store} {d : D} (h : σ[i]? = some (some d)) : evE C (.var i) σ S = .ok d S := by rw [evE, h]
theorem ev_nil {C : CallT} {σ : Ev.Env} {S : Store} : evEs C [] σ S = .ok [] S := rfl
theorem ev_cons {C : CallT} {t : Tm} {ts : List Tm} {σ : Ev.Env} {S S1 S2 : Store} {d : D} {ds : List D} (h : evE C t σ S = .ok d S1) (h2 : evEs C ts σ S1 = .ok ds S2) : evEs C (t :: ts) σ S = .ok (d :: ds) S2 := by rw [evEs, h, R.bind_ok, h2, R.bind_ok]
theorem ev_tup {C : CallT} {ts : List Tm} {σ : Ev.Env} {S S1 : Store} {ds : List D} (h : evEs C ts σ S = .ok ds S1) (hl : ds.length ≤ SZ) : evE C (.tup ts) σ S = .ok (.tup ds) S1 := by rw [evE, h, R.bind_ok, if_pos hl]
theorem take_ok {n : Nat} (ms : List Int) (T : Store) : ∃ (r : Int) (ms' : List Int), (r = 0 ∨ r = 1) ∧ callD fns (n + 1) 44 [.loc 0, .int 2] (.lst (ms.map .int) :: T) = .ok (.int r) (.lst (ms'.map .int) :: T) := by
  have hf : fns[44]? = some takeFn := rfl
  by_cases hm : ms = []
  · subst hm
    refine ⟨0, [], .inl rfl, ?_⟩
    have e : evSs (callD fns n) WF takeFn.body [some (.loc 0), some (.int 2)] (.lst (([] : List Int).map .int) :: T) = some (.ret (.int 0), .lst (([] : List Int).map .int) :: T) := rfl
    exact (call_ret hf rfl e).trans (gcAfter_self rfl)
  · obtain ⟨y, hy⟩ : ∃ y, ms[ms.length - 1]? = some y := ⟨_, List.getElem?_eq_getElem (by have := List.length_pos_iff.mpr hm; omega)⟩
    have h0 : ¬ ((ms.length : Int) = 0) := by have := List.length_pos_iff.mpr hm; omega
    refine ⟨y % 2, ms.dropLast, by omega, ?_⟩
    have e : evSs (callD fns n) WF takeFn.body [some (.loc 0), some (.int 2)] (.lst (ms.map .int) :: T) = some (.ret (.int (y % 2)), .lst (ms.dropLast.map .int) :: T) := by
      simp only [takeFn, evSs, evS, evE, evEs, R.bind_ok, R.thenS_ok, R.tru, R.ofO_some, cmpD, eqD, truD, bltD, mtD, binD, lstOf, seqOf, List.getElem?_cons_zero, List.getElem?_cons_succ, List.set_cons_zero, List.length_map, List.getElem?_map, hy, Option.map_some, Option.isSome_some, D.blw, if_true, h0, decide_false, Bool.false_eq_true, if_false, Int.reduceLT, List.map_dropLast]
    exact (call_ret hf rfl e).trans (gc_one (blws_ints _ _) rfl)
theorem pick_ok {n : Nat} {σ : Ev.Env} {a b : Str} (h0 : σ[0]? = some (some (.loc 0))) (ms : List Int) : ∃ (k : Bool) (ms' : List Int),
    evE (callD fns (n + 1)) (.gc (.ix (.lst [(.con (.str a)), (.con (.str b))]) (.call 44 [(.var 0), (.con (.int (2)))]))) σ [.lst (ms.map .int)] = .ok (.str (if k then b else a)) [.lst (ms'.map .int)] := by
  obtain ⟨r, ms', hr, h⟩ := take_ok (n := n) ms [.lst [.str a, .str b]]
  have hz : ∀ x y : D, ixL [x, y] 0 = some x := fun _ _ => rfl
  have ho : ∀ x y : D, ixL [x, y] 1 = some y := fun _ _ => rfl
  have hs : ∀ x : Str, gcAfter [.lst (ms.map .int)] (.str x) [.lst (ms'.map .int), .lst [.str a, .str b]] = .ok (.str x) [.lst (ms'.map .int)] := fun x => by
    have : stable 1 [.lst (ms.map .int)] [.lst (ms'.map .int), .lst [.str a, .str b]] = true := by
      rw [stable, show (Cell.lst (ms'.map .int)).blw 1 = true from blws_ints 1 ms', Bool.or_true]
      rfl
    unfold gcAfter
    rw [List.length_singleton, if_pos this]
    rfl
  rcases hr with rfl | rfl
  · refine ⟨false, ms', ?_⟩
    simp only [evE, evEs, R.bind_ok, h0, D.blw, if_true, Ev.alloc, List.length_cons, List.length_nil, Nat.zero_add, List.cons_append, List.nil_append, Nat.reduceAdd, Nat.reduceLeDiff, SZ, h, ixD, seqOf, List.getElem?_cons_succ, List.getElem?_cons_zero, hz, R.ofO_some, hs, Bool.false_eq_true, if_false]
  · refine ⟨true, ms', ?_⟩
    simp only [evE, evEs, R.bind_ok, h0, D.blw, if_true, Ev.alloc, List.length_cons, List.length_nil, Nat.zero_add, List.cons_append, List.nil_append, Nat.reduceAdd, Nat.reduceLeDiff, SZ, h, ixD, seqOf, List.getElem?_cons_succ, List.getElem?_cons_zero, ho, R.ofO_some, hs]
theorem last_ok {n : Nat} {σ : Ev.Env} (h0 : σ[0]? = some (some (.loc 0))) (ms : List Int) : ∃ (k : Bool) (ms' : List Int),
    evE (callD fns (n + 1)) (.gc (.cmp .Eq (.call 44 [(.var 0), (.con (.int (2)))]) (.con (.int (1))))) σ [.lst (ms.map .int)] = .ok (.bl k) [.lst (ms'.map .int)] := by
  obtain ⟨r, ms', hr, h⟩ := take_ok (n := n) ms []
  refine ⟨decide (r = 1), ms', ?_⟩
  simp only [evE, evEs, R.bind_ok, h0, D.blw, if_true, h, cmpD, eqD, R.ofO_some]
  exact gc_one (T := []) (blws_ints _ _) rfl
theorem rule_ok {n : Nat} (ms : List Int) : ∃ (a b c d : Bool) (ms' : List Int), callD fns (n + 2) 45 [.loc 0] [.lst (ms.map .int)] = .ok (rl a b c d) [.lst (ms'.map .int)] := by
  obtain ⟨a, m1, h1⟩ := pick_ok (n := n) (σ := [some (.loc 0), none, none, none]) (a := "bar") (b := "near") rfl ms
  obtain ⟨b, m2, h2⟩ := pick_ok (n := n) (σ := [some (.loc 0), some (.str (if a then "near" else "bar")), none, none]) (a := "keeps") (b := "drops") rfl m1
  obtain ⟨c, m3, h3⟩ := pick_ok (n := n) (σ := [some (.loc 0), some (.str (if a then "near" else "bar")), some (.str (if b then "drops" else "keeps")), none]) (a := "now") (b := "login") rfl m2
  obtain ⟨d, m4, h4⟩ := last_ok (n := n) (σ := [some (.loc 0), some (.str (if a then "near" else "bar")), some (.str (if b then "drops" else "keeps")), some (.str (if c then "login" else "now"))]) rfl m3
  refine ⟨a, b, c, d, m4, ?_⟩
  have q1 := evS_set (i := 1) (W := WF) h1
  have q2 := evS_set (i := 2) (W := WF) h2
  have q3 := evS_set (i := 3) (W := WF) h3
  have e : evSs (callD fns (n + 1)) WF fn_law_rule.body [some (.loc 0), none, none, none] [.lst (ms.map .int)] = some (.ret (rl a b c d), [.lst (m4.map .int)]) := by
    unfold fn_law_rule
    refine (evSs_nx q1).trans ((evSs_nx q2).trans ((evSs_nx q3).trans ?_))
    refine evSs_ret ?_
    exact ev_tup (ev_cons (ev_var rfl) (ev_cons (ev_var rfl) (ev_cons (ev_var rfl) (ev_cons h4 ev_nil)))) (show 4 ≤ SZ by decide)
  exact (call_ret (fn := fn_law_rule) rfl rfl e).trans (gc_one (T := []) (blws_ints _ _) rfl)
theorem good_cases {x y : D} (h : good x y = true) : (runB 41 [x, y] = some .non ∧ runB 36 [x, y] = some (.bl true)) ∨
    ∃ hh r es o k, runB 41 [x, y] = some (.tup [.tup [hh, r, .tup es], o, .int k]) ∧ runB 36 [x, y] = some (.bl false) ∧ good2 x y hh r es o k = true := by
  unfold good at h
  split at h
  · rename_i h1 h2; exact .inl ⟨h1, h2⟩
  · rename_i hh r es o k h1 h2; exact .inr ⟨hh, r, es, o, k, h1, h2, h⟩
  · cases h
theorem eqD_fr {a b : D} {P : Store} {k : Bool} (h : eqD a b [] = some k) (ha : a.blw 0 = true) (hb : b.blw 0 = true) : eqD a b P = some k := by
  have q := eqD_sh (P := P) (S := []) a b
  rw [sh_closed _ a ha, sh_closed _ b hb] at q
  rw [show shS P [] = P by simp [shS]] at q
  rw [q, h]
theorem inD_fr {a b : D} {P : Store} {k : Bool} (h : inD a b [] = some k) (ha : a.blw 0 = true) (hb : b.blw 0 = true) : inD a b P = some k := by
  have q := inD_sh (P := P) (S := []) a b
  rw [sh_closed _ a ha, sh_closed _ b hb] at q
  rw [show shS P [] = P by simp [shS]] at q
  rw [q, h]
theorem run_blw {f : Nat} {ds : List D} {d : D} (h : runB f ds = some d) : D.blws 0 ds = true ∧ d.blw 0 = true := by
  unfold runB at h
  split at h
  · split at h
    · rename_i hb
      rw [Bool.and_eq_true] at hb
      cases h
      exact hb
    · cases h
  · cases h
theorem is_true (P : Store) : callD fns 29 47 [.bl true, .bl true] P = .ok (.bl true) P := run_fr (by decide +kernel) P
theorem is_false (P : Store) : callD fns 29 47 [.bl false, .bl false] P = .ok (.bl true) P := run_fr (by decide +kernel) P
theorem gc_same {S : Store} {d : D} (h : d.blw S.length = true) : gcAfter S d S = .ok d S := gcAfter_self h
theorem tail_ok (x y : D) (hg : good x y = true) (v0 v1 : Option D) (P : Store) :
    evSs (callD fns 29) WF (fn_law.body.drop 3) [v0, v1, some x, some y, none, none, none, none, none] P = some (.ret (.bl true), P) := by
  rcases good_cases hg with ⟨h1, h2⟩ | ⟨hh, r, es, o, k, h1, h2, h3⟩
  · have e1 := run_fr h1 P
    have e2 := run_fr h2 P
    simp only [fn_law, List.drop_succ_cons, List.drop_zero, evSs, evS, evE, evEs, R.bind_ok, R.thenS_ok, R.tru, R.ofO_some, cmpD, isD, truD, List.getElem?_cons_zero, List.getElem?_cons_succ, List.set_cons_zero, List.set_cons_succ, D.blw, if_true, decide_true, e1, e2]
  · have e1 := run_fr h1 P
    have e2 := run_fr h2 P
    unfold good2 at h3
    simp only [Bool.and_eq_true, decide_eq_true_eq] at h3
    obtain ⟨⟨⟨⟨⟨⟨⟨h4, h5⟩, h6⟩, h7⟩, h8⟩, h9⟩, h10⟩, h11⟩ := h3
    have e4 := run_fr h4 P
    have e6 := run_fr h6 P
    have e7 := run_fr h7 P
    have e10 := run_fr h10 P
    have e11 := run_fr h11 P
    have b1 := (run_blw h1).2
    have bx := (run_blw h1).1
    simp only [D.blw, D.blws, Bool.and_eq_true, Bool.and_true] at b1 bx
    have e5 := eqD_fr (P := P) h5 b1.1.2.1 bx.1
    have e8 := inD_fr (P := P) h8 rfl b1.2
    obtain ⟨w, t1, t2, hl, hw⟩ : ∃ w t1 t2, ixL es k = some (.tup (.tup (.str w :: t1) :: t2)) ∧ w = "look" := by
      unfold lookAt at h9
      split at h9
      · rename_i w t1 t2 q
        exact ⟨w, t1, t2, q, by simpa using h9⟩
      · cases h9
    subst hw
    have i0 : ∀ (a : D) (l : List D), ixL (a :: l) 0 = some a := fun _ _ => by
      simp [ixL, L2.atI, L2.ixN]
    have i1 : ∀ (a b c : D), ixL [a, b, c] 1 = some b := fun _ _ _ => rfl
    have i2 : ∀ (a b c : D), ixL [a, b, c] 2 = some c := fun _ _ _ => rfl
    have tb : (Ty.bool == Ty.int) = false := rfl
    have m5 : cmpD .NotEq r x P = .ok false P := by simp only [cmpD, e5, Option.map_some, Bool.not_true, R.ofO_some]
    have m8 : cmpD .NotIn (.int k) o P = .ok false P := by simp only [cmpD, e8, Option.map_some, Bool.not_true, R.ofO_some]
    have z3 : (3 : Nat) ≤ SZ := by decide
    simp only [fn_law, List.drop_succ_cons, List.drop_zero, evSs, evS, evE, evEs, R.bind_ok, R.thenS_ok, R.tru, R.ofO_some, m5, m8]
    have c1 : ∀ ds : List D, cmpD .Is (.tup ds) .non P = .ok false P := fun _ => rfl
    have c2 : ∀ a b : Bool, cmpD .IsNot (.bl a) (.bl b) P = .ok (!decide (a = b)) P := fun _ _ => rfl
    have c3 : ∀ a b : Int, cmpD .NotEq (.int a) (.int b) P = .ok (!decide (a = b)) P := fun _ _ => rfl
    have c4 : ∀ a b : Str, cmpD .NotEq (.str a) (.str b) P = .ok (!decide (a = b)) P := fun _ _ => rfl
    simp only [c1, c2, c3, c4, truD, isiD, bltD, ixD, seqOf, asg, asgs, i0, i1, i2, hl, tb, beq_self_eq_true, Int.cast_ofNat_Int, List.getElem?_cons_zero, List.getElem?_cons_succ, List.set_cons_zero, List.set_cons_succ, List.length_cons, List.length_nil, Nat.zero_add, Nat.reduceAdd, z3, D.blw, if_true, decide_true, R.bind_ok, R.thenS_ok, R.ofO_some, Option.map_some, Bool.not_true, Bool.not_false, Bool.false_eq_true, if_false, gc_bl, e1, e2, e4, e6, e7, e10, e11, m5, m8, is_true, is_false]
end K79
end

section
namespace K79
open PySem Ev
theorem lawOk : LawOk fns 30 49 := by
  intro ns hn
  obtain ⟨ms, _, _, h1⟩ := num_body (mix_call (fns := fns) (iM := 42) (n := 27) rfl) ns hn
  have e1 : callD fns 29 43 [.ilst (ns.map .int)] [] = .ok (.loc 0) [.lst (ms.map .int)] := by
    rw [callD, show fns[43]? = some (numFn 42) from rfl]
    exact (if_pos (show [D.ilst (ns.map .int)].length = (numFn 42).npar from rfl)).trans h1
  obtain ⟨a, b, c, d, m1, e2⟩ := rule_ok (n := 27) ms
  obtain ⟨a', b', c', d', m2, e3⟩ := rule_ok (n := 27) m1
  have q1 : evS (callD fns 29) WF (.set 1 (.call 43 [(.var 0)])) [some (.ilst (ns.map .int)), none, none, none, none, none, none, none, none] [] = some (.nx [some (.ilst (ns.map .int)), some (.loc 0), none, none, none, none, none, none, none], [.lst (ms.map .int)]) :=
    evS_set (by rw [evE, ev_cons (ev_var rfl) ev_nil, R.bind_ok, e1])
  have q2 : evS (callD fns 29) WF (.set 2 (.call 45 [(.var 1)])) [some (.ilst (ns.map .int)), some (.loc 0), none, none, none, none, none, none, none] [.lst (ms.map .int)] = some (.nx [some (.ilst (ns.map .int)), some (.loc 0), some (rl a b c d), none, none, none, none, none, none], [.lst (m1.map .int)]) :=
    evS_set (by rw [evE, ev_cons (ev_var rfl) ev_nil, R.bind_ok, e2])
  have q3 : evS (callD fns 29) WF (.set 3 (.call 45 [(.var 1)])) [some (.ilst (ns.map .int)), some (.loc 0), some (rl a b c d), none, none, none, none, none, none] [.lst (m1.map .int)] = some (.nx [some (.ilst (ns.map .int)), some (.loc 0), some (rl a b c d), some (rl a' b' c' d'), none, none, none, none, none], [.lst (m2.map .int)]) :=
    evS_set (by rw [evE, ev_cons (ev_var rfl) ev_nil, R.bind_ok, e3])
  have q4 := tail_ok _ _ (good_all a b c d a' b' c' d') (some (.ilst (ns.map .int))) (some (.loc 0)) [.lst (m2.map .int)]
  have q : evSs (callD fns 29) WF fn_law.body [some (.ilst (ns.map .int)), none, none, none, none, none, none, none, none] [] = some (.ret (.bl true), [.lst (m2.map .int)]) :=
    (evSs_nx q1).trans ((evSs_nx q2).trans ((evSs_nx q3).trans q4))
  exact ⟨_, (call_ret (fn := fn_law) rfl rfl q).trans (gcAfter_app (S := []) rfl)⟩
end K79
end

section
namespace K79
open PySem PySem.Spec PyProof.Rows L2 Ev
def topS (i : Nat) : Stmt := PySem.Challenge.pw_sawwhen_k79_whole_parting_cases.main.body.getD i (.Pass ⟨0, 0, 0, 0⟩)
abbrev d_is_number : DefT := ⟨"is_number", topS 13, ["thing", "low", "high"], ["thing", "low", "high"]⟩
abbrev d_is_who : DefT := ⟨"is_who", topS 14, ["thing", "people"], ["thing", "people"]⟩
abbrev d_is_tree : DefT := ⟨"is_tree", topS 15, ["thing", "parent", "folder", "turn"], ["thing"]⟩
abbrev d_are_marks : DefT := ⟨"are_marks", topS 16, ["thing", "count", "mark"], ["thing", "count"]⟩
abbrev d_is_entry : DefT := ⟨"is_entry", topS 17, ["thing", "people", "folders"], ["thing", "people", "folders"]⟩
abbrev d_are_entries : DefT := ⟨"are_entries", topS 18, ["thing", "people", "folders", "entry", "k"], ["thing", "people", "folders"]⟩
abbrev d_groups_of : DefT := ⟨"groups_of", topS 19, ["members", "who", "deep", "groups", "waiting", "inner", "group"], ["members", "who", "deep"]⟩
abbrev d_is_ring : DefT := ⟨"is_ring", topS 20, ["members", "group"], ["members"]⟩
abbrev d_are_members : DefT := ⟨"are_members", topS 21, ["thing", "people", "member", "k"], ["thing", "people"]⟩
abbrev d_is_house : DefT := ⟨"is_house", topS 22, ["thing", "folders", "people", "parents", "shut", "entries", "members"], ["thing"]⟩
abbrev d_is_rule : DefT := ⟨"is_rule", topS 23, ["thing", "first", "moving", "known", "deep"], ["thing"]⟩
abbrev d_are_logins : DefT := ⟨"are_logins", topS 24, ["thing", "people", "groups", "group", "k"], ["thing", "people"]⟩
abbrev d_is_state : DefT := ⟨"is_state", topS 25, ["house", "thing"], ["house", "thing"]⟩
abbrev d_need_house : DefT := ⟨"need_house", topS 26, ["house"], ["house"]⟩
abbrev d_need_rule : DefT := ⟨"need_rule", topS 27, ["rule"], ["rule"]⟩
abbrev d_need_state : DefT := ⟨"need_state", topS 28, ["house", "rule", "state"], ["house", "rule", "state"]⟩
abbrev d_need_person : DefT := ⟨"need_person", topS 29, ["house", "person"], ["house", "person"]⟩
abbrev d_need_folder : DefT := ⟨"need_folder", topS 30, ["house", "folder"], ["house", "folder"]⟩
abbrev d_start_of : DefT := ⟨"start_of", topS 31, ["house", "rule", "logins", "people", "parents", "shut", "entries", "members", "person"], ["house", "rule"]⟩
abbrev d_first_state : DefT := ⟨"first_state", topS 32, ["house", "rule"], ["house", "rule"]⟩
abbrev d_way_of : DefT := ⟨"way_of", topS 33, ["state", "folder", "way"], ["state", "folder"]⟩
abbrev d_counted_groups : DefT := ⟨"counted_groups", topS 34, ["rule", "state", "person"], ["rule", "state", "person"]⟩
abbrev d_deciding : DefT := ⟨"deciding", topS 35, ["rule", "state", "person", "folder", "groups", "whos", "counted", "place", "bars", "entry", "group"], ["rule", "state", "person", "folder"]⟩
abbrev d_sight : DefT := ⟨"sight", topS 36, ["rule", "state", "person", "folder", "entries"], ["rule", "state", "person", "folder"]⟩
abbrev d_sees : DefT := ⟨"sees", topS 37, ["house", "rule", "state", "person", "folder"], ["house", "rule", "state", "person", "folder"]⟩
abbrev d_is_deed : DefT := ⟨"is_deed", topS 39, ["house", "thing", "word", "last"], ["house", "thing"]⟩
abbrev d_is_look : DefT := ⟨"is_look", topS 40, ["house", "thing"], ["house", "thing"]⟩
abbrev d_put_entry : DefT := ⟨"put_entry", topS 41, ["entries", "deed", "rest", "word", "folder", "who", "entry"], ["entries", "deed"]⟩
abbrev d_put_member : DefT := ⟨"put_member", topS 42, ["members", "deed", "rest", "joined", "word", "group", "who", "member"], ["members", "deed"]⟩
abbrev d_lies_in : DefT := ⟨"lies_in", topS 43, ["parents", "folder", "outer"], ["parents", "folder", "outer"]⟩
abbrev d_put_folder : DefT := ⟨"put_folder", topS 44, ["rule", "state", "deed", "parents", "folder", "parent", "shut", "entries", "members", "logins", "entry"], ["rule", "state", "deed"]⟩
abbrev d_state_after : DefT := ⟨"state_after", topS 45, ["rule", "state", "deed", "word", "at", "parents", "shut", "entries", "members", "logins"], ["rule", "state", "deed"]⟩
abbrev d_after_deed : DefT := ⟨"after_deed", topS 46, ["house", "rule", "state", "deed"], ["house", "rule", "state", "deed"]⟩
abbrev d_is_event : DefT := ⟨"is_event", topS 50, ["house", "thing", "what", "early", "late"], ["house", "thing"]⟩
abbrev d_is_case : DefT := ⟨"is_case", topS 51, ["thing", "house", "rule", "events", "event"], ["thing"]⟩
abbrev d_is_within : DefT := ⟨"is_within", topS 53, ["rule", "other"], ["rule", "other"]⟩
abbrev d_rule_within : DefT := ⟨"rule_within", topS 54, ["rule", "other"], ["rule", "other"]⟩
abbrev d_parted_by_moves : DefT := ⟨"parted_by_moves", topS 55, ["rule", "entries", "house"], ["rule"]⟩
abbrev d_parted_by_logins : DefT := ⟨"parted_by_logins", topS 56, ["rule", "members", "word", "house"], ["rule"]⟩
abbrev d_parted_by_depth : DefT := ⟨"parted_by_depth", topS 57, ["rule", "entries", "house"], ["rule"]⟩
abbrev d_parted_by_nearness : DefT := ⟨"parted_by_nearness", topS 58, ["rule", "entries"], ["rule"]⟩
abbrev d_parting_case : DefT := ⟨"parting_case", topS 59, ["rule", "other"], ["rule", "other"]⟩
abbrev d_law_mix : DefT := ⟨"_law_mix", topS 61, ["_law_seed", "_law_k", "_law_one", "_law_two"], ["_law_seed", "_law_k"]⟩
abbrev d_law_numbers : DefT := ⟨"_law_numbers", topS 62, ["_law_script", "_law_numbers_here", "_law_seed", "_law_cell", "_law_k", "_law_rest"], ["_law_script"]⟩
abbrev d_law_take : DefT := ⟨"_law_take", topS 63, ["_law_draws", "_law_limit"], ["_law_draws", "_law_limit"]⟩
abbrev d_law_rule : DefT := ⟨"_law_rule", topS 64, ["_law_draws", "_law_first", "_law_moving", "_law_known"], ["_law_draws"]⟩
abbrev d_law_is_order : DefT := ⟨"_law_is_order", topS 65, ["_law_case", "_law_thing", "_law_events", "_law_number", "_law_k", "_law_later"], ["_law_case", "_law_thing"]⟩
abbrev d_law_is : DefT := ⟨"_law_is", topS 66, ["_law_thing", "_law_due"], ["_law_thing", "_law_due"]⟩
abbrev d_law_saw : DefT := ⟨"_law_saw", topS 67, ["_law_case", "_law_rule_here", "_law_order", "_law_number", "_law_house", "_law_state", "_law_one", "_law_what"], ["_law_case", "_law_rule_here", "_law_order", "_law_number"]⟩
abbrev d_law : DefT := ⟨"law", topS 68, ["_law_script", "_law_draws", "_law_rule_here", "_law_other", "_law_found", "_law_within", "_law_case", "_law_order", "_law_number"], ["_law_script"]⟩
def cons : List (Str × D) := [("GROUPS", .int 3), ("MOST_PEOPLE", .int 4), ("MOST_PARENTS", .int 5), ("MOST_ENTRIES", .int 12), ("MOST_EVENTS", .int 8), ("LAST_MOMENT", .int 99)]
def defs : List DefT := [d_is_number, d_is_who, d_is_tree, d_are_marks, d_is_entry, d_are_entries, d_groups_of, d_is_ring, d_are_members, d_is_house, d_is_rule, d_are_logins, d_is_state, d_need_house, d_need_rule, d_need_state, d_need_person, d_need_folder, d_start_of, d_first_state, d_way_of, d_counted_groups, d_deciding, d_sight, d_sees, d_is_deed, d_is_look, d_put_entry, d_put_member, d_lies_in, d_put_folder, d_state_after, d_after_deed, d_is_event, d_is_case, d_is_within, d_rule_within, d_parted_by_moves, d_parted_by_logins, d_parted_by_depth, d_parted_by_nearness, d_parting_case, d_law_mix, d_law_numbers, d_law_take, d_law_rule, d_law_is_order, d_law_is, d_law_saw, d_law]
def prog : Prog := ⟨defs, cons, fns⟩
theorem c_is_number : cDef (defs.map (·.name)) cons d_is_number = some fn_is_number := by kernel_rfl
theorem c_is_who : cDef (defs.map (·.name)) cons d_is_who = some fn_is_who := by kernel_rfl
theorem c_is_tree : cDef (defs.map (·.name)) cons d_is_tree = some fn_is_tree := by kernel_rfl
theorem c_are_marks : cDef (defs.map (·.name)) cons d_are_marks = some fn_are_marks := by kernel_rfl
theorem c_is_entry : cDef (defs.map (·.name)) cons d_is_entry = some fn_is_entry := by kernel_rfl
theorem c_are_entries : cDef (defs.map (·.name)) cons d_are_entries = some fn_are_entries := by kernel_rfl
theorem c_groups_of : cDef (defs.map (·.name)) cons d_groups_of = some fn_groups_of := by kernel_rfl
theorem c_is_ring : cDef (defs.map (·.name)) cons d_is_ring = some fn_is_ring := by kernel_rfl
theorem c_are_members : cDef (defs.map (·.name)) cons d_are_members = some fn_are_members := by kernel_rfl
theorem c_is_house : cDef (defs.map (·.name)) cons d_is_house = some fn_is_house := by kernel_rfl
theorem c_is_rule : cDef (defs.map (·.name)) cons d_is_rule = some fn_is_rule := by kernel_rfl
theorem c_are_logins : cDef (defs.map (·.name)) cons d_are_logins = some fn_are_logins := by kernel_rfl
theorem c_is_state : cDef (defs.map (·.name)) cons d_is_state = some fn_is_state := by kernel_rfl
theorem c_need_house : cDef (defs.map (·.name)) cons d_need_house = some fn_need_house := by kernel_rfl
theorem c_need_rule : cDef (defs.map (·.name)) cons d_need_rule = some fn_need_rule := by kernel_rfl
theorem c_need_state : cDef (defs.map (·.name)) cons d_need_state = some fn_need_state := by kernel_rfl
theorem c_need_person : cDef (defs.map (·.name)) cons d_need_person = some fn_need_person := by kernel_rfl
theorem c_need_folder : cDef (defs.map (·.name)) cons d_need_folder = some fn_need_folder := by kernel_rfl
theorem c_start_of : cDef (defs.map (·.name)) cons d_start_of = some fn_start_of := by kernel_rfl
theorem c_first_state : cDef (defs.map (·.name)) cons d_first_state = some fn_first_state := by kernel_rfl
theorem c_way_of : cDef (defs.map (·.name)) cons d_way_of = some fn_way_of := by kernel_rfl
theorem c_counted_groups : cDef (defs.map (·.name)) cons d_counted_groups = some fn_counted_groups := by kernel_rfl
theorem c_deciding : cDef (defs.map (·.name)) cons d_deciding = some fn_deciding := by kernel_rfl
theorem c_sight : cDef (defs.map (·.name)) cons d_sight = some fn_sight := by kernel_rfl
theorem c_sees : cDef (defs.map (·.name)) cons d_sees = some fn_sees := by kernel_rfl
theorem c_is_deed : cDef (defs.map (·.name)) cons d_is_deed = some fn_is_deed := by kernel_rfl
theorem c_is_look : cDef (defs.map (·.name)) cons d_is_look = some fn_is_look := by kernel_rfl
theorem c_put_entry : cDef (defs.map (·.name)) cons d_put_entry = some fn_put_entry := by kernel_rfl
theorem c_put_member : cDef (defs.map (·.name)) cons d_put_member = some fn_put_member := by kernel_rfl
theorem c_lies_in : cDef (defs.map (·.name)) cons d_lies_in = some fn_lies_in := by kernel_rfl
theorem c_put_folder : cDef (defs.map (·.name)) cons d_put_folder = some fn_put_folder := by kernel_rfl
theorem c_state_after : cDef (defs.map (·.name)) cons d_state_after = some fn_state_after := by kernel_rfl
theorem c_after_deed : cDef (defs.map (·.name)) cons d_after_deed = some fn_after_deed := by kernel_rfl
theorem c_is_event : cDef (defs.map (·.name)) cons d_is_event = some fn_is_event := by kernel_rfl
theorem c_is_case : cDef (defs.map (·.name)) cons d_is_case = some fn_is_case := by kernel_rfl
theorem c_is_within : cDef (defs.map (·.name)) cons d_is_within = some fn_is_within := by kernel_rfl
theorem c_rule_within : cDef (defs.map (·.name)) cons d_rule_within = some fn_rule_within := by kernel_rfl
theorem c_parted_by_moves : cDef (defs.map (·.name)) cons d_parted_by_moves = some fn_parted_by_moves := by kernel_rfl
theorem c_parted_by_logins : cDef (defs.map (·.name)) cons d_parted_by_logins = some fn_parted_by_logins := by kernel_rfl
theorem c_parted_by_depth : cDef (defs.map (·.name)) cons d_parted_by_depth = some fn_parted_by_depth := by kernel_rfl
theorem c_parted_by_nearness : cDef (defs.map (·.name)) cons d_parted_by_nearness = some fn_parted_by_nearness := by kernel_rfl
theorem c_parting_case : cDef (defs.map (·.name)) cons d_parting_case = some fn_parting_case := by kernel_rfl
theorem c_law_mix : cDef (defs.map (·.name)) cons d_law_mix = some fn_law_mix := by kernel_rfl
theorem c_law_numbers : cDef (defs.map (·.name)) cons d_law_numbers = some fn_law_numbers := by kernel_rfl
theorem c_law_take : cDef (defs.map (·.name)) cons d_law_take = some fn_law_take := by kernel_rfl
theorem c_law_rule : cDef (defs.map (·.name)) cons d_law_rule = some fn_law_rule := by kernel_rfl
theorem c_law_is_order : cDef (defs.map (·.name)) cons d_law_is_order = some fn_law_is_order := by kernel_rfl
theorem c_law_is : cDef (defs.map (·.name)) cons d_law_is = some fn_law_is := by kernel_rfl
theorem c_law_saw : cDef (defs.map (·.name)) cons d_law_saw = some fn_law_saw := by kernel_rfl
theorem c_law : cDef (defs.map (·.name)) cons d_law = some fn_law := by kernel_rfl
theorem prog_ok : prog.ok := by
  intro i d h
  match i, h with
  | 0, h => cases h; exact ⟨_, rfl, c_is_number⟩
  | 1, h => cases h; exact ⟨_, rfl, c_is_who⟩
  | 2, h => cases h; exact ⟨_, rfl, c_is_tree⟩
  | 3, h => cases h; exact ⟨_, rfl, c_are_marks⟩
  | 4, h => cases h; exact ⟨_, rfl, c_is_entry⟩
  | 5, h => cases h; exact ⟨_, rfl, c_are_entries⟩
  | 6, h => cases h; exact ⟨_, rfl, c_groups_of⟩
  | 7, h => cases h; exact ⟨_, rfl, c_is_ring⟩
  | 8, h => cases h; exact ⟨_, rfl, c_are_members⟩
  | 9, h => cases h; exact ⟨_, rfl, c_is_house⟩
  | 10, h => cases h; exact ⟨_, rfl, c_is_rule⟩
  | 11, h => cases h; exact ⟨_, rfl, c_are_logins⟩
  | 12, h => cases h; exact ⟨_, rfl, c_is_state⟩
  | 13, h => cases h; exact ⟨_, rfl, c_need_house⟩
  | 14, h => cases h; exact ⟨_, rfl, c_need_rule⟩
  | 15, h => cases h; exact ⟨_, rfl, c_need_state⟩
  | 16, h => cases h; exact ⟨_, rfl, c_need_person⟩
  | 17, h => cases h; exact ⟨_, rfl, c_need_folder⟩
  | 18, h => cases h; exact ⟨_, rfl, c_start_of⟩
  | 19, h => cases h; exact ⟨_, rfl, c_first_state⟩
  | 20, h => cases h; exact ⟨_, rfl, c_way_of⟩
  | 21, h => cases h; exact ⟨_, rfl, c_counted_groups⟩
  | 22, h => cases h; exact ⟨_, rfl, c_deciding⟩
  | 23, h => cases h; exact ⟨_, rfl, c_sight⟩
  | 24, h => cases h; exact ⟨_, rfl, c_sees⟩
  | 25, h => cases h; exact ⟨_, rfl, c_is_deed⟩
  | 26, h => cases h; exact ⟨_, rfl, c_is_look⟩
  | 27, h => cases h; exact ⟨_, rfl, c_put_entry⟩
  | 28, h => cases h; exact ⟨_, rfl, c_put_member⟩
  | 29, h => cases h; exact ⟨_, rfl, c_lies_in⟩
  | 30, h => cases h; exact ⟨_, rfl, c_put_folder⟩
  | 31, h => cases h; exact ⟨_, rfl, c_state_after⟩
  | 32, h => cases h; exact ⟨_, rfl, c_after_deed⟩
  | 33, h => cases h; exact ⟨_, rfl, c_is_event⟩
  | 34, h => cases h; exact ⟨_, rfl, c_is_case⟩
  | 35, h => cases h; exact ⟨_, rfl, c_is_within⟩
  | 36, h => cases h; exact ⟨_, rfl, c_rule_within⟩
  | 37, h => cases h; exact ⟨_, rfl, c_parted_by_moves⟩
  | 38, h => cases h; exact ⟨_, rfl, c_parted_by_logins⟩
  | 39, h => cases h; exact ⟨_, rfl, c_parted_by_depth⟩
  | 40, h => cases h; exact ⟨_, rfl, c_parted_by_nearness⟩
  | 41, h => cases h; exact ⟨_, rfl, c_parting_case⟩
  | 42, h => cases h; exact ⟨_, rfl, c_law_mix⟩
  | 43, h => cases h; exact ⟨_, rfl, c_law_numbers⟩
  | 44, h => cases h; exact ⟨_, rfl, c_law_take⟩
  | 45, h => cases h; exact ⟨_, rfl, c_law_rule⟩
  | 46, h => cases h; exact ⟨_, rfl, c_law_is_order⟩
  | 47, h => cases h; exact ⟨_, rfl, c_law_is⟩
  | 48, h => cases h; exact ⟨_, rfl, c_law_saw⟩
  | 49, h => cases h; exact ⟨_, rfl, c_law⟩
  | i + 50, h => simp [prog, defs] at h
theorem s_is_number : FnScope d_is_number.N d_is_number.ps (defScope d_is_number.st) := ⟨rfl, rfl, rfl, by decide +kernel, rfl, by decide +kernel, by decide +kernel⟩
theorem s_is_who : FnScope d_is_who.N d_is_who.ps (defScope d_is_who.st) := ⟨rfl, rfl, rfl, by decide +kernel, rfl, by decide +kernel, by decide +kernel⟩
theorem s_is_tree : FnScope d_is_tree.N d_is_tree.ps (defScope d_is_tree.st) := ⟨rfl, rfl, rfl, by decide +kernel, rfl, by decide +kernel, by decide +kernel⟩
theorem s_are_marks : FnScope d_are_marks.N d_are_marks.ps (defScope d_are_marks.st) := ⟨rfl, rfl, rfl, by decide +kernel, rfl, by decide +kernel, by decide +kernel⟩
theorem s_is_entry : FnScope d_is_entry.N d_is_entry.ps (defScope d_is_entry.st) := ⟨rfl, rfl, rfl, by decide +kernel, rfl, by decide +kernel, by decide +kernel⟩
theorem s_are_entries : FnScope d_are_entries.N d_are_entries.ps (defScope d_are_entries.st) := ⟨rfl, rfl, rfl, by decide +kernel, rfl, by decide +kernel, by decide +kernel⟩
theorem s_groups_of : FnScope d_groups_of.N d_groups_of.ps (defScope d_groups_of.st) := ⟨rfl, rfl, rfl, by decide +kernel, rfl, by decide +kernel, by decide +kernel⟩
theorem s_is_ring : FnScope d_is_ring.N d_is_ring.ps (defScope d_is_ring.st) := ⟨rfl, rfl, rfl, by decide +kernel, rfl, by decide +kernel, by decide +kernel⟩
theorem s_are_members : FnScope d_are_members.N d_are_members.ps (defScope d_are_members.st) := ⟨rfl, rfl, rfl, by decide +kernel, rfl, by decide +kernel, by decide +kernel⟩
theorem s_is_house : FnScope d_is_house.N d_is_house.ps (defScope d_is_house.st) := ⟨rfl, rfl, rfl, by decide +kernel, rfl, by decide +kernel, by decide +kernel⟩
theorem s_is_rule : FnScope d_is_rule.N d_is_rule.ps (defScope d_is_rule.st) := ⟨rfl, rfl, rfl, by decide +kernel, rfl, by decide +kernel, by decide +kernel⟩
theorem s_are_logins : FnScope d_are_logins.N d_are_logins.ps (defScope d_are_logins.st) := ⟨rfl, rfl, rfl, by decide +kernel, rfl, by decide +kernel, by decide +kernel⟩
theorem s_is_state : FnScope d_is_state.N d_is_state.ps (defScope d_is_state.st) := ⟨rfl, rfl, rfl, by decide +kernel, rfl, by decide +kernel, by decide +kernel⟩
theorem s_need_house : FnScope d_need_house.N d_need_house.ps (defScope d_need_house.st) := ⟨rfl, rfl, rfl, by decide +kernel, rfl, by decide +kernel, by decide +kernel⟩
theorem s_need_rule : FnScope d_need_rule.N d_need_rule.ps (defScope d_need_rule.st) := ⟨rfl, rfl, rfl, by decide +kernel, rfl, by decide +kernel, by decide +kernel⟩
theorem s_need_state : FnScope d_need_state.N d_need_state.ps (defScope d_need_state.st) := ⟨rfl, rfl, rfl, by decide +kernel, rfl, by decide +kernel, by decide +kernel⟩
theorem s_need_person : FnScope d_need_person.N d_need_person.ps (defScope d_need_person.st) := ⟨rfl, rfl, rfl, by decide +kernel, rfl, by decide +kernel, by decide +kernel⟩
theorem s_need_folder : FnScope d_need_folder.N d_need_folder.ps (defScope d_need_folder.st) := ⟨rfl, rfl, rfl, by decide +kernel, rfl, by decide +kernel, by decide +kernel⟩
theorem s_start_of : FnScope d_start_of.N d_start_of.ps (defScope d_start_of.st) := ⟨rfl, rfl, rfl, by decide +kernel, rfl, by decide +kernel, by decide +kernel⟩
theorem s_first_state : FnScope d_first_state.N d_first_state.ps (defScope d_first_state.st) := ⟨rfl, rfl, rfl, by decide +kernel, rfl, by decide +kernel, by decide +kernel⟩
theorem s_way_of : FnScope d_way_of.N d_way_of.ps (defScope d_way_of.st) := ⟨rfl, rfl, rfl, by decide +kernel, rfl, by decide +kernel, by decide +kernel⟩
theorem s_counted_groups : FnScope d_counted_groups.N d_counted_groups.ps (defScope d_counted_groups.st) := ⟨rfl, rfl, rfl, by decide +kernel, rfl, by decide +kernel, by decide +kernel⟩
theorem s_deciding : FnScope d_deciding.N d_deciding.ps (defScope d_deciding.st) := ⟨rfl, rfl, rfl, by decide +kernel, rfl, by decide +kernel, by decide +kernel⟩
theorem s_sight : FnScope d_sight.N d_sight.ps (defScope d_sight.st) := ⟨rfl, rfl, rfl, by decide +kernel, rfl, by decide +kernel, by decide +kernel⟩
theorem s_sees : FnScope d_sees.N d_sees.ps (defScope d_sees.st) := ⟨rfl, rfl, rfl, by decide +kernel, rfl, by decide +kernel, by decide +kernel⟩
theorem s_is_deed : FnScope d_is_deed.N d_is_deed.ps (defScope d_is_deed.st) := ⟨rfl, rfl, rfl, by decide +kernel, rfl, by decide +kernel, by decide +kernel⟩
theorem s_is_look : FnScope d_is_look.N d_is_look.ps (defScope d_is_look.st) := ⟨rfl, rfl, rfl, by decide +kernel, rfl, by decide +kernel, by decide +kernel⟩
theorem s_put_entry : FnScope d_put_entry.N d_put_entry.ps (defScope d_put_entry.st) := ⟨rfl, rfl, rfl, by decide +kernel, rfl, by decide +kernel, by decide +kernel⟩
theorem s_put_member : FnScope d_put_member.N d_put_member.ps (defScope d_put_member.st) := ⟨rfl, rfl, rfl, by decide +kernel, rfl, by decide +kernel, by decide +kernel⟩
theorem s_lies_in : FnScope d_lies_in.N d_lies_in.ps (defScope d_lies_in.st) := ⟨rfl, rfl, rfl, by decide +kernel, rfl, by decide +kernel, by decide +kernel⟩
theorem s_put_folder : FnScope d_put_folder.N d_put_folder.ps (defScope d_put_folder.st) := ⟨rfl, rfl, rfl, by decide +kernel, rfl, by decide +kernel, by decide +kernel⟩
theorem s_state_after : FnScope d_state_after.N d_state_after.ps (defScope d_state_after.st) := ⟨rfl, rfl, rfl, by decide +kernel, rfl, by decide +kernel, by decide +kernel⟩
theorem s_after_deed : FnScope d_after_deed.N d_after_deed.ps (defScope d_after_deed.st) := ⟨rfl, rfl, rfl, by decide +kernel, rfl, by decide +kernel, by decide +kernel⟩
theorem s_is_event : FnScope d_is_event.N d_is_event.ps (defScope d_is_event.st) := ⟨rfl, rfl, rfl, by decide +kernel, rfl, by decide +kernel, by decide +kernel⟩
theorem s_is_case : FnScope d_is_case.N d_is_case.ps (defScope d_is_case.st) := ⟨rfl, rfl, rfl, by decide +kernel, rfl, by decide +kernel, by decide +kernel⟩
theorem s_is_within : FnScope d_is_within.N d_is_within.ps (defScope d_is_within.st) := ⟨rfl, rfl, rfl, by decide +kernel, rfl, by decide +kernel, by decide +kernel⟩
theorem s_rule_within : FnScope d_rule_within.N d_rule_within.ps (defScope d_rule_within.st) := ⟨rfl, rfl, rfl, by decide +kernel, rfl, by decide +kernel, by decide +kernel⟩
theorem s_parted_by_moves : FnScope d_parted_by_moves.N d_parted_by_moves.ps (defScope d_parted_by_moves.st) := ⟨rfl, rfl, rfl, by decide +kernel, rfl, by decide +kernel, by decide +kernel⟩
theorem s_parted_by_logins : FnScope d_parted_by_logins.N d_parted_by_logins.ps (defScope d_parted_by_logins.st) := ⟨rfl, rfl, rfl, by decide +kernel, rfl, by decide +kernel, by decide +kernel⟩
theorem s_parted_by_depth : FnScope d_parted_by_depth.N d_parted_by_depth.ps (defScope d_parted_by_depth.st) := ⟨rfl, rfl, rfl, by decide +kernel, rfl, by decide +kernel, by decide +kernel⟩
theorem s_parted_by_nearness : FnScope d_parted_by_nearness.N d_parted_by_nearness.ps (defScope d_parted_by_nearness.st) := ⟨rfl, rfl, rfl, by decide +kernel, rfl, by decide +kernel, by decide +kernel⟩
theorem s_parting_case : FnScope d_parting_case.N d_parting_case.ps (defScope d_parting_case.st) := ⟨rfl, rfl, rfl, by decide +kernel, rfl, by decide +kernel, by decide +kernel⟩
theorem s_law_mix : FnScope d_law_mix.N d_law_mix.ps (defScope d_law_mix.st) := ⟨rfl, rfl, rfl, by decide +kernel, rfl, by decide +kernel, by decide +kernel⟩
theorem s_law_numbers : FnScope d_law_numbers.N d_law_numbers.ps (defScope d_law_numbers.st) := ⟨rfl, rfl, rfl, by decide +kernel, rfl, by decide +kernel, by decide +kernel⟩
theorem s_law_take : FnScope d_law_take.N d_law_take.ps (defScope d_law_take.st) := ⟨rfl, rfl, rfl, by decide +kernel, rfl, by decide +kernel, by decide +kernel⟩
theorem s_law_rule : FnScope d_law_rule.N d_law_rule.ps (defScope d_law_rule.st) := ⟨rfl, rfl, rfl, by decide +kernel, rfl, by decide +kernel, by decide +kernel⟩
theorem s_law_is_order : FnScope d_law_is_order.N d_law_is_order.ps (defScope d_law_is_order.st) := ⟨rfl, rfl, rfl, by decide +kernel, rfl, by decide +kernel, by decide +kernel⟩
theorem s_law_is : FnScope d_law_is.N d_law_is.ps (defScope d_law_is.st) := ⟨rfl, rfl, rfl, by decide +kernel, rfl, by decide +kernel, by decide +kernel⟩
theorem s_law_saw : FnScope d_law_saw.N d_law_saw.ps (defScope d_law_saw.st) := ⟨rfl, rfl, rfl, by decide +kernel, rfl, by decide +kernel, by decide +kernel⟩
theorem s_law : FnScope d_law.N d_law.ps (defScope d_law.st) := ⟨rfl, rfl, rfl, by decide +kernel, rfl, by decide +kernel, by decide +kernel⟩
theorem all_mk {w : World} {K : PySem.W.Frag} {mg : Str → Option Value} {fa : Addr} {h : Heap} (KX : K.In h) (G : h.Ns mainGlobals mg) (hmg : mg "law" = some (.ref fa)) (D_is_number : ∃ f fd, DefOk K mg d_is_number f fd) (D_is_who : ∃ f fd, DefOk K mg d_is_who f fd) (D_is_tree : ∃ f fd, DefOk K mg d_is_tree f fd) (D_are_marks : ∃ f fd, DefOk K mg d_are_marks f fd) (D_is_entry : ∃ f fd, DefOk K mg d_is_entry f fd) (D_are_entries : ∃ f fd, DefOk K mg d_are_entries f fd) (D_groups_of : ∃ f fd, DefOk K mg d_groups_of f fd) (D_is_ring : ∃ f fd, DefOk K mg d_is_ring f fd) (D_are_members : ∃ f fd, DefOk K mg d_are_members f fd) (D_is_house : ∃ f fd, DefOk K mg d_is_house f fd) (D_is_rule : ∃ f fd, DefOk K mg d_is_rule f fd) (D_are_logins : ∃ f fd, DefOk K mg d_are_logins f fd) (D_is_state : ∃ f fd, DefOk K mg d_is_state f fd) (D_need_house : ∃ f fd, DefOk K mg d_need_house f fd) (D_need_rule : ∃ f fd, DefOk K mg d_need_rule f fd) (D_need_state : ∃ f fd, DefOk K mg d_need_state f fd) (D_need_person : ∃ f fd, DefOk K mg d_need_person f fd) (D_need_folder : ∃ f fd, DefOk K mg d_need_folder f fd) (D_start_of : ∃ f fd, DefOk K mg d_start_of f fd) (D_first_state : ∃ f fd, DefOk K mg d_first_state f fd) (D_way_of : ∃ f fd, DefOk K mg d_way_of f fd) (D_counted_groups : ∃ f fd, DefOk K mg d_counted_groups f fd) (D_deciding : ∃ f fd, DefOk K mg d_deciding f fd) (D_sight : ∃ f fd, DefOk K mg d_sight f fd) (D_sees : ∃ f fd, DefOk K mg d_sees f fd) (D_is_deed : ∃ f fd, DefOk K mg d_is_deed f fd) (D_is_look : ∃ f fd, DefOk K mg d_is_look f fd) (D_put_entry : ∃ f fd, DefOk K mg d_put_entry f fd) (D_put_member : ∃ f fd, DefOk K mg d_put_member f fd) (D_lies_in : ∃ f fd, DefOk K mg d_lies_in f fd) (D_put_folder : ∃ f fd, DefOk K mg d_put_folder f fd) (D_state_after : ∃ f fd, DefOk K mg d_state_after f fd) (D_after_deed : ∃ f fd, DefOk K mg d_after_deed f fd) (D_is_event : ∃ f fd, DefOk K mg d_is_event f fd) (D_is_case : ∃ f fd, DefOk K mg d_is_case f fd) (D_is_within : ∃ f fd, DefOk K mg d_is_within f fd) (D_rule_within : ∃ f fd, DefOk K mg d_rule_within f fd) (D_parted_by_moves : ∃ f fd, DefOk K mg d_parted_by_moves f fd) (D_parted_by_logins : ∃ f fd, DefOk K mg d_parted_by_logins f fd) (D_parted_by_depth : ∃ f fd, DefOk K mg d_parted_by_depth f fd) (D_parted_by_nearness : ∃ f fd, DefOk K mg d_parted_by_nearness f fd) (D_parting_case : ∃ f fd, DefOk K mg d_parting_case f fd) (D_law_mix : ∃ f fd, DefOk K mg d_law_mix f fd) (D_law_numbers : ∃ f fd, DefOk K mg d_law_numbers f fd) (D_law_take : ∃ f fd, DefOk K mg d_law_take f fd) (D_law_rule : ∃ f fd, DefOk K mg d_law_rule f fd) (D_law_is_order : ∃ f fd, DefOk K mg d_law_is_order f fd) (D_law_is : ∃ f fd, DefOk K mg d_law_is f fd) (D_law_saw : ∃ f fd, DefOk K mg d_law_saw f fd) (D_law : ∃ f fd, DefOk K mg d_law f fd) (z_len : mg "len" = none) (z_int : mg "int" = none) (z_bool : mg "bool" = none) (z_all : mg "all" = none) (z_any : mg "any" = none) (z_tuple : mg "tuple" = none) (z_list : mg "list" = none) (z_sorted : mg "sorted" = none) (z_max : mg "max" = none) (z_min : mg "min" = none) (z_sum : mg "sum" = none) (z_abs : mg "abs" = none) (z_isinstance : mg "isinstance" = none) (z_range : mg "range" = none) (z_str : mg "str" = none) (z_dict : mg "dict" = none) (g_GROUPS : ∃ t, mg "GROUPS" = some (.int 3 t)) (g_MOST_PEOPLE : ∃ t, mg "MOST_PEOPLE" = some (.int 4 t)) (g_MOST_PARENTS : ∃ t, mg "MOST_PARENTS" = some (.int 5 t)) (g_MOST_ENTRIES : ∃ t, mg "MOST_ENTRIES" = some (.int 12 t)) (g_MOST_EVENTS : ∃ t, mg "MOST_EVENTS" = some (.int 8 t)) (g_LAST_MOMENT : ∃ t, mg "LAST_MOMENT" = some (.int 99 t)) :
    ∃ fd : FuncData, (∀ (s : Shared) (u : Value), BindsTo s fd ⟨[u], []⟩ [(("_law_script" : Str), u)]) ∧ ∀ base : Heap, K.In base → base.Ns mainGlobals mg → FnOk PySem.Challenge.rw_sawwhen_k79_whole_parting_cases.prog w K mg base (L2.CX PySem.Challenge.rw_sawwhen_k79_whole_parting_cases.prog w) 30 fa fd [("_law_script" : Str)] (spLaw K) := by
  have B : ∀ x ∈ bltNames, mg x = none := by
    intro x hx
    simp only [bltNames, List.mem_cons, List.not_mem_nil, or_false] at hx
    rcases hx with rfl | rfl | rfl | rfl | rfl | rfl | rfl | rfl | rfl | rfl | rfl | rfl | rfl | rfl | rfl | rfl
    · exact z_len
    · exact z_int
    · exact z_bool
    · exact z_all
    · exact z_any
    · exact z_tuple
    · exact z_list
    · exact z_sorted
    · exact z_max
    · exact z_min
    · exact z_sum
    · exact z_abs
    · exact z_isinstance
    · exact z_range
    · exact z_str
    · exact z_dict
  have CN : ∀ x d, prog.cons.lookup x = some d → ∃ v u, mg x = some u ∧ L2.RelV v u ∧ ∀ H α, VR K H α v d := con_cons g_GROUPS (con_cons g_MOST_PEOPLE (con_cons g_MOST_PARENTS (con_cons g_MOST_ENTRIES (con_cons g_MOST_EVENTS (con_cons g_LAST_MOMENT (con_nil))))))
  have top : TopOk prog K mg := top_mk (by
    intro d hd
    simp only [prog, defs, List.mem_cons, List.not_mem_nil, or_false] at hd
    rcases hd with rfl | rfl | rfl | rfl | rfl | rfl | rfl | rfl | rfl | rfl | rfl | rfl | rfl | rfl | rfl | rfl | rfl | rfl | rfl | rfl | rfl | rfl | rfl | rfl | rfl | rfl | rfl | rfl | rfl | rfl | rfl | rfl | rfl | rfl | rfl | rfl | rfl | rfl | rfl | rfl | rfl | rfl | rfl | rfl | rfl | rfl | rfl | rfl | rfl | rfl
    · exact D_is_number
    · exact D_is_who
    · exact D_is_tree
    · exact D_are_marks
    · exact D_is_entry
    · exact D_are_entries
    · exact D_groups_of
    · exact D_is_ring
    · exact D_are_members
    · exact D_is_house
    · exact D_is_rule
    · exact D_are_logins
    · exact D_is_state
    · exact D_need_house
    · exact D_need_rule
    · exact D_need_state
    · exact D_need_person
    · exact D_need_folder
    · exact D_start_of
    · exact D_first_state
    · exact D_way_of
    · exact D_counted_groups
    · exact D_deciding
    · exact D_sight
    · exact D_sees
    · exact D_is_deed
    · exact D_is_look
    · exact D_put_entry
    · exact D_put_member
    · exact D_lies_in
    · exact D_put_folder
    · exact D_state_after
    · exact D_after_deed
    · exact D_is_event
    · exact D_is_case
    · exact D_is_within
    · exact D_rule_within
    · exact D_parted_by_moves
    · exact D_parted_by_logins
    · exact D_parted_by_depth
    · exact D_parted_by_nearness
    · exact D_parting_case
    · exact D_law_mix
    · exact D_law_numbers
    · exact D_law_take
    · exact D_law_rule
    · exact D_law_is_order
    · exact D_law_is
    · exact D_law_saw
    · exact D_law) B CN
  exact law_fd (l := PySem.Challenge.rw_sawwhen_k79_whole_parting_cases) (i := 49) (d := d_law) prog_ok top rfl rfl rfl hmg lawOk (fun fd f F s u => bind1 F (fun _ _ _ _ _ _ _ => rfl) s u)
end K79
open PySem PySem.W PyProof.Rows Ev K79
set_option maxHeartbeats 0 in
theorem PySem.Challenge.cw_sawwhen_k79_whole_parting_cases_holds : PySem.Challenge.rw_sawwhen_k79_whole_parting_cases.Holds := by
  w_on; o_law; k_head; (case hw => w_witness2)
  k_fill
  refine L2.walk_of (l := PySem.Challenge.rw_sawwhen_k79_whole_parting_cases) (n := 63) (k := 30) (x := "_law_script") (CX := fun w => L2.CX PySem.Challenge.rw_sawwhen_k79_whole_parting_cases.prog w) (sp := fun w => Ev.spLaw _) rfl (by decide) rfl ⟨rfl, by decide, by decide⟩ (fun w h Y => PySem.W.kIn_of Y) ?F (fun _ _ a ns hl hO hS => ⟨a, ns, rfl, hS, hl, hO, fun _ => rfl⟩) (fun w H s e s' h => Ev.no_exc w H s e s' h)
  case F =>
    intro w mg fa h KX G hmg
    refine' all_mk KX G hmg ?D_is_number ?D_is_who ?D_is_tree ?D_are_marks ?D_is_entry ?D_are_entries ?D_groups_of ?D_is_ring ?D_are_members ?D_is_house ?D_is_rule ?D_are_logins ?D_is_state ?D_need_house ?D_need_rule ?D_need_state ?D_need_person ?D_need_folder ?D_start_of ?D_first_state ?D_way_of ?D_counted_groups ?D_deciding ?D_sight ?D_sees ?D_is_deed ?D_is_look ?D_put_entry ?D_put_member ?D_lies_in ?D_put_folder ?D_state_after ?D_after_deed ?D_is_event ?D_is_case ?D_is_within ?D_rule_within ?D_parted_by_moves ?D_parted_by_logins ?D_parted_by_depth ?D_parted_by_nearness ?D_parting_case ?D_law_mix ?D_law_numbers ?D_law_take ?D_law_rule ?D_law_is_order ?D_law_is ?D_law_saw ?D_law ?z_len ?z_int ?z_bool ?z_all ?z_any ?z_tuple ?z_list ?z_sorted ?z_max ?z_min ?z_sum ?z_abs ?z_isinstance ?z_range ?z_str ?z_dict ?g_GROUPS ?g_MOST_PEOPLE ?g_MOST_PARENTS ?g_MOST_ENTRIES ?g_MOST_EVENTS ?g_LAST_MOMENT
    case D_is_number =>
      refine' def_mk KX G ?a ?l ?c ?k s_is_number (fun _ _ _ _ _ _ us hl => match us, hl with | [_, _, _], _ => rfl)
      (case a => k_is); (case l => k_is); (case c => k_is); (case k => k_is)
    case D_is_who =>
      refine' def_mk KX G ?a ?l ?c ?k s_is_who (fun _ _ _ _ _ _ us hl => match us, hl with | [_, _], _ => rfl)
      (case a => k_is); (case l => k_is); (case c => k_is); (case k => k_is)
    case D_is_tree =>
      refine' def_mk KX G ?a ?l ?c ?k s_is_tree (fun _ _ _ _ _ _ us hl => match us, hl with | [_], _ => rfl)
      (case a => k_is); (case l => k_is); (case c => k_is); (case k => k_is)
    case D_are_marks =>
      refine' def_mk KX G ?a ?l ?c ?k s_are_marks (fun _ _ _ _ _ _ us hl => match us, hl with | [_, _], _ => rfl)
      (case a => k_is); (case l => k_is); (case c => k_is); (case k => k_is)
    case D_is_entry =>
      refine' def_mk KX G ?a ?l ?c ?k s_is_entry (fun _ _ _ _ _ _ us hl => match us, hl with | [_, _, _], _ => rfl)
      (case a => k_is); (case l => k_is); (case c => k_is); (case k => k_is)
    case D_are_entries =>
      refine' def_mk KX G ?a ?l ?c ?k s_are_entries (fun _ _ _ _ _ _ us hl => match us, hl with | [_, _, _], _ => rfl)
      (case a => k_is); (case l => k_is); (case c => k_is); (case k => k_is)
    case D_groups_of =>
      refine' def_mk KX G ?a ?l ?c ?k s_groups_of (fun _ _ _ _ _ _ us hl => match us, hl with | [_, _, _], _ => rfl)
      (case a => k_is); (case l => k_is); (case c => k_is); (case k => k_is)
    case D_is_ring =>
      refine' def_mk KX G ?a ?l ?c ?k s_is_ring (fun _ _ _ _ _ _ us hl => match us, hl with | [_], _ => rfl)
      (case a => k_is); (case l => k_is); (case c => k_is); (case k => k_is)
    case D_are_members =>
      refine' def_mk KX G ?a ?l ?c ?k s_are_members (fun _ _ _ _ _ _ us hl => match us, hl with | [_, _], _ => rfl)
      (case a => k_is); (case l => k_is); (case c => k_is); (case k => k_is)
    case D_is_house =>
      refine' def_mk KX G ?a ?l ?c ?k s_is_house (fun _ _ _ _ _ _ us hl => match us, hl with | [_], _ => rfl)
      (case a => k_is); (case l => k_is); (case c => k_is); (case k => k_is)
    case D_is_rule =>
      refine' def_mk KX G ?a ?l ?c ?k s_is_rule (fun _ _ _ _ _ _ us hl => match us, hl with | [_], _ => rfl)
      (case a => k_is); (case l => k_is); (case c => k_is); (case k => k_is)
    case D_are_logins =>
      refine' def_mk KX G ?a ?l ?c ?k s_are_logins (fun _ _ _ _ _ _ us hl => match us, hl with | [_, _], _ => rfl)
      (case a => k_is); (case l => k_is); (case c => k_is); (case k => k_is)
    case D_is_state =>
      refine' def_mk KX G ?a ?l ?c ?k s_is_state (fun _ _ _ _ _ _ us hl => match us, hl with | [_, _], _ => rfl)
      (case a => k_is); (case l => k_is); (case c => k_is); (case k => k_is)
    case D_need_house =>
      refine' def_mk KX G ?a ?l ?c ?k s_need_house (fun _ _ _ _ _ _ us hl => match us, hl with | [_], _ => rfl)
      (case a => k_is); (case l => k_is); (case c => k_is); (case k => k_is)
    case D_need_rule =>
      refine' def_mk KX G ?a ?l ?c ?k s_need_rule (fun _ _ _ _ _ _ us hl => match us, hl with | [_], _ => rfl)
      (case a => k_is); (case l => k_is); (case c => k_is); (case k => k_is)
    case D_need_state =>
      refine' def_mk KX G ?a ?l ?c ?k s_need_state (fun _ _ _ _ _ _ us hl => match us, hl with | [_, _, _], _ => rfl)
      (case a => k_is); (case l => k_is); (case c => k_is); (case k => k_is)
    case D_need_person =>
      refine' def_mk KX G ?a ?l ?c ?k s_need_person (fun _ _ _ _ _ _ us hl => match us, hl with | [_, _], _ => rfl)
      (case a => k_is); (case l => k_is); (case c => k_is); (case k => k_is)
    case D_need_folder =>
      refine' def_mk KX G ?a ?l ?c ?k s_need_folder (fun _ _ _ _ _ _ us hl => match us, hl with | [_, _], _ => rfl)
      (case a => k_is); (case l => k_is); (case c => k_is); (case k => k_is)
    case D_start_of =>
      refine' def_mk KX G ?a ?l ?c ?k s_start_of (fun _ _ _ _ _ _ us hl => match us, hl with | [_, _], _ => rfl)
      (case a => k_is); (case l => k_is); (case c => k_is); (case k => k_is)
    case D_first_state =>
      refine' def_mk KX G ?a ?l ?c ?k s_first_state (fun _ _ _ _ _ _ us hl => match us, hl with | [_, _], _ => rfl)
      (case a => k_is); (case l => k_is); (case c => k_is); (case k => k_is)
    case D_way_of =>
      refine' def_mk KX G ?a ?l ?c ?k s_way_of (fun _ _ _ _ _ _ us hl => match us, hl with | [_, _], _ => rfl)
      (case a => k_is); (case l => k_is); (case c => k_is); (case k => k_is)
    case D_counted_groups =>
      refine' def_mk KX G ?a ?l ?c ?k s_counted_groups (fun _ _ _ _ _ _ us hl => match us, hl with | [_, _, _], _ => rfl)
      (case a => k_is); (case l => k_is); (case c => k_is); (case k => k_is)
    case D_deciding =>
      refine' def_mk KX G ?a ?l ?c ?k s_deciding (fun _ _ _ _ _ _ us hl => match us, hl with | [_, _, _, _], _ => rfl)
      (case a => k_is); (case l => k_is); (case c => k_is); (case k => k_is)
    case D_sight =>
      refine' def_mk KX G ?a ?l ?c ?k s_sight (fun _ _ _ _ _ _ us hl => match us, hl with | [_, _, _, _], _ => rfl)
      (case a => k_is); (case l => k_is); (case c => k_is); (case k => k_is)
    case D_sees =>
      refine' def_mk KX G ?a ?l ?c ?k s_sees (fun _ _ _ _ _ _ us hl => match us, hl with | [_, _, _, _, _], _ => rfl)
      (case a => k_is); (case l => k_is); (case c => k_is); (case k => k_is)
    case D_is_deed =>
      refine' def_mk KX G ?a ?l ?c ?k s_is_deed (fun _ _ _ _ _ _ us hl => match us, hl with | [_, _], _ => rfl)
      (case a => k_is); (case l => k_is); (case c => k_is); (case k => k_is)
    case D_is_look =>
      refine' def_mk KX G ?a ?l ?c ?k s_is_look (fun _ _ _ _ _ _ us hl => match us, hl with | [_, _], _ => rfl)
      (case a => k_is); (case l => k_is); (case c => k_is); (case k => k_is)
    case D_put_entry =>
      refine' def_mk KX G ?a ?l ?c ?k s_put_entry (fun _ _ _ _ _ _ us hl => match us, hl with | [_, _], _ => rfl)
      (case a => k_is); (case l => k_is); (case c => k_is); (case k => k_is)
    case D_put_member =>
      refine' def_mk KX G ?a ?l ?c ?k s_put_member (fun _ _ _ _ _ _ us hl => match us, hl with | [_, _], _ => rfl)
      (case a => k_is); (case l => k_is); (case c => k_is); (case k => k_is)
    case D_lies_in =>
      refine' def_mk KX G ?a ?l ?c ?k s_lies_in (fun _ _ _ _ _ _ us hl => match us, hl with | [_, _, _], _ => rfl)
      (case a => k_is); (case l => k_is); (case c => k_is); (case k => k_is)
    case D_put_folder =>
      refine' def_mk KX G ?a ?l ?c ?k s_put_folder (fun _ _ _ _ _ _ us hl => match us, hl with | [_, _, _], _ => rfl)
      (case a => k_is); (case l => k_is); (case c => k_is); (case k => k_is)
    case D_state_after =>
      refine' def_mk KX G ?a ?l ?c ?k s_state_after (fun _ _ _ _ _ _ us hl => match us, hl with | [_, _, _], _ => rfl)
      (case a => k_is); (case l => k_is); (case c => k_is); (case k => k_is)
    case D_after_deed =>
      refine' def_mk KX G ?a ?l ?c ?k s_after_deed (fun _ _ _ _ _ _ us hl => match us, hl with | [_, _, _, _], _ => rfl)
      (case a => k_is); (case l => k_is); (case c => k_is); (case k => k_is)
    case D_is_event =>
      refine' def_mk KX G ?a ?l ?c ?k s_is_event (fun _ _ _ _ _ _ us hl => match us, hl with | [_, _], _ => rfl)
      (case a => k_is); (case l => k_is); (case c => k_is); (case k => k_is)
    case D_is_case =>
      refine' def_mk KX G ?a ?l ?c ?k s_is_case (fun _ _ _ _ _ _ us hl => match us, hl with | [_], _ => rfl)
      (case a => k_is); (case l => k_is); (case c => k_is); (case k => k_is)
    case D_is_within =>
      refine' def_mk KX G ?a ?l ?c ?k s_is_within (fun _ _ _ _ _ _ us hl => match us, hl with | [_, _], _ => rfl)
      (case a => k_is); (case l => k_is); (case c => k_is); (case k => k_is)
    case D_rule_within =>
      refine' def_mk KX G ?a ?l ?c ?k s_rule_within (fun _ _ _ _ _ _ us hl => match us, hl with | [_, _], _ => rfl)
      (case a => k_is); (case l => k_is); (case c => k_is); (case k => k_is)
    case D_parted_by_moves =>
      refine' def_mk KX G ?a ?l ?c ?k s_parted_by_moves (fun _ _ _ _ _ _ us hl => match us, hl with | [_], _ => rfl)
      (case a => k_is); (case l => k_is); (case c => k_is); (case k => k_is)
    case D_parted_by_logins =>
      refine' def_mk KX G ?a ?l ?c ?k s_parted_by_logins (fun _ _ _ _ _ _ us hl => match us, hl with | [_], _ => rfl)
      (case a => k_is); (case l => k_is); (case c => k_is); (case k => k_is)
    case D_parted_by_depth =>
      refine' def_mk KX G ?a ?l ?c ?k s_parted_by_depth (fun _ _ _ _ _ _ us hl => match us, hl with | [_], _ => rfl)
      (case a => k_is); (case l => k_is); (case c => k_is); (case k => k_is)
    case D_parted_by_nearness =>
      refine' def_mk KX G ?a ?l ?c ?k s_parted_by_nearness (fun _ _ _ _ _ _ us hl => match us, hl with | [_], _ => rfl)
      (case a => k_is); (case l => k_is); (case c => k_is); (case k => k_is)
    case D_parting_case =>
      refine' def_mk KX G ?a ?l ?c ?k s_parting_case (fun _ _ _ _ _ _ us hl => match us, hl with | [_, _], _ => rfl)
      (case a => k_is); (case l => k_is); (case c => k_is); (case k => k_is)
    case D_law_mix =>
      refine' def_mk KX G ?a ?l ?c ?k s_law_mix (fun _ _ _ _ _ _ us hl => match us, hl with | [_, _], _ => rfl)
      (case a => k_is); (case l => k_is); (case c => k_is); (case k => k_is)
    case D_law_numbers =>
      refine' def_mk KX G ?a ?l ?c ?k s_law_numbers (fun _ _ _ _ _ _ us hl => match us, hl with | [_], _ => rfl)
      (case a => k_is); (case l => k_is); (case c => k_is); (case k => k_is)
    case D_law_take =>
      refine' def_mk KX G ?a ?l ?c ?k s_law_take (fun _ _ _ _ _ _ us hl => match us, hl with | [_, _], _ => rfl)
      (case a => k_is); (case l => k_is); (case c => k_is); (case k => k_is)
    case D_law_rule =>
      refine' def_mk KX G ?a ?l ?c ?k s_law_rule (fun _ _ _ _ _ _ us hl => match us, hl with | [_], _ => rfl)
      (case a => k_is); (case l => k_is); (case c => k_is); (case k => k_is)
    case D_law_is_order =>
      refine' def_mk KX G ?a ?l ?c ?k s_law_is_order (fun _ _ _ _ _ _ us hl => match us, hl with | [_, _], _ => rfl)
      (case a => k_is); (case l => k_is); (case c => k_is); (case k => k_is)
    case D_law_is =>
      refine' def_mk KX G ?a ?l ?c ?k s_law_is (fun _ _ _ _ _ _ us hl => match us, hl with | [_, _], _ => rfl)
      (case a => k_is); (case l => k_is); (case c => k_is); (case k => k_is)
    case D_law_saw =>
      refine' def_mk KX G ?a ?l ?c ?k s_law_saw (fun _ _ _ _ _ _ us hl => match us, hl with | [_, _, _, _], _ => rfl)
      (case a => k_is); (case l => k_is); (case c => k_is); (case k => k_is)
    case D_law =>
      refine' def_mk KX G ?a ?l ?c ?k s_law (fun _ _ _ _ _ _ us hl => match us, hl with | [_], _ => rfl)
      (case a => k_is); (case l => k_is); (case c => k_is); (case k => k_is)
    case z_len =>
      refine' PySem.W.mg_none_of KX G ?z
      (case z => k_is)
    case z_int =>
      refine' PySem.W.mg_none_of KX G ?z
      (case z => k_is)
    case z_bool =>
      refine' PySem.W.mg_none_of KX G ?z
      (case z => k_is)
    case z_all =>
      refine' PySem.W.mg_none_of KX G ?z
      (case z => k_is)
    case z_any =>
      refine' PySem.W.mg_none_of KX G ?z
      (case z => k_is)
    case z_tuple =>
      refine' PySem.W.mg_none_of KX G ?z
      (case z => k_is)
    case z_list =>
      refine' PySem.W.mg_none_of KX G ?z
      (case z => k_is)
    case z_sorted =>
      refine' PySem.W.mg_none_of KX G ?z
      (case z => k_is)
    case z_max =>
      refine' PySem.W.mg_none_of KX G ?z
      (case z => k_is)
    case z_min =>
      refine' PySem.W.mg_none_of KX G ?z
      (case z => k_is)
    case z_sum =>
      refine' PySem.W.mg_none_of KX G ?z
      (case z => k_is)
    case z_abs =>
      refine' PySem.W.mg_none_of KX G ?z
      (case z => k_is)
    case z_isinstance =>
      refine' PySem.W.mg_none_of KX G ?z
      (case z => k_is)
    case z_range =>
      refine' PySem.W.mg_none_of KX G ?z
      (case z => k_is)
    case z_str =>
      refine' PySem.W.mg_none_of KX G ?z
      (case z => k_is)
    case z_dict =>
      refine' PySem.W.mg_none_of KX G ?z
      (case z => k_is)
    case g_GROUPS =>
      refine' int_of KX G ?a ?b
      (case a => k_is)
      (case b => first | rfl | decide | kernel_rfl)
    case g_MOST_PEOPLE =>
      refine' int_of KX G ?a ?b
      (case a => k_is)
      (case b => first | rfl | decide | kernel_rfl)
    case g_MOST_PARENTS =>
      refine' int_of KX G ?a ?b
      (case a => k_is)
      (case b => first | rfl | decide | kernel_rfl)
    case g_MOST_ENTRIES =>
      refine' int_of KX G ?a ?b
      (case a => k_is)
      (case b => first | rfl | decide | kernel_rfl)
    case g_MOST_EVENTS =>
      refine' int_of KX G ?a ?b
      (case a => k_is)
      (case b => first | rfl | decide | kernel_rfl)
    case g_LAST_MOMENT =>
      refine' int_of KX G ?a ?b
      (case a => k_is)
      (case b => first | rfl | decide | kernel_rfl)
end
